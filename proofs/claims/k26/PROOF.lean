import PyProof.Rows.All
import Wide.All
import OpenK.AllK
import Wide.FinOn
import HandS.ForMost
import HandS.Flow
import HandS.Style
import HandS.Conv
import HandS.Deep
import HandS.DictComp
import HandS.TupAny
import HandS.IsInst
import HandS.NoneIn
import HandS.Wide
import KE.KDictKeyed
import KE.KDictWalk
import HandS.SetFor
import KE.DataFind
import KE.SortData
import KE.DataMinMax
import KE.DataCmp
import KE.KDictDisplayH
import KE.KEqDict
import HandS.TupLen
import KE.KDictZip
import HandS.Zip
import HandS.ListItems
import PySem.Challenge.RW_remindrules_k26_whole_desks
set_option Elab.async false
set_option linter.all false
set_option maxRecDepth 100000
set_option maxHeartbeats 4000000
/-! PyD: a small evaluator over deep data, its values, its heap of things that change. -/
namespace PyD
open PySem (Str NestedKey PyData)

/-- data: what never changes stands deep; a thing that changes is told by its place in the evaluator's heap -/
inductive D where
  | non | bl (b : Bool) | int (i : Int) | str (x : Str)
  | tup (xs : List D) | lst (xs : List D) | dct (kvs : List (D × D)) | scr (ns : List Int) | ref (n : Nat)

mutual
def D.same : D → D → Bool
  | .non, .non => true
  | .bl a, .bl b => a == b
  | .int a, .int b => a == b
  | .str a, .str b => decide (a = b)
  | .tup a, .tup b => D.sameL a b
  | .lst a, .lst b => D.sameL a b
  | .dct a, .dct b => D.sameK a b
  | .scr a, .scr b => a == b
  | .ref a, .ref b => a == b
  | _, _ => false
def D.sameL : List D → List D → Bool
  | [], [] => true
  | a :: r, b :: t => D.same a b && D.sameL r t
  | _, _ => false
def D.sameK : List (D × D) → List (D × D) → Bool
  | [], [] => true
  | (a, c) :: r, (b, d) :: t => D.same a b && D.same c d && D.sameK r t
  | _, _ => false
end
mutual
theorem D.same_self : ∀ a : D, D.same a a = true
  | .non => rfl
  | .bl a => by simp [D.same]
  | .int a => by simp [D.same]
  | .str a => by simp [D.same]
  | .tup a => by rw [D.same]; exact D.sameL_self a
  | .lst a => by rw [D.same]; exact D.sameL_self a
  | .dct a => by rw [D.same]; exact D.sameK_self a
  | .scr a => by simp [D.same]
  | .ref a => by simp [D.same]
theorem D.sameL_self : ∀ a : List D, D.sameL a a = true
  | [] => rfl
  | a :: r => by rw [D.sameL, D.same_self a, D.sameL_self r]; rfl
theorem D.sameK_self : ∀ a : List (D × D), D.sameK a a = true
  | [] => rfl
  | (a, c) :: r => by rw [D.sameK, D.same_self a, D.same_self c, D.sameK_self r]; rfl
end
mutual
theorem D.eq_of_same : ∀ a b : D, D.same a b = true → a = b := fun a b h => by
  cases a <;> cases b <;> first
    | rfl
    | (simp only [D.same] at h; exact absurd h (by decide))
    | (simp only [D.same, beq_iff_eq, decide_eq_true_eq] at h; rw [h])
    | (rename_i x y; rw [D.same] at h; rw [D.eq_of_sameL x y h])
    | (rename_i x y; rw [D.same] at h; rw [D.eq_of_sameK x y h])
theorem D.eq_of_sameL : ∀ a b : List D, D.sameL a b = true → a = b
  | [], [], _ => rfl
  | a :: r, b :: t, h => by
    rw [D.sameL, Bool.and_eq_true] at h
    rw [D.eq_of_same a b h.1, D.eq_of_sameL r t h.2]
  | [], _ :: _, h => by simp [D.sameL] at h
  | _ :: _, [], h => by simp [D.sameL] at h
theorem D.eq_of_sameK : ∀ a b : List (D × D), D.sameK a b = true → a = b
  | [], [], _ => rfl
  | (a, c) :: r, (b, d) :: t, h => by
    rw [D.sameK, Bool.and_eq_true, Bool.and_eq_true] at h
    rw [D.eq_of_same a b h.1.1, D.eq_of_same c d h.1.2, D.eq_of_sameK r t h.2]
  | [], _ :: _, h => by simp [D.sameK] at h
  | _ :: _, [], h => by simp [D.sameK] at h
end
instance : DecidableEq D := fun a b => if h : D.same a b = true then .isTrue (D.eq_of_same a b h) else .isFalse fun e => h (e ▸ D.same_self a)

/-- a thing that changes -/
inductive MO where
  | lst (xs : List D) | dct (kvs : List (D × D)) | ins (c : Str) (fs : List (Str × D))
  deriving DecidableEq

abbrev Sg := List (Option D)
abbrev MH := List MO
abbrev Ev := Sg → MH → Option (D × MH)
abbrev Tv := Sg → MH → Option (Bool × MH)
abbrev Av := Sg → MH → Option (List D × MH)
inductive Fl where
  | nx | bk | ct | rt (d : D)
abbrev Sv := Sg → MH → Option (Fl × Sg × MH)
abbrev Op2 := D → D → MH → Option (D × MH)
abbrev OpN := List D → MH → Option (D × MH)
abbrev Tg := D → Sg → Option Sg
abbrev Iv := Sg → MH → Option (List D × (MH → Bool) × MH)

/-! ### keys, data -/
mutual
def D.key : D → Option NestedKey
  | .non => some .none
  | .bl b => some (.num (if b = true then 1 else 0))
  | .int i => some (.num i)
  | .str x => some (.text x)
  | .tup xs => (D.keys xs).map .tup
  | _ => none
def D.keys : List D → Option (List NestedKey)
  | [] => some []
  | x :: r => (D.key x).bind fun k => (D.keys r).map fun ks => k :: ks
end
mutual
def D.data : D → Option PyData
  | .non => some .none
  | .bl b => some (.bool b)
  | .int i => some (.int i)
  | .str x => some (.str x)
  | .tup xs => (D.datas xs).map .tuple
  | .lst xs => (D.datas xs).map .list
  | .scr ns => some (.list (ns.map .int))
  | _ => none
def D.datas : List D → Option (List PyData)
  | [] => some []
  | x :: r => (D.data x).bind fun k => (D.datas r).map fun ks => k :: ks
end
/-! nothing that changes within -/
mutual
def D.cl : D → Bool
  | .ref _ => false
  | .tup xs => D.cls xs
  | .lst xs => D.cls xs
  | .dct kvs => D.clk kvs
  | _ => true
def D.cls : List D → Bool
  | [] => true
  | x :: r => D.cl x && D.cls r
def D.clk : List (D × D) → Bool
  | [] => true
  | (k, v) :: r => D.cl k && D.cl v && D.clk r
end

/-- a list that changes, or one that does not: its items -/
def asL (h : MH) : D → Option (List D)
  | .lst xs => some xs
  | .ref n => match h[n]? with
    | some (.lst xs) => some xs
    | _ => none
  | _ => none
/-- .. or the script, or a tuple -/
def asQ (h : MH) : D → Option (List D)
  | .lst xs => some xs
  | .tup xs => some xs
  | .scr ns => some (ns.map .int)
  | .ref n => match h[n]? with
    | some (.lst xs) => some xs
    | _ => none
  | _ => none
def asM (h : MH) : D → Option (List (D × D))
  | .dct kvs => some kvs
  | .ref n => match h[n]? with
    | some (.dct kvs) => some kvs
    | _ => none
  | _ => none
def mapO {α β : Type} (f : α → Option β) : List α → Option (List β)
  | [] => some []
  | x :: r => (f x).bind fun y => (mapO f r).map fun ys => y :: ys
/-- a result that no longer changes: what it refers to (from lo on) is read deep -/
def frzN (lo : Nat) : Nat → MH → D → Option D
  | 0, _, _ => none
  | n + 1, h, d => match d with
    | .ref m => if lo ≤ m then match h[m]? with
      | some (.lst xs) => (mapO (frzN lo n h) xs).map .lst
      | some (.dct kvs) => (mapO (fun p : D × D => if D.cl p.1 = true then (frzN lo n h p.2).map fun b => (p.1, b) else none) kvs).map .dct
      | _ => none
      else none
    | .tup xs => (mapO (frzN lo n h) xs).map .tup
    | .lst xs => if D.cls xs = true then some (.lst xs) else (mapO (frzN lo n h) xs).map .lst
    | d => if D.cl d = true then some d else none
/-- what is read as data: deep, what changes too -/
def flat (h : MH) (d : D) : D := if D.cl d = true then d else (frzN 0 8 h d).getD d

/-! ### dicts -/
def keq (a b : D) : Bool := match D.key a, D.key b with
  | some x, some y => decide (x = y)
  | _, _ => false
/-- a key that a dict of ours bears: a tuple, not too deep -/
def kOk (k : D) : Bool := match k with
  | .tup xs => match D.key (.tup xs) with
    | some n => decide (n.depth ≤ 8)
    | none => false
  | _ => false
def dLook (kvs : List (D × D)) (k : D) : Option D := (kvs.find? fun p => keq p.1 k).map (·.2)
def dPut (kvs : List (D × D)) (k v : D) : List (D × D) :=
  if (dLook kvs k).isSome then kvs.map fun p => if keq p.1 k = true then (p.1, v) else p else kvs ++ [(k, v)]

/-! ### operations -/
abbrev LIM : Nat := 16777216
@[simp] theorem lim_eq : LIM = 16777216 := rfl
def kAdd : Op2 := fun x y h => match x, y with
  | .int i, .int j => some (.int (i + j), h)
  | .str a, .str b => if a.length + b.length ≤ LIM then some (.str (a ++ b), h) else none
  | .tup a, .tup b => if a.length + b.length ≤ LIM then some (.tup (a ++ b), h) else none
  | x, y => (asL h x).bind fun a => (asL h y).bind fun b => if a.length + b.length ≤ LIM then some (.lst (a ++ b), h) else none
def kSub : Op2 := fun x y h => match x, y with
  | .int i, .int j => some (.int (i - j), h)
  | _, _ => none
def kAddI : Op2 := fun x y h => match x, y with
  | .int i, .int j => some (.int (i + j), h)
  | _, _ => none
def kMul : Op2 := fun x y h => match x, y with
  | .int i, .int j => if i.natAbs < 2 ^ 64 ∨ j.natAbs < 2 ^ 64 ∨ (i.natAbs < 2 ^ 4000 ∧ j.natAbs < 2 ^ 4000) then some (.int (i * j), h) else none
  | x, .int k => (asL h x).bind fun a => if k.natAbs < 2 ^ 62 ∧ a.length * k.toNat ≤ LIM then some (.lst (List.replicate k.toNat a).flatten, h) else none
  | _, _ => none
def kDiv : Op2 := fun x y h => match x, y with
  | .int i, .int j => if 0 < j ∧ j.natAbs < 1073741824 then some (.int (i / j), h) else none
  | _, _ => none
def kMod : Op2 := fun x y h => match x, y with
  | .int i, .int j => if 0 < j then some (.int (i % j), h) else none
  | _, _ => none
def kPow : Op2 := fun x y h => match x, y with
  | .int i, .int j => if 0 ≤ j ∧ j.natAbs ≤ 1000000 ∧ i.natAbs < 2 ^ 64 then some (.int (i ^ j.toNat), h) else none
  | _, _ => none
def kCmp (p : Int → Int → Bool) : Op2 := fun x y h => match x, y with
  | .int i, .int j => some (.bl (p i j), h)
  | _, _ => none
def kLt : Op2 := kCmp fun i j => decide (i < j)
def kLe : Op2 := kCmp fun i j => decide (i ≤ j)
def kGt : Op2 := kCmp fun i j => decide (j < i)
def kGe : Op2 := kCmp fun i j => decide (j ≤ i)
/-- == of data -/
def dEqG (h : MH) (x y : D) : Option Bool := (D.data (flat h x)).bind fun a => (D.data (flat h y)).bind fun b =>
  if PySem.SeqAt.shaped a && PySem.SeqAt.shaped b then some (PyData.eqv a b) else none
def dEq (h : MH) (x y : D) : Option Bool := match x with
  | .int i => match y with
    | .int j => some (decide (i = j))
    | y => dEqG h (.int i) y
  | .str i => match y with
    | .str j => some (decide (i = j))
    | y => dEqG h (.str i) y
  | .bl i => match y with
    | .bl j => some (decide (i = j))
    | y => dEqG h (.bl i) y
  | x => dEqG h x y
def kEq : Op2 := fun x y h => (dEq h x y).map fun b => (.bl b, h)
def kNe : Op2 := fun x y h => (dEq h x y).map fun b => (.bl (!b), h)
def kIsN : Op2 := fun x y h => match y with
  | .non => some (.bl (decide (x = .non)), h)
  | .bl b => match x with
    | .bl a => some (.bl (decide (a = b)), h)
    | _ => none
  | _ => none
def kNotN : Op2 := fun x y h => match y with
  | .non => some (.bl (!decide (x = .non)), h)
  | .bl b => match x with
    | .bl a => some (.bl (!decide (a = b)), h)
    | _ => none
  | _ => none
/-- x in a dict -/
def kInM : Op2 := fun x y h => (asM h y).bind fun kvs => if kOk x then some (.bl (dLook kvs x).isSome, h) else none
def kNotInM : Op2 := fun x y h => (asM h y).bind fun kvs => if kOk x then some (.bl (!(dLook kvs x).isSome), h) else none
/-- a[b] -/
def kIx : Op2 := fun x y h => match y with
  | .int i => (asQ h x).bind fun xs => (L2.atI xs i).map fun v => (v, h)
  | _ => none
/-- d[k] -/
def kGet : Op2 := fun x y h => (asM h x).bind fun kvs => if kOk y then (dLook kvs y).map fun v => (v, h) else none

/-! ### expressions -/
def eVar (i : Nat) : Ev := fun σ h => (σ[i]?).bind fun o => o.map fun d => (d, h)
def eK (d : D) : Ev := fun _ h => some (d, h)
def e1 (k : D → MH → Option (D × MH)) (f : Ev) : Ev := fun σ h => (f σ h).bind fun p => k p.1 p.2
def e2 (k : Op2) (f g : Ev) : Ev := fun σ h => (f σ h).bind fun p => (g σ p.2).bind fun q => k p.1 q.1 q.2
def aNil : Av := fun _ h => some ([], h)
def aCons (f : Ev) (r : Av) : Av := fun σ h => (f σ h).bind fun p => (r σ p.2).bind fun q => some (p.1 :: q.1, q.2)
def eN (k : OpN) (a : Av) : Ev := fun σ h => (a σ h).bind fun p => k p.1 p.2
def kTup : OpN := fun xs h => if xs.length ≤ LIM then some (.tup xs, h) else none
/-- a list that never changes -/
def kLstF : OpN := fun xs h => if xs.length ≤ LIM then some (.lst xs, h) else none
/-- a list that changes -/
def kLst : OpN := fun xs h => if xs.length ≤ LIM then some (.ref h.length, h ++ [.lst xs]) else none
/-- tests -/
def tV (f : Ev) : Tv := fun σ h => (f σ h).bind fun p => match p.1 with
  | .bl b => some (b, p.2)
  | _ => none
def tAnd (f g : Tv) : Tv := fun σ h => (f σ h).bind fun p => if p.1 = true then g σ p.2 else some (false, p.2)
def tOr (f g : Tv) : Tv := fun σ h => (f σ h).bind fun p => if p.1 = true then some (true, p.2) else g σ p.2
def tNot (f : Tv) : Tv := fun σ h => (f σ h).bind fun p => some (!p.1, p.2)
def tYes : Tv := fun _ h => some (true, h)
def eIf (c : Tv) (f g : Ev) : Ev := fun σ h => (c σ h).bind fun p => if p.1 = true then f σ p.2 else g σ p.2
def eAnd (f g : Ev) : Ev := fun σ h => (f σ h).bind fun p => match p.1 with
  | .bl b => if b = true then g σ p.2 else some (.bl false, p.2)
  | _ => none
def eOr (f g : Ev) : Ev := fun σ h => (f σ h).bind fun p => match p.1 with
  | .bl b => if b = true then some (.bl true, p.2) else g σ p.2
  | _ => none
def eNot (f : Ev) : Ev := fun σ h => (f σ h).bind fun p => match p.1 with
  | .bl b => some (.bl (!b), p.2)
  | _ => none
def eNeg (f : Ev) : Ev := fun σ h => (f σ h).bind fun p => match p.1 with
  | .int i => some (.int (-i), p.2)
  | _ => none
/-- a op b op' c -/
def eChain (k k' : Op2) (f g e : Ev) : Ev := fun σ h => (f σ h).bind fun p => (g σ p.2).bind fun q => (k p.1 q.1 q.2).bind fun r => match r.1 with
  | .bl b => if b = true then (e σ r.2).bind fun t => k' q.1 t.1 t.2 else some (.bl false, r.2)
  | _ => none

/-! ### statements -/
def sSeq (f g : Sv) : Sv := fun σ h => (f σ h).bind fun r => match r.1 with
  | .nx => g r.2.1 r.2.2
  | _ => some r
def sNil : Sv := fun σ h => some (.nx, σ, h)
def sRet (f : Ev) : Sv := fun σ h => (f σ h).bind fun p => some (.rt p.1, σ, p.2)
def sCont : Sv := fun σ h => some (.ct, σ, h)
def sBreak : Sv := fun σ h => some (.bk, σ, h)
def sNever : Sv := fun _ _ => none
def sIf (c : Tv) (f g : Sv) : Sv := fun σ h => (c σ h).bind fun p => if p.1 = true then f σ p.2 else g σ p.2
def sExpr (f : Ev) : Sv := fun σ h => (f σ h).bind fun p => some (.nx, σ, p.2)
def gN (i : Nat) : Tg := fun d σ => if i < σ.length then some (σ.set i (some d)) else none
def gAll : List Tg → List D → Sg → Option Sg
  | [], [], σ => some σ
  | g :: gs, d :: ds, σ => (g d σ).bind fun σ' => gAll gs ds σ'
  | _, _, _ => none
def gT (gs : List Tg) : Tg := fun d σ => match d with
  | .tup xs => gAll gs xs σ
  | .lst xs => gAll gs xs σ
  | _ => none
def sSet (g : Tg) (f : Ev) : Sv := fun σ h => (f σ h).bind fun p => (g p.1 σ).bind fun σ' => some (.nx, σ', p.2)
/-- x op= e -/
def sAug (i : Nat) (k : Op2) (f : Ev) : Sv := fun σ h => (eVar i σ h).bind fun p => (f σ p.2).bind fun q => (k p.1 q.1 q.2).bind fun r => (gN i r.1 σ).bind fun σ' => some (.nx, σ', r.2)
/-- o[i] = v, by values -/
abbrev Op3 := D → D → D → MH → Option MH
def kSetL : Op3 := fun o i v h => match o, i with
  | .ref n, .int k => match h[n]? with
    | some (.lst xs) => (L2.ixN xs.length k).map fun j => h.set n (.lst (xs.set j v))
    | _ => none
  | _, _ => none
def kSetM : Op3 := fun o k v h => match o with
  | .ref n => match h[n]? with
    | some (.dct kvs) => if kOk k && decide (kvs.length < LIM) then some (h.set n (.dct (dPut kvs k v))) else none
    | _ => none
  | _ => none
def sPut (k : Op3) (o i f : Ev) : Sv := fun σ h => (f σ h).bind fun p => (o σ p.2).bind fun q => (i σ q.2).bind fun r => (k q.1 r.1 p.1 r.2).bind fun h' => some (.nx, σ, h')
/-- o[i] op= e, o a list -/
def kIxA : Op2 := fun x y h => match y with
  | .int i => if 0 ≤ i ∧ i.natAbs < 2 ^ 63 then (asL h x).bind fun xs => (xs[i.toNat]?).map fun v => (v, h) else none
  | _ => none
def sAugS (k : Op2) (o i f : Ev) : Sv := fun σ h => (o σ h).bind fun p => (i σ p.2).bind fun q => (kIxA p.1 q.1 q.2).bind fun x => (f σ x.2).bind fun y => (k x.1 y.1 y.2).bind fun z => (kSetL p.1 q.1 z.1 z.2).bind fun h' => some (.nx, σ, h')
/-- for -/
def forD (chk : MH → Bool) (g : Tg) (b : Sv) : List D → Sg → MH → Option (Fl × Sg × MH)
  | [], σ, h => if chk h = true then some (.nx, σ, h) else none
  | x :: xs, σ, h => if chk h = true then (g x σ).bind fun σ1 => (b σ1 h).bind fun r => match r.1 with
      | .nx => forD chk g b xs r.2.1 r.2.2
      | .ct => forD chk g b xs r.2.1 r.2.2
      | .bk => some (.nx, r.2.1, r.2.2)
      | .rt d => some (.rt d, r.2.1, r.2.2)
    else none
def sFor (it : Iv) (g : Tg) (b : Sv) : Sv := fun σ h => (it σ h).bind fun p => forD p.2.1 g b p.1 σ p.2.2
/-- while -/
def whD (c : Tv) (b : Sv) : Nat → Sg → MH → Option (Fl × Sg × MH)
  | 0, _, _ => none
  | n + 1, σ, h => (c σ h).bind fun p => if p.1 = true then (b σ p.2).bind fun r => match r.1 with
      | .nx => whD c b n r.2.1 r.2.2
      | .ct => whD c b n r.2.1 r.2.2
      | .bk => some (.nx, r.2.1, r.2.2)
      | .rt d => some (.rt d, r.2.1, r.2.2)
    else some (.nx, σ, p.2)
def FUEL : Nat := 10 ^ 30
def sWhile (c : Tv) (b : Sv) : Sv := fun σ h => whD c b FUEL σ h

/-! ### what is walked -/
def yes : MH → Bool := fun _ => true
def isL (n : Nat) (xs : List D) : MH → Bool := fun h => decide (h[n]? = some (.lst xs))
def isD (n : Nat) (kvs : List (D × D)) : MH → Bool := fun h => decide (h[n]? = some (.dct kvs))
def seqOf (d : D) (h : MH) : Option (List D × (MH → Bool)) := match d with
  | .lst xs => some (xs, yes)
  | .scr ns => some (ns.map .int, yes)
  | .ref n => match h[n]? with
    | some (.lst xs) => some (xs, isL n xs)
    | _ => none
  | _ => none
/-- over a list -/
def iSeq (f : Ev) : Iv := fun σ h => (f σ h).bind fun p => (seqOf p.1 p.2).map fun q => (q.1, q.2, p.2)
/-- over a tuple -/
def iTup (f : Ev) : Iv := fun σ h => (f σ h).bind fun p => match p.1 with
  | .tup xs => some (xs, yes, p.2)
  | _ => none
/-- over a dict's keys -/
def iKeys (f : Ev) : Iv := fun σ h => (f σ h).bind fun p => match p.1 with
  | .dct kvs => some (kvs.map (·.1), yes, p.2)
  | .ref n => match p.2[n]? with
    | some (.dct kvs) => some (kvs.map (·.1), isD n kvs, p.2)
    | _ => none
  | _ => none
/-- over d.items(), d one that does not change -/
def iItems (f : Ev) : Iv := fun σ h => (f σ h).bind fun p => match p.1 with
  | .dct kvs => some (kvs.map fun q => .tup [q.1, q.2], yes, p.2)
  | _ => none
def rngD (lo : Int) (n : Nat) : List D := (List.range n).map fun (i : Nat) => D.int (lo + (i : Int))
def iRange1 (f : Ev) : Iv := fun σ h => (f σ h).bind fun p => match p.1 with
  | .int n => if n.natAbs < 2 ^ 62 then some (rngD 0 n.toNat, yes, p.2) else none
  | _ => none
def iRange2 (f g : Ev) : Iv := fun σ h => (f σ h).bind fun p => (g σ p.2).bind fun q => match p.1, q.1 with
  | .int a, .int b => if a.natAbs < 2 ^ 62 ∧ b.natAbs < 2 ^ 62 then some (rngD a (b - a).toNat, yes, q.2) else none
  | _, _ => none
def iEnum (f : Ev) : Iv := fun σ h => (f σ h).bind fun p => (seqOf p.1 p.2).map fun q => (q.1.zipIdx.map fun x => .tup [.int x.2, x.1], q.2, p.2)
def iZip (f g : Ev) : Iv := fun σ h => (f σ h).bind fun p => (g σ p.2).bind fun q => (seqOf p.1 q.2).bind fun x => (seqOf q.1 q.2).map fun y =>
  ((x.1.zip y.1).map fun z => .tup [z.1, z.2], (fun h => x.2 h && y.2 h), q.2)

/-! ### comprehensions -/
def wipeD (σ : Sg) : List Nat → Sg
  | [] => σ
  | v :: vs => (wipeD σ vs).set v none
def lcD (chk : MH → Bool) (g : Tg) (c : Tv) (e : Ev) (σ : Sg) : List D → MH → Option (List D × MH)
  | [], h => if chk h = true then some ([], h) else none
  | x :: xs, h => if chk h = true then (g x σ).bind fun σ1 => (c σ1 h).bind fun p =>
      if p.1 = true then (e σ1 p.2).bind fun q => (lcD chk g c e σ xs q.2).bind fun r => some (q.1 :: r.1, r.2) else lcD chk g c e σ xs p.2
    else none
def eLcK (k : OpN) (it : Iv) (g : Tg) (c : Tv) (e : Ev) (vs : List Nat) : Ev := fun σ h => (it σ h).bind fun p => (lcD p.2.1 g c e (wipeD σ vs) p.1 p.2.2).bind fun r => k r.1 r.2
/-- [e for .. in .. if ..], never changed; changed -/
def eLcF := eLcK kLstF
def eLc := eLcK kLst
def dcD (chk : MH → Bool) (g : Tg) (c : Tv) (e e' : Ev) (σ : Sg) : List D → List (D × D) → MH → Option (List (D × D) × MH)
  | [], acc, h => if chk h = true then some (acc, h) else none
  | x :: xs, acc, h => if chk h = true then (g x σ).bind fun σ1 => (c σ1 h).bind fun p =>
      if p.1 = true then (e σ1 p.2).bind fun q => (e' σ1 q.2).bind fun r => if kOk q.1 && decide (acc.length < LIM) then dcD chk g c e e' σ xs (dPut acc q.1 r.1) r.2 else none
      else dcD chk g c e e' σ xs acc p.2
    else none
def eDcF (it : Iv) (g : Tg) (c : Tv) (e e' : Ev) (vs : List Nat) : Ev := fun σ h => (it σ h).bind fun p => (dcD p.2.1 g c e e' (wipeD σ vs) p.1 [] p.2.2).bind fun r => some (.dct r.1, r.2)
def eDc (it : Iv) (g : Tg) (c : Tv) (e e' : Ev) (vs : List Nat) : Ev := fun σ h => (it σ h).bind fun p => (dcD p.2.1 g c e e' (wipeD σ vs) p.1 [] p.2.2).bind fun r => some (.ref r.2.length, r.2 ++ [.dct r.1])

/-! ### slices, calls of what is built in -/
def cutD (xs : List D) (lo hi : Option Int) : List D := (xs.drop (HT.sIx xs.length 0 lo)).take (HT.sIx xs.length xs.length hi - HT.sIx xs.length 0 lo)
abbrev Ov := Sg → MH → Option (Option Int × MH)
def oNo : Ov := fun _ h => some (none, h)
def oE (f : Ev) : Ov := fun σ h => (f σ h).bind fun p => match p.1 with
  | .int i => some (some i, p.2)
  | _ => none
def eSlice (f : Ev) (lo hi : Ov) : Ev := fun σ h => (f σ h).bind fun p => (lo σ p.2).bind fun q => (hi σ q.2).bind fun r => match p.1 with
  | .tup xs => some (.tup (cutD xs q.1 r.1), r.2)
  | d => (asL r.2 d).map fun xs => (.lst (cutD xs q.1 r.1), r.2)
def dInts : List D → Option (List Int)
  | [] => some []
  | .int i :: r => (dInts r).map fun l => i :: l
  | _ => none
def bls : List D → Option (List Bool)
  | [] => some []
  | .bl i :: r => (bls r).map fun l => i :: l
  | _ => none
def kLen : OpN := fun xs h => match xs with
  | [d] => (asQ h d).map fun l => (.int l.length, h)
  | _ => none
def kLenM : OpN := fun xs h => match xs with
  | [d] => (asM h d).map fun l => (.int l.length, h)
  | _ => none
def kAbs : OpN := fun xs h => match xs with
  | [.int i] => some (.int (if i < 0 then -i else i), h)
  | _ => none
def kMax2 : OpN := fun xs h => match xs with
  | [.int i, .int j] => some (.int (if j > i then j else i), h)
  | _ => none
def kMin2 : OpN := fun xs h => match xs with
  | [.int i, .int j] => some (.int (if j < i then j else i), h)
  | _ => none
def kSum : OpN := fun xs h => match xs with
  | [d] => (asL h d).bind fun l => (dInts l).map fun ns => (.int ns.sum, h)
  | _ => none
def kAny : OpN := fun xs h => match xs with
  | [d] => (asL h d).bind fun l => (bls l).map fun bs => (.bl (bs.any id), h)
  | _ => none
def kAll : OpN := fun xs h => match xs with
  | [d] => (asL h d).bind fun l => (bls l).map fun bs => (.bl (bs.all id), h)
  | _ => none
/-- the greatest of a list of ints -/
def maxOf : List Int → Option Int
  | [] => none
  | x :: r => some (r.foldl max x)
def minOf : List Int → Option Int
  | [] => none
  | x :: r => some (r.foldl min x)
def kMaxL : OpN := fun xs h => match xs with
  | [d] => (asL h d).bind fun l => (dInts l).bind fun ns => (maxOf ns).map fun m => (.int m, h)
  | _ => none
def kMinL : OpN := fun xs h => match xs with
  | [d] => (asL h d).bind fun l => (dInts l).bind fun ns => (minOf ns).map fun m => (.int m, h)
  | _ => none
/-- tuple(list), list(list or tuple) -/
def kTupleOf : OpN := fun xs h => match xs with
  | [.tup l] => some (.tup l, h)
  | [d] => (asL h d).map fun l => (.tup l, h)
  | _ => none
def kListOf : OpN := fun xs h => match xs with
  | [d] => (asQ h d).map fun l => (.ref h.length, h ++ [.lst l])
  | _ => none
def kListOfF : OpN := fun xs h => match xs with
  | [d] => (asQ h d).map fun l => (.lst l, h)
  | _ => none
/-- list(range(a, b)) -/
def eLstRg (lo : Int) (f : Ev) : Ev := fun σ h => (f σ h).bind fun p => match p.1 with
  | .int n => if lo.natAbs < 2 ^ 62 ∧ n.natAbs < 2 ^ 62 ∧ (n - lo).toNat ≤ LIM then some (.lst (rngD lo (n - lo).toNat), p.2) else none
  | _ => none
/-- methods of lists -/
abbrev OpM := D → List D → MH → Option (D × MH)
def eM (k : OpM) (f : Ev) (a : Av) : Ev := fun σ h => (f σ h).bind fun p => if (asL p.2 p.1).isSome = true then (a σ p.2).bind fun q => k p.1 q.1 q.2 else none
/-- .. of dicts -/
def eMD (k : OpM) (f : Ev) (a : Av) : Ev := fun σ h => (f σ h).bind fun p => if (asM p.2 p.1).isSome = true then (a σ p.2).bind fun q => k p.1 q.1 q.2 else none
def mAppend : OpM := fun o xs h => match o, xs with
  | .ref n, [y] => match h[n]? with
    | some (.lst l) => if l.length < LIM then some (.non, h.set n (.lst (l ++ [y]))) else none
    | _ => none
  | _, _ => none
def mExtend : OpM := fun o xs h => match o, xs with
  | .ref n, [y] => match h[n]? with
    | some (.lst l) => (asL h y).bind fun l' => if l.length + l'.length ≤ LIM ∧ y ≠ .ref n then some (.non, h.set n (.lst (l ++ l'))) else none
    | _ => none
  | _, _ => none
def mPop : OpM := fun o xs h => match o, xs with
  | .ref n, [] => match h[n]? with
    | some (.lst l) => (l[l.length - 1]?).map fun y => (y, h.set n (.lst l.dropLast))
    | _ => none
  | _, _ => none
/-- pop(0) -/
def mPop0 : OpM := fun o xs h => match o, xs with
  | .ref n, [.int i] => match h[n]? with
    | some (.lst (y :: l)) => if i = 0 then some (y, h.set n (.lst l)) else none
    | _ => none
  | _, _ => none
/-- d.get(k, x) -/
def mGet : OpM := fun o xs h => match xs with
  | [k, x] => (asM h o).bind fun kvs => if kOk k then some ((dLook kvs k).getD x, h) else none
  | _ => none
def kDict0 : OpN := fun xs h => match xs with
  | [] => some (.ref h.length, h ++ [.dct []])
  | _ => none
def kDict0F : OpN := fun xs h => match xs with
  | [] => some (.dct [], h)
  | _ => none
def kDict1 : OpN := fun xs h => match xs with
  | [k, v] => if kOk k then some (.ref h.length, h ++ [.dct [(k, v)]]) else none
  | _ => none
def kDict1F : OpN := fun xs h => match xs with
  | [k, v] => if kOk k then some (.dct [(k, v)], h) else none
  | _ => none

/-! ### defs -/
abbrev Fn := List D → MH → Option (D × MH)
abbrev PFn := List D → Option D
def retOf (fl : Fl) : Option D := match fl with
  | .nx => some .non
  | .rt d => some d
  | _ => none
/-- a def's body run at its arguments -/
def mkFn (np ns : Nat) (b : Sv) : Fn := fun ds h => if ds.length = np then (b (ds.map some ++ List.replicate (ns - np) none) h).bind fun r => (retOf r.1).map fun d => (d, r.2.2) else none
def clO : MO → Bool
  | .lst xs => D.cls xs
  | .dct kvs => D.clk kvs
  | .ins _ fs => D.cls (fs.map (·.2))
/-- a def that changes what it is handed, but hands back what no longer changes, and leaves nothing else behind -/
def mkH (np ns : Nat) (b : Sv) : Fn := fun ds h => (mkFn np ns b ds h).bind fun r => (frzN h.length 8 r.2 r.1).bind fun d => if ((r.2.take h.length).all clO && decide (h.length ≤ r.2.length)) = true then some (d, r.2.take h.length) else none
/-- a def that changes nothing that it is handed -/
def mkP (np ns : Nat) (b : Sv) : PFn := fun ds => if D.cls ds = true then (mkFn np ns b ds []).bind fun r => frzN 0 8 r.2 r.1 else none
/-- .. called -/
def ePure (F : PFn) : OpN := fun ds h => if D.cls ds = true then (F ds).map fun d => (d, h) else none
end PyD
set_option Elab.async false
set_option linter.all false
set_option maxRecDepth 100000
set_option maxHeartbeats 4000000
/-! PyR: what the evaluator's data are in the layer's heap. -/
namespace PyD
open PySem PySem.Spec PyProof.Rows L2

structure Cst where
  P : Program
  w : World
  K : PySem.W.Frag

/-- a dict, by its entries: the key as a key, the key's value, the value -/
abbrev Ent := NestedKey × V × V
abbrev EntV := NestedKey × Addr × Value
def EntRel (p : Ent) (q : EntV) : Prop := p.1 = q.1 ∧ p.2.1 = .ref q.2.1 ∧ RelV p.2.2 q.2.2
def dφ (C : Cst) (a : Addr) (ws : List Ent) : Heap → Prop := fun h =>
  (a == sysModules) = false ∧ ws.length ≤ sizeLine ∧ ∃ (o : Obj) (es : Array DictEntry) (us : List EntV), h.get? a = some o ∧ o.ExactDict ∧ o.data = .dict es ws.length ∧
    es.toList = us.map (entryOfKey (nestedKind C.P C.w)) ∧ Paired EntRel ws us ∧ (us.map (·.1)).Nodup

def TupA (C : Cst) (ι : List Addr) (H : Hp) (a : Addr) (vs : List V) : Prop :=
  (a ∉ ι ∧ H a = some (.tup vs)) ∨
    ∃ (o : Obj) (its : Array Value) (n : Nat), C.K.lookup a = some o ∧ o.cls = .type "tuple" ∧ o.data = .seq its n ∧ its.size ≤ sizeLine ∧ Vals vs its.toList

/-- the script -/
def ScrA (C : Cst) (ι : List Addr) (Z : Addr → Prop) (H : Hp) (a : Addr) (ns : List Int) : Prop :=
  (∃ o : Obj, a ∉ ι ∧ ¬ Z a ∧ H a = some (.frz o (.lst (ns.map V.int)))) ∨
    ∃ (o : Obj) (its : Array Value) (n : Nat), C.K.lookup a = some o ∧ o.cls = .type "list" ∧ o.dict = none ∧ o.data = .seq its n ∧ its.size ≤ sizeLine ∧ Vals (ns.map V.int) its.toList
theorem ScrA.sqL {C : Cst} {ι : List Addr} {Z : Addr → Prop} {H : Hp} {a : Addr} {ns : List Int} (x : ScrA C ι Z H a ns) : SqL C.K H a (ns.map V.int) := by
  rcases x with ⟨o, _, _, h⟩ | x
  · exact .inl (.inr ⟨o, h⟩)
  · exact .inr x

mutual
inductive Rep (C : Cst) (ι : List Addr) (Z : Addr → Prop) (H : Hp) : D → V → Prop
  | non : Rep C ι Z H .non .non
  | bl (b : Bool) : Rep C ι Z H (.bl b) (.bl b)
  | int (i : Int) : Rep C ι Z H (.int i) (.int i)
  | str (x : Str) : Rep C ι Z H (.str x) (.str x)
  | ref {n : Nat} {a : Addr} : ι[n]? = some a → Rep C ι Z H (.ref n) (.ref a)
  | tup {a : Addr} {xs : List D} {vs : List V} : TupA C ι H a vs → RepAll C ι Z H xs vs → Rep C ι Z H (.tup xs) (.ref a)
  | lst {a : Addr} {xs : List D} {vs : List V} : a ∉ ι → ¬ Z a → H a = some (.lst vs) → RepAll C ι Z H xs vs → Rep C ι Z H (.lst xs) (.ref a)
  | dct {a : Addr} {kvs : List (D × D)} {ws : List Ent} : a ∉ ι → ¬ Z a → H a = some (.ext (dφ C a ws)) → RepKV C ι Z H kvs ws → Rep C ι Z H (.dct kvs) (.ref a)
  | scr {a : Addr} {ns : List Int} : ScrA C ι Z H a ns → Rep C ι Z H (.scr ns) (.ref a)
inductive RepAll (C : Cst) (ι : List Addr) (Z : Addr → Prop) (H : Hp) : List D → List V → Prop
  | nil : RepAll C ι Z H [] []
  | cons {d : D} {v : V} {ds : List D} {vs : List V} : Rep C ι Z H d v → RepAll C ι Z H ds vs → RepAll C ι Z H (d :: ds) (v :: vs)
inductive RepKV (C : Cst) (ι : List Addr) (Z : Addr → Prop) (H : Hp) : List (D × D) → List Ent → Prop
  | nil : RepKV C ι Z H [] []
  | cons {k d : D} {nk : NestedKey} {u v : V} {kvs : List (D × D)} {ws : List Ent} : D.key k = some nk → nk.depth ≤ 8 → Rep C ι Z H k u → Rep C ι Z H d v → RepKV C ι Z H kvs ws → RepKV C ι Z H ((k, d) :: kvs) ((nk, u, v) :: ws)
end

def ORep (C : Cst) (ι : List Addr) (Z : Addr → Prop) (H : Hp) : MO → Addr → Prop
  | .lst xs, a => ∃ vs, H a = some (.lst vs) ∧ RepAll C ι Z H xs vs
  | .dct kvs, a => ∃ ws, H a = some (.ext (dφ C a ws)) ∧ RepKV C ι Z H kvs ws
  | .ins c fs, a => ∃ Ca dx fvs, H a = some (.ins Ca dx fvs) ∧ PySem.W.nsIn C.K mainGlobals c = some (some (.ref Ca)) ∧ fs.map (·.1) = fvs.map (·.1) ∧ RepAll C ι Z H (fs.map (·.2)) (fvs.map (·.2))

/-- the evaluator's heap h stands in H, its things at ι; Z: things of others, that are not to be met -/
structure R (C : Cst) (ι : List Addr) (Z : Addr → Prop) (H : Hp) (h : MH) : Prop where
  len : ι.length = h.length
  nd : ι.Nodup
  live : ∀ a, Z a → H a ≠ none
  apart : ∀ a ∈ ι, ¬ Z a
  at_ : ∀ (n : Nat) (a : Addr) (o : MO), ι[n]? = some a → h[n]? = some o → ORep C ι Z H o a

/-- a step: new things are laid, those not told of stay as they are -/
structure Ext (ι : List Addr) (H : Hp) (ι' : List Addr) (H' : Hp) : Prop where
  pre : ∃ new, ι' = ι ++ new ∧ ∀ b ∈ new, H b = none
  un : ∀ a o, H a = some o → a ∉ ι → H' a = some o
  live : ∀ a, H a ≠ none → H' a ≠ none

theorem Ext.refl (ι : List Addr) (H : Hp) : Ext ι H ι H := ⟨⟨[], by simp, by simp⟩, fun _ _ h _ => h, fun _ h => h⟩
theorem Ext.trans {ι ι1 ι2 : List Addr} {H H1 H2 : Hp} (a : Ext ι H ι1 H1) (b : Ext ι1 H1 ι2 H2) : Ext ι H ι2 H2 := by
  obtain ⟨n1, e1, f1⟩ := a.pre
  obtain ⟨n2, e2, f2⟩ := b.pre
  refine ⟨⟨n1 ++ n2, by rw [e2, e1, List.append_assoc], fun c hc => ?_⟩, fun c o hc hn => ?_, fun c hc => b.live c (a.live c hc)⟩
  · rcases List.mem_append.mp hc with h | h
    · exact f1 c h
    · cases q : H c with
      | none => rfl
      | some o => exact absurd (f2 c h) (a.live c (by rw [q]; exact nofun))
  · refine b.un c o (a.un c o hc hn) fun hm => ?_
    rw [e1] at hm
    rcases List.mem_append.mp hm with h | h
    · exact hn h
    · rw [f1 c h] at hc; cases hc
theorem Ext.get {ι ι' : List Addr} {H H' : Hp} (x : Ext ι H ι' H') {n : Nat} {a : Addr} (h : ι[n]? = some a) : ι'[n]? = some a := by
  obtain ⟨new, e, _⟩ := x.pre
  rw [e, List.getElem?_append_left (List.getElem?_eq_some_iff.mp h).1, h]
theorem Ext.notin {ι ι' : List Addr} {H H' : Hp} (x : Ext ι H ι' H') {a : Addr} (h : a ∉ ι) (hn : H a ≠ none) : a ∉ ι' := by
  obtain ⟨new, e, f⟩ := x.pre
  rw [e]
  intro hm
  rcases List.mem_append.mp hm with q | q
  · exact h q
  · exact hn (f a q)
theorem Ext.same {ι : List Addr} {H : Hp} : Ext ι H ι H := .refl ι H

section
variable {C : Cst} {ι ι' : List Addr} {Z : Addr → Prop} {H H' : Hp} {h : MH}
theorem TupA.ext {a : Addr} {vs : List V} (x : Ext ι H ι' H') (t : TupA C ι H a vs) : TupA C ι' H' a vs := by
  rcases t with ⟨h1, h2⟩ | t
  · exact .inl ⟨x.notin h1 (by rw [h2]; exact nofun), x.un a _ h2 h1⟩
  · exact .inr t
mutual
theorem Rep.ext (x : Ext ι H ι' H') : ∀ {d : D} {v : V}, Rep C ι Z H d v → Rep C ι' Z H' d v
  | _, _, .non => .non
  | _, _, .bl b => .bl b
  | _, _, .int i => .int i
  | _, _, .str z => .str z
  | _, _, .ref h => .ref (x.get h)
  | _, _, .tup h r => .tup (h.ext x) (RepAll.ext x r)
  | _, _, .lst h1 h2 h3 r => .lst (x.notin h1 (by rw [h3]; exact nofun)) h2 (x.un _ _ h3 h1) (RepAll.ext x r)
  | _, _, .dct h1 h2 h3 r => .dct (x.notin h1 (by rw [h3]; exact nofun)) h2 (x.un _ _ h3 h1) (RepKV.ext x r)
  | _, _, .scr (.inl ⟨o, h1, h2, h3⟩) => .scr (.inl ⟨o, x.notin h1 (by rw [h3]; exact nofun), h2, x.un _ _ h3 h1⟩)
  | _, _, .scr (.inr h) => .scr (.inr h)
theorem RepAll.ext (x : Ext ι H ι' H') : ∀ {ds : List D} {vs : List V}, RepAll C ι Z H ds vs → RepAll C ι' Z H' ds vs
  | _, _, .nil => .nil
  | _, _, .cons r t => .cons (Rep.ext x r) (RepAll.ext x t)
theorem RepKV.ext (x : Ext ι H ι' H') : ∀ {ks : List (D × D)} {ws : List Ent}, RepKV C ι Z H ks ws → RepKV C ι' Z H' ks ws
  | _, _, .nil => .nil
  | _, _, .cons k z r1 r2 t => .cons k z (Rep.ext x r1) (Rep.ext x r2) (RepKV.ext x t)
end
theorem RepAll.length : ∀ {ds : List D} {vs : List V}, RepAll C ι Z H ds vs → ds.length = vs.length
  | _, _, .nil => rfl
  | _, _, .cons _ t => by simp [RepAll.length t]
theorem RepAll.get : ∀ {ds : List D} {vs : List V} {i : Nat} {d : D}, RepAll C ι Z H ds vs → ds[i]? = some d → ∃ v, vs[i]? = some v ∧ Rep C ι Z H d v
  | _, _, _, _, .nil, h => by simp at h
  | _, _, 0, _, .cons r _, h => by simp at h; subst h; exact ⟨_, rfl, r⟩
  | _, _, i + 1, _, .cons _ t, h => by
    obtain ⟨v, e, r⟩ := RepAll.get (i := i) t (by simpa using h)
    exact ⟨v, by simpa using e, r⟩
theorem RepAll.append : ∀ {ds es : List D} {vs us : List V}, RepAll C ι Z H ds vs → RepAll C ι Z H es us → RepAll C ι Z H (ds ++ es) (vs ++ us)
  | _, _, _, _, .nil, h => h
  | _, _, _, _, .cons r t, h => .cons r (RepAll.append t h)
theorem RepAll.set : ∀ {ds : List D} {vs : List V} {d : D} {v : V} (i : Nat), Rep C ι Z H d v → RepAll C ι Z H ds vs → RepAll C ι Z H (ds.set i d) (vs.set i v)
  | _, _, _, _, _, _, .nil => .nil
  | _, _, _, _, 0, r, .cons _ t => .cons r t
  | _, _, _, _, i + 1, r, .cons q t => .cons q (RepAll.set i r t)
theorem RepAll.take : ∀ {ds : List D} {vs : List V} (n : Nat), RepAll C ι Z H ds vs → RepAll C ι Z H (ds.take n) (vs.take n)
  | _, _, 0, _ => .nil
  | _, _, _ + 1, .nil => .nil
  | _, _, n + 1, .cons r t => .cons r (RepAll.take n t)
theorem RepAll.drop : ∀ {ds : List D} {vs : List V} (n : Nat), RepAll C ι Z H ds vs → RepAll C ι Z H (ds.drop n) (vs.drop n)
  | _, _, 0, h => h
  | _, _, _ + 1, .nil => .nil
  | _, _, n + 1, .cons _ t => RepAll.drop n t
theorem RepAll.dropLast : ∀ {ds : List D} {vs : List V}, RepAll C ι Z H ds vs → RepAll C ι Z H ds.dropLast vs.dropLast
  | _, _, .nil => .nil
  | _, _, .cons _ .nil => .nil
  | _, _, .cons r (.cons q t) => .cons r (RepAll.dropLast (.cons q t))
theorem RepAll.rep {ds : List D} {vs : List V} (h : RepAll C ι Z H ds vs) : ∀ k : Nat, RepAll C ι Z H (List.replicate k ds).flatten (List.replicate k vs).flatten
  | 0 => .nil
  | k + 1 => by rw [List.replicate_succ, List.replicate_succ, List.flatten_cons, List.flatten_cons]; exact h.append (RepAll.rep h k)
theorem RepAll.mapInt : ∀ ns : List Int, RepAll C ι Z H (ns.map D.int) (ns.map V.int)
  | [] => .nil
  | n :: r => .cons (.int n) (RepAll.mapInt r)
theorem RepKV.length : ∀ {ks : List (D × D)} {ws : List Ent}, RepKV C ι Z H ks ws → ks.length = ws.length
  | _, _, .nil => rfl
  | _, _, .cons _ _ _ _ t => by simp [RepKV.length t]
theorem TupA.sqT {a : Addr} {vs : List V} (t : TupA C ι H a vs) : SqT C.K H a vs := by
  rcases t with ⟨_, h⟩ | t
  · exact .inl (.inl h)
  · exact .inr t

theorem R.lt (r : R C ι Z H h) {n : Nat} {a : Addr} (e : ι[n]? = some a) : n < h.length := by
  rw [← r.len]; exact (List.getElem?_eq_some_iff.mp e).1
theorem R.obj (r : R C ι Z H h) {n : Nat} {a : Addr} (e : ι[n]? = some a) : ∃ o, h[n]? = some o ∧ ORep C ι Z H o a := by
  have := r.lt e
  exact ⟨h[n], by simp [this], r.at_ n a _ e (by simp [this])⟩
theorem ORep.some_ {o : MO} {a : Addr} (x : ORep C ι Z H o a) : H a ≠ none := by
  cases o with
  | lst xs => obtain ⟨vs, e, _⟩ := x; rw [e]; exact nofun
  | dct kvs => obtain ⟨vs, e, _⟩ := x; rw [e]; exact nofun
  | ins c fs => obtain ⟨_, _, _, e, _⟩ := x; rw [e]; exact nofun
theorem R.live_ (r : R C ι Z H h) {a : Addr} (m : a ∈ ι) : H a ≠ none := by
  obtain ⟨n, e⟩ := List.mem_iff_getElem?.mp m
  obtain ⟨o, _, x⟩ := r.obj e
  exact x.some_
theorem ORep.ext {o : MO} {a : Addr} (x : Ext ι H ι' H') (s : H' a = H a) (r : ORep C ι Z H o a) : ORep C ι' Z H' o a := by
  cases o with
  | lst xs => obtain ⟨vs, e, q⟩ := r; exact ⟨vs, s.trans e, q.ext x⟩
  | dct kvs => obtain ⟨vs, e, q⟩ := r; exact ⟨vs, s.trans e, q.ext x⟩
  | ins c fs => obtain ⟨Ca, dx, fv, e, k, q1, q2⟩ := r; exact ⟨Ca, dx, fv, s.trans e, k, q1, q2.ext x⟩

/-- a fresh thing that is not told -/
theorem Ext.fresh {p : Addr} {o : HO} (n : H p = none) : Ext ι H ι (upd H p o) :=
  ⟨⟨[], by simp, by simp⟩, fun a u e _ => by rw [upd_ne (ne_of_none e n)]; exact e, fun a e => by
    by_cases q : a = p
    · subst q; exact absurd n e
    · rw [upd_ne q]; exact e⟩
theorem R.fresh (r : R C ι Z H h) {p : Addr} {o : HO} (n : H p = none) : R C ι Z (upd H p o) h :=
  ⟨r.len, r.nd, fun a z => (Ext.fresh (ι := ι) n).live a (r.live a z), r.apart, fun k a u e1 e2 => (r.at_ k a u e1 e2).ext (Ext.fresh n) (upd_ne (fun q => by
    subst q; exact r.live_ (List.mem_iff_getElem?.mpr ⟨k, e1⟩) n))⟩
theorem R.notZ (r : R C ι Z H h) {p : Addr} (n : H p = none) : ¬ Z p := fun z => r.live p z n
theorem R.notι (r : R C ι Z H h) {p : Addr} (n : H p = none) : p ∉ ι := fun z => r.live_ z n
/-- a fresh thing that is told -/
theorem Ext.new {p : Addr} {o : HO} (n : H p = none) : Ext ι H (ι ++ [p]) (upd H p o) :=
  ⟨⟨[p], rfl, fun b hb => by simp at hb; subst hb; exact n⟩, (Ext.fresh n).un, (Ext.fresh (ι := ι) n).live⟩
theorem R.new (r : R C ι Z H h) {p : Addr} {o : HO} {u : MO} (n : H p = none) (x : ORep C (ι ++ [p]) Z (upd H p o) u p) : R C (ι ++ [p]) Z (upd H p o) (h ++ [u]) := by
  have np := r.notι n
  refine ⟨by simp [r.len], ?_, fun a z => (Ext.fresh (ι := ι) n).live a (r.live a z), fun a ha => ?_, fun k a w e1 e2 => ?_⟩
  · rw [List.nodup_append]
    exact ⟨r.nd, by simp, fun a ha b hb => by simp at hb; subst hb; intro q; subst q; exact np ha⟩
  · rcases List.mem_append.mp ha with q | q
    · exact r.apart a q
    · simp at q; subst q; exact r.notZ n
  · by_cases hk : k < ι.length
    · rw [List.getElem?_append_left hk] at e1
      rw [List.getElem?_append_left (by rw [← r.len]; exact hk)] at e2
      exact (r.at_ k a w e1 e2).ext (Ext.new n) (upd_ne (fun q => by subst q; exact np (List.mem_iff_getElem?.mpr ⟨k, e1⟩)))
    · have h1 : k = ι.length := by
        have := (List.getElem?_eq_some_iff.mp e1).1
        simp at this; omega
      subst h1
      simp at e1; subst e1
      rw [r.len] at e2
      simp at e2; subst e2
      exact x
/-- a told thing is changed -/
theorem Ext.write {a : Addr} {o : HO} (m : a ∈ ι) : Ext ι H ι (upd H a o) :=
  ⟨⟨[], by simp, by simp⟩, fun b u e hb => by
    rw [upd_ne (fun q => by subst q; exact hb m)]; exact e, fun b e => by
    by_cases q : b = a
    · subst q; rw [upd_same]; exact nofun
    · rw [upd_ne q]; exact e⟩
theorem R.write (r : R C ι Z H h) {n : Nat} {a : Addr} {o : HO} {u : MO} (e : ι[n]? = some a) (x : ORep C ι Z (upd H a o) u a) : R C ι Z (upd H a o) (h.set n u) := by
  have m : a ∈ ι := List.mem_iff_getElem?.mpr ⟨n, e⟩
  refine ⟨by simp [r.len], r.nd, fun b z => (Ext.write m).live b (r.live b z), r.apart, fun k b w e1 e2 => ?_⟩
  by_cases hk : k = n
  · subst hk
    rw [e] at e1; cases e1
    rw [List.getElem?_set_self (r.lt e)] at e2
    cases e2
    exact x
  · rw [List.getElem?_set_ne (Ne.symm hk)] at e2
    refine (r.at_ k b w e1 e2).ext (Ext.write m) (upd_ne fun q => ?_)
    subst q
    have h1 := (List.getElem?_eq_some_iff.mp e1).1
    exact hk ((List.getElem?_inj h1 r.nd).mp (e1.trans e.symm))
end

/-! ### slots -/
def RS (C : Cst) (ι : List Addr) (Z : Addr → Prop) (H : Hp) (σd : Sg) (σ : L2.St) : Prop :=
  σd.length = σ.length ∧ ∀ (i : Nat) (d : D), σd[i]? = some (some d) → ∃ v, σ[i]? = some (some v) ∧ Rep C ι Z H d v
section
variable {C : Cst} {ι ι' : List Addr} {Z : Addr → Prop} {H H' : Hp} {σd : Sg} {σ : L2.St}
theorem RS.ext (x : Ext ι H ι' H') (r : RS C ι Z H σd σ) : RS C ι' Z H' σd σ := ⟨r.1, fun i d e => let ⟨v, a, b⟩ := r.2 i d e; ⟨v, a, b.ext x⟩⟩
theorem RS.set (r : RS C ι Z H σd σ) {d : D} {v : V} (i : Nat) (q : Rep C ι Z H d v) : RS C ι Z H (σd.set i (some d)) (σ.set i (some v)) := by
  refine ⟨by simp [r.1], fun j e h => ?_⟩
  by_cases hj : j = i
  · subst hj
    have hl : j < σd.length := by
      have := (List.getElem?_eq_some_iff.mp h).1
      simpa using this
    rw [List.getElem?_set_self hl] at h
    cases h
    exact ⟨v, by rw [List.getElem?_set_self (by rw [← r.1]; exact hl)], q⟩
  · rw [List.getElem?_set_ne (Ne.symm hj)] at h
    rw [List.getElem?_set_ne (Ne.symm hj)]
    exact r.2 j e h
theorem RS.setNone (r : RS C ι Z H σd σ) (i : Nat) : RS C ι Z H (σd.set i none) (σ.set i none) := by
  refine ⟨by simp [r.1], fun j e h => ?_⟩
  by_cases hj : j = i
  · subst hj
    have hl : j < σd.length := by
      have := (List.getElem?_eq_some_iff.mp h).1
      simpa using this
    rw [List.getElem?_set_self hl] at h
    cases h
  · rw [List.getElem?_set_ne (Ne.symm hj)] at h
    rw [List.getElem?_set_ne (Ne.symm hj)]
    exact r.2 j e h
theorem RS.wipe (r : RS C ι Z H σd σ) : ∀ vs : List Nat, RS C ι Z H (wipeD σd vs) (L2.wipe σ vs)
  | [] => r
  | v :: vs => (RS.wipe r vs).setNone v
theorem RS.start {ds : List D} {vs : List V} (r : RepAll C ι Z H ds vs) (n : Nat) : RS C ι Z H (ds.map some ++ List.replicate n none) (vs.map some ++ List.replicate n none) := by
  refine ⟨by simp [r.length], fun i d h => ?_⟩
  by_cases hi : i < ds.length
  · rw [List.getElem?_append_left (by simpa using hi)] at h
    rw [List.getElem?_append_left (by simpa [← r.length] using hi)]
    rw [List.getElem?_map] at h
    cases q : ds[i]? with
    | none => rw [q] at h; cases h
    | some y =>
      rw [q] at h; cases h
      obtain ⟨v, e, z⟩ := r.get q
      exact ⟨v, by rw [List.getElem?_map, e]; rfl, z⟩
  · rw [List.getElem?_append_right (by simpa using Nat.le_of_not_lt hi)] at h
    rw [List.getElem?_replicate] at h
    split at h <;> cases h
end

/-! ### readings -/
def tE (C : Cst) (f : Ev) : TE := fun σ H Q => ∃ (ι : List Addr) (Z : Addr → Prop) (h : MH) (σd : Sg) (d : D) (h' : MH), R C ι Z H h ∧ RS C ι Z H σd σ ∧ f σd h = some (d, h') ∧
  ∀ v ι' H', Ext ι H ι' H' → R C ι' Z H' h' → Rep C ι' Z H' d v → Q v H'
def tT (C : Cst) (f : Tv) : TT := fun σ H Q => ∃ (ι : List Addr) (Z : Addr → Prop) (h : MH) (σd : Sg) (b : Bool) (h' : MH), R C ι Z H h ∧ RS C ι Z H σd σ ∧ f σd h = some (b, h') ∧
  ∀ ι' H', Ext ι H ι' H' → R C ι' Z H' h' → Q b H'
def tA (C : Cst) (f : Av) : TA := fun σ H Q => ∃ (ι : List Addr) (Z : Addr → Prop) (h : MH) (σd : Sg) (ds : List D) (h' : MH), R C ι Z H h ∧ RS C ι Z H σd σ ∧ f σd h = some (ds, h') ∧
  ∀ vs ι' H', Ext ι H ι' H' → R C ι' Z H' h' → RepAll C ι' Z H' ds vs → Q vs H'
def FlOk (C : Cst) (ι : List Addr) (Z : Addr → Prop) (H : Hp) (fl : Fl) (E : Ends) (σ : L2.St) : Prop := match fl with
  | .nx => E.nx σ H
  | .bk => E.bk σ H
  | .ct => E.ct σ H
  | .rt d => ∀ v, Rep C ι Z H d v → E.rt v H
def tS (C : Cst) (f : Sv) : TS := fun E σ H => ∃ (ι : List Addr) (Z : Addr → Prop) (h : MH) (σd : Sg) (fl : Fl) (σd' : Sg) (h' : MH), R C ι Z H h ∧ RS C ι Z H σd σ ∧ f σd h = some (fl, σd', h') ∧
  ∀ ι' H' σ', Ext ι H ι' H' → R C ι' Z H' h' → RS C ι' Z H' σd' σ' → FlOk C ι' Z H' fl E σ'
end PyD
set_option Elab.async false
set_option linter.all false
set_option maxRecDepth 100000
set_option maxHeartbeats 4000000
/-! PyS1: the evaluator is sound, expressions. -/
namespace PyD
open PySem PySem.Spec PyProof.Rows L2

abbrev cst (X : Cx) : Cst := ⟨X.prog, X.w, X.K⟩
/-- the expression e is what f evaluates -/
abbrev SE (X : Cx) (e : Expr) (f : Ev) : Prop := PE X e (tE (cst X) f)
abbrev ST (X : Cx) (e : Expr) (f : Tv) : Prop := PT X e (tT (cst X) f)
abbrev SW (X : Cx) (e : Expr) (f : Tv) : Prop := PW X e (tT (cst X) f)
abbrev SA (X : Cx) (es : List Expr) (f : Av) : Prop := PA X es (tA (cst X) f)
abbrev SS (X : Cx) (s : Stmt) (f : Sv) : Prop := PS X s (tS (cst X) f)
abbrev SSs (X : Cx) (s : List Stmt) (f : Sv) : Prop := PSs X s (tS (cst X) f)

section
variable {X : Cx} {e : Expr} {es : List Expr} {st : Stmt} {sts : List Stmt}
theorem pe_to {t t' : TE} (h : PE X e t) (w : ∀ σ H Q, t' σ H Q → t σ H Q) : PE X e t' := ⟨fun pins s σ H Q I q => h.run pins s σ H Q I (w σ H Q q)⟩
theorem pt_to {t t' : TT} (h : PT X e t) (w : ∀ σ H Q, t' σ H Q → t σ H Q) : PT X e t' := ⟨fun pins s σ H Q I q => h.run pins s σ H Q I (w σ H Q q)⟩
theorem pw_to {t t' : TT} (h : PW X e t) (w : ∀ σ H Q, t' σ H Q → t σ H Q) : PW X e t' := ⟨fun wh pins s σ H Q I q => h.run wh pins s σ H Q I (w σ H Q q)⟩
theorem pa_to {t t' : TA} (h : PA X es t) (w : ∀ σ H Q, t' σ H Q → t σ H Q) : PA X es t' := ⟨fun pos pins s σ H Q I q => h.run pos pins s σ H Q I (w σ H Q q)⟩
theorem ps_to {t t' : TS} (h : PS X st t) (w : ∀ E σ H, t' E σ H → t E σ H) : PS X st t' := ⟨fun pins s σ H E I q => h.run pins s σ H E I (w E σ H q)⟩
theorem pss_to {t t' : TS} (h : PSs X sts t) (w : ∀ E σ H, t' E σ H → t E σ H) : PSs X sts t' := ⟨fun pins s σ H E I q => h.run pins s σ H E I (w E σ H q)⟩
end

/-! ### by values -/
def rD (C : Cst) (k : Op2) : R2 := fun x y H Q => ∃ (ι : List Addr) (Z : Addr → Prop) (h : MH) (d e z : D) (h' : MH), R C ι Z H h ∧ Rep C ι Z H d x ∧ Rep C ι Z H e y ∧ k d e h = some (z, h') ∧
  ∀ v ι' H', Ext ι H ι' H' → R C ι' Z H' h' → Rep C ι' Z H' z v → Q v H'
def rN (C : Cst) (k : OpN) : List V → Hp → VK → Prop := fun xs H Q => ∃ (ι : List Addr) (Z : Addr → Prop) (h : MH) (ds : List D) (z : D) (h' : MH), R C ι Z H h ∧ RepAll C ι Z H ds xs ∧ k ds h = some (z, h') ∧
  ∀ v ι' H', Ext ι H ι' H' → R C ι' Z H' h' → Rep C ι' Z H' z v → Q v H'
def rM (C : Cst) (k : OpM) : V → List V → Hp → VK → Prop := fun x xs H Q => ∃ (ι : List Addr) (Z : Addr → Prop) (h : MH) (d : D) (ds : List D) (z : D) (h' : MH), R C ι Z H h ∧ Rep C ι Z H d x ∧ RepAll C ι Z H ds xs ∧ k d ds h = some (z, h') ∧
  ∀ v ι' H', Ext ι H ι' H' → R C ι' Z H' h' → Rep C ι' Z H' z v → Q v H'

section
variable {C : Cst} {ι : List Addr} {Z : Addr → Prop} {H : Hp} {h h' : MH} {Q : VK}
/-- the commonest end: nothing is laid -/
theorem fin0 {z : D} {v : V} (q : ∀ v ι' H', Ext ι H ι' H' → R C ι' Z H' h → Rep C ι' Z H' z v → Q v H') (r : R C ι Z H h) (p : Rep C ι Z H z v) : Q v H := q v ι H (.refl _ _) r p
/-- a new list, a new tuple -/
theorem finL {xs : List D} {vs : List V} (q : ∀ v ι' H', Ext ι H ι' H' → R C ι' Z H' h → Rep C ι' Z H' (.lst xs) v → Q v H') (r : R C ι Z H h) (p : RepAll C ι Z H xs vs) (a : Addr) (n : H a = none) : Q (.ref a) (upd H a (.lst vs)) :=
  q _ ι _ (.fresh n) (r.fresh n) (.lst (r.notι n) (r.notZ n) upd_same (p.ext (.fresh n)))
theorem finT {xs : List D} {vs : List V} (q : ∀ v ι' H', Ext ι H ι' H' → R C ι' Z H' h → Rep C ι' Z H' (.tup xs) v → Q v H') (r : R C ι Z H h) (p : RepAll C ι Z H xs vs) (a : Addr) (n : H a = none) : Q (.ref a) (upd H a (.tup vs)) :=
  q _ ι _ (.fresh n) (r.fresh n) (.tup (.inl ⟨r.notι n, upd_same⟩) (p.ext (.fresh n)))
theorem finM {xs : List D} {vs : List V} (q : ∀ v ι' H', Ext ι H ι' H' → R C ι' Z H' (h ++ [.lst xs]) → Rep C ι' Z H' (.ref h.length) v → Q v H') (r : R C ι Z H h) (p : RepAll C ι Z H xs vs) (a : Addr) (n : H a = none) : Q (.ref a) (upd H a (.lst vs)) :=
  q _ (ι ++ [a]) _ (.new n) (r.new n ⟨vs, upd_same, p.ext (.new n)⟩) (.ref (by rw [← r.len]; simp))

theorem asL_rep {d : D} {v : V} {xs : List D} (r : R C ι Z H h) (p : Rep C ι Z H d v) (e : asL h d = some xs) : ∃ a vs, v = .ref a ∧ H a = some (.lst vs) ∧ RepAll C ι Z H xs vs := by
  unfold asL at e
  split at e
  · cases e
    cases p with
    | lst h1 h2 h3 q => exact ⟨_, _, rfl, h3, q⟩
  · cases p with
    | ref hn =>
      obtain ⟨o, e1, x⟩ := r.obj hn
      rw [e1] at e
      cases o with
      | lst ys =>
        cases e
        obtain ⟨vs, e2, q⟩ := x
        exact ⟨_, vs, rfl, e2, q⟩
      | dct _ => cases e
      | ins _ _ => cases e
  · cases e
theorem asQ_rep {d : D} {v : V} {xs : List D} (r : R C ι Z H h) (p : Rep C ι Z H d v) (e : asQ h d = some xs) : ∃ a vs, v = .ref a ∧ (SqL C.K H a vs ∨ SqT C.K H a vs) ∧ RepAll C ι Z H xs vs := by
  unfold asQ at e
  split at e
  · cases e
    cases p with
    | lst h1 h2 h3 q => exact ⟨_, _, rfl, .inl (SqL.of h3), q⟩
  · cases e
    cases p with
    | tup h1 q => exact ⟨_, _, rfl, .inr h1.sqT, q⟩
  · cases e
    cases p with
    | scr h1 => exact ⟨_, _, rfl, .inl h1.sqL, .mapInt _⟩
  · cases p with
    | ref hn =>
      obtain ⟨o, e1, x⟩ := r.obj hn
      rw [e1] at e
      cases o with
      | lst ys =>
        cases e
        obtain ⟨vs, e2, q⟩ := x
        exact ⟨_, vs, rfl, .inl (SqL.of e2), q⟩
      | dct _ => cases e
      | ins _ _ => cases e
  · cases e
theorem asM_rep {d : D} {v : V} {kvs : List (D × D)} (r : R C ι Z H h) (p : Rep C ι Z H d v) (e : asM h d = some kvs) : ∃ a ws, v = .ref a ∧ H a = some (.ext (dφ C a ws)) ∧ RepKV C ι Z H kvs ws := by
  unfold asM at e
  split at e
  · cases e
    cases p with
    | dct h1 h2 h3 q => exact ⟨_, _, rfl, h3, q⟩
  · cases p with
    | ref hn =>
      obtain ⟨o, e1, x⟩ := r.obj hn
      rw [e1] at e
      cases o with
      | dct ys =>
        cases e
        obtain ⟨vs, e2, q⟩ := x
        exact ⟨_, vs, rfl, e2, q⟩
      | lst _ => cases e
      | ins _ _ => cases e
  · cases e
end

/-! ### inversions -/
theorem bind_inv {α β : Type} {o : Option α} {f : α → Option β} {b : β} (e : o.bind f = some b) : ∃ a, o = some a ∧ f a = some b := Option.bind_eq_some_iff.mp e
theorem map_inv {α β : Type} {o : Option α} {f : α → β} {b : β} (e : o.map f = some b) : ∃ a, o = some a ∧ f a = b := Option.map_eq_some_iff.mp e
theorem ite_inv {α : Type} {c : Prop} [Decidable c] {o : Option α} {a : α} (e : (if c then o else none) = some a) : c ∧ o = some a := by
  split at e
  · rename_i h
    exact ⟨h, e⟩
  · cases e
theorem e2_inv {k : Op2} {f g : Ev} {σ : Sg} {h : MH} {z : D} {h' : MH} (e : e2 k f g σ h = some (z, h')) : ∃ x h1 y h2, f σ h = some (x, h1) ∧ g σ h1 = some (y, h2) ∧ k x y h2 = some (z, h') := by
  obtain ⟨⟨x, h1⟩, ef, e⟩ := bind_inv e
  obtain ⟨⟨y, h2⟩, eg, e⟩ := bind_inv e
  exact ⟨x, h1, y, h2, ef, eg, e⟩

section
variable {X : Cx} {a b c e : Expr} {es : List Expr} {f g k : Ev} {tf tg : Tv} {av : Av} {pos : Pos}
/-- two in a row, by a rule of the values -/
theorem tE2_of {C : Cst} {o : Op2} {σ : L2.St} {H : Hp} {Q : VK} (q : tE C (e2 o f g) σ H Q) : tOp (rD C o) (tE C f) (tE C g) σ H Q := by
  obtain ⟨ι, Z, h, σd, d, h', r, rs, e, q⟩ := q
  obtain ⟨x, h1, y, h2, ef, eg, ek⟩ := e2_inv e
  exact ⟨ι, Z, h, σd, x, h1, r, rs, ef, fun v ι1 H1 x1 r1 p1 => ⟨ι1, Z, h1, σd, y, h2, r1, rs.ext x1, eg, fun u ι2 H2 x2 r2 p2 =>
    ⟨ι2, Z, h2, x, y, d, h', r2, p1.ext x2, p2, ek, fun w ι3 H3 x3 r3 p3 => q w ι3 H3 ((x1.trans x2).trans x3) r3 p3⟩⟩⟩
theorem se_bin {op : Operator} {o : Op2} (ho : OpR X (binaryOp op) (rD (cst X) o)) (ha : SE X a f) (hb : SE X b g) : SE X (.BinOp a op b pos) (e2 o f g) := pe_to (pe_op ho ha hb) fun _ _ _ q => tE2_of q
theorem se_cmp {op : CmpOp} {o : Op2} (ho : OpR X (compareOp op) (rD (cst X) o)) (ha : SE X a f) (hb : SE X b g) (hm : behindInMarks op b = false) : SE X (.Compare a [op] [b] pos) (e2 o f g) := pe_to (pe_cmpR ho ha hb hm) fun _ _ _ q => tE2_of q
theorem se_ix {o : Op2} (ho : IxR X (rD (cst X) o)) (ha : SE X a f) (hb : SE X b g) (hs : PlainIx b) : SE X (.Subscript a b pos) (e2 o f g) := pe_to (pe_ix ho ha hb hs) fun _ _ _ q => tE2_of q
theorem se_chain {op op' : CmpOp} {o o' : Op2} (ho : OpR X (compareOp op) (rD (cst X) o)) (ho' : OpR X (compareOp op') (rD (cst X) o')) (ha : SE X a f) (hb : SE X b g) (hc : SE X c k)
    (hm : lastMarks [op, op'] [b, c] = false) : SE X (.Compare a [op, op'] [b, c] pos) (eChain o o' f g k) := by
  refine pe_to (pe_chain ho ho' ha hb hc hm) fun σ H Q q => ?_
  obtain ⟨ι, Z, h, σd, d, h', r, rs, e, q⟩ := q
  obtain ⟨⟨x, h1⟩, ef, e⟩ := bind_inv e
  obtain ⟨⟨y, h2⟩, eg, e⟩ := bind_inv e
  obtain ⟨⟨z, h3⟩, ek, e⟩ := bind_inv e
  refine ⟨ι, Z, h, σd, x, h1, r, rs, ef, fun v ι1 H1 x1 r1 p1 => ⟨ι1, Z, h1, σd, y, h2, r1, rs.ext x1, eg, fun u ι2 H2 x2 r2 p2 => ⟨ι2, Z, h2, x, y, z, h3, r2, p1.ext x2, p2, ek, fun w ι3 H3 x3 r3 p3 => ?_⟩⟩⟩
  cases z <;> try (cases e; done)
  rename_i t
  cases p3
  refine ⟨t, rfl, ?_⟩
  cases t with
  | false =>
    rw [if_neg Bool.false_ne_true]
    cases e
    exact q _ ι3 H3 ((x1.trans x2).trans x3) r3 (.bl false)
  | true =>
    rw [if_pos rfl]
    obtain ⟨⟨t, h4⟩, et, e⟩ := bind_inv e
    exact ⟨ι3, Z, h3, σd, t, h4, r3, rs.ext ((x1.trans x2).trans x3), et, fun u4 ι4 H4 x4 r4 p4 => ⟨ι4, Z, h4, y, t, d, h', r4, p2.ext (x3.trans x4), p4, e, fun u5 ι5 H5 x5 r5 p5 =>
      q u5 ι5 H5 ((((x1.trans x2).trans x3).trans x4).trans x5) r5 p5⟩⟩

/-! ### names, constants -/
theorem se_var (i : Nat) {x : Str} (hN : X.N[i]? = some x := by rfl) (hv : Vis X.env.scope x := by first | exact Or.inl rfl | exact Or.inr (Or.inl rfl) | exact Or.inr (Or.inr rfl)) (hd : (x == ("__debug__" : Str)) = false := by decide)
    (hcd : (x == ("__classdict__" : Str)) = false := by decide) : SE X (.Name x pos) (eVar i) := by
  refine pe_to (pe_var hN hv hd hcd) fun σ H Q q => ?_
  obtain ⟨ι, Z, h, σd, d, h', r, rs, e, q⟩ := q
  obtain ⟨o, e1, e⟩ := bind_inv e
  obtain ⟨d', e2, e⟩ := map_inv e
  subst e2
  cases e
  obtain ⟨v, e3, p⟩ := rs.2 i d e1
  exact ⟨v, e3, fin0 q r p⟩
theorem se_c {d : D} {v : V} (hc : PE X e (tC v)) (hr : ∀ C ι Z H, Rep C ι Z H d v) : SE X e (eK d) := by
  refine pe_to hc fun σ H Q q => ?_
  obtain ⟨ι, Z, h, σd, d, h', r, rs, e, q⟩ := q
  cases e
  exact fin0 q r (hr _ _ _ _)
theorem se_int {i : Int} {j} : SE X (.Constant (.int i) j pos) (eK (.int i)) := se_c pe_int fun _ _ _ _ => .int i
theorem se_bl {i : Bool} {j} : SE X (.Constant (.bool i) j pos) (eK (.bl i)) := se_c pe_bl fun _ _ _ _ => .bl i
theorem se_str {i : Str} {j} : SE X (.Constant (.str i) j pos) (eK (.str i)) := se_c pe_str fun _ _ _ _ => .str i
theorem se_non {j} : SE X (.Constant .none j pos) (eK .non) := se_c pe_non fun _ _ _ _ => .non
/-- a module's constant -/
theorem se_gint {x : Str} {i : Int} {t : Tok} (hg : Gl X x) (hm : X.mg x = some (.int i t)) (hd : (x == ("__debug__" : Str)) = false := by decide) : SE X (.Name x pos) (eK (.int i)) := se_c (pe_glob (v := .int i) hg hm ⟨t, rfl⟩ hd) fun _ _ _ _ => .int i
/-- a module's tuple of texts -/
theorem se_gtup {x : Str} {p : Addr} {o : Obj} {its : Array Value} {n : Nat} {xs : List Str} (hg : Gl X x) (hm : X.mg x = some (.ref p)) (hk : X.K.lookup p = some o) (hc : o.cls = .type "tuple") (hdt : o.data = .seq its n) (hz : its.size ≤ sizeLine) (hv : Vals (xs.map V.str) its.toList)
    (hd : (x == ("__debug__" : Str)) = false := by decide) : SE X (.Name x pos) (eK (.tup (xs.map D.str))) := by
  refine pe_to (pe_glob (v := .ref p) hg hm rfl hd) fun σ H Q q => ?_
  obtain ⟨ι, Z, h, σd, d, h', r, rs, e, q⟩ := q
  cases e
  refine fin0 q r (.tup (vs := xs.map V.str) (.inr ⟨o, its, n, hk, hc, hdt, hz, hv⟩) ?_)
  clear hv q
  induction xs with
  | nil => exact .nil
  | cons y t ih => exact .cons (.str y) ih

/-! ### tests -/
theorem st_val (ha : SE X a f) (he : ∀ whole, isTrue a X.env whole = (do let v ← whole; standAt a.pos; holding [v] (truthy v)) := by intro _; rfl) : ST X a (tV f) := by
  refine pt_to (pt_val ha he) fun σ H Q q => ?_
  obtain ⟨ι, Z, h, σd, b, h', r, rs, e, q⟩ := q
  obtain ⟨⟨x, h1⟩, ef, e⟩ := bind_inv e
  refine ⟨ι, Z, h, σd, x, h1, r, rs, ef, fun v ι1 H1 x1 r1 p1 => ?_⟩
  cases x <;> try (cases e; done)
  cases e
  cases p1
  exact ⟨_, rfl, q ι1 H1 x1 r1⟩
/-- a comparison as a test -/
theorem tV_of {C : Cst} {t : TE} {σ : L2.St} {H : Hp} {Q : Bool → Hp → Prop} (w : ∀ σ H Q, tE C f σ H Q → t σ H Q) (q : tT C (tV f) σ H Q) : t σ H fun x H' => ∃ k, x = .bl k ∧ Q k H' := by
  obtain ⟨ι, Z, h, σd, b, h', r, rs, e, q⟩ := q
  obtain ⟨⟨x, h1⟩, ef, e⟩ := bind_inv e
  refine w _ _ _ ⟨ι, Z, h, σd, x, h1, r, rs, ef, fun v ι1 H1 x1 r1 p1 => ?_⟩
  cases x <;> try (cases e; done)
  cases e
  cases p1
  exact ⟨_, rfl, q ι1 H1 x1 r1⟩
theorem st_cmp {op : CmpOp} {o : Op2} (ho : OpR X (compareOp op) (rD (cst X) o)) (ha : SE X a f) (hb : SE X b g) (hm : behindInMarks op b = false) : ST X (.Compare a [op] [b] pos) (tV (e2 o f g)) :=
  pt_to (pt_cmpR ho ha hb hm) fun _ _ _ q => tV_of (fun _ _ _ q => tE2_of q) q
theorem st_chain {op op' : CmpOp} {o o' : Op2} (ho : OpR X (compareOp op) (rD (cst X) o)) (ho' : OpR X (compareOp op') (rD (cst X) o')) (ha : SE X a f) (hb : SE X b g) (hc : SE X c k)
    (hm : lastMarks [op, op'] [b, c] = false) : ST X (.Compare a [op, op'] [b, c] pos) (tV (eChain o o' f g k)) := by
  refine ⟨fun pins s σ H Q I q => ?_⟩
  have h1 := se_chain (pos := pos) ho ho' ha hb hc hm
  refine (pt_chain (pos := pos) ho ho' ha hb hc hm).run pins s σ H Q I ?_
  refine tV_of (f := eChain o o' f g k) (C := cst X) (fun σ H Q q => ?_) q
  obtain ⟨ι, Z, h, σd, d, h', r, rs, e, q⟩ := q
  obtain ⟨⟨x, h1⟩, ef, e⟩ := bind_inv e
  obtain ⟨⟨y, h2⟩, eg, e⟩ := bind_inv e
  obtain ⟨⟨z, h3⟩, ek, e⟩ := bind_inv e
  refine ⟨ι, Z, h, σd, x, h1, r, rs, ef, fun v ι1 H1 x1 r1 p1 => ⟨ι1, Z, h1, σd, y, h2, r1, rs.ext x1, eg, fun u ι2 H2 x2 r2 p2 => ⟨ι2, Z, h2, x, y, z, h3, r2, p1.ext x2, p2, ek, fun w ι3 H3 x3 r3 p3 => ?_⟩⟩⟩
  cases z <;> try (cases e; done)
  rename_i t
  cases p3
  refine ⟨t, rfl, ?_⟩
  cases t with
  | false =>
    rw [if_neg Bool.false_ne_true]
    cases e
    exact q _ ι3 H3 ((x1.trans x2).trans x3) r3 (.bl false)
  | true =>
    rw [if_pos rfl]
    obtain ⟨⟨t, h4⟩, et, e⟩ := bind_inv e
    exact ⟨ι3, Z, h3, σd, t, h4, r3, rs.ext ((x1.trans x2).trans x3), et, fun u4 ι4 H4 x4 r4 p4 => ⟨ι4, Z, h4, y, t, d, h', r4, p2.ext (x3.trans x4), p4, e, fun u5 ι5 H5 x5 r5 p5 =>
      q u5 ι5 H5 ((((x1.trans x2).trans x3).trans x4).trans x5) r5 p5⟩⟩
theorem sw_and1 (ha : ST X a tf) : SW X (.BoolOp .And [a] pos) tf := pw_and1 ha
theorem sw_or1 (ha : ST X a tf) : SW X (.BoolOp .Or [a] pos) tf := pw_or1 ha
theorem sw_and {rest : List Expr} (ha : ST X a tf) (hb : SW X (.BoolOp .And (b :: rest) pos) tg) : SW X (.BoolOp .And (a :: b :: rest) pos) (tAnd tf tg) := by
  refine pw_to (pw_and ha hb) fun σ H Q q => ?_
  obtain ⟨ι, Z, h, σd, t, h', r, rs, e, q⟩ := q
  obtain ⟨⟨x, h1⟩, ef, e⟩ := bind_inv e
  refine ⟨ι, Z, h, σd, x, h1, r, rs, ef, fun ι1 H1 x1 r1 => ?_⟩
  cases x with
  | true =>
    rw [if_pos rfl] at e
    rw [if_pos rfl]
    exact ⟨ι1, Z, h1, σd, t, h', r1, rs.ext x1, e, fun ι2 H2 x2 r2 => q ι2 H2 (x1.trans x2) r2⟩
  | false =>
    rw [if_neg Bool.false_ne_true] at e
    rw [if_neg Bool.false_ne_true]
    cases e
    exact q ι1 H1 x1 r1
theorem sw_or {rest : List Expr} (ha : ST X a tf) (hb : SW X (.BoolOp .Or (b :: rest) pos) tg) : SW X (.BoolOp .Or (a :: b :: rest) pos) (tOr tf tg) := by
  refine pw_to (pw_or ha hb) fun σ H Q q => ?_
  obtain ⟨ι, Z, h, σd, t, h', r, rs, e, q⟩ := q
  obtain ⟨⟨x, h1⟩, ef, e⟩ := bind_inv e
  refine ⟨ι, Z, h, σd, x, h1, r, rs, ef, fun ι1 H1 x1 r1 => ?_⟩
  cases x with
  | true =>
    rw [if_pos rfl] at e
    rw [if_pos rfl]
    cases e
    exact q ι1 H1 x1 r1
  | false =>
    rw [if_neg Bool.false_ne_true] at e
    rw [if_neg Bool.false_ne_true]
    exact ⟨ι1, Z, h1, σd, t, h', r1, rs.ext x1, e, fun ι2 H2 x2 r2 => q ι2 H2 (x1.trans x2) r2⟩
theorem st_bool {op : BoolOp} {es : List Expr} (h : SW X (.BoolOp op es pos) tf) : ST X (.BoolOp op es pos) tf := h.pt
theorem st_not (ha : ST X a tf) : ST X (.UnaryOp .Not a pos) (tNot tf) := by
  refine pt_to (pt_not ha) fun σ H Q q => ?_
  obtain ⟨ι, Z, h, σd, t, h', r, rs, e, q⟩ := q
  obtain ⟨⟨x, h1⟩, ef, e⟩ := bind_inv e
  cases e
  exact ⟨ι, Z, h, σd, x, _, r, rs, ef, q⟩
/-! .. as values -/
theorem se_one {op : BoolOp} (ha : SE X a f) : SE X (.BoolOp op [a] pos) f := pe_one ha
theorem se_and {rest : List Expr} (ha : SE X a f) (hb : SE X (.BoolOp .And (b :: rest) pos) g) : SE X (.BoolOp .And (a :: b :: rest) pos) (eAnd f g) := by
  refine pe_to (pe_and ha hb) fun σ H Q q => ?_
  obtain ⟨ι, Z, h, σd, t, h', r, rs, e, q⟩ := q
  obtain ⟨⟨x, h1⟩, ef, e⟩ := bind_inv e
  refine ⟨ι, Z, h, σd, x, h1, r, rs, ef, fun v ι1 H1 x1 r1 p1 => ?_⟩
  cases x <;> try (cases e; done)
  rename_i y
  cases p1
  refine ⟨y, rfl, ?_⟩
  cases y with
  | true => exact ⟨ι1, Z, h1, σd, t, h', r1, rs.ext x1, e, fun v ι2 H2 x2 r2 => q v ι2 H2 (x1.trans x2) r2⟩
  | false =>
    cases e
    exact q _ ι1 H1 x1 r1 (.bl false)
theorem se_or {rest : List Expr} (ha : SE X a f) (hb : SE X (.BoolOp .Or (b :: rest) pos) g) : SE X (.BoolOp .Or (a :: b :: rest) pos) (eOr f g) := by
  refine pe_to (pe_or ha hb) fun σ H Q q => ?_
  obtain ⟨ι, Z, h, σd, t, h', r, rs, e, q⟩ := q
  obtain ⟨⟨x, h1⟩, ef, e⟩ := bind_inv e
  refine ⟨ι, Z, h, σd, x, h1, r, rs, ef, fun v ι1 H1 x1 r1 p1 => ?_⟩
  cases x <;> try (cases e; done)
  rename_i y
  cases p1
  refine ⟨y, rfl, ?_⟩
  cases y with
  | false => exact ⟨ι1, Z, h1, σd, t, h', r1, rs.ext x1, e, fun v ι2 H2 x2 r2 => q v ι2 H2 (x1.trans x2) r2⟩
  | true =>
    cases e
    exact q _ ι1 H1 x1 r1 (.bl true)
theorem se_not (ha : SE X a f) : SE X (.UnaryOp .Not a pos) (eNot f) := by
  refine pe_to (pe_not ha) fun σ H Q q => ?_
  obtain ⟨ι, Z, h, σd, t, h', r, rs, e, q⟩ := q
  obtain ⟨⟨x, h1⟩, ef, e⟩ := bind_inv e
  refine ⟨ι, Z, h, σd, x, h1, r, rs, ef, fun v ι1 H1 x1 r1 p1 => ?_⟩
  cases x <;> try (cases e; done)
  cases p1
  cases e
  exact ⟨_, rfl, q _ ι1 H1 x1 r1 (.bl _)⟩
theorem se_neg (ha : SE X a f) : SE X (.UnaryOp .USub a pos) (eNeg f) := by
  refine pe_to (pe_un un_neg ha) fun σ H Q q => ?_
  obtain ⟨ι, Z, h, σd, t, h', r, rs, e, q⟩ := q
  obtain ⟨⟨x, h1⟩, ef, e⟩ := bind_inv e
  refine ⟨ι, Z, h, σd, x, h1, r, rs, ef, fun v ι1 H1 x1 r1 p1 => ?_⟩
  cases x <;> try (cases e; done)
  cases p1
  cases e
  exact ⟨_, rfl, q _ ι1 H1 x1 r1 (.int _)⟩
theorem se_if (hc : ST X c tf) (ha : SE X a f) (hb : SE X b g) : SE X (.IfExp c a b pos) (eIf tf f g) := by
  refine pe_to (pe_ifExp hc ha hb) fun σ H Q q => ?_
  obtain ⟨ι, Z, h, σd, t, h', r, rs, e, q⟩ := q
  obtain ⟨⟨x, h1⟩, ef, e⟩ := bind_inv e
  refine ⟨ι, Z, h, σd, x, h1, r, rs, ef, fun ι1 H1 x1 r1 => ?_⟩
  cases x with
  | true =>
    rw [if_pos rfl] at e
    rw [if_pos rfl]
    exact ⟨ι1, Z, h1, σd, t, h', r1, rs.ext x1, e, fun v ι2 H2 x2 r2 => q v ι2 H2 (x1.trans x2) r2⟩
  | false =>
    rw [if_neg Bool.false_ne_true] at e
    rw [if_neg Bool.false_ne_true]
    exact ⟨ι1, Z, h1, σd, t, h', r1, rs.ext x1, e, fun v ι2 H2 x2 r2 => q v ι2 H2 (x1.trans x2) r2⟩

/-! ### arguments, displays, calls of what is built in -/
theorem sa_nil : SA X [] aNil := pa_to pa_nil fun σ H Q q => by
  obtain ⟨ι, Z, h, σd, ds, h', r, rs, e, q⟩ := q
  cases e
  exact q [] ι H (.refl _ _) r .nil
theorem sa_cons (ha : SE X e f) (hr : SA X es av) (hs : starEach (e :: es) X.env = (false, eval e X.env) :: starEach es X.env := by rfl) : SA X (e :: es) (aCons f av) := by
  refine pa_to (pa_cons ha hr hs) fun σ H Q q => ?_
  obtain ⟨ι, Z, h, σd, ds, h', r, rs, e, q⟩ := q
  obtain ⟨⟨x, h1⟩, ef, e⟩ := bind_inv e
  obtain ⟨⟨ys, h2⟩, eg, e⟩ := bind_inv e
  cases e
  exact ⟨ι, Z, h, σd, x, h1, r, rs, ef, fun v ι1 H1 x1 r1 p1 => ⟨ι1, Z, h1, σd, ys, _, r1, rs.ext x1, eg, fun vs ι2 H2 x2 r2 p2 => q (v :: vs) ι2 H2 (x1.trans x2) r2 (.cons (p1.ext x2) p2)⟩⟩
theorem tN_of {C : Cst} {o : OpN} {σ : L2.St} {H : Hp} {Q : VK} (q : tE C (eN o av) σ H Q) : tA C av σ H fun vs H1 => rN C o vs H1 Q := by
  obtain ⟨ι, Z, h, σd, d, h', r, rs, e, q⟩ := q
  obtain ⟨⟨ds, h1⟩, ef, e⟩ := bind_inv e
  exact ⟨ι, Z, h, σd, ds, h1, r, rs, ef, fun vs ι1 H1 x1 r1 p1 => ⟨ι1, Z, h1, ds, d, h', r1, p1, e, fun v ι2 H2 x2 r2 p2 => q v ι2 H2 (x1.trans x2) r2 p2⟩⟩
theorem line_eq : LIM = sizeLine := by decide
theorem se_tup {x1} (ha : SA X es av) : SE X (.Tuple es x1 pos) (eN kTup av) := by
  refine pe_to (pe_tup ha) fun σ H Q q => ?_
  obtain ⟨ι, Z, h, σd, ds, h', r, rs, e, q⟩ := tN_of q
  refine ⟨ι, Z, h, σd, ds, h', r, rs, e, fun vs ι1 H1 x1 r1 p1 => ?_⟩
  obtain ⟨ι2, Z2, h2, ds2, d, h3, r2, p2, e2, q2⟩ := q vs ι1 H1 x1 r1 p1
  obtain ⟨hl, e2⟩ := ite_inv e2
  cases e2
  exact ⟨by rw [← p2.length, ← line_eq]; exact hl, fun p np => finT q2 r2 p2 p np⟩
theorem se_lstF (ha : SA X es av) : SE X (.List es pos) (eN kLstF av) := by
  refine pe_to (pe_lst ha) fun σ H Q q => ?_
  obtain ⟨ι, Z, h, σd, ds, h', r, rs, e, q⟩ := tN_of q
  refine ⟨ι, Z, h, σd, ds, h', r, rs, e, fun vs ι1 H1 x1 r1 p1 => ?_⟩
  obtain ⟨ι2, Z2, h2, ds2, d, h3, r2, p2, e2, q2⟩ := q vs ι1 H1 x1 r1 p1
  obtain ⟨hl, e2⟩ := ite_inv e2
  cases e2
  exact ⟨by rw [← p2.length, ← line_eq]; exact hl, fun p np => finL q2 r2 p2 p np⟩
theorem se_lst (ha : SA X es av) : SE X (.List es pos) (eN kLst av) := by
  refine pe_to (pe_lst ha) fun σ H Q q => ?_
  obtain ⟨ι, Z, h, σd, ds, h', r, rs, e, q⟩ := tN_of q
  refine ⟨ι, Z, h, σd, ds, h', r, rs, e, fun vs ι1 H1 x1 r1 p1 => ?_⟩
  obtain ⟨ι2, Z2, h2, ds2, d, h3, r2, p2, e2, q2⟩ := q vs ι1 H1 x1 r1 p1
  obtain ⟨hl, e2⟩ := ite_inv e2
  cases e2
  exact ⟨by rw [← p2.length, ← line_eq]; exact hl, fun p np => finM q2 r2 p2 p np⟩
variable {x : Str} {p : Pos} {id T : String}
theorem se_callB {o : OpN} (hc : CallR X (.builtin id) (rN (cst X) o)) (hg : Gl X x) (hm : X.mg x = none) (hv : bootBuiltins x = some (.builtin id)) (ha : SA X (e :: es) av) (hn : x ≠ "__name__" := by decide) (hdb : (x == ("__debug__" : Str)) = false := by decide)
    (he : starEach (e :: es) X.env = (false, eval e X.env) :: starEach es X.env := by rfl) (hpl : (backTo pos (starEach es X.env)).any (·.1) = false := by rfl) : SE X (.Call (.Name x p) (e :: es) [] pos) (eN o av) :=
  pe_to (pe_callB hc hg hm hv ha hn hdb he hpl) fun _ _ _ q => tN_of q
theorem se_callTy {o : OpN} (hc : CallR X (.type T) (rN (cst X) o)) (hg : Gl X x) (hm : X.mg x = none) (hv : bootBuiltins x = some (.type T)) (ha : SA X (e :: es) av) (hn : x ≠ "__name__" := by decide) (hdb : (x == ("__debug__" : Str)) = false := by decide)
    (he : starEach (e :: es) X.env = (false, eval e X.env) :: starEach es X.env := by rfl) (hpl : (backTo pos (starEach es X.env)).any (·.1) = false := by rfl) : SE X (.Call (.Name x p) (e :: es) [] pos) (eN o av) :=
  pe_to (pe_callTy hc hg hm hv ha hn hdb he hpl) fun _ _ _ q => tN_of q
end
end PyD
set_option Elab.async false
set_option linter.all false
set_option maxRecDepth 100000
set_option maxHeartbeats 4000000
/-! PyS2: the evaluator is sound, operations by values. -/
namespace PyD
open PySem PySem.Spec PyProof.Rows L2

section
variable {X : Cx}
theorem od_add : OpR X (binaryOp .Add) (rD (cst X) kAdd) := by
  intro pins s σ H x y v u Q I rx ry ⟨ι, Z, h, d, e, z, h', r, p1, p2, ek, q⟩
  unfold kAdd at ek
  split at ek
  · cases ek; cases p1; cases p2
    exact op_add pins s σ H _ _ v u Q I rx ry ⟨_, _, rfl, rfl, fin0 q r (.int _)⟩
  · obtain ⟨hl, ek⟩ := ite_inv ek
    cases ek; cases p1; cases p2
    exact op_add_str pins s σ H _ _ v u Q I rx ry ⟨_, _, rfl, rfl, by rw [← line_eq]; exact hl, fin0 q r (.str _)⟩
  · obtain ⟨hl, ek⟩ := ite_inv ek
    cases ek
    cases p1 with
    | tup t1 q1 => cases p2 with
      | tup t2 q2 =>
        refine op_catA pins s σ H _ _ v u Q I rx ry ⟨_, _, _, _, rfl, rfl, t1.sqT, t2.sqT, by rw [← line_eq, ← q1.length, ← q2.length]; exact hl, fun e0 => ?_, fun _ e0 => ?_, fun _ _ p np => finT q r (q1.append q2) p np⟩
        · subst e0
          have := q1.length
          simp at this
          subst this
          exact fin0 q r (.tup t2 q2)
        · subst e0
          have := q2.length
          simp at this
          subst this
          rw [List.append_nil] at q
          exact fin0 q r (.tup t1 q1)
  · obtain ⟨xs, e1, ek⟩ := bind_inv ek
    obtain ⟨ys, e2, ek⟩ := bind_inv ek
    obtain ⟨hl, ek⟩ := ite_inv ek
    cases ek
    obtain ⟨a, vs, rfl, h1, q1⟩ := asL_rep r p1 e1
    obtain ⟨b, us, rfl, h2, q2⟩ := asL_rep r p2 e2
    exact op_cat pins s σ H _ _ v u Q I rx ry ⟨a, b, vs, us, rfl, rfl, h1, h2, by rw [← line_eq, ← q1.length, ← q2.length]; exact hl, fun p np => finL q r (q1.append q2) p np⟩
theorem od_sub : OpR X (binaryOp .Sub) (rD (cst X) kSub) := by
  intro pins s σ H x y v u Q I rx ry ⟨ι, Z, h, d, e, z, h', r, p1, p2, ek, q⟩
  unfold kSub at ek
  split at ek
  · cases ek; cases p1; cases p2
    exact op_sub pins s σ H _ _ v u Q I rx ry ⟨_, _, rfl, rfl, fin0 q r (.int _)⟩
  · cases ek
theorem od_mul : OpR X (binaryOp .Mult) (rD (cst X) kMul) := by
  intro pins s σ H x y v u Q I rx ry ⟨ι, Z, h, d, e, z, h', r, p1, p2, ek, q⟩
  unfold kMul at ek
  split at ek
  · obtain ⟨hl, ek⟩ := ite_inv ek
    cases ek; cases p1; cases p2
    rcases hl with hl | hl | ⟨hl1, hl2⟩
    · exact op_mul pins s σ H _ _ v u Q I rx ry ⟨_, _, rfl, rfl, .inl (by omega), fin0 q r (.int _)⟩
    · exact op_mul pins s σ H _ _ v u Q I rx ry ⟨_, _, rfl, rfl, .inr (by omega), fin0 q r (.int _)⟩
    · exact op_mulW pins s σ H _ _ v u Q I rx ry ⟨_, _, rfl, rfl, wide_mul hl1 hl2 (by decide) (by decide) (by decide), fin0 q r (.int _)⟩
  · obtain ⟨xs, e1, ek⟩ := bind_inv ek
    obtain ⟨⟨l1, l3⟩, ek⟩ := ite_inv ek
    cases ek
    obtain ⟨a, vs, rfl, h1, q1⟩ := asL_rep r p1 e1
    cases p2
    exact op_rep pins s σ H _ _ v u Q I rx ry ⟨a, _, vs, rfl, rfl, h1, by omega, by omega, by rw [← line_eq, ← q1.length]; exact l3, fun p np => finL q r (q1.rep _) p np⟩
  · cases ek
theorem od_div : OpR X (binaryOp .FloorDiv) (rD (cst X) kDiv) := by
  intro pins s σ H x y v u Q I rx ry ⟨ι, Z, h, d, e, z, h', r, p1, p2, ek, q⟩
  unfold kDiv at ek
  split at ek
  · obtain ⟨hl, ek⟩ := ite_inv ek
    cases ek; cases p1; cases p2
    exact op_fdiv pins s σ H _ _ v u Q I rx ry ⟨_, _, rfl, rfl, ⟨hl.1, by have := hl.2; omega⟩, fin0 q r (.int _)⟩
  · cases ek
theorem od_mod : OpR X (binaryOp .Mod) (rD (cst X) kMod) := by
  intro pins s σ H x y v u Q I rx ry ⟨ι, Z, h, d, e, z, h', r, p1, p2, ek, q⟩
  unfold kMod at ek
  split at ek
  · obtain ⟨hl, ek⟩ := ite_inv ek
    cases ek; cases p1; cases p2
    exact op_mod pins s σ H _ _ v u Q I rx ry ⟨_, _, rfl, rfl, hl, fin0 q r (.int _)⟩
  · cases ek
theorem od_pow : OpR X (binaryOp .Pow) (rD (cst X) kPow) := by
  intro pins s σ H x y v u Q I rx ry ⟨ι, Z, h, d, e, z, h', r, p1, p2, ek, q⟩
  unfold kPow at ek
  split at ek
  · obtain ⟨hl, ek⟩ := ite_inv ek
    cases ek; cases p1; cases p2
    exact op_pow pins s σ H _ _ v u Q I rx ry ⟨_, _, rfl, rfl, ⟨hl.1, by have := hl.2.1; omega, hl.2.2⟩, fin0 q r (.int _)⟩
  · cases ek
theorem od_iadd : OpR X (inplaceOp .Add) (rD (cst X) kAddI) := by
  intro pins s σ H x y v u Q I rx ry ⟨ι, Z, h, d, e, z, h', r, p1, p2, ek, q⟩
  unfold kAddI at ek
  split at ek
  · cases ek; cases p1; cases p2
    exact iop_add pins s σ H _ _ v u Q I rx ry ⟨_, _, rfl, rfl, fin0 q r (.int _)⟩
  · cases ek
theorem od_isub : OpR X (inplaceOp .Sub) (rD (cst X) kSub) := by
  intro pins s σ H x y v u Q I rx ry ⟨ι, Z, h, d, e, z, h', r, p1, p2, ek, q⟩
  unfold kSub at ek
  split at ek
  · cases ek; cases p1; cases p2
    exact iop_sub pins s σ H _ _ v u Q I rx ry ⟨_, _, rfl, rfl, fin0 q r (.int _)⟩
  · cases ek
theorem cmpD {op : CmpOp} {p : Int → Int → Bool} (o : OpR X (compareOp op) (rI0 fun i j => .bl (p i j))) : OpR X (compareOp op) (rD (cst X) (kCmp p)) := by
  intro pins s σ H x y v u Q I rx ry ⟨ι, Z, h, d, e, z, h', r, p1, p2, ek, q⟩
  unfold kCmp at ek
  split at ek
  · cases ek; cases p1; cases p2
    exact o pins s σ H _ _ v u Q I rx ry ⟨_, _, rfl, rfl, fin0 q r (.bl _)⟩
  · cases ek
theorem od_lt : OpR X (compareOp .Lt) (rD (cst X) kLt) := cmpD op_lt
theorem od_le : OpR X (compareOp .LtE) (rD (cst X) kLe) := cmpD op_le
theorem od_gt : OpR X (compareOp .Gt) (rD (cst X) kGt) := cmpD op_gt
theorem od_ge : OpR X (compareOp .GtE) (rD (cst X) kGe) := cmpD op_ge
end

/-! ### data -/
section
variable {C : Cst} {ι : List Addr} {Z : Addr → Prop} {H : Hp} {h h' : MH}
theorem dpInts {K : PySem.W.Frag} : ∀ ns : List Int, DpAll K H (ns.map V.int) (ns.map PyData.int)
  | [] => .nil
  | n :: r => .cons (.int n) (dpInts r)
mutual
theorem data_dp : ∀ {d : D} {v : V} {p : PyData}, Rep C ι Z H d v → D.data d = some p → Dp C.K H v p
  | _, _, _, .non, e => by cases e; exact .non
  | _, _, _, .bl b, e => by cases e; exact .bl b
  | _, _, _, .int i, e => by cases e; exact .int i
  | _, _, _, .str x, e => by cases e; exact .str x
  | _, _, _, .ref _, e => by simp [D.data] at e
  | _, _, _, .tup t r, e => by
    rw [D.data] at e
    obtain ⟨ps, e1, rfl⟩ := map_inv e
    exact .tup t.sqT (datas_dp r e1)
  | _, _, _, .lst h1 h2 h3 r, e => by
    rw [D.data] at e
    obtain ⟨ps, e1, rfl⟩ := map_inv e
    exact .lst (SqL.of h3) (datas_dp r e1)
  | _, _, _, .dct _ _ _ _, e => by simp [D.data] at e
  | _, _, _, .scr h1, e => by
    rw [D.data] at e
    cases e
    exact .lst h1.sqL (dpInts _)
theorem datas_dp : ∀ {ds : List D} {vs : List V} {ps : List PyData}, RepAll C ι Z H ds vs → D.datas ds = some ps → DpAll C.K H vs ps
  | _, _, _, .nil, e => by rw [D.datas] at e; cases e; exact .nil
  | _, _, _, .cons r t, e => by
    rw [D.datas] at e
    obtain ⟨p, e1, e⟩ := bind_inv e
    obtain ⟨ps, e2, rfl⟩ := map_inv e
    exact .cons (data_dp r e1) (datas_dp t e2)
end
end
/-! ### what no longer changes -/
section
variable {C : Cst} {ι ι' : List Addr} {Z Z' : Addr → Prop} {H H' : Hp} {h : MH}
/-- closed data are the same in any view that leaves what is laid by -/
structure Op (ι : List Addr) (Z : Addr → Prop) (H : Hp) (ι' : List Addr) (Z' : Addr → Prop) : Prop where
  tu : ∀ (a : Addr) (vs : List V), a ∉ ι → H a = some (.tup vs) → a ∉ ι'
  fz : ∀ (a : Addr), a ∉ ι → ¬ Z a → a ∉ ι' ∧ ¬ Z' a
mutual
theorem Rep.op (x : Op ι Z H ι' Z') : ∀ {d : D} {v : V}, Rep C ι Z H d v → D.cl d = true → Rep C ι' Z' H d v
  | _, _, .non, _ => .non
  | _, _, .bl b, _ => .bl b
  | _, _, .int i, _ => .int i
  | _, _, .str z, _ => .str z
  | _, _, .ref h, c => by simp [D.cl] at c
  | _, _, .tup (.inl ⟨h1, h2⟩) r, c => .tup (.inl ⟨x.tu _ _ h1 h2, h2⟩) (RepAll.op x r (by rw [D.cl] at c; exact c))
  | _, _, .tup (.inr h) r, c => .tup (.inr h) (RepAll.op x r (by rw [D.cl] at c; exact c))
  | _, _, .lst h1 h2 h3 r, c => .lst (x.fz _ h1 h2).1 (x.fz _ h1 h2).2 h3 (RepAll.op x r (by rw [D.cl] at c; exact c))
  | _, _, .dct h1 h2 h3 r, c => .dct (x.fz _ h1 h2).1 (x.fz _ h1 h2).2 h3 (RepKV.op x r (by rw [D.cl] at c; exact c))
  | _, _, .scr (.inl ⟨o, h1, h2, h3⟩), _ => .scr (.inl ⟨o, (x.fz _ h1 h2).1, (x.fz _ h1 h2).2, h3⟩)
  | _, _, .scr (.inr h), _ => .scr (.inr h)
theorem RepAll.op (x : Op ι Z H ι' Z') : ∀ {ds : List D} {vs : List V}, RepAll C ι Z H ds vs → D.cls ds = true → RepAll C ι' Z' H ds vs
  | _, _, .nil, _ => .nil
  | _, _, .cons r t, c => by
    rw [D.cls, Bool.and_eq_true] at c
    exact .cons (Rep.op x r c.1) (RepAll.op x t c.2)
theorem RepKV.op (x : Op ι Z H ι' Z') : ∀ {ks : List (D × D)} {ws : List Ent}, RepKV C ι Z H ks ws → D.clk ks = true → RepKV C ι' Z' H ks ws
  | _, _, .nil, _ => .nil
  | _, _, .cons k z r1 r2 t, c => by
    rw [D.clk, Bool.and_eq_true, Bool.and_eq_true] at c
    exact .cons k z (Rep.op x r1 c.1.1) (Rep.op x r2 c.1.2) (RepKV.op x t c.2)
end
theorem mapO_inv {α β : Type} {f : α → Option β} {x : α} {r : List α} {ys : List β} (e : mapO f (x :: r) = some ys) : ∃ y t, f x = some y ∧ mapO f r = some t ∧ ys = y :: t := by
  rw [mapO] at e
  obtain ⟨y, e1, e⟩ := bind_inv e
  obtain ⟨t, e2, rfl⟩ := map_inv e
  exact ⟨y, t, e1, e2, rfl⟩
/-- frozen: read in a view where nothing of ι is told -/
theorem frz_rep {lo : Nat} (r : R C ι Z H h) (x : Op ι Z H ι' Z') (xι : ∀ m a, lo ≤ m → ι[m]? = some a → a ∉ ι' ∧ ¬ Z' a) : ∀ (n : Nat) {d d' : D} {v : V}, Rep C ι Z H d v → frzN lo n h d = some d' → Rep C ι' Z' H d' v := by
  intro n
  induction n with
  | zero => intro d d' v p e; rw [frzN] at e; cases e
  | succ n ih =>
    have all : ∀ {ds ds' : List D} {vs : List V}, RepAll C ι Z H ds vs → mapO (frzN lo n h) ds = some ds' → RepAll C ι' Z' H ds' vs := by
      intro ds
      induction ds with
      | nil => intro ds' vs p e; rw [mapO] at e; cases e; cases p; exact .nil
      | cons y t iht =>
        intro ds' vs p e
        obtain ⟨y', t', e1, e2, rfl⟩ := mapO_inv e
        cases p with
        | cons p1 p2 => exact .cons (ih p1 e1) (iht p2 e2)
    have kv : ∀ {ks ks' : List (D × D)} {ws : List Ent}, RepKV C ι Z H ks ws → mapO (fun p : D × D => if D.cl p.1 = true then (frzN lo n h p.2).map fun b => (p.1, b) else none) ks = some ks' → RepKV C ι' Z' H ks' ws := by
      intro ks
      induction ks with
      | nil => intro ks' ws p e; rw [mapO] at e; cases e; cases p; exact .nil
      | cons y t iht =>
        intro ks' ws p e
        obtain ⟨y', t', e1, e2, rfl⟩ := mapO_inv e
        obtain ⟨c1, e1⟩ := ite_inv e1
        obtain ⟨b, e3, rfl⟩ := map_inv e1
        cases p with
        | cons k z p1 p2 p3 => exact .cons k z (Rep.op x p1 c1) (ih p2 e3) (iht p3 e2)
    have cls : ∀ {d d' : D} {v : V}, Rep C ι Z H d v → (if D.cl d = true then some d else none) = some d' → Rep C ι' Z' H d' v := fun p e => by
      obtain ⟨c, e⟩ := ite_inv e
      cases e
      exact Rep.op x p c
    intro d d' v p e
    cases p with
    | @ref m a hm =>
      obtain ⟨o, eo, x0⟩ := r.obj hm
      rw [frzN] at e
      obtain ⟨hlo, e⟩ := ite_inv e
      have ma := xι m _ hlo hm
      rw [eo] at e
      cases o with
      | lst xs =>
        obtain ⟨ys, e1, rfl⟩ := map_inv e
        obtain ⟨vs, g1, g2⟩ := x0
        exact .lst ma.1 ma.2 g1 (all g2 e1)
      | dct kvs =>
        obtain ⟨ys, e1, rfl⟩ := map_inv e
        obtain ⟨vs, g1, g2⟩ := x0
        exact .dct ma.1 ma.2 g1 (kv g2 e1)
      | ins _ _ => cases e
    | tup t q =>
      rw [frzN] at e
      obtain ⟨ys, e1, rfl⟩ := map_inv e
      rcases t with ⟨t1, t2⟩ | t
      · exact .tup (.inl ⟨x.tu _ _ t1 t2, t2⟩) (all q e1)
      · exact .tup (.inr t) (all q e1)
    | non => exact cls .non e
    | bl b => exact cls (.bl b) e
    | int i => exact cls (.int i) e
    | str z => exact cls (.str z) e
    | lst h1 h2 h3 q =>
      rw [frzN] at e
      split at e
      · rename_i c
        cases e
        exact Rep.op x (.lst h1 h2 h3 q) (by rw [D.cl]; exact c)
      · obtain ⟨ys, e1, rfl⟩ := map_inv e
        exact .lst (x.fz _ h1 h2).1 (x.fz _ h1 h2).2 h3 (all q e1)
    | dct h1 h2 h3 q => exact cls (.dct h1 h2 h3 q) e
    | scr h1 => exact cls (.scr h1) e
theorem flat_dp {d : D} {v : V} {p : PyData} (r : R C ι Z H h) (x : Rep C ι Z H d v) (e : D.data (flat h d) = some p) : Dp C.K H v p := by
  unfold flat at e
  split at e
  · exact data_dp x e
  · cases ef : frzN 0 8 h d with
    | none =>
      rw [ef] at e
      exact data_dp x e
    | some d' =>
      rw [ef] at e
      exact data_dp (frz_rep (ι' := []) (Z' := fun _ => False) r ⟨fun _ _ _ _ => List.not_mem_nil, fun _ _ _ => ⟨List.not_mem_nil, id⟩⟩ (fun _ _ _ _ => ⟨List.not_mem_nil, id⟩) 8 x ef) e
theorem dEq_inv {x y : D} {b : Bool} (e : dEqG h x y = some b) : ∃ p q, D.data (flat h x) = some p ∧ D.data (flat h y) = some q ∧ SeqAt.shaped p = true ∧ SeqAt.shaped q = true ∧ b = PyData.eqv p q := by
  obtain ⟨p, e1, e⟩ := bind_inv e
  obtain ⟨q, e2, e⟩ := bind_inv e
  obtain ⟨hs, e⟩ := ite_inv e
  rw [Bool.and_eq_true] at hs
  cases e
  exact ⟨p, q, e1, e2, hs.1, hs.2, rfl⟩
end
section
variable {X : Cx}
theorem scal_rep {C : Cst} {ι : List Addr} {Z : Addr → Prop} {H : Hp} {h : MH} {d e : D} {x y : V} {b : Bool} (p1 : Rep C ι Z H d x) (p2 : Rep C ι Z H e y) (ek : dEq h d e = some b) : (scal x y = true ∧ b = decide (x = y)) ∨ dEqG h d e = some b := by
  unfold dEq at ek
  split at ek
  · split at ek
    · cases ek; cases p1; cases p2
      exact .inl ⟨rfl, by rw [dec_int, Bool.beq_eq_decide_eq]⟩
    · exact .inr ek
  · split at ek
    · cases ek; cases p1; cases p2
      exact .inl ⟨rfl, by rw [dec_str, Bool.beq_eq_decide_eq]⟩
    · exact .inr ek
  · split at ek
    · cases ek; cases p1; cases p2
      exact .inl ⟨rfl, by rw [dec_bl, Bool.beq_eq_decide_eq]⟩
    · exact .inr ek
  · exact .inr ek
theorem od_eq (hu : X.A.units + 64 < cLine) : OpR X (compareOp .Eq) (rD (cst X) kEq) := by
  intro pins s σ H x y v u Q I rx ry ⟨ι, Z, h, d, e, z, h', r, p1, p2, ek, q⟩
  obtain ⟨b, e1, e2⟩ := map_inv ek
  cases e2
  rcases scal_rep p1 p2 e1 with ⟨sc, rfl⟩ | e1
  · exact op_eq pins s σ H x y v u Q I rx ry ⟨sc, fin0 q r (.bl _)⟩
  · obtain ⟨pa, pb, ea, eb, sa, sb, rfl⟩ := dEq_inv e1
    exact op_eqD hu pins s σ H x y v u Q I rx ry ⟨pa, pb, flat_dp r p1 ea, flat_dp r p2 eb, sa, sb, fin0 q r (.bl _)⟩
theorem od_ne (hu : X.A.units + 64 < cLine) : OpR X (compareOp .NotEq) (rD (cst X) kNe) := by
  intro pins s σ H x y v u Q I rx ry ⟨ι, Z, h, d, e, z, h', r, p1, p2, ek, q⟩
  obtain ⟨b, e1, e2⟩ := map_inv ek
  cases e2
  rcases scal_rep p1 p2 e1 with ⟨sc, rfl⟩ | e1
  · exact op_ne pins s σ H x y v u Q I rx ry ⟨sc, fin0 q r (.bl _)⟩
  · obtain ⟨pa, pb, ea, eb, sa, sb, rfl⟩ := dEq_inv e1
    exact op_neD hu pins s σ H x y v u Q I rx ry ⟨pa, pb, flat_dp r p1 ea, flat_dp r p2 eb, sa, sb, fin0 q r (.bl _)⟩
theorem non_iff {C : Cst} {ι : List Addr} {Z : Addr → Prop} {H : Hp} {d : D} {v : V} (r : Rep C ι Z H d v) : decide (v = .non) = decide (d = .non) := by
  cases r <;> first | rfl | (rw [decide_eq_false (by nofun), decide_eq_false (by nofun)])
theorem od_is : OpR X (compareOp .Is) (rD (cst X) kIsN) := by
  intro pins s σ H x y v u Q I rx ry ⟨ι, Z, h, d, e, z, h', r, p1, p2, ek, q⟩
  unfold kIsN at ek
  split at ek
  · cases ek; cases p2
    refine op_isN pins s σ H x _ v u Q I rx ry ⟨rfl, ?_⟩
    rw [non_iff p1]
    exact fin0 q r (.bl _)
  · split at ek
    · cases ek; cases p1; cases p2
      exact op_isBl pins s σ H _ _ v u Q I rx ry ⟨_, _, rfl, rfl, fin0 q r (.bl _)⟩
    · cases ek
  · cases ek
theorem od_isnot : OpR X (compareOp .IsNot) (rD (cst X) kNotN) := by
  intro pins s σ H x y v u Q I rx ry ⟨ι, Z, h, d, e, z, h', r, p1, p2, ek, q⟩
  unfold kNotN at ek
  split at ek
  · cases ek; cases p2
    refine op_notN pins s σ H x _ v u Q I rx ry ⟨rfl, ?_⟩
    rw [non_iff p1]
    exact fin0 q r (.bl _)
  · split at ek
    · cases ek; cases p1; cases p2
      exact op_notBl pins s σ H _ _ v u Q I rx ry ⟨_, _, rfl, rfl, fin0 q r (.bl _)⟩
    · cases ek
  · cases ek
/-- x in a list, of data -/
def kIn : Op2 := fun x y h => (D.data x).bind fun p => (asL h y).bind fun ys => (D.datas ys).bind fun ps => if SeqAt.shaped p && SeqAt.shaped (.list ps) then some (.bl (ps.any fun z => PyData.eqv z p), h) else none
def kNotIn : Op2 := fun x y h => (D.data x).bind fun p => (asL h y).bind fun ys => (D.datas ys).bind fun ps => if SeqAt.shaped p && SeqAt.shaped (.list ps) then some (.bl (!ps.any fun z => PyData.eqv z p), h) else none
theorem od_in (hu : X.A.units + 65 < cLine) : OpR X (compareOp .In) (rD (cst X) kIn) := by
  intro pins s σ H x y v u Q I rx ry ⟨ι, Z, h, d, e, z, h', r, p1, p2, ek, q⟩
  obtain ⟨pd, e1, ek⟩ := bind_inv ek
  obtain ⟨ys, e2, ek⟩ := bind_inv ek
  obtain ⟨ps, e3, ek⟩ := bind_inv ek
  obtain ⟨hs, ek⟩ := ite_inv ek
  rw [Bool.and_eq_true] at hs
  cases ek
  obtain ⟨a, vs, rfl, h1, q1⟩ := asL_rep r p2 e2
  exact op_inD hu pins s σ H x _ v u Q I rx ry ⟨pd, ps, data_dp p1 e1, .lst (SqL.of h1) (datas_dp q1 e3), hs.1, hs.2, fin0 q r (.bl _)⟩
theorem od_notin (hu : X.A.units + 65 < cLine) : OpR X (compareOp .NotIn) (rD (cst X) kNotIn) := by
  intro pins s σ H x y v u Q I rx ry ⟨ι, Z, h, d, e, z, h', r, p1, p2, ek, q⟩
  obtain ⟨pd, e1, ek⟩ := bind_inv ek
  obtain ⟨ys, e2, ek⟩ := bind_inv ek
  obtain ⟨ps, e3, ek⟩ := bind_inv ek
  obtain ⟨hs, ek⟩ := ite_inv ek
  rw [Bool.and_eq_true] at hs
  cases ek
  obtain ⟨a, vs, rfl, h1, q1⟩ := asL_rep r p2 e2
  exact op_notInD hu pins s σ H x _ v u Q I rx ry ⟨pd, ps, data_dp p1 e1, .lst (SqL.of h1) (datas_dp q1 e3), hs.1, hs.2, fin0 q r (.bl _)⟩
/-- x in a tuple, of what is not deep -/
def fl1 : D → Bool
  | .non => true
  | .bl _ => true
  | .int _ => true
  | .str _ => true
  | _ => false
def fEq : D → D → Bool
  | .non, .non => true
  | .bl a, .bl b => a == b
  | .bl a, .int b => (if a then 1 else 0) == b
  | .int a, .bl b => a == (if b then 1 else 0)
  | .int a, .int b => a == b
  | .str a, .str b => a == b
  | _, _ => false
def kInT : Op2 := fun x y h => match y with
  | .tup ys => if fl1 x && ys.all fl1 then some (.bl (ys.any fun y => fEq y x), h) else none
  | _ => none
def kNotInT : Op2 := fun x y h => match y with
  | .tup ys => if fl1 x && ys.all fl1 then some (.bl (!ys.any fun y => fEq y x), h) else none
  | _ => none
theorem fl_rep {C : Cst} {ι : List Addr} {Z : Addr → Prop} {H : Hp} {d : D} {v : V} (r : Rep C ι Z H d v) (e : fl1 d = true) : flatV v = true := by
  cases r <;> first | rfl | (simp [fl1] at e)
theorem fEq_rep {C : Cst} {ι : List Addr} {Z : Addr → Prop} {H : Hp} {d d' : D} {v v' : V} (r : Rep C ι Z H d v) (r' : Rep C ι Z H d' v') (e : fl1 d = true) (e' : fl1 d' = true) : eqV v v' = fEq d d' := by
  cases r <;> first | (simp [fl1] at e; done) | (cases r' <;> first | (simp [fl1] at e'; done) | rfl)
theorem fls_rep {C : Cst} {ι : List Addr} {Z : Addr → Prop} {H : Hp} {x : D} {v : V} (rx : Rep C ι Z H x v) (ex : fl1 x = true) : ∀ {ds : List D} {vs : List V}, RepAll C ι Z H ds vs → ds.all fl1 = true → vs.all flatV = true ∧ inV v vs = ds.any fun y => fEq y x
  | _, _, .nil, _ => ⟨rfl, rfl⟩
  | _, _, .cons r t, e => by
    rw [List.all_cons, Bool.and_eq_true] at e
    obtain ⟨h1, h2⟩ := fls_rep rx ex t e.2
    refine ⟨by rw [List.all_cons, fl_rep r e.1, h1]; rfl, ?_⟩
    show (eqV _ _ || inV _ _) = _
    rw [List.any_cons, h2, fEq_rep r rx e.1 ex]
theorem od_inT : OpR X (compareOp .In) (rD (cst X) kInT) := by
  intro pins s σ H x y v u Q I rx ry ⟨ι, Z, h, d, e, z, h', r, p1, p2, ek, q⟩
  unfold kInT at ek
  split at ek
  · obtain ⟨hs, ek⟩ := ite_inv ek
    rw [Bool.and_eq_true] at hs
    cases ek
    cases p2 with
    | tup t qa =>
      obtain ⟨f1, f2⟩ := fls_rep p1 hs.1 qa hs.2
      refine op_in_seq pins s σ H x _ v u Q I rx ry ⟨_, _, rfl, .inr t.sqT, fl_rep p1 hs.1, f1, ?_⟩
      rw [if_neg (by decide), f2]
      exact fin0 q r (.bl _)
  · cases ek
theorem od_notinT : OpR X (compareOp .NotIn) (rD (cst X) kNotInT) := by
  intro pins s σ H x y v u Q I rx ry ⟨ι, Z, h, d, e, z, h', r, p1, p2, ek, q⟩
  unfold kNotInT at ek
  split at ek
  · obtain ⟨hs, ek⟩ := ite_inv ek
    rw [Bool.and_eq_true] at hs
    cases ek
    cases p2 with
    | tup t qa =>
      obtain ⟨f1, f2⟩ := fls_rep p1 hs.1 qa hs.2
      refine op_notIn_seq pins s σ H x _ v u Q I rx ry ⟨_, _, rfl, .inr t.sqT, fl_rep p1 hs.1, f1, ?_⟩
      rw [if_pos rfl, f2]
      exact fin0 q r (.bl _)
  · cases ek

/-! ### subscripts, slices -/
theorem atI_rep {C : Cst} {ι : List Addr} {Z : Addr → Prop} {H : Hp} {ds : List D} {vs : List V} {i : Int} {d : D} (r : RepAll C ι Z H ds vs) (e : atI ds i = some d) : ∃ v, atI vs i = some v ∧ Rep C ι Z H d v := by
  unfold atI at *
  rw [r.length] at e
  obtain ⟨j, e1, e2⟩ := bind_inv e
  obtain ⟨v, e3, p⟩ := r.get e2
  exact ⟨v, by rw [e1]; exact e3, p⟩
theorem od_ix : IxR X (rD (cst X) kIx) := by
  intro value slice pins s σ H x y v u Q I rx ry ⟨ι, Z, h, d, e, z, h', r, p1, p2, ek, q⟩ hs
  unfold kIx at ek
  split at ek
  · obtain ⟨xs, e1, ek⟩ := bind_inv ek
    obtain ⟨w, e2, ek⟩ := map_inv ek
    cases ek; cases p2
    obtain ⟨a, vs, rfl, h1, q1⟩ := asQ_rep r p1 e1
    obtain ⟨b, e3, p3⟩ := atI_rep q1 e2
    rcases h1 with h1 | h1
    · exact ix_list value slice pins s σ H _ _ v u Q I rx ry ⟨a, vs, _, b, rfl, rfl, h1, e3, fin0 q r p3⟩ hs
    · exact ix_tup value slice pins s σ H _ _ v u Q I rx ry ⟨a, vs, _, b, rfl, rfl, h1, e3, fin0 q r p3⟩ hs
  · cases ek
theorem cut_rep {C : Cst} {ι : List Addr} {Z : Addr → Prop} {H : Hp} {ds : List D} {vs : List V} (r : RepAll C ι Z H ds vs) (lo hi : Option Int) : RepAll C ι Z H (cutD ds lo hi) (cutV vs lo hi) := by
  unfold cutD cutV
  rw [r.length]
  exact (r.drop _).take _
variable {a b c e : Expr} {f : Ev} {pos p2 : Pos} {lo hi : Option Expr} {ol oh : Ov}
def tO (C : Cst) (f : Ov) : TO := fun σ H Q => ∃ (ι : List Addr) (Z : Addr → Prop) (h : MH) (σd : Sg) (o : Option Int) (h' : MH), R C ι Z H h ∧ RS C ι Z H σd σ ∧ f σd h = some (o, h') ∧
  ∀ ι' H', Ext ι H ι' H' → R C ι' Z H' h' → Q o H'
abbrev SO (X : Cx) (e : Option Expr) (f : Ov) : Prop := PO X e (tO (cst X) f)
theorem so_no : SO X none oNo := ⟨fun pins s σ H Q I q => po_none.run pins s σ H Q I (by
  obtain ⟨ι, Z, h, σd, o, h', r, rs, e, q⟩ := q
  cases e
  exact q ι H (.refl _ _) r)⟩
theorem so_e (ha : SE X a f) : SO X (some a) (oE f) := ⟨fun pins s σ H Q I q => (po_some ha).run pins s σ H Q I (by
  obtain ⟨ι, Z, h, σd, o, h', r, rs, e, q⟩ := q
  obtain ⟨⟨x, h1⟩, ef, e⟩ := bind_inv e
  refine ⟨ι, Z, h, σd, x, h1, r, rs, ef, fun v ι1 H1 x1 r1 p1 => ?_⟩
  cases x <;> try (cases e; done)
  cases e; cases p1
  exact ⟨_, rfl, q ι1 H1 x1 r1⟩)⟩
def cutOf (h : MH) (lo hi : Option Int) (d : D) : Option D := match d with
  | .tup xs => some (.tup (cutD xs lo hi))
  | d => (asL h d).map fun xs => D.lst (cutD xs lo hi)
def rSlD (C : Cst) : V → Option Int → Option Int → Hp → VK → Prop := fun x lo hi H Q => ∃ (ι : List Addr) (Z : Addr → Prop) (h : MH) (d z : D), R C ι Z H h ∧ Rep C ι Z H d x ∧
  cutOf h lo hi d = some z ∧ ∀ v ι' H', Ext ι H ι' H' → R C ι' Z H' h → Rep C ι' Z H' z v → Q v H'
theorem sl_D : SlR X (rSlD (cst X)) := by
  intro pins s σ H x v vl vu lo hi sl Q I rx hs pl pu ⟨ι, Z, h, d, z, r, p1, ek, q⟩
  unfold cutOf at ek
  split at ek
  · cases ek
    cases p1 with
    | tup t qa =>
      rename_i xs _ vs
      refine sl_tupA pins s σ H _ v vl vu lo hi sl Q I rx hs pl pu ⟨_, _, rfl, t.sqT, fun hw => ?_, fun hw p np => finT q r (cut_rep qa lo hi) p np⟩
      have e0 : cutD xs lo hi = xs := by
        unfold cutD
        rw [qa.length, hw.1, hw.2, List.drop_zero, Nat.sub_zero, ← qa.length, List.take_length]
      rw [e0] at q
      exact fin0 q r (.tup t qa)
  · obtain ⟨xs, e1, ek⟩ := map_inv ek
    cases ek
    obtain ⟨a, vs, rfl, h1, q1⟩ := asL_rep r p1 e1
    exact sl_list pins s σ H _ v vl vu lo hi sl Q I rx hs pl pu ⟨a, vs, rfl, SqL.of h1, fun p np => finL q r (cut_rep q1 lo hi) p np⟩
theorem se_slice (ha : SE X a f) (hl : SO X lo ol) (hh : SO X hi oh) : SE X (.Subscript a (.Slice lo hi none p2) pos) (eSlice f ol oh) := by
  refine pe_to (pe_slice sl_D ha hl hh) fun σ H Q q => ?_
  obtain ⟨ι, Z, h, σd, d, h', r, rs, e, q⟩ := q
  obtain ⟨⟨x, h1⟩, ef, e⟩ := bind_inv e
  obtain ⟨⟨l, h2⟩, el, e⟩ := bind_inv e
  obtain ⟨⟨u, h3⟩, eu, e⟩ := bind_inv e
  refine ⟨ι, Z, h, σd, x, h1, r, rs, ef, fun v ι1 H1 x1 r1 p1 => ⟨ι1, Z, h1, σd, l, h2, r1, rs.ext x1, el, fun ι2 H2 x2 r2 => ⟨ι2, Z, h2, σd, u, h3, r2, rs.ext (x1.trans x2), eu, fun ι3 H3 x3 r3 => ?_⟩⟩⟩
  have hx : h' = h3 ∧ cutOf h3 l u x = some d := by
    cases x <;> first
      | (cases e; exact ⟨rfl, rfl⟩)
      | (obtain ⟨xs, e1, e2⟩ := map_inv e; cases e2; exact ⟨rfl, by simp only [cutOf, e1]; rfl⟩)
  obtain ⟨rfl, e⟩ := hx
  exact ⟨ι3, Z, _, x, d, r3, p1.ext (x2.trans x3), e, fun w ι4 H4 x4 r4 p4 => q w ι4 H4 (((x1.trans x2).trans x3).trans x4) r4 p4⟩

/-! ### what is built in -/
theorem ints_rep {C : Cst} {ι : List Addr} {Z : Addr → Prop} {H : Hp} : ∀ {ds : List D} {vs : List V} {ns : List Int}, RepAll C ι Z H ds vs → dInts ds = some ns → vs = ns.map V.int
  | _, _, _, .nil, e => by rw [dInts] at e; cases e; rfl
  | d :: _, _, _, .cons r t, e => by
    cases d <;> try (simp [dInts] at e; done)
    rw [dInts] at e
    obtain ⟨l, e1, rfl⟩ := map_inv e
    cases r
    rw [ints_rep t e1]; rfl
theorem bls_rep {C : Cst} {ι : List Addr} {Z : Addr → Prop} {H : Hp} : ∀ {ds : List D} {vs : List V} {ns : List Bool}, RepAll C ι Z H ds vs → bls ds = some ns → vs = ns.map V.bl
  | _, _, _, .nil, e => by rw [bls] at e; cases e; rfl
  | d :: _, _, _, .cons r t, e => by
    cases d <;> try (simp [bls] at e; done)
    rw [bls] at e
    obtain ⟨l, e1, rfl⟩ := map_inv e
    cases r
    rw [bls_rep t e1]; rfl
theorem rep1 {C : Cst} {ι : List Addr} {Z : Addr → Prop} {H : Hp} {d : D} {vs : List V} (r : RepAll C ι Z H [d] vs) : ∃ v, vs = [v] ∧ Rep C ι Z H d v := by
  cases r with
  | cons r t => cases t; exact ⟨_, rfl, r⟩
theorem rep2 {C : Cst} {ι : List Addr} {Z : Addr → Prop} {H : Hp} {d d' : D} {vs : List V} (r : RepAll C ι Z H [d, d'] vs) : ∃ v v', vs = [v, v'] ∧ Rep C ι Z H d v ∧ Rep C ι Z H d' v' := by
  cases r with
  | cons r t => cases t with
    | cons r' t => cases t; exact ⟨_, _, rfl, r, r'⟩
theorem cd_len : CallR X (.builtin "len") (rN (cst X) kLen) := by
  intro pins s σ H xs us Q I rx ⟨ι, Z, h, ds, z, h', r, p, ek, q⟩
  unfold kLen at ek
  split at ek
  · obtain ⟨l, e1, ek⟩ := map_inv ek
    cases ek
    obtain ⟨v, rfl, pv⟩ := rep1 p
    obtain ⟨a, vs, rfl, h1, q1⟩ := asQ_rep r pv e1
    refine call_len_seq pins s σ H _ us Q I rx ⟨a, vs, rfl, h1, ?_⟩
    rw [← q1.length]
    exact fin0 q r (.int _)
  · cases ek
theorem cd_abs : CallR X (.builtin "abs") (rN (cst X) kAbs) := by
  intro pins s σ H xs us Q I rx ⟨ι, Z, h, ds, z, h', r, p, ek, q⟩
  unfold kAbs at ek
  split at ek
  · cases ek
    obtain ⟨v, rfl, pv⟩ := rep1 p
    cases pv
    exact call_abs pins s σ H _ us Q I rx ⟨_, rfl, fin0 q r (.int _)⟩
  · cases ek
theorem cd_max2 (hc : X.calm = true) : CallR X (.builtin "max") (rN (cst X) kMax2) := by
  intro pins s σ H xs us Q I rx ⟨ι, Z, h, ds, z, h', r, p, ek, q⟩
  unfold kMax2 at ek
  split at ek
  · cases ek
    obtain ⟨v, v', rfl, pv, pv'⟩ := rep2 p
    cases pv; cases pv'
    exact call_max2 hc pins s σ H _ us Q I rx ⟨_, _, rfl, fin0 q r (.int _)⟩
  · cases ek
theorem cd_min2 (hc : X.calm = true) : CallR X (.builtin "min") (rN (cst X) kMin2) := by
  intro pins s σ H xs us Q I rx ⟨ι, Z, h, ds, z, h', r, p, ek, q⟩
  unfold kMin2 at ek
  split at ek
  · cases ek
    obtain ⟨v, v', rfl, pv, pv'⟩ := rep2 p
    cases pv; cases pv'
    exact call_min2 hc pins s σ H _ us Q I rx ⟨_, _, rfl, fin0 q r (.int _)⟩
  · cases ek
theorem cd_sum (hc : X.calm = true) : CallR X (.builtin "sum") (rN (cst X) kSum) := by
  intro pins s σ H xs us Q I rx ⟨ι, Z, h, ds, z, h', r, p, ek, q⟩
  unfold kSum at ek
  split at ek
  · obtain ⟨l, e1, ek⟩ := bind_inv ek
    obtain ⟨ns, e2, ek⟩ := map_inv ek
    cases ek
    obtain ⟨v, rfl, pv⟩ := rep1 p
    obtain ⟨a, vs, rfl, h1, q1⟩ := asL_rep r pv e1
    have := ints_rep q1 e2
    subst this
    exact cr_sum hc pins s σ H _ us Q I rx ⟨a, ns, rfl, SqL.of h1, fin0 q r (.int _)⟩
  · cases ek
theorem cd_any (hc : X.calm = true) : CallR X (.builtin "any") (rN (cst X) kAny) := by
  intro pins s σ H xs us Q I rx ⟨ι, Z, h, ds, z, h', r, p, ek, q⟩
  unfold kAny at ek
  split at ek
  · obtain ⟨l, e1, ek⟩ := bind_inv ek
    obtain ⟨ns, e2, ek⟩ := map_inv ek
    cases ek
    obtain ⟨v, rfl, pv⟩ := rep1 p
    obtain ⟨a, vs, rfl, h1, q1⟩ := asL_rep r pv e1
    have := bls_rep q1 e2
    subst this
    exact cr_any hc pins s σ H _ us Q I rx ⟨a, ns, rfl, SqL.of h1, fin0 q r (.bl _)⟩
  · cases ek
theorem cd_all (hc : X.calm = true) : CallR X (.builtin "all") (rN (cst X) kAll) := by
  intro pins s σ H xs us Q I rx ⟨ι, Z, h, ds, z, h', r, p, ek, q⟩
  unfold kAll at ek
  split at ek
  · obtain ⟨l, e1, ek⟩ := bind_inv ek
    obtain ⟨ns, e2, ek⟩ := map_inv ek
    cases ek
    obtain ⟨v, rfl, pv⟩ := rep1 p
    obtain ⟨a, vs, rfl, h1, q1⟩ := asL_rep r pv e1
    have := bls_rep q1 e2
    subst this
    exact cr_all hc pins s σ H _ us Q I rx ⟨a, ns, rfl, SqL.of h1, fin0 q r (.bl _)⟩
  · cases ek
theorem foldl_max_ge : ∀ (l : List Int) (x : Int), x ≤ l.foldl max x ∧ (∀ y ∈ l, y ≤ l.foldl max x) ∧ (l.foldl max x = x ∨ l.foldl max x ∈ l)
  | [], x => ⟨Int.le_refl _, by simp, .inl rfl⟩
  | y :: r, x => by
    obtain ⟨h1, h2, h3⟩ := foldl_max_ge r (max x y)
    refine ⟨by rw [List.foldl_cons]; omega, fun z hz => ?_, ?_⟩
    · rw [List.foldl_cons]
      rcases List.mem_cons.mp hz with e | hz
      · subst e; omega
      · exact h2 z hz
    · rw [List.foldl_cons]
      rcases h3 with e | e
      · by_cases hxy : x ≤ y
        · exact .inr (by rw [e, Int.max_eq_right hxy]; exact List.mem_cons_self)
        · exact .inl (by rw [e, Int.max_eq_left (by omega)])
      · exact .inr (List.mem_cons_of_mem _ e)
theorem foldl_min_le : ∀ (l : List Int) (x : Int), l.foldl min x ≤ x ∧ (∀ y ∈ l, l.foldl min x ≤ y) ∧ (l.foldl min x = x ∨ l.foldl min x ∈ l)
  | [], x => ⟨Int.le_refl _, by simp, .inl rfl⟩
  | y :: r, x => by
    obtain ⟨h1, h2, h3⟩ := foldl_min_le r (min x y)
    refine ⟨by rw [List.foldl_cons]; omega, fun z hz => ?_, ?_⟩
    · rw [List.foldl_cons]
      rcases List.mem_cons.mp hz with e | hz
      · subst e; omega
      · exact h2 z hz
    · rw [List.foldl_cons]
      rcases h3 with e | e
      · by_cases hxy : x ≤ y
        · exact .inl (by rw [e, Int.min_eq_left hxy])
        · exact .inr (by rw [e, Int.min_eq_right (by omega)]; exact List.mem_cons_self)
      · exact .inr (List.mem_cons_of_mem _ e)
theorem maxOf_spec {ns : List Int} {m m' : Int} (e : maxOf ns = some m) (h : m' ∈ ns) (h' : ∀ y, y ∈ ns → y ≤ m') : m' = m := by
  cases ns with
  | nil => cases e
  | cons x r =>
    obtain ⟨h1, h2, h3⟩ := foldl_max_ge r x
    cases e
    have a1 : r.foldl max x ≤ m' := by
      rcases h3 with q | q
      · rw [q]; exact h' x List.mem_cons_self
      · exact h' _ (List.mem_cons_of_mem _ q)
    have a2 : m' ≤ r.foldl max x := by
      rcases List.mem_cons.mp h with q | q
      · rw [q]; exact h1
      · exact h2 _ q
    omega
theorem minOf_spec {ns : List Int} {m m' : Int} (e : minOf ns = some m) (h : m' ∈ ns) (h' : ∀ y, y ∈ ns → m' ≤ y) : m' = m := by
  cases ns with
  | nil => cases e
  | cons x r =>
    obtain ⟨h1, h2, h3⟩ := foldl_min_le r x
    cases e
    have a1 : m' ≤ r.foldl min x := by
      rcases h3 with q | q
      · rw [q]; exact h' x List.mem_cons_self
      · exact h' _ (List.mem_cons_of_mem _ q)
    have a2 : r.foldl min x ≤ m' := by
      rcases List.mem_cons.mp h with q | q
      · rw [q]; exact h1
      · exact h2 _ q
    omega
theorem cd_maxL (hc : X.calm = true) : CallR X (.builtin "max") (rN (cst X) kMaxL) := by
  intro pins s σ H xs us Q I rx ⟨ι, Z, h, ds, z, h', r, p, ek, q⟩
  unfold kMaxL at ek
  split at ek
  · obtain ⟨l, e1, ek⟩ := bind_inv ek
    obtain ⟨ns, e2, ek⟩ := bind_inv ek
    obtain ⟨m, e3, ek⟩ := map_inv ek
    cases ek
    obtain ⟨v, rfl, pv⟩ := rep1 p
    obtain ⟨a, vs, rfl, h1, q1⟩ := asL_rep r pv e1
    have := ints_rep q1 e2
    subst this
    refine cr_max hc pins s σ H _ us Q I rx ⟨a, ns, rfl, SqL.of h1, ?_, fun m' hm hm' => ?_⟩
    · cases ns with
      | nil => cases e3
      | cons _ _ => simp
    · rw [maxOf_spec e3 hm hm']
      exact fin0 q r (.int _)
  · cases ek
theorem cd_minL (hc : X.calm = true) : CallR X (.builtin "min") (rN (cst X) kMinL) := by
  intro pins s σ H xs us Q I rx ⟨ι, Z, h, ds, z, h', r, p, ek, q⟩
  unfold kMinL at ek
  split at ek
  · obtain ⟨l, e1, ek⟩ := bind_inv ek
    obtain ⟨ns, e2, ek⟩ := bind_inv ek
    obtain ⟨m, e3, ek⟩ := map_inv ek
    cases ek
    obtain ⟨v, rfl, pv⟩ := rep1 p
    obtain ⟨a, vs, rfl, h1, q1⟩ := asL_rep r pv e1
    have := ints_rep q1 e2
    subst this
    refine cr_min hc pins s σ H _ us Q I rx ⟨a, ns, rfl, SqL.of h1, ?_, fun m' hm hm' => ?_⟩
    · cases ns with
      | nil => cases e3
      | cons _ _ => simp
    · rw [minOf_spec e3 hm hm']
      exact fin0 q r (.int _)
  · cases ek
theorem cd_tuple : CallR X (.type "tuple") (rN (cst X) kTupleOf) := by
  intro pins s σ H xs us Q I rx ⟨ι, Z, h, ds, z, h', r, p, ek, q⟩
  unfold kTupleOf at ek
  split at ek
  · cases ek
    obtain ⟨v, rfl, pv⟩ := rep1 p
    cases pv with
    | tup t qa => exact call_tuple_of pins s σ H _ us Q I rx ⟨_, _, rfl, .inr ⟨t.sqT, fin0 q r (.tup t qa)⟩⟩
  · obtain ⟨l, e1, ek⟩ := map_inv ek
    cases ek
    obtain ⟨v, rfl, pv⟩ := rep1 p
    obtain ⟨a, vs, rfl, h1, q1⟩ := asL_rep r pv e1
    exact call_tuple_of pins s σ H _ us Q I rx ⟨a, vs, rfl, .inl ⟨SqL.of h1, fun l nl => finT q r q1 l nl⟩⟩
  · cases ek
theorem cd_list : CallR X (.type "list") (rN (cst X) kListOf) := by
  intro pins s σ H xs us Q I rx ⟨ι, Z, h, ds, z, h', r, p, ek, q⟩
  unfold kListOf at ek
  split at ek
  · obtain ⟨l, e1, ek⟩ := map_inv ek
    cases ek
    obtain ⟨v, rfl, pv⟩ := rep1 p
    obtain ⟨a, vs, rfl, h1, q1⟩ := asQ_rep r pv e1
    exact call_list_of pins s σ H _ us Q I rx ⟨a, vs, rfl, h1, fun l nl => finM q r q1 l nl⟩
  · cases ek
theorem cd_listF : CallR X (.type "list") (rN (cst X) kListOfF) := by
  intro pins s σ H xs us Q I rx ⟨ι, Z, h, ds, z, h', r, p, ek, q⟩
  unfold kListOfF at ek
  split at ek
  · obtain ⟨l, e1, ek⟩ := map_inv ek
    cases ek
    obtain ⟨v, rfl, pv⟩ := rep1 p
    obtain ⟨a, vs, rfl, h1, q1⟩ := asQ_rep r pv e1
    exact call_list_of pins s σ H _ us Q I rx ⟨a, vs, rfl, h1, fun l nl => finL q r q1 l nl⟩
  · cases ek
end
end PyD
set_option Elab.async false
set_option linter.all false
set_option maxRecDepth 100000
set_option maxHeartbeats 4000000
/-! PyS3: dicts with tuple keys. -/
namespace PyD
open PySem PySem.Spec PyProof.Rows L2

/-! ### a store, the count of the keys kept -/
section
variable {prog : Program} {w : World} {A : Around} {E : Value → Shared → Prop} {s : Shared} {d a : Addr} {k : NestedKey} {v : Value} {xs : List EntV} {o : Obj} {es : Array DictEntry} {n : Nat} {Q : Unit → Shared → Prop}
abbrev nk (P : Program) (w : World) := nestedKind P w
/-- the dict at d has just these entries, and so many keys were ever put -/
structure Dic (P : Program) (w : World) (h : Heap) (d : Addr) (n : Nat) (xs : List EntV) : Prop where
  all : ∃ (o : Obj) (es : Array DictEntry), h.get? d = some o ∧ o.ExactDict ∧ o.data = .dict es n ∧ es.toList = xs.map (entryOfKey (nk P w))
  is : ∀ x ∈ xs, (nk P w).is h x.1 x.2.1
  nd : (xs.map (·.1)).Nodup
theorem Dic.ofH {P : Program} {h : Heap} (x : Dic P w h d n xs) : h.DictOfH (nk P w) d xs := let ⟨o, es, a, b, c, e⟩ := x.all; ⟨o, es, n, a, b, c, e, x.is, x.nd⟩
theorem dict_put (hu : (nk prog w).room A) (hk : (nk prog w).is s.heap k a) (x : Dic prog w s.heap d n xs) (hsz : xs.length ≤ sizeLine)
    (q : ∀ h', Dic prog w h' d (if (atKey xs k).isSome then n else n + 1) (storedH xs k a v) → Heap.SameBut d s.heap h' → Q () { s with heap := h', toks := s.toks + (nk prog w).draws k }) :
    wpAny (model prog w) A (dictSet d (.ref a) v) Q E s := by
  obtain ⟨⟨o, es, g1, g2, g3, g4⟩, g5, g6⟩ := x
  have eSz : es.size = xs.length := size_of_entries g4
  unfold dictSet
  try with_reducible refine wpAny_holding ?_
  refine wpAny_bind ((nk prog w).pyHash hu hk ?_)
  unfold dictSetHashed
  try with_reducible refine wpAny_holding ?_
  refine wpAny_bind (wpAny_dictFind_heap (knd := nk prog w) (s := { s with toks := s.toks + (nk prog w).draws k }) hu hk g1 g3 g4 g5 g6 (fun none_ => ?_) fun j p some_ => ?_)
  · have e0 : atKey xs k = none := atKey_none_of_get none_
    have e1 := storedH_new e0 a v
    have keep : ∀ {f : Obj → Obj} {y : EntV}, (nk prog w).is s.heap y.1 y.2.1 → (nk prog w).is (s.heap.update d f) y.1 y.2.1 := fun {f y} hy => (nk prog w).keeps hy g1 g3 (Heap.SameBut.update ..)
    rw [e0, e1] at q
    refine wpAny_bind (wpAny_rule (wpAny_updateDictKeys (hz := by omega) (s := { s with toks := s.toks + (nk prog w).draws k }) g1 g3 (q _ ⟨⟨_, _, Heap.get?_update_self _ g1 (Obj.isFreed_of_dict (Obj.data_mapDictKeys g3 _)), g2.mapDictKeys _, Obj.data_mapDictKeys g3 _, ?_⟩, fun y hy => ?_, ?_⟩ (Heap.SameBut.update ..))))
    · simp [g4, entryOfKey]
    · rcases List.mem_append.mp hy with hy | hy
      · exact keep (g5 y hy)
      · obtain rfl : y = (k, a, v) := by simpa using hy
        exact keep hk
    · have nk' : k ∉ xs.map (·.1) := not_mem_keys_of_get none_
      rw [List.map_append, List.nodup_append]
      exact ⟨g6, by simp, fun y hy z hz ez => nk' (by
        obtain rfl : z = k := by simpa using hz
        rw [← ez]; exact hy)⟩
  · have e0 : atKey xs k = some p := atKey_of_get g6 some_
    have e1 := storedH_old e0 a v
    rw [e0, e1] at q
    refine wpAny_bind (wpAny_rule (wpAny_bind (wpAny_updateDict (s := { s with toks := s.toks + (nk prog w).draws k }) g1 g3 (wpAny_point (q _ ⟨⟨_, _, Heap.get?_update_self _ g1 (Obj.isFreed_of_dict (Obj.data_mapDict g3 _)), g2.mapDict _, Obj.data_mapDict g3 _, ?_⟩, fun y hy => ?_, ?_⟩ (Heap.SameBut.update ..))))))
    · have := modify_map_putAt (entryOfKey (nk prog w)) (fun e : DictEntry => { e with val := v }) k v (fun _ _ => rfl) g6 some_
      rw [← g4] at this
      obtain ⟨l⟩ := es
      simpa using this
    · obtain ⟨z, hz, rfl⟩ := List.mem_map.mp hy
      unfold putAt
      split <;> exact (nk prog w).keeps (g5 z hz) g1 g3 (Heap.SameBut.update ..)
    · rw [keys_map_putAt]; exact g6
end

/-! ### entries -/
def putW (ws : List Ent) (k : NestedKey) (u v : V) : List Ent :=
  if (ws.find? fun p => decide (p.1 = k)).isSome then ws.map fun p => if p.1 = k then (p.1, p.2.1, v) else p else ws ++ [(k, u, v)]
theorem keq_eq {k k' : D} {n n' : NestedKey} (e : D.key k = some n) (e' : D.key k' = some n') : keq k k' = decide (n = n') := by
  unfold keq
  rw [e, e']
section
variable {C : Cst} {ι ι' : List Addr} {Z : Addr → Prop} {H H' : Hp} {h : MH}
theorem find_rep {k : D} {n : NestedKey} (ek : D.key k = some n) : ∀ {kvs : List (D × D)} {ws : List Ent} {us : List EntV}, RepKV C ι Z H kvs ws → Paired EntRel ws us →
    (kvs.find? fun p => keq p.1 k).isSome = (ws.find? fun p => decide (p.1 = n)).isSome ∧ (ws.find? fun p => decide (p.1 = n)).isSome = (atKey us n).isSome ∧
      ∀ d, dLook kvs k = some d → ∃ v a u, Rep C ι Z H d v ∧ RelV v u ∧ atKey us n = some (a, u)
  | _, _, _, .nil, .nil => ⟨rfl, rfl, fun d e => by cases e⟩
  | _, _, _, .cons (nk := m) e1 z r1 r2 t, .cons (b := q) r u => by
    obtain ⟨h1, h2, h3⟩ := find_rep ek t u
    obtain ⟨q1, q2, q3⟩ := q
    obtain ⟨x1, x2, x3⟩ := r
    have x1 : m = q1 := x1
    subst x1
    have hq := keq_eq e1 ek
    unfold dLook atKey at *
    simp only [List.find?_cons]
    rw [hq]
    by_cases hm : m = n
    · subst hm
      simp only [decide_true]
      refine ⟨rfl, rfl, fun d e => ?_⟩
      cases e
      exact ⟨_, q2, q3, r2, x3, rfl⟩
    · rw [decide_eq_false hm]
      exact ⟨h1, h2, h3⟩
theorem look_some {k : D} {n : NestedKey} (ek : D.key k = some n) : ∀ {kvs : List (D × D)} {ws : List Ent}, RepKV C ι Z H kvs ws → (dLook kvs k).isSome = (ws.find? fun p => decide (p.1 = n)).isSome
  | _, _, .nil => rfl
  | _, _, .cons (nk := m) e1 z r1 r2 t => by
    have ih := look_some ek t
    unfold dLook at *
    rw [Option.isSome_map] at *
    simp only [List.find?_cons, keq_eq e1 ek]
    by_cases hm : m = n
    · simp [hm]
    · simp only [decide_eq_false hm]; exact ih
theorem put_rep {k d : D} {n : NestedKey} {u v : V} (ek : D.key k = some n) (hz : n.depth ≤ 8) (rk : Rep C ι Z H k u) (rd : Rep C ι Z H d v) {kvs : List (D × D)} {ws : List Ent} (r : RepKV C ι Z H kvs ws) :
    RepKV C ι Z H (dPut kvs k d) (putW ws n u v) := by
  have app : ∀ {kvs : List (D × D)} {ws : List Ent}, RepKV C ι Z H kvs ws → RepKV C ι Z H (kvs ++ [(k, d)]) (ws ++ [(n, u, v)]) := by
    intro kvs
    induction kvs with
    | nil => intro ws r; cases r; exact .cons ek hz rk rd .nil
    | cons p t ih => intro ws r; cases r with
      | cons e1 z r1 r2 q => exact .cons e1 z r1 r2 (ih q)
  have mp : ∀ {kvs : List (D × D)} {ws : List Ent}, RepKV C ι Z H kvs ws → RepKV C ι Z H (kvs.map fun p => if keq p.1 k = true then (p.1, d) else p) (ws.map fun p => if p.1 = n then (p.1, p.2.1, v) else p) := by
    intro kvs
    induction kvs with
    | nil => intro ws r; cases r; exact .nil
    | cons p t ih => intro ws r; cases r with
      | @cons _ _ m _ _ _ _ e1 z r1 r2 q =>
        rw [List.map_cons, List.map_cons]
        have hq := keq_eq e1 ek
        by_cases hm : m = n
        · rw [if_pos hm, if_pos (by rw [hq]; exact decide_eq_true hm)]
          exact .cons e1 z r1 rd (ih q)
        · rw [if_neg hm, if_neg (by rw [hq, decide_eq_false hm]; decide)]
          exact .cons e1 z r1 r2 (ih q)
  have hs := look_some ek r
  unfold dPut putW
  rw [hs]
  split
  · exact mp r
  · exact app r
theorem put_ent {n : NestedKey} {a : Addr} {v : V} {u : Value} (rv : RelV v u) {ws : List Ent} {us : List EntV} (p : Paired EntRel ws us) : Paired EntRel (putW ws n (.ref a) v) (storedH us n a u) := by
  have app : ∀ {ws : List Ent} {us : List EntV}, Paired EntRel ws us → Paired EntRel (ws ++ [(n, .ref a, v)]) (us ++ [(n, a, u)]) := by
    intro ws us p
    induction p with
    | nil => exact .cons ⟨rfl, rfl, rv⟩ .nil
    | cons r t ih => exact .cons r ih
  have mp : ∀ {ws : List Ent} {us : List EntV}, Paired EntRel ws us → Paired EntRel (ws.map fun p => if p.1 = n then (p.1, p.2.1, v) else p) (us.map (putAt n u)) := by
    intro ws us p
    induction p with
    | nil => exact .nil
    | @cons x y _ _ r t ih =>
      rw [List.map_cons, List.map_cons]
      refine .cons ?_ ih
      obtain ⟨x1, x2, x3⟩ := x
      obtain ⟨y1, y2, y3⟩ := y
      obtain ⟨e1, e2, e3⟩ := r
      have e1 : x1 = y1 := e1
      subst e1
      unfold putAt
      by_cases hm : x1 = n
      · simp only [hm, if_true]; exact ⟨rfl, e2, rv⟩
      · simp only [hm, if_false]; exact ⟨rfl, e2, e3⟩
  have hs : (ws.find? fun p => decide (p.1 = n)).isSome = (atKey us n).isSome := by
    clear app mp
    unfold atKey
    rw [Option.isSome_map]
    induction p with
    | nil => rfl
    | @cons x y _ _ r t ih =>
      simp only [List.find?_cons]
      rw [show y.1 = x.1 from r.1.symm]
      by_cases hm : x.1 = n
      · simp [hm]
      · simp only [decide_eq_false hm]; exact ih
  unfold putW storedH
  rw [hs]
  split
  · exact mp p
  · exact app p
theorem putW_len (ws : List Ent) (n : NestedKey) (u v : V) : (putW ws n u v).length = if (ws.find? fun p => decide (p.1 = n)).isSome then ws.length else ws.length + 1 := by
  unfold putW
  split <;> simp
end

/-! ### keys in the heap -/
section
variable {X : Cx} {pins : List (Addr × Obj)} {σ : L2.St} {H : Hp} {s : Shared} {ι : List Addr} {Z : Addr → Prop} {h : MH}
mutual
theorem nested_is (I : L2.Inv X pins σ H s) : ∀ {d : D} {v : V} {n : NestedKey} {u : Value}, Rep (cst X) ι Z H d v → D.key d = some n → RelV v u → NestedIs s.heap n u
  | _, _, _, _, .non, e, r => by cases e; cases r; exact .none
  | _, _, _, _, .bl b, e, r => by cases e; cases r; exact .bool rfl
  | _, _, _, _, .int i, e, r => by cases e; obtain ⟨t, rfl⟩ := r; exact .int i t
  | _, _, _, _, .str x, e, r => by cases e; obtain ⟨t, rfl⟩ := r; exact .text x t
  | _, _, _, _, .ref _, e, _ => by simp [D.key] at e
  | _, _, _, _, .tup t q, e, r => by
    rw [D.key] at e
    obtain ⟨ks, e1, rfl⟩ := map_inv e
    cases r
    obtain ⟨its, rv, ⟨o, g1, g2, n, g3⟩, _⟩ := I.tuple t.sqT
    exact .tup g1 g2 g3 (by simpa using nested_all I q e1 rv)
  | _, _, _, _, .lst _ _ _ _, e, _ => by simp [D.key] at e
  | _, _, _, _, .dct _ _ _ _, e, _ => by simp [D.key] at e
  | _, _, _, _, .scr _, e, _ => by simp [D.key] at e
theorem nested_all (I : L2.Inv X pins σ H s) : ∀ {ds : List D} {vs : List V} {ns : List NestedKey} {us : List Value}, RepAll (cst X) ι Z H ds vs → D.keys ds = some ns → Vals vs us → NestedAll s.heap ns us
  | _, _, _, _, .nil, e, r => by rw [D.keys] at e; cases e; cases r; exact .nil
  | _, _, _, _, .cons q t, e, r => by
    rw [D.keys] at e
    obtain ⟨n, e1, e⟩ := bind_inv e
    obtain ⟨ns, e2, rfl⟩ := map_inv e
    cases r with
    | cons r rr => exact .cons (nested_is I q e1 r) (nested_all I t e2 rr)
end
theorem kOk_inv {k : D} (e : kOk k = true) : ∃ n, D.key k = some n ∧ n.depth ≤ 8 ∧ ∀ {C : Cst} {ι : List Addr} {Z : Addr → Prop} {H : Hp} {v : V}, Rep C ι Z H k v → ∃ a, v = .ref a := by
  unfold kOk at e
  split at e
  · split at e
    · rename_i n hn
      exact ⟨n, hn, of_decide_eq_true e, fun r => by cases r; exact ⟨_, rfl⟩⟩
    · cases e
  · cases e
theorem key_is (I : L2.Inv X pins σ H s) {k : D} {a : Addr} {n : NestedKey} (r : Rep (cst X) ι Z H k (.ref a)) (e : D.key k = some n) (hz : n.depth ≤ 8) : (nk X.prog X.w).is s.heap n a := ⟨nested_is I r e rfl, hz⟩
theorem ents_is (I : L2.Inv X pins σ H s) : ∀ {kvs : List (D × D)} {ws : List Ent} {us : List EntV}, RepKV (cst X) ι Z H kvs ws → Paired EntRel ws us → ∀ x ∈ us, (nk X.prog X.w).is s.heap x.1 x.2.1
  | _, _, _, .nil, .nil, x, hx => by cases hx
  | _, _, _, .cons (nk := n) (u := u) e1 z r1 r2 t, .cons p q, x, hx => by
    rcases List.mem_cons.mp hx with rfl | hx
    · obtain ⟨x1, x2, x3⟩ := x
      obtain ⟨p1, p2, p3⟩ := p
      have p1 : n = x1 := p1
      have p2 : u = .ref x2 := p2
      subst p1 p2
      exact key_is I r1 e1 z
    · exact ents_is I t q x hx
theorem dic_of (I : L2.Inv X pins σ H s) {a : Addr} {kvs : List (D × D)} {ws : List Ent} (e : H a = some (.ext (dφ (cst X) a ws))) (r : RepKV (cst X) ι Z H kvs ws) :
    ∃ us, Dic X.prog X.w s.heap a ws.length us ∧ Paired EntRel ws us ∧ (a == sysModules) = false ∧ ws.length ≤ sizeLine := by
  obtain ⟨⟨g1, g2, o, es, us, g3, g4, g5, g6, g7, g8⟩, _⟩ := I.hok a _ e
  exact ⟨us, ⟨⟨o, es, g3, g4, g5, g6⟩, ents_is I r g7, g8⟩, g7, g1, g2⟩
theorem Dic.phi {C : Cst} {h : Heap} {a : Addr} {ws : List Ent} {us : List EntV} (x : Dic C.P C.w h a ws.length us) (p : Paired EntRel ws us) (hs : (a == sysModules) = false) (hl : ws.length ≤ sizeLine) : dφ C a ws h :=
  let ⟨o, es, g1, g2, g3, g4⟩ := x.all; ⟨hs, hl, o, es, us, g1, g2, g3, g4, p, x.nd⟩
theorem dφ.stay {C : Cst} {a : Addr} {ws : List Ent} {h1 h2 : Heap} (x : dφ C a ws h1) (k : ∀ o, h1.get? a = some o → h2.get? a = some o) : dφ C a ws h2 :=
  let ⟨g1, g2, o, es, us, g3, r⟩ := x; ⟨g1, g2, o, es, us, k o g3, r⟩
theorem dφ.obj {C : Cst} {a : Addr} {ws : List Ent} {h1 : Heap} (x : dφ C a ws h1) : ∃ o, h1.get? a = some o := let ⟨_, _, o, _, _, g3, _⟩ := x; ⟨o, g3⟩
theorem dφ.ok {C : Cst} {a : Addr} {ws : List Ent} {h1 : Heap} (x : dφ C a ws h1) {P : Program} {w : World} {H : Hp} : ObjOk P w H h1 a (.ext (dφ C a ws)) := ⟨x, x.obj, fun _ _ p k => dφ.stay p k⟩
/-- a dict is laid -/
theorem dict_new (I : L2.Inv X pins σ H s) : L2.Inv X pins σ (upd H s.heap.objs.size (.ext (dφ (cst X) s.heap.objs.size []))) { s with heap := s.heap.push { cls := .type "dict", data := .dict #[] } } := by
  refine I.laid (t' := s.toks) (fun _ _ q => Heap.get?_push_of_some _ q) (Nat.le_refl _) (dφ.ok ?_)
  refine ⟨?_, Nat.zero_le _, _, #[], [], Heap.get?_push_size _ rfl, ⟨rfl, rfl, rfl⟩, rfl, rfl, .nil, List.nodup_nil⟩
  exact (dk_empty (P := X.prog) (w := X.w) (H := H) s.heap I.big).2.1
end
end PyD
set_option Elab.async false
set_option linter.all false
set_option maxRecDepth 100000
set_option maxHeartbeats 4000000
/-! PyS4: dicts asked and changed, methods, statements. -/
namespace PyD
open PySem PySem.Spec PyProof.Rows L2

theorem room_of {A : Around} {P : Program} {w : World} (hu : A.units + 64 < cLine) : (nk P w).room A.in1 := by
  show A.in1.units + 8 < cLine
  rw [Around.in1_units]
  omega
section
variable {X : Cx} {pins : List (Addr × Obj)} {σ : L2.St} {H : Hp} {s : Shared} {ι : List Addr} {Z : Addr → Prop} {h : MH}
theorem dict_write (I : L2.Inv X pins σ H s) {a : Addr} {ws ws' : List Ent} {h' : Heap} {t : Nat} (e : H a = some (.ext (dφ (cst X) a ws))) (new : dφ (cst X) a ws' h') (sb : Heap.SameBut a s.heap h') :
    L2.Inv X pins σ (upd H a (.ext (dφ (cst X) a ws'))) { s with heap := h', toks := t } :=
  I.write (by rw [e]; exact True.intro) (.inl rfl) (fun b u hb q => (sb.2 b hb).trans q) new.obj new.ok

theorem od_inM (hu : X.A.units + 64 < cLine) : OpR X (compareOp .In) (rD (cst X) kInM) := by
  intro pins s σ H x y v u Q I rx ry ⟨ι, Z, h, d, e, z, h', r, p1, p2, ek, q⟩
  obtain ⟨kvs, e1, ek⟩ := bind_inv ek
  obtain ⟨ok, ek⟩ := ite_inv ek
  cases ek
  obtain ⟨n, hn, hz, hr⟩ := kOk_inv ok
  obtain ⟨ka, rfl⟩ := hr p1
  obtain ⟨a, ws, rfl, g1, g2⟩ := asM_rep r p2 e1
  obtain ⟨us, dic, pr, g3, g4⟩ := dic_of I g1 g2
  cases rx; cases ry
  obtain ⟨f1, f2, f3⟩ := find_rep hn g2 pr
  refine wpAny_in_heap (knd := nk X.prog X.w) (k := n) (room_of hu) (key_is I p1 hn hz) g3 dic.ofH ?_
  rw [← f2, ← look_some hn g2]
  exact ⟨.bl _, H, I.tok _, rfl, fin0 q r (.bl _)⟩
theorem od_notinM (hu : X.A.units + 64 < cLine) : OpR X (compareOp .NotIn) (rD (cst X) kNotInM) := by
  intro pins s σ H x y v u Q I rx ry ⟨ι, Z, h, d, e, z, h', r, p1, p2, ek, q⟩
  obtain ⟨kvs, e1, ek⟩ := bind_inv ek
  obtain ⟨ok, ek⟩ := ite_inv ek
  cases ek
  obtain ⟨n, hn, hz, hr⟩ := kOk_inv ok
  obtain ⟨ka, rfl⟩ := hr p1
  obtain ⟨a, ws, rfl, g1, g2⟩ := asM_rep r p2 e1
  obtain ⟨us, dic, pr, g3, g4⟩ := dic_of I g1 g2
  cases rx; cases ry
  obtain ⟨f1, f2, f3⟩ := find_rep hn g2 pr
  refine notIn_keyed (knd := nk X.prog X.w) (k := n) (room_of hu) (key_is I p1 hn hz) g3 ⟨us, dic.ofH, rfl⟩ ?_
  rw [valueAt_pairsH, Option.isSome_map, ← f2, ← look_some hn g2]
  exact ⟨.bl _, H, I.tok _, rfl, fin0 q r (.bl _)⟩
theorem od_get (hu : X.A.units + 64 < cLine) : IxR X (rD (cst X) kGet) := by
  intro value slice pins s σ H x y v u Q I rx ry ⟨ι, Z, h, d, e, z, h', r, p1, p2, ek, q⟩ hs
  obtain ⟨kvs, e1, ek⟩ := bind_inv ek
  obtain ⟨ok, ek⟩ := ite_inv ek
  obtain ⟨w, e2, ek⟩ := map_inv ek
  cases ek
  obtain ⟨n, hn, hz, hr⟩ := kOk_inv ok
  obtain ⟨ka, rfl⟩ := hr p2
  obtain ⟨a, ws, rfl, g1, g2⟩ := asM_rep r p1 e1
  obtain ⟨us, dic, pr, g3, g4⟩ := dic_of I g1 g2
  cases rx; cases ry
  obtain ⟨f1, f2, f3⟩ := find_rep hn g2 pr
  obtain ⟨vw, ka', uw, f4, f5, f6⟩ := f3 _ e2
  refine tail_any dic.ofH.typeIs PySem.F.slot_dict_getitem.lookup (wpAny_getItem_heap (knd := nk X.prog X.w) (k := n) (room_of hu) (key_is I p2 hn hz) dic.ofH f6 ?_) hs
  exact ⟨vw, H, I.tok _, f5, fin0 q r f4⟩
/-- d[k] = v -/
def setD (C : Cst) (k : Op3) : TSet := fun o i v H Q => ∃ (ι : List Addr) (Z : Addr → Prop) (h : MH) (d e z : D) (h' : MH), R C ι Z H h ∧ Rep C ι Z H d o ∧ Rep C ι Z H e i ∧ Rep C ι Z H z v ∧ k d e z h = some h' ∧
  ∀ ι' H', Ext ι H ι' H' → R C ι' Z H' h' → Q H'
theorem ixN_lt {n : Nat} {k : Int} {j : Nat} (e : ixN n k = some j) : j < n := by
  have := (ixN_seq e).2.1
  exact this
theorem sd_list : PSet X (setD (cst X) kSetL) := by
  intro pins s σ H o i v ov iv u Q I ro ri rv ⟨ι, Z, h, d, e, z, h', r, p1, p2, p3, ek, q⟩
  unfold kSetL at ek
  split at ek
  · split at ek
    · rename_i xs hx
      obtain ⟨j, e1, ek⟩ := map_inv ek
      cases ek
      cases p2
      cases p1 with
      | ref hn =>
        obtain ⟨vs, g1, g2⟩ := r.at_ _ _ _ hn hx
        refine set_list pins s σ H _ _ v ov iv u Q I ro ri rv ⟨_, vs, _, j, rfl, rfl, g1, by rw [← g2.length]; exact e1, ?_⟩
        have m := List.mem_iff_getElem?.mpr ⟨_, hn⟩
        exact q ι _ (.write m) (r.write hn ⟨_, upd_same, (g2.set j p3).ext (.write m)⟩)
    · cases ek
  · cases ek
theorem sd_dict (hu : X.A.units + 64 < cLine) : PSet X (setD (cst X) kSetM) := by
  intro pins s σ H o i v ov iv u Q I ro ri rv ⟨ι, Z, h, d, e, z, h', r, p1, p2, p3, ek, q⟩
  unfold kSetM at ek
  split at ek
  · split at ek
    · rename_i kvs hx
      obtain ⟨ok, ek⟩ := ite_inv ek
      rw [Bool.and_eq_true, decide_eq_true_eq] at ok
      obtain ⟨ok, sz⟩ := ok
      cases ek
      obtain ⟨n, hn, hz, hr⟩ := kOk_inv ok
      obtain ⟨ka, rfl⟩ := hr p2
      cases p1 with
      | @ref m a hm =>
        obtain ⟨ws, g1, g2⟩ := r.at_ _ _ _ hm hx
        obtain ⟨us, dic, pr, g3, g4⟩ := dic_of I g1 g2
        cases ro; cases ri
        obtain ⟨f1, f2, f3⟩ := find_rep hn g2 pr
        have hl : ws.length = us.length := Paired.length pr
        have hl2 := g2.length
        have key : ∀ h', Dic X.prog X.w h' a (if (atKey us n).isSome then ws.length else ws.length + 1) (storedH us n ka u) → Heap.SameBut a s.heap h' →
            ∃ H', L2.Inv X pins σ H' { s with heap := h', toks := s.toks + (nk X.prog X.w).draws n } ∧ Q H' := fun h' dic' sb => by
          have lw := putW_len ws n (.ref ka) v
          rw [f2] at lw
          rw [← lw] at dic'
          have mm := List.mem_iff_getElem?.mpr ⟨_, hm⟩
          have ph := dic'.phi (C := cst X) (put_ent rv pr) g3 (by
            rw [lw]
            have : kvs.length < sizeLine := by rw [← line_eq]; exact sz
            split <;> omega)
          exact ⟨_, dict_write I g1 ph sb, q ι _ (.write mm) (r.write hm ⟨_, upd_same, put_rep hn hz (p2.ext (.write mm)) (p3.ext (.write mm)) (RepKV.ext (.write mm) g2)⟩)⟩
        unfold setItem
        try with_reducible refine wpAny_holding ?_
        refine wpAny_bind (wpAny_sequenceKey dic.ofH.typeIs (by decide) ?_)
        refine wpAny_bind (wpAny_callSpecial?_slot (name := Str.ofString "__setitem__") dic.ofH.typeIs slot_dict_setitem
          (wpAny_call_entry slot_dict_setitem dic.ofH.typeIs entry_dict_setitem ?_ (args_dict_setitem _ _ _)))
        show wpAny _ _ (Builtin.Dict.notOrdered "__setitem__" _ >>= _) _ _ s
        refine wpAny_bind (wpAny_notOrdered_dict dic.ofH.typeIs ?_)
        show wpAny _ _ (dictSet a (.ref ka) u >>= _) _ _ s
        exact wpAny_bind (dict_put (room_of hu) (key_is I p2 hn hz) dic (by rw [← hl]; exact g4) fun h' dic' sb => wpAny_pure ⟨.none, rfl, wpAny_pure (key h' dic' sb)⟩)
    · cases ek
  · cases ek

/-! ### displays -/
variable {es : List Expr} {av : Av} {pos : Pos}
theorem dict_fin {Q : VK} {pins : List (Addr × Obj)} {σ : L2.St} {H : Hp} {s : Shared} (I : L2.Inv X pins σ H s) (r : R (cst X) ι Z H h)
    (q : ∀ v ι' H', Ext ι H ι' H' → R (cst X) ι' Z H' (h ++ [.dct []]) → Rep (cst X) ι' Z H' (.ref h.length) v → Q v H') :
    EP X pins σ Q (.ref s.heap.objs.size) { s with heap := s.heap.push { cls := .type "dict", data := .dict #[] } } := by
  have n : H s.heap.objs.size = none := I.hok.fresh (Nat.le_refl _)
  exact ⟨.ref s.heap.objs.size, _, dict_new I, rfl, q _ (ι ++ [s.heap.objs.size]) _ (.new n) (r.new n ⟨[], upd_same, .nil⟩) (.ref (by rw [← r.len]; simp))⟩
theorem se_dict0 : SE X (.Dict [] [] pos) (eN kDict0 aNil) := by
  refine ⟨fun pins s σ H Q I q => wpAny_Dict_empty ?_⟩
  obtain ⟨ι, Z, h, σd, d, h', r, rs, e, q⟩ := q
  cases e
  exact dict_fin I r q
theorem se_dict0F : SE X (.Dict [] [] pos) (eN kDict0F aNil) := by
  refine ⟨fun pins s σ H Q I q => wpAny_Dict_empty ?_⟩
  obtain ⟨ι, Z, h, σd, d, h', r, rs, e, q⟩ := q
  cases e
  have n : H s.heap.objs.size = none := I.hok.fresh (Nat.le_refl _)
  exact ⟨.ref s.heap.objs.size, _, dict_new I, rfl, q _ ι _ (.fresh n) (r.fresh n) (.dct (r.notι n) (r.notZ n) upd_same .nil)⟩

/-! ### methods -/
theorem se_m {id T : String} {name : Str} {apos cpos : Pos} {e o : Expr} {f : Ev} {k : OpM} (pa : PlainAttrs T) (slot : Slot T name id) (hty : typeOf (.builtin id) = pure (.type "method_descriptor"))
    (hm : MtR X id (rM (cst X) k)) (ty : ∀ ι Z H h d v, R (cst X) ι Z H h → Rep (cst X) ι Z H d v → (asL h d).isSome = true → tyV X.K T v H) (ho : SE X o f) (ha : SA X (e :: es) av)
    (hbase : attributeBase o name X.env (eval o X.env) = eval o X.env := by rfl)
    (hfew : ((backTo cpos (starEach (e :: es) X.env)).all (fun x => !x.1) && (backToKw cpos (keywordEach [] X.env)).all (fun x => x.1.isSome)
      && decide ((e :: es).length + ([] : List Keyword).length + (if ([] : List Keyword).isEmpty then 0 else 1) < 30)) = true := by rfl)
    (hline : (apos.endLine == cpos.line) = true := by rfl) (hs : starEach (e :: es) X.env = (false, eval e X.env) :: starEach es X.env := by rfl) (hplain : (backTo cpos (starEach es X.env)).any (·.1) = false := by rfl) :
    SE X (.Call (.Attribute o name apos) (e :: es) [] cpos) (eM k f av) := by
  refine pe_to (pe_bm pa slot hty hm ho ha hbase hfew hline hs hplain) fun σ H Q q => ?_
  obtain ⟨ι, Z, h, σd, d, h', r, rs, e, q⟩ := q
  obtain ⟨⟨x, h1⟩, ef, e⟩ := bind_inv e
  obtain ⟨hsm, e⟩ := ite_inv e
  obtain ⟨⟨ys, h2⟩, eg, e⟩ := bind_inv e
  exact ⟨ι, Z, h, σd, x, h1, r, rs, ef, fun v ι1 H1 x1 r1 p1 => ⟨ty ι1 Z H1 h1 x v r1 p1 hsm, ι1, Z, h1, σd, ys, h2, r1, rs.ext x1, eg, fun vs ι2 H2 x2 r2 p2 => ⟨ι2, Z, h2, x, ys, d, h', r2, p1.ext x2, p2, e, fun u ι3 H3 x3 r3 p3 =>
    q u ι3 H3 ((x1.trans x2).trans x3) r3 p3⟩⟩⟩
theorem se_m0 {id T : String} {name : Str} {apos cpos : Pos} {o : Expr} {f : Ev} {k : OpM} (pa : PlainAttrs T) (slot : Slot T name id) (hty : typeOf (.builtin id) = pure (.type "method_descriptor"))
    (hm : MtR X id (rM (cst X) k)) (ty : ∀ ι Z H h d v, R (cst X) ι Z H h → Rep (cst X) ι Z H d v → (asL h d).isSome = true → tyV X.K T v H) (ho : SE X o f)
    (hbase : attributeBase o name X.env (eval o X.env) = eval o X.env := by rfl) (hline : (apos.endLine == cpos.line) = true := by rfl) :
    SE X (.Call (.Attribute o name apos) [] [] cpos) (eM k f aNil) := by
  refine pe_to (pe_bm0 pa slot hty hm ho hbase hline) fun σ H Q q => ?_
  obtain ⟨ι, Z, h, σd, d, h', r, rs, e, q⟩ := q
  obtain ⟨⟨x, h1⟩, ef, e⟩ := bind_inv e
  obtain ⟨hsm, e⟩ := ite_inv e
  exact ⟨ι, Z, h, σd, x, h1, r, rs, ef, fun v ι1 H1 x1 r1 p1 => ⟨ty ι1 Z H1 h1 x v r1 p1 hsm, ι1, Z, h1, x, [], d, h', r1, p1, .nil, e, fun u ι3 H3 x3 r3 p3 => q u ι3 H3 (x1.trans x3) r3 p3⟩⟩
theorem tyL {K : PySem.W.Frag} {C : Cst} {ι : List Addr} {Z : Addr → Prop} {H : Hp} {h : MH} {d : D} {v : V} (hK : C.K = K) (r : R C ι Z H h) (p : Rep C ι Z H d v) (e : (asL h d).isSome = true) : tyV K "list" v H := by
  obtain ⟨xs, e1⟩ := Option.isSome_iff_exists.mp e
  obtain ⟨a, vs, rfl, h1, q1⟩ := asL_rep r p e1
  exact .inl ⟨rfl, vs, SqL.of h1⟩
theorem md_append : MtR X "list.append" (rM (cst X) mAppend) := by
  intro pins s σ H x xs v us Q I rx rxs ⟨ι, Z, h, d, ds, z, h', r, p1, p2, ek, q⟩
  unfold mAppend at ek
  split at ek
  · split at ek
    · rename_i l hx
      obtain ⟨hl, ek⟩ := ite_inv ek
      cases ek
      obtain ⟨w, rfl, pw⟩ := rep1 p2
      cases p1 with
      | ref hn =>
        obtain ⟨vs, g1, g2⟩ := r.at_ _ _ _ hn hx
        have m := List.mem_iff_getElem?.mpr ⟨_, hn⟩
        refine mt_append pins s σ H _ _ v us Q I rx rxs ⟨_, vs, w, rfl, rfl, g1, by rw [← line_eq, ← g2.length]; exact hl, ?_⟩
        exact q _ ι _ (.write m) (r.write hn ⟨_, upd_same, ((g2.append (.cons pw .nil)).ext (.write m))⟩) .non
    · cases ek
  · cases ek
theorem md_extend : MtR X "list.extend" (rM (cst X) mExtend) := by
  intro pins s σ H x xs v us Q I rx rxs ⟨ι, Z, h, d, ds, z, h', r, p1, p2, ek, q⟩
  unfold mExtend at ek
  split at ek
  · split at ek
    · rename_i l hx
      obtain ⟨l', e1, ek⟩ := bind_inv ek
      obtain ⟨⟨hl, hne⟩, ek⟩ := ite_inv ek
      cases ek
      obtain ⟨w, rfl, pw⟩ := rep1 p2
      cases p1 with
      | ref hn =>
        obtain ⟨vs, g1, g2⟩ := r.at_ _ _ _ hn hx
        obtain ⟨b, us', rfl, g3, g4⟩ := asL_rep r pw e1
        have m := List.mem_iff_getElem?.mpr ⟨_, hn⟩
        refine mt_extend pins s σ H _ _ v us Q I rx rxs ⟨_, b, vs, us', rfl, rfl, g1, g3, by rw [← line_eq, ← g2.length, ← g4.length]; exact hl, ?_⟩
        exact q _ ι _ (.write m) (r.write hn ⟨_, upd_same, ((g2.append g4).ext (.write m))⟩) .non
    · cases ek
  · cases ek
theorem md_pop : MtR X "list.pop" (rM (cst X) mPop) := by
  intro pins s σ H x xs v us Q I rx rxs ⟨ι, Z, h, d, ds, z, h', r, p1, p2, ek, q⟩
  unfold mPop at ek
  split at ek
  · split at ek
    · rename_i l hx
      obtain ⟨y, e1, ek⟩ := map_inv ek
      cases ek
      cases p2
      cases p1 with
      | ref hn =>
        obtain ⟨vs, g1, g2⟩ := r.at_ _ _ _ hn hx
        obtain ⟨w, e2, pw⟩ := g2.get e1
        have m := List.mem_iff_getElem?.mpr ⟨_, hn⟩
        refine mt_pop pins s σ H _ _ v us Q I rx rxs ⟨_, vs, w, rfl, rfl, g1, by rw [← g2.length]; exact e2, ?_⟩
        exact q _ ι _ (.write m) (r.write hn ⟨_, upd_same, g2.dropLast.ext (.write m)⟩) (pw.ext (.write m))
    · cases ek
  · cases ek
theorem md_pop0 : MtR X "list.pop" (rM (cst X) mPop0) := by
  intro pins s σ H x xs v us Q I rx rxs ⟨ι, Z, h, d, ds, z, h', r, p1, p2, ek, q⟩
  unfold mPop0 at ek
  split at ek
  · split at ek
    · rename_i y l hx
      obtain ⟨rfl, ek⟩ := ite_inv ek
      cases ek
      obtain ⟨w, rfl, pw⟩ := rep1 p2
      cases pw
      cases p1 with
      | ref hn =>
        obtain ⟨vs, g1, g2⟩ := r.at_ _ _ _ hn hx
        cases g2 with
        | @cons _ u _ us' g2 g3 =>
          have m := List.mem_iff_getElem?.mpr ⟨_, hn⟩
          refine mt_popAt pins s σ H _ _ v us Q I rx rxs ⟨_, _, 0, 0, u, rfl, rfl, g1, by decide, by decide, ?_, rfl, ?_⟩
          · rw [List.length_cons]
            exact (ixN_seq (by unfold ixN; rw [if_pos (by decide), if_pos (by omega)]; rfl)).1
          · exact q _ ι _ (.write m) (r.write hn ⟨_, upd_same, g3.ext (.write m)⟩) (g2.ext (.write m))
    · cases ek
  · cases ek
end
end PyD
set_option Elab.async false
set_option linter.all false
set_option maxRecDepth 100000
set_option maxHeartbeats 4000000
/-! PyS5: statements, loops. -/
namespace PyD
open PySem PySem.Spec PyProof.Rows L2

/-! ### another view of the same things -/
structure Tr (ι : List Addr) (Z : Addr → Prop) (H : Hp) (ι' : List Addr) (Z' : Addr → Prop) (H' : Hp) : Prop where
  ix : ∀ (n : Nat) (a : Addr), ι[n]? = some a → ι'[n]? = some a
  tu : ∀ (a : Addr) (vs : List V), a ∉ ι → H a = some (.tup vs) → a ∉ ι' ∧ H' a = some (.tup vs)
  fz : ∀ (a : Addr) (o : HO), a ∉ ι → ¬ Z a → H a = some o → a ∉ ι' ∧ ¬ Z' a ∧ H' a = some o
section
variable {C : Cst} {ι ι' : List Addr} {Z Z' : Addr → Prop} {H H' : Hp}
theorem ScrA.tr (x : Tr ι Z H ι' Z' H') {a : Addr} {ns : List Int} (h : ScrA C ι Z H a ns) : ScrA C ι' Z' H' a ns := by
  rcases h with ⟨o, h1, h2, h3⟩ | h
  · obtain ⟨a1, a2, a3⟩ := x.fz _ _ h1 h2 h3
    exact .inl ⟨o, a1, a2, a3⟩
  · exact .inr h
mutual
theorem Rep.tr (x : Tr ι Z H ι' Z' H') : ∀ {d : D} {v : V}, Rep C ι Z H d v → Rep C ι' Z' H' d v
  | _, _, .non => .non
  | _, _, .bl b => .bl b
  | _, _, .int i => .int i
  | _, _, .str z => .str z
  | _, _, .ref h => .ref (x.ix _ _ h)
  | _, _, .tup (.inl ⟨h1, h2⟩) r => .tup (.inl (x.tu _ _ h1 h2)) (RepAll.tr x r)
  | _, _, .tup (.inr h) r => .tup (.inr h) (RepAll.tr x r)
  | _, _, .lst h1 h2 h3 r => let ⟨a, b, c⟩ := x.fz _ _ h1 h2 h3; .lst a b c (RepAll.tr x r)
  | _, _, .dct h1 h2 h3 r => let ⟨a, b, c⟩ := x.fz _ _ h1 h2 h3; .dct a b c (RepKV.tr x r)
  | _, _, .scr h => .scr (ScrA.tr x h)
theorem RepAll.tr (x : Tr ι Z H ι' Z' H') : ∀ {ds : List D} {vs : List V}, RepAll C ι Z H ds vs → RepAll C ι' Z' H' ds vs
  | _, _, .nil => .nil
  | _, _, .cons r t => .cons (Rep.tr x r) (RepAll.tr x t)
theorem RepKV.tr (x : Tr ι Z H ι' Z' H') : ∀ {ks : List (D × D)} {ws : List Ent}, RepKV C ι Z H ks ws → RepKV C ι' Z' H' ks ws
  | _, _, .nil => .nil
  | _, _, .cons k z r1 r2 t => .cons k z (Rep.tr x r1) (Rep.tr x r2) (RepKV.tr x t)
end
theorem RS.tr {σd : Sg} {σ : L2.St} (x : Tr ι Z H ι' Z' H') (r : RS C ι Z H σd σ) : RS C ι' Z' H' σd σ := ⟨r.1, fun i d e => let ⟨v, a, b⟩ := r.2 i d e; ⟨v, a, b.tr x⟩⟩
theorem ORep.tr {o : MO} {a : Addr} (x : Tr ι Z H ι' Z' H') (s : H' a = H a) (r : ORep C ι Z H o a) : ORep C ι' Z' H' o a := by
  cases o with
  | lst xs => obtain ⟨vs, e, q⟩ := r; exact ⟨vs, s.trans e, q.tr x⟩
  | dct kvs => obtain ⟨vs, e, q⟩ := r; exact ⟨vs, s.trans e, q.tr x⟩
  | ins c fs => obtain ⟨Ca, dx, fv, e, k, q1, q2⟩ := r; exact ⟨Ca, dx, fv, s.trans e, k, q1, q2.tr x⟩
/-- p, new, is laid by and kept from all -/
def Zp (Z : Addr → Prop) (p : Addr) : Addr → Prop := fun a => Z a ∨ a = p
theorem Tr.hide {p : Addr} {o : HO} (n : H p = none) (np : p ∉ ι) : Tr ι Z H ι (Zp Z p) (upd H p o) :=
  ⟨fun _ _ h => h, fun a vs h1 h2 => ⟨h1, by rw [upd_ne (ne_of_none h2 n)]; exact h2⟩, fun a u h1 h2 h3 => ⟨h1, fun z => z.elim h2 (fun e => by subst e; rw [n] at h3; cases h3), by rw [upd_ne (ne_of_none h3 n)]; exact h3⟩⟩
theorem R.hide {h : MH} {p : Addr} {o : HO} (r : R C ι Z H h) (n : H p = none) : R C ι (Zp Z p) (upd H p o) h := by
  have np := r.notι n
  refine ⟨r.len, r.nd, fun a z => ?_, fun a ha z => ?_, fun k a u e1 e2 => (r.at_ k a u e1 e2).tr (.hide n np) (upd_ne fun q => ?_)⟩
  · rcases z with z | rfl
    · exact (Ext.fresh (ι := ι) n).live a (r.live a z)
    · rw [upd_same]; exact nofun
  · rcases z with z | rfl
    · exact r.apart a ha z
    · exact np ha
  · subst q; exact np (List.mem_iff_getElem?.mpr ⟨k, e1⟩)
/-- what was kept is shown: as a thing of its own .. -/
theorem Tr.show_ {p : Addr} {o : HO} (np : p ∉ ι) (nt : ∀ vs, H p ≠ some (.tup vs)) : Tr ι (Zp Z p) H (ι ++ [p]) Z (upd H p o) :=
  ⟨fun n a h => by rw [List.getElem?_append_left (List.getElem?_eq_some_iff.mp h).1]; exact h,
    fun a vs h1 h2 => have e : a ≠ p := fun e => by subst e; exact nt vs h2
      ⟨fun m => (List.mem_append.mp m).elim h1 fun m => e (by simpa using m), by rw [upd_ne e]; exact h2⟩,
    fun a u h1 h2 h3 => have e : a ≠ p := fun e => h2 (.inr e)
      ⟨fun m => (List.mem_append.mp m).elim h1 fun m => e (by simpa using m), fun z => h2 (.inl z), by rw [upd_ne e]; exact h3⟩⟩
/-- .. or as data -/
theorem Tr.data {p : Addr} {o : HO} (np : p ∉ ι) (nt : ∀ vs, H p ≠ some (.tup vs)) : Tr ι (Zp Z p) H ι Z (upd H p o) :=
  ⟨fun n a h => h, fun a vs h1 h2 => have e : a ≠ p := fun e => by subst e; exact nt vs h2
      ⟨h1, by rw [upd_ne e]; exact h2⟩,
    fun a u h1 h2 h3 => have e : a ≠ p := fun e => h2 (.inr e)
      ⟨h1, fun z => h2 (.inl z), by rw [upd_ne e]; exact h3⟩⟩
theorem R.data {h : MH} {p : Addr} {o : HO} (r : R C ι (Zp Z p) H h) (nt : ∀ vs, H p ≠ some (.tup vs)) : R C ι Z (upd H p o) h := by
  have np : p ∉ ι := fun m => r.apart p m (.inr rfl)
  refine ⟨r.len, r.nd, fun a z => ?_, fun a ha z => r.apart a ha (.inl z), fun k a u e1 e2 => (r.at_ k a u e1 e2).tr (.data np nt) (upd_ne fun q => ?_)⟩
  · by_cases e : a = p
    · subst e; rw [upd_same]; exact nofun
    · rw [upd_ne e]; exact r.live a (.inl z)
  · subst q; exact np (List.mem_iff_getElem?.mpr ⟨k, e1⟩)
theorem R.show_ {h : MH} {p : Addr} {o : HO} {u : MO} (r : R C ι (Zp Z p) H h) (nz : ¬ Z p) (nt : ∀ vs, H p ≠ some (.tup vs)) (x : ORep C (ι ++ [p]) Z (upd H p o) u p) : R C (ι ++ [p]) Z (upd H p o) (h ++ [u]) := by
  have np : p ∉ ι := fun m => r.apart p m (.inr rfl)
  refine ⟨by simp [r.len], ?_, fun a z => ?_, fun a ha z => ?_, fun k a w e1 e2 => ?_⟩
  · rw [List.nodup_append]
    exact ⟨r.nd, by simp, fun a ha b hb => by simp at hb; subst hb; intro q; subst q; exact np ha⟩
  · by_cases e : a = p
    · subst e; rw [upd_same]; exact nofun
    · rw [upd_ne e]; exact r.live a (.inl z)
  · rcases List.mem_append.mp ha with q | q
    · exact r.apart a q (.inl z)
    · simp at q; subst q; exact nz z
  · by_cases hk : k < ι.length
    · rw [List.getElem?_append_left hk] at e1
      rw [List.getElem?_append_left (by rw [← r.len]; exact hk)] at e2
      exact (r.at_ k a w e1 e2).tr (.show_ np nt) (upd_ne (fun q => by subst q; exact np (List.mem_iff_getElem?.mpr ⟨k, e1⟩)))
    · have h1 : k = ι.length := by
        have := (List.getElem?_eq_some_iff.mp e1).1
        simp at this; omega
      subst h1
      simp at e1; subst e1
      rw [r.len] at e2
      simp at e2; subst e2
      exact x
theorem Ext.show_ {ι0 : List Addr} {H0 : Hp} {p : Addr} {o : HO} (n : H0 p = none) (x : Ext ι0 H0 ι H) : Ext ι0 H0 (ι ++ [p]) (upd H p o) := by
  obtain ⟨new, e, f⟩ := x.pre
  refine ⟨⟨new ++ [p], by rw [e, List.append_assoc], fun b hb => ?_⟩, fun a u h1 h2 => ?_, fun a h1 => ?_⟩
  · rcases List.mem_append.mp hb with q | q
    · exact f b q
    · simp at q; subst q; exact n
  · rw [upd_ne (ne_of_none h1 n)]; exact x.un a u h1 h2
  · by_cases q : a = p
    · subst q; rw [upd_same]; exact nofun
    · rw [upd_ne q]; exact x.live a h1
theorem Ext.data {ι0 : List Addr} {H0 : Hp} {p : Addr} {o : HO} (n : H0 p = none) (x : Ext ι0 H0 ι H) : Ext ι0 H0 ι (upd H p o) := by
  refine ⟨x.pre, fun a u h1 h2 => ?_, fun a h1 => ?_⟩
  · rw [upd_ne (ne_of_none h1 n)]; exact x.un a u h1 h2
  · by_cases q : a = p
    · subst q; rw [upd_same]; exact nofun
    · rw [upd_ne q]; exact x.live a h1
end

/-! ### targets -/
/-- only the slots is may differ -/
def Fr (is : List Nat) (σ σ' : L2.St) : Prop := σ'.length = σ.length ∧ ∀ i, i ∉ is → σ'[i]? = σ[i]?
theorem Fr.refl (is : List Nat) (σ : L2.St) : Fr is σ σ := ⟨rfl, fun _ _ => rfl⟩
theorem Fr.set {i : Nat} {σ : L2.St} {v : Option V} : Fr [i] σ (σ.set i v) := ⟨by simp, fun j hj => by
  rw [List.getElem?_set_ne (fun e => hj (by simp [e]))]⟩
theorem Fr.trans {is js : List Nat} {σ σ1 σ2 : L2.St} (a : Fr is σ σ1) (b : Fr js σ1 σ2) : Fr (is ++ js) σ σ2 := ⟨b.1.trans a.1, fun i hi =>
  (b.2 i fun h => hi (List.mem_append_right _ h)).trans (a.2 i fun h => hi (List.mem_append_left _ h))⟩
theorem wipe_at (σ : L2.St) : ∀ (vs : List Nat) (i : Nat), (L2.wipe σ vs)[i]? = if i ∈ vs ∧ i < σ.length then some none else σ[i]?
  | [], i => by simp [L2.wipe]
  | v :: vs, i => by
    rw [L2.wipe, List.getElem?_set]
    have ih := wipe_at σ vs i
    have hl := wipe_length σ vs
    by_cases e : v = i
    · subst e
      rw [if_pos rfl]
      by_cases h : v < σ.length
      · rw [if_pos (by rw [hl]; exact h), if_pos ⟨by simp, h⟩]
      · rw [if_neg (by rw [hl]; exact h), if_neg (fun q => h q.2), List.getElem?_eq_none (by omega)]
    · rw [if_neg e, ih]
      have : (i ∈ v :: vs ∧ i < σ.length) ↔ (i ∈ vs ∧ i < σ.length) := by
        rw [List.mem_cons]
        exact ⟨fun q => ⟨q.1.resolve_left (fun h => e h.symm), q.2⟩, fun q => ⟨.inr q.1, q.2⟩⟩
      simp only [this]
theorem Fr.wipe {is vs : List Nat} {σ σ' : L2.St} (f : Fr is σ σ') (h : ∀ i ∈ is, i ∈ vs) : L2.wipe σ' vs = L2.wipe σ vs := by
  apply List.ext_getElem?
  intro i
  rw [wipe_at, wipe_at, f.1]
  split
  · rfl
  · rename_i hn
    by_cases hi : i ∈ is
    · have : ¬ i < σ.length := fun q => hn ⟨h i hi, q⟩
      rw [List.getElem?_eq_none (by rw [f.1]; omega), List.getElem?_eq_none (by omega)]
    · exact f.2 i hi
def tG (C : Cst) (is : List Nat) (g : Tg) : TG := fun v σ H Q => ∃ (ι : List Addr) (Z : Addr → Prop) (h : MH) (d : D) (σd σd' : Sg), R C ι Z H h ∧ RS C ι Z H σd σ ∧ Rep C ι Z H d v ∧ g d σd = some σd' ∧
  ∀ σ', RS C ι Z H σd' σ' → Fr is σ σ' → Q σ' H
def tGs (C : Cst) (is : List Nat) (gs : List Tg) : TGs := fun vs σ H Q => ∃ (ι : List Addr) (Z : Addr → Prop) (h : MH) (ds : List D) (σd σd' : Sg), R C ι Z H h ∧ RS C ι Z H σd σ ∧ RepAll C ι Z H ds vs ∧ gAll gs ds σd = some σd' ∧
  ∀ σ', RS C ι Z H σd' σ' → Fr is σ σ' → Q σ' H
abbrev SG (X : Cx) (tg : Expr) (is : List Nat) (g : Tg) : Prop := PG X tg (tG (cst X) is g)
abbrev SGs (X : Cx) (tg : List Expr) (is : List Nat) (g : List Tg) : Prop := PGs X tg (tGs (cst X) is g)
theorem pg_to {X : Cx} {e : Expr} {t t' : TG} (h : PG X e t) (w : ∀ v σ H Q, t' v σ H Q → t v σ H Q) : PG X e t' := ⟨fun pins s σ H v u Q I r q => h.run pins s σ H v u Q I r (w v σ H Q q)⟩
theorem pgs_to {X : Cx} {e : List Expr} {t t' : TGs} (h : PGs X e t) (w : ∀ v σ H Q, t' v σ H Q → t v σ H Q) : PGs X e t' := ⟨fun pins s σ H v u Q I r q => h.run pins s σ H v u Q I r (w v σ H Q q)⟩
section
variable {X : Cx} {pos : Pos}
theorem sg_name (i : Nat) {x : Str} (hN : X.N.Nodup) (hi : X.N[i]? = some x) (hx : Loc X.env.scope x) (hf : X.fn x = true ∨ X.env.scope.names.lookup x = some .local := by first | exact .inl rfl | exact .inr rfl | assumption) : SG X (.Name x pos) [i] (gN i) := by
  refine pg_to (pg_name hN hi hx hf) fun v σ H Q q => ?_
  obtain ⟨ι, Z, h, d, σd, σd', r, rs, p, e, q⟩ := q
  obtain ⟨_, e⟩ := ite_inv e
  cases e
  exact q _ (rs.set i p) .set
theorem sgs_nil : SGs X [] [] [] := by
  refine pgs_to pgs_nil fun v σ H Q q => ?_
  obtain ⟨ι, Z, h, ds, σd, σd', r, rs, p, e, q⟩ := q
  cases p with
  | nil => rw [gAll] at e; cases e; exact ⟨rfl, q _ rs (.refl _ _)⟩
  | cons _ _ => rw [gAll] at e; cases e; all_goals exact nofun
theorem sgs_cons {e : Expr} {es : List Expr} {is js : List Nat} {g : Tg} {gs : List Tg} (h1 : SG X e is g) (h2 : SGs X es js gs)
    (hs : (assignEach (e :: es) X.env).map (·.2) = assign e X.env :: (assignEach es X.env).map (·.2) := by rfl) : SGs X (e :: es) (is ++ js) (g :: gs) := by
  refine pgs_to (pgs_cons h1 h2 hs) fun v σ H Q q => ?_
  obtain ⟨ι, Z, h, ds, σd, σd', r, rs, p, e, q⟩ := q
  cases p with
  | nil => rw [gAll] at e; cases e; all_goals exact nofun
  | cons p1 p2 =>
    rw [gAll] at e
    obtain ⟨σ1, e1, e2⟩ := bind_inv e
    exact ⟨_, _, rfl, ι, Z, h, _, σd, σ1, r, rs, p1, e1, fun σ' rs' f1 => ⟨ι, Z, h, _, σ1, σd', r, rs', p2, e2, fun σ'' rs'' f2 => q σ'' rs'' (f1.trans f2)⟩⟩
theorem gAll_len : ∀ {gs : List Tg} {ds : List D} {σ σ' : Sg}, gAll gs ds σ = some σ' → ds.length = gs.length
  | [], [], _, _, _ => rfl
  | g :: gs, d :: ds, _, _, e => by
    rw [gAll] at e
    obtain ⟨_, _, e⟩ := bind_inv e
    simp [gAll_len e]
  | [], _ :: _, _, _, e => by cases e
  | _ :: _, [], _, _, e => by cases e
theorem sg_tup {es : List Expr} {k : Nat} {is : List Nat} {gs : List Tg} {n : Nat} (hc : X.calm = true) (h : SGs X es is gs) (hg : gs.length = n := by rfl)
    (hn : (assignEach es X.env).length = n := by rfl) (hst : (assignEach es X.env).findIdx? (·.1) = none := by rfl) : SG X (.Tuple es k pos) is (gT gs) := by
  refine ⟨fun pins s σ H v u Q I rv q => ?_⟩
  obtain ⟨ι, Z, hh, d, σd, σd', r, rs, p, e, q⟩ := q
  cases p with
  | tup t qa => exact (pg_tup hc h hn hst).run pins s σ H _ u Q I rv ⟨_, _, rfl, t.sqT, by rw [← qa.length, gAll_len e, hg], ι, Z, hh, _, σd, σd', r, rs, qa, e, q⟩
  | lst h1 h2 h3 qa => exact (pg_unl hc h hn hst).run pins s σ H _ u Q I rv ⟨_, _, rfl, SqL.of h3, by rw [← qa.length, gAll_len e, hg], ι, Z, hh, _, σd, σd', r, rs, qa, e, q⟩
  | non => cases e
  | bl _ => cases e
  | int _ => cases e
  | str _ => cases e
  | ref _ => cases e
  | dct _ _ _ _ => cases e
  | scr _ => cases e

/-! ### small statements -/
variable {st : Stmt} {rest : List Stmt} {e c o i a : Expr} {es : List Expr} {f g : Ev} {fo fi fe : Ev} {tf : Tv} {sf sg : Sv} {tg : Tg} {is : List Nat}
theorem ss_nil : SSs X [] sNil := pss_to pss_nil fun E σ H q => by
  obtain ⟨ι, Z, h, σd, fl, σd', h', r, rs, e, q⟩ := q
  cases e
  exact q ι H σ (.refl _ _) r rs
theorem tSeq_of {C : Cst} {E : Ends} {σ : L2.St} {H : Hp} (q : tS C (sSeq sf sg) E σ H) : tSeq (tS C sf) (tS C sg) E σ H := by
  obtain ⟨ι, Z, h, σd, fl, σd', h', r, rs, e, q⟩ := q
  obtain ⟨⟨fl1, σ1, h1⟩, ef, e⟩ := bind_inv e
  refine ⟨ι, Z, h, σd, fl1, σ1, h1, r, rs, ef, fun ι1 H1 σv1 x1 r1 rs1 => ?_⟩
  cases fl1 with
  | nx => exact ⟨ι1, Z, h1, σ1, fl, σd', h', r1, rs1, e, fun ι2 H2 σv2 x2 r2 rs2 => q ι2 H2 σv2 (x1.trans x2) r2 rs2⟩
  | bk => cases e; exact q ι1 H1 σv1 x1 r1 rs1
  | ct => cases e; exact q ι1 H1 σv1 x1 r1 rs1
  | rt d => cases e; exact q ι1 H1 σv1 x1 r1 rs1
theorem ss_cons (h1 : SS X st sf) (h2 : SSs X rest sg) : SSs X (st :: rest) (sSeq sf sg) := pss_to (pss_cons h1 h2) fun _ _ _ q => tSeq_of q
theorem ss_one (h1 : SS X st sf) : SSs X [st] sf := pss_one h1
theorem ss_pass : SS X (.Pass pos) sNil := ps_to ps_pass fun E σ H q => by
  obtain ⟨ι, Z, h, σd, fl, σd', h', r, rs, e, q⟩ := q
  cases e
  exact q ι H σ (.refl _ _) r rs
theorem ss_cont : SS X (.Continue pos) sCont := ps_to ps_continue fun E σ H q => by
  obtain ⟨ι, Z, h, σd, fl, σd', h', r, rs, e, q⟩ := q
  cases e
  exact q ι H σ (.refl _ _) r rs
theorem ss_break : SS X (.Break pos) sBreak := ps_to ps_break fun E σ H q => by
  obtain ⟨ι, Z, h, σd, fl, σd', h', r, rs, e, q⟩ := q
  cases e
  exact q ι H σ (.refl _ _) r rs
theorem ss_never : SS X st sNever := ps_to ps_never fun E σ H q => by
  obtain ⟨ι, Z, h, σd, fl, σd', h', r, rs, e, q⟩ := q
  cases e
theorem sss_never : SSs X rest sNever := pss_to pss_never fun E σ H q => by
  obtain ⟨ι, Z, h, σd, fl, σd', h', r, rs, e, q⟩ := q
  cases e
theorem ss_expr (he : SE X e f) (hs : swapsWith e none pos.line X.env = pure false := by rfl) : SS X (.Expr e pos) (sExpr f) := ps_to (ps_expr he hs) fun E σ H q => by
  obtain ⟨ι, Z, h, σd, fl, σd', h', r, rs, e, q⟩ := q
  obtain ⟨⟨x, h1⟩, ef, e⟩ := bind_inv e
  cases e
  exact ⟨ι, Z, h, σd, x, _, r, rs, ef, fun v ι1 H1 x1 r1 p1 => q ι1 H1 σ x1 r1 (rs.ext x1)⟩
theorem ss_ret (he : SE X e f) : SS X (.Return (some e) pos) (sRet f) := ps_to (ps_ret he) fun E σ H q => by
  obtain ⟨ι, Z, h, σd, fl, σd', h', r, rs, e, q⟩ := q
  obtain ⟨⟨x, h1⟩, ef, e⟩ := bind_inv e
  cases e
  exact ⟨ι, Z, h, σd, x, _, r, rs, ef, fun v ι1 H1 x1 r1 p1 => q ι1 H1 σ x1 r1 (rs.ext x1) v p1⟩
theorem ss_if {b : List Stmt} {d : List Stmt} (hc : ST X c tf) (ha : SSs X b sf) (hb : SSs X d sg) : SS X (.If c b d pos) (sIf tf sf sg) := ps_to (ps_if hc ha hb) fun E σ H q => by
  obtain ⟨ι, Z, h, σd, fl, σd', h', r, rs, e, q⟩ := q
  obtain ⟨⟨x, h1⟩, ef, e⟩ := bind_inv e
  refine ⟨ι, Z, h, σd, x, h1, r, rs, ef, fun ι1 H1 x1 r1 => ?_⟩
  cases x with
  | true =>
    rw [if_pos rfl] at e
    rw [if_pos rfl]
    exact ⟨ι1, Z, h1, σd, fl, σd', h', r1, rs.ext x1, e, fun ι2 H2 σ2 x2 r2 rs2 => q ι2 H2 σ2 (x1.trans x2) r2 rs2⟩
  | false =>
    rw [if_neg Bool.false_ne_true] at e
    rw [if_neg Bool.false_ne_true]
    exact ⟨ι1, Z, h1, σd, fl, σd', h', r1, rs.ext x1, e, fun ι2 H2 σ2 x2 r2 rs2 => q ι2 H2 σ2 (x1.trans x2) r2 rs2⟩
theorem tAsg_of {C : Cst} {E : Ends} {σ : L2.St} {H : Hp} (q : tS C (sSet tg f) E σ H) : tAsg (tE C f) (tG C is tg) E σ H := by
  obtain ⟨ι, Z, h, σd, fl, σd', h', r, rs, e, q⟩ := q
  obtain ⟨⟨x, h1⟩, ef, e⟩ := bind_inv e
  obtain ⟨σ1, eg, e⟩ := bind_inv e
  cases e
  exact ⟨ι, Z, h, σd, x, _, r, rs, ef, fun v ι1 H1 x1 r1 p1 => ⟨ι1, Z, _, x, σd, _, r1, rs.ext x1, p1, eg, fun σ' rs' _ => q ι1 H1 σ' x1 r1 rs'⟩⟩
theorem ss_asg (he : SE X e f) (hg : SG X a is tg) (hs : swapsWithSole [a] e pos.line X.env = pure false := by rfl) (hw : swappedStores [a] e X.env = pure none := by rfl)
    (h1 : (assignEach [a] X.env).map (·.2) = [assign a X.env] := by rfl) : SS X (.Assign [a] e pos) (sSet tg f) := ps_to (ps_asg he hg hs hw h1) fun _ _ _ q => tAsg_of q
theorem ss_set (i : Nat) {x : Str} {pos' : Pos} (hN : X.N.Nodup) (hi : X.N[i]? = some x) (hx : Loc X.env.scope x) (he : SE X e f) (hs : swapsWith e (some (.Name x pos')) pos.line X.env = pure false := by rfl) (hf : X.fn x = true ∨ X.env.scope.names.lookup x = some .local := by first | exact .inl rfl | exact .inr rfl | assumption) :
    SS X (.Assign [.Name x pos'] e pos) (sSet (gN i) f) := ps_to (ps_set hN hi hx he hs hf) fun E σ H q => by
  obtain ⟨ι, Z, h, σd, fl, σd', h', r, rs, e, q⟩ := q
  obtain ⟨⟨x, h1⟩, ef, e⟩ := bind_inv e
  obtain ⟨σ1, eg, e⟩ := bind_inv e
  obtain ⟨_, eg⟩ := ite_inv eg
  cases eg; cases e
  exact ⟨ι, Z, h, σd, x, _, r, rs, ef, fun v ι1 H1 x1 r1 p1 => q ι1 H1 _ x1 r1 ((rs.ext x1).set i p1)⟩
/-- a, b = e1, e2 with plain local names -/
theorem ss_par (i j : Nat) {x y : Str} {a b : Expr} {px py pt : Pos} {kt k2 pt2} (hc : X.calm = true) (hN : X.N.Nodup) (hi : X.N[i]? = some x) (hj : X.N[j]? = some y) (hij : i ≠ j)
    (hx : X.env.scope.names.lookup x = some .local) (hy : X.env.scope.names.lookup y = some .local) (ha : SE X a f) (hb : SE X b g) (hsa : starEach [a, b] X.env = (false, eval a X.env) :: starEach [b] X.env := by rfl) (hsb : starEach [b] X.env = (false, eval b X.env) :: starEach [] X.env := by rfl)
    (hw : swappedStores [.Tuple [.Name x px, .Name y py] kt pt] (.Tuple [a, b] k2 pt2) X.env = pure (some [x, y]))
    (hs : swapsWithSole [.Tuple [.Name x px, .Name y py] kt pt] (.Tuple [a, b] k2 pt2) pos.line X.env = pure false := by rfl) :
    SS X (.Assign [.Tuple [.Name x px, .Name y py] kt pt] (.Tuple [a, b] k2 pt2) pos) (sSet (gT [gN i, gN j]) (eN kTup (aCons f (aCons g aNil)))) := by
  refine ps_to (ps_par hc hN hi hj hij hx hy (sa_cons ha (sa_cons hb sa_nil hsb) hsa) hw hs) fun E σ H q => ?_
  obtain ⟨ι, Z, h, σd, fl, σd', h', r, rs, e, q⟩ := q
  obtain ⟨⟨x, h1⟩, ef, e⟩ := bind_inv e
  obtain ⟨σ1, eg, e⟩ := bind_inv e
  obtain ⟨⟨ds, h2⟩, ea, ek⟩ := bind_inv ef
  obtain ⟨_, ek⟩ := ite_inv ek
  cases ek; cases e
  refine ⟨ι, Z, h, σd, ds, _, r, rs, ea, fun vs ι1 H1 x1 r1 p1 => ?_⟩
  cases p1 with
  | nil => cases eg; all_goals exact nofun
  | cons p1 p2 =>
    rw [gT, gAll] at eg
    obtain ⟨σ2, e1, e2⟩ := bind_inv eg
    obtain ⟨_, e1⟩ := ite_inv e1
    cases e1
    cases p2 with
    | nil => rw [gAll] at e2; cases e2; all_goals exact nofun
    | cons p2 p3 =>
      rw [gAll] at e2
      obtain ⟨σ3, e3, e4⟩ := bind_inv e2
      obtain ⟨_, e3⟩ := ite_inv e3
      cases e3
      cases p3 with
      | nil =>
        rw [gAll] at e4
        cases e4
        exact ⟨_, _, rfl, q ι1 H1 _ x1 r1 (((rs.ext x1).set i p1).set j p2)⟩
      | cons _ _ => rw [gAll] at e4; cases e4; all_goals exact nofun
/-- x op= e -/
theorem ss_aug (i : Nat) {x : Str} {op : Operator} {k : Op2} {pos' : Pos} (hN : X.N.Nodup) (hi : X.N[i]? = some x) (hx : Loc X.env.scope x) (ho : OpR X (inplaceOp op) (rD (cst X) k)) (he : SE X e f) (hf : X.fn x = true ∨ X.env.scope.names.lookup x = some .local := by first | exact .inl rfl | exact .inr rfl | assumption) :
    SS X (.AugAssign (.Name x pos') op e pos) (sAug i k f) := by
  refine ps_to (ps_aug (ti := rD (cst X) k) hN hi hx he ho hf) fun E σ H q => ?_
  obtain ⟨ι, Z, h, σd, fl, σd', h', r, rs, e, q⟩ := q
  obtain ⟨⟨x, h1⟩, ev, e⟩ := bind_inv e
  obtain ⟨⟨y, h2⟩, ef, e⟩ := bind_inv e
  obtain ⟨⟨z, h3⟩, ek, e⟩ := bind_inv e
  obtain ⟨σ1, eg, e⟩ := bind_inv e
  obtain ⟨_, eg⟩ := ite_inv eg
  cases eg; cases e
  obtain ⟨ox, e1, ev⟩ := bind_inv ev
  obtain ⟨dx, e2, ev⟩ := map_inv ev
  subst e2
  cases ev
  obtain ⟨v, e3, p⟩ := rs.2 i _ e1
  exact ⟨v, e3, ι, Z, _, σd, y, h2, r, rs, ef, fun u ι1 H1 x1 r1 p1 => ⟨ι1, Z, h2, x, y, z, _, r1, p.ext x1, p1, ek, fun w ι2 H2 x2 r2 p2 => q ι2 H2 _ (x1.trans x2) r2 ((rs.ext (x1.trans x2)).set i p2)⟩⟩
/-- o[i] = v -/
theorem ss_put {k : Op3} {tpos : Pos} (hk : PSet X (setD (cst X) k)) (ho : SE X o fo) (hi : SE X i fi) (he : SE X e fe)
    (ha : ∀ v, assign (.Subscript o i tpos) X.env v = (do
      let ov ← holding [v] (eval o X.env)
      let iv ← holding [v, ov] (eval i X.env)
      standAt tpos
      holding [v, ov, iv] (setItem ov iv v)
      release [v, ov, iv] []) := by intro _; rfl)
    (hs : swapsWithSole [.Subscript o i tpos] e pos.line X.env = pure false := by rfl) (hw : swappedStores [.Subscript o i tpos] e X.env = pure none := by rfl)
    (h1 : (assignEach [.Subscript o i tpos] X.env).map (·.2) = [assign (.Subscript o i tpos) X.env] := by rfl) : SS X (.Assign [.Subscript o i tpos] e pos) (sPut k fo fi fe) := by
  refine ps_to (ps_asg he (pg_sub ho hi hk ha) hs hw h1) fun E σ H q => ?_
  obtain ⟨ι, Z, h, σd, fl, σd', h', r, rs, e, q⟩ := q
  obtain ⟨⟨x, h1⟩, ev, e⟩ := bind_inv e
  obtain ⟨⟨y, h2⟩, eo, e⟩ := bind_inv e
  obtain ⟨⟨z, h3⟩, ei, e⟩ := bind_inv e
  obtain ⟨h4, ek, e⟩ := bind_inv e
  cases e
  exact ⟨ι, Z, h, σd, x, h1, r, rs, ev, fun v ι1 H1 x1 r1 p1 => ⟨ι1, Z, h1, σd, y, h2, r1, rs.ext x1, eo, fun ov ι2 H2 x2 r2 p2 => ⟨ι2, Z, h2, σd, z, h3, r2, rs.ext (x1.trans x2), ei, fun iv ι3 H3 x3 r3 p3 =>
    ⟨ι3, Z, h3, y, z, x, _, r3, p2.ext x3, p3, p1.ext (x2.trans x3), ek, fun ι4 H4 x4 r4 => q ι4 H4 σ (((x1.trans x2).trans x3).trans x4) r4 (rs.ext (((x1.trans x2).trans x3).trans x4))⟩⟩⟩⟩
/-- o[i] op= e, o a list -/
theorem pget_ix : PGet X (rD (cst X) kIxA) := by
  intro pins s σ H x y v u Q I rx ry ⟨ι, Z, h, d, e, z, h', r, p1, p2, ek, q⟩
  unfold kIxA at ek
  split at ek
  · obtain ⟨⟨h0, h63⟩, ek⟩ := ite_inv ek
    obtain ⟨xs, e1, ek⟩ := bind_inv ek
    obtain ⟨w, e2, ek⟩ := map_inv ek
    cases ek; cases p2
    obtain ⟨a, vs, rfl, h1, q1⟩ := asL_rep r p1 e1
    obtain ⟨b, e3, p3⟩ := q1.get e2
    cases rx
    obtain ⟨t, rfl⟩ := ry
    obtain ⟨its, rv, pl, hz⟩ := I.list (SqL.of (K := X.K) h1)
    obtain ⟨uw, ew, rw'⟩ := rv.get e3
    exact wpAny_getItem_list pl.isList h0 (by omega) (by simpa using ew) ⟨b, H, I, rw', fin0 q r p3⟩
  · cases ek
theorem ss_augS {op : Operator} {k : Op2} {tpos : Pos} (ho : SE X o fo) (hi : SE X i fi) (he : SE X e fe) (hk : OpR X (inplaceOp op) (rD (cst X) k))
    (ha : ∀ ov iv new, augStore i ov iv new = (do holding [new, ov, iv] (setItem ov iv new); release [new, ov, iv] []; pure .next) := by intros; rfl) : SS X (.AugAssign (.Subscript o i tpos) op e pos) (sAugS k fo fi fe) := by
  refine ps_to (ps_augS (tip := rD (cst X) k) ho hi pget_ix he hk sd_list ha) fun E σ H q => ?_
  obtain ⟨ι, Z, h, σd, fl, σd', h', r, rs, e, q⟩ := q
  obtain ⟨⟨x, h1⟩, eo, e⟩ := bind_inv e
  obtain ⟨⟨y, h2⟩, ei, e⟩ := bind_inv e
  obtain ⟨⟨z, h3⟩, eg, e⟩ := bind_inv e
  obtain ⟨⟨w, h4⟩, ev, e⟩ := bind_inv e
  obtain ⟨⟨t, h5⟩, ek, e⟩ := bind_inv e
  obtain ⟨h6, es, e⟩ := bind_inv e
  cases e
  exact ⟨ι, Z, h, σd, x, h1, r, rs, eo, fun v ι1 H1 x1 r1 p1 => ⟨ι1, Z, h1, σd, y, h2, r1, rs.ext x1, ei, fun u ι2 H2 x2 r2 p2 => ⟨ι2, Z, h2, x, y, z, h3, r2, p1.ext x2, p2, eg, fun o3 ι3 H3 x3 r3 p3 =>
    ⟨ι3, Z, h3, σd, w, h4, r3, rs.ext ((x1.trans x2).trans x3), ev, fun o4 ι4 H4 x4 r4 p4 => ⟨ι4, Z, h4, z, w, t, h5, r4, p3.ext x4, p4, ek, fun o5 ι5 H5 x5 r5 p5 => 
      ⟨ι5, Z, h5, x, y, t, _, r5, p1.ext (((x2.trans x3).trans x4).trans x5), p2.ext ((x3.trans x4).trans x5), p5, es, fun ι6 H6 x6 r6 => q ι6 H6 σ (((((x1.trans x2).trans x3).trans x4).trans x5).trans x6) r6 (rs.ext (((((x1.trans x2).trans x3).trans x4).trans x5).trans x6))⟩⟩⟩⟩⟩⟩
end
end PyD
set_option Elab.async false
set_option linter.all false
set_option maxRecDepth 100000
set_option maxHeartbeats 4000000
/-! PyS6: what is walked; for, while, list comprehensions. -/
namespace PyD
open PySem PySem.Spec PyProof.Rows L2

section
variable {C : Cst} {ι ι' ι1 ι2 : List Addr} {Z Z' Z1 Z2 : Addr → Prop} {H H' H1 H2 : Hp}
theorem Ext.tr (x : Ext ι H ι' H') : Tr ι Z H ι' Z H' :=
  ⟨fun _ _ h => x.get h, fun a vs h1 h2 => ⟨x.notin h1 (by rw [h2]; exact nofun), x.un _ _ h2 h1⟩, fun a o h1 h2 h3 => ⟨x.notin h1 (by rw [h3]; exact nofun), h2, x.un _ _ h3 h1⟩⟩
theorem Tr.trans (x : Tr ι Z H ι1 Z1 H1) (y : Tr ι1 Z1 H1 ι2 Z2 H2) : Tr ι Z H ι2 Z2 H2 :=
  ⟨fun n a h => y.ix n a (x.ix n a h), fun a vs h1 h2 => let ⟨a1, a2⟩ := x.tu a vs h1 h2; y.tu a vs a1 a2, fun a o h1 h2 h3 => let ⟨a1, a2, a3⟩ := x.fz a o h1 h2 h3; y.fz a o a1 a2 a3⟩
theorem Tr.refl : Tr ι Z H ι Z H := ⟨fun _ _ h => h, fun _ _ h1 h2 => ⟨h1, h2⟩, fun _ _ h1 h2 h3 => ⟨h1, h2, h3⟩⟩
theorem Tr.keep {p : Addr} {o : HO} (nt : ∀ vs, H p ≠ some (.tup vs)) : Tr ι (Zp Z p) H ι (Zp Z p) (upd H p o) :=
  ⟨fun _ _ h => h, fun a vs h1 h2 => ⟨h1, by rw [upd_ne (fun e => by subst e; exact nt vs h2)]; exact h2⟩, fun a u h1 h2 h3 => ⟨h1, h2, by rw [upd_ne (fun e => h2 (.inr e))]; exact h3⟩⟩
theorem R.keep {h : MH} {p : Addr} {o : HO} (r : R C ι (Zp Z p) H h) (nt : ∀ vs, H p ≠ some (.tup vs)) : R C ι (Zp Z p) (upd H p o) h := by
  have np : p ∉ ι := fun m => r.apart p m (.inr rfl)
  refine ⟨r.len, r.nd, fun a z => ?_, r.apart, fun k a u e1 e2 => (r.at_ k a u e1 e2).tr (.keep nt) (upd_ne fun q => ?_)⟩
  · by_cases e : a = p
    · subst e; rw [upd_same]; exact nofun
    · rw [upd_ne e]; exact r.live a z
  · subst q; exact np (List.mem_iff_getElem?.mpr ⟨k, e1⟩)
end

/-- the iterator J goes through items, as long as chk -/
def Walk (C : Cst) (ι0 : List Addr) (Z0 : Addr → Prop) (H0 : Hp) (J : It) (items : List D) (chk : MH → Bool) : Prop :=
  ∀ (i : Nat) (ι : List Addr) (Z : Addr → Prop) (H : Hp) (h : MH), Tr ι0 Z0 H0 ι Z H → R C ι Z H h → chk h = true →
    (items.length ≤ i → J.stop i H) ∧ ∀ d, items[i]? = some d → J.go i H ∧ ∀ x H', J.yld i H x H' → Ext ι H ι H' ∧ R C ι Z H' h ∧ Rep C ι Z H' d x
def tI (C : Cst) (it : Iv) : TI := fun σ H Rr => ∃ (ι : List Addr) (Z : Addr → Prop) (h : MH) (σd : Sg) (items : List D) (chk : MH → Bool) (h' : MH), R C ι Z H h ∧ RS C ι Z H σd σ ∧ it σd h = some (items, chk, h') ∧
  ∀ J ι' H', Ext ι H ι' H' → R C ι' Z H' h' → Walk C ι' Z H' J items chk → Rr J H'
abbrev SI (X : Cx) (tg e : Expr) (it : Iv) : Prop := PI X tg e (tI (cst X) it)
theorem pi_to {X : Cx} {tg e : Expr} {t t' : TI} (h : PI X tg e t) (w : ∀ σ H Q, t' σ H Q → t σ H Q) : PI X tg e t' := ⟨fun pins s σ H Q I q => h.run pins s σ H Q I (w σ H Q q)⟩

section
variable {C : Cst} {ι : List Addr} {Z : Addr → Prop} {H : Hp} {h : MH}
/-- the list at a is, at any later time, a list of xs -/
def Lst (C : Cst) (ι0 : List Addr) (Z0 : Addr → Prop) (H0 : Hp) (a : Addr) (xs : List D) (chk : MH → Bool) : Prop :=
  ∀ (ι : List Addr) (Z : Addr → Prop) (H : Hp) (h : MH), Tr ι0 Z0 H0 ι Z H → R C ι Z H h → chk h = true → ∃ vs, SqL C.K H a vs ∧ RepAll C ι Z H xs vs
theorem seq_lst {d : D} {v : V} {xs : List D} {chk : MH → Bool} (r : R C ι Z H h) (p : Rep C ι Z H d v) (e : seqOf d h = some (xs, chk)) : ∃ a, v = .ref a ∧ (∃ vs, SqL C.K H a vs ∧ vs.length = xs.length) ∧ Lst C ι Z H a xs chk := by
  unfold seqOf at e
  split at e
  · cases e
    cases p with
    | lst h1 h2 h3 q =>
      refine ⟨_, rfl, ⟨_, SqL.of h3, q.length.symm⟩, fun ι' Z' H' h' t r' _ => ?_⟩
      obtain ⟨a1, a2, a3⟩ := t.fz _ _ h1 h2 h3
      exact ⟨_, SqL.of a3, q.tr t⟩
  · cases e
    cases p with
    | scr h1 => exact ⟨_, rfl, ⟨_, h1.sqL, by simp⟩, fun ι' Z' H' h' t r' _ => ⟨_, (h1.tr t).sqL, .mapInt _⟩⟩
  · split at e
    · rename_i n xs' hx
      cases e
      cases p with
      | ref hn =>
        obtain ⟨vs, g1, g2⟩ := r.at_ _ _ _ hn hx
        refine ⟨_, rfl, ⟨vs, SqL.of g1, g2.length.symm⟩, fun ι' Z' H' h' t r' ck => ?_⟩
        obtain ⟨vs', g3, g4⟩ := r'.at_ _ _ _ (t.ix _ _ hn) (of_decide_eq_true ck)
        exact ⟨vs', SqL.of g3, g4⟩
    · cases e
  · cases e
theorem walk_lst {a : Addr} {xs : List D} {chk : MH → Bool} (l : Lst C ι Z H a xs chk) : Walk C ι Z H (Itl C.K a) xs chk := by
  intro i ι' Z' H' h' t r' ck
  obtain ⟨vs, g1, g2⟩ := l ι' Z' H' h' t r' ck
  refine ⟨fun hi => ⟨vs, g1, by rw [← g2.length]; exact hi⟩, fun d hd => ?_⟩
  obtain ⟨v, g3, g4⟩ := g2.get hd
  refine ⟨⟨vs, v, g1, g3⟩, fun x H2 y => ?_⟩
  obtain ⟨rfl, y⟩ := y
  have : v = x := by
    have := y vs g1
    rw [g3] at this
    exact Option.some.inj this
  subst this
  exact ⟨.refl _ _, r', g4⟩
end
section
variable {X : Cx} {tg a b : Expr} {f g : Ev} {pos p : Pos}
theorem si_seq (ha : SE X a f) : SI X tg a (iSeq f) := by
  refine pi_to (pi_list ha) fun σ H Q q => ?_
  obtain ⟨ι, Z, h, σd, items, chk, h', r, rs, e, q⟩ := q
  obtain ⟨⟨x, h1⟩, ef, e⟩ := bind_inv e
  obtain ⟨⟨xs, ck⟩, es, e⟩ := map_inv e
  cases e
  refine ⟨ι, Z, h, σd, x, _, r, rs, ef, fun v ι1 H1 x1 r1 p1 => ?_⟩
  obtain ⟨a, rfl, ⟨vs, g1, _⟩, g2⟩ := seq_lst r1 p1 es
  exact ⟨a, rfl, ⟨vs, g1⟩, q _ ι1 H1 x1 r1 (walk_lst g2)⟩
theorem si_tup (ha : SE X a f) : SI X tg a (iTup f) := by
  refine pi_to (pi_tup ha) fun σ H Q q => ?_
  obtain ⟨ι, Z, h, σd, items, chk, h', r, rs, e, q⟩ := q
  obtain ⟨⟨x, h1⟩, ef, e⟩ := bind_inv e
  refine ⟨ι, Z, h, σd, x, h1, r, rs, ef, fun v ι1 H1 x1 r1 p1 => ?_⟩
  cases x <;> try (cases e; done)
  cases e
  cases p1 with
  | @tup a xs vs t qa =>
    refine ⟨_, rfl, ⟨_, t.sqT⟩, q _ ι1 H1 x1 r1 ?_⟩
    intro i ι' Z' H' h' tr r' _
    have t' : SqT X.K H' a vs := by
      rcases t with ⟨t1, t2⟩ | t
      · exact .inl (.inl (tr.tu _ _ t1 t2).2)
      · exact .inr t
    have qa' := qa.tr tr
    refine ⟨fun hi => ⟨vs, t', by rw [← qa'.length]; exact hi⟩, fun d hd => ?_⟩
    obtain ⟨v, g3, g4⟩ := qa'.get hd
    refine ⟨⟨vs, v, t', g3⟩, fun x H2 y => ?_⟩
    obtain ⟨rfl, y⟩ := y
    have : v = x := by
      have := y vs t'
      rw [g3] at this
      exact Option.some.inj this
    subst this
    exact ⟨.refl _ _, r', g4⟩
theorem walk_rng {C : Cst} {ι : List Addr} {Z : Addr → Prop} {H : Hp} (lo : Int) (n : Nat) : Walk C ι Z H (Itr lo n) (rngD lo n) yes := by
  intro i ι' Z' H' h' t r' _
  unfold rngD
  refine ⟨fun hi => (show n ≤ i by simpa using hi), fun d hd => ?_⟩
  rw [List.getElem?_map] at hd
  obtain ⟨j, hj, rfl⟩ := map_inv hd
  have hlt := (List.getElem?_eq_some_iff.mp hj).1
  rw [List.length_range] at hlt
  rw [List.getElem?_range hlt] at hj
  cases hj
  refine ⟨hlt, fun x H2 y => ?_⟩
  obtain ⟨rfl, rfl⟩ := y
  exact ⟨.refl _ _, r', .int _⟩
theorem si_range1 (hg : Gl X "range") (hm : X.mg "range" = none) (ha : SE X a f) (hs : starEach [a] X.env = (false, eval a X.env) :: starEach [] X.env := by rfl) : SI X tg (.Call (.Name "range" p) [a] [] pos) (iRange1 f) := by
  refine pi_to (pi_range1 hg hm (sa_cons ha sa_nil hs) (by rw [hs]; rfl)) fun σ H Q q => ?_
  obtain ⟨ι, Z, h, σd, items, chk, h', r, rs, e, q⟩ := q
  obtain ⟨⟨x, h1⟩, ef, e⟩ := bind_inv e
  refine ⟨ι, Z, h, σd, [x], h1, r, rs, ?_, fun vs ι1 H1 x1 r1 p1 => ?_⟩
  · show (f σd h).bind _ = _
    rw [ef]; rfl
  obtain ⟨v, rfl, pv⟩ := rep1 p1
  cases x <;> try (cases e; done)
  obtain ⟨e1, e⟩ := ite_inv e
  cases e
  cases pv
  exact ⟨_, rfl, by omega, by omega, q _ ι1 H1 x1 r1 (walk_rng 0 _)⟩
theorem si_range2 (hg : Gl X "range") (hm : X.mg "range" = none) (ha : SE X a f) (hb : SE X b g) (hs : starEach [a, b] X.env = (false, eval a X.env) :: starEach [b] X.env := by rfl) (hs2 : starEach [b] X.env = (false, eval b X.env) :: starEach [] X.env := by rfl) :
    SI X tg (.Call (.Name "range" p) [a, b] [] pos) (iRange2 f g) := by
  refine pi_to (pi_range2 hg hm (sa_cons ha (sa_cons hb sa_nil hs2) hs) (by rw [hs, hs2]; rfl) (by rw [hs2]; rfl)) fun σ H Q q => ?_
  obtain ⟨ι, Z, h, σd, items, chk, h', r, rs, e, q⟩ := q
  obtain ⟨⟨x, h1⟩, ef, e⟩ := bind_inv e
  obtain ⟨⟨y, h2⟩, eg, e⟩ := bind_inv e
  refine ⟨ι, Z, h, σd, [x, y], h2, r, rs, ?_, fun vs ι1 H1 x1 r1 p1 => ?_⟩
  · show (f σd h).bind _ = _
    rw [ef]
    show ((g σd h1).bind _).bind _ = _
    rw [eg]; rfl
  obtain ⟨v, v', rfl, pv, pv'⟩ := rep2 p1
  cases x <;> try (cases e; done)
  cases y <;> try (cases e; done)
  obtain ⟨⟨e1, e2⟩, e⟩ := ite_inv e
  cases e
  cases pv; cases pv'
  exact ⟨_, _, rfl, ⟨by omega, by omega, by omega, by omega⟩, q _ ι1 H1 x1 r1 (walk_rng _ _)⟩
theorem si_enum {elts : List Expr} {kk : Nat} {tpos : Pos} (hg : Gl X "enumerate") (hm : X.mg "enumerate" = none) (ha : SE X a f) (hs : starEach [a] X.env = (false, eval a X.env) :: starEach [] X.env := by rfl) :
    SI X (.Tuple elts kk tpos) (.Call (.Name "enumerate" p) [a] [] pos) (PyD.iEnum f) := by
  refine pi_to (pi_enum hg hm (sa_cons ha sa_nil hs) (by rw [hs]; rfl)) fun σ H Q q => ?_
  obtain ⟨ι, Z, h, σd, items, chk, h', r, rs, e, q⟩ := q
  obtain ⟨⟨x, h1⟩, ef, e⟩ := bind_inv e
  obtain ⟨⟨xs, ck⟩, es, e⟩ := map_inv e
  cases e
  refine ⟨ι, Z, h, σd, [x], h1, r, rs, ?_, fun vs ι1 H1 x1 r1 p1 => ?_⟩
  · show (f σd h).bind _ = _
    rw [ef]; rfl
  obtain ⟨v, rfl, pv⟩ := rep1 p1
  obtain ⟨a, rfl, ⟨vs, g1, _⟩, g2⟩ := seq_lst r1 pv es
  refine ⟨a, vs, rfl, g1, q _ ι1 H1 x1 r1 ?_⟩
  intro i ι' Z' H' h' t r' ck'
  obtain ⟨vs, g1, g3⟩ := g2 ι' Z' H' h' t r' ck'
  refine ⟨fun hi => ⟨vs, g1, by rw [← g3.length]; simpa using hi⟩, fun d hd => ?_⟩
  rw [List.getElem?_map, List.getElem?_zipIdx] at hd
  obtain ⟨y, hy, rfl⟩ := map_inv hd
  obtain ⟨z, hz, rfl⟩ := map_inv hy
  obtain ⟨w, g4, g5⟩ := g3.get hz
  refine ⟨⟨vs, w, g1, g4⟩, fun u H2 yl => ?_⟩
  obtain ⟨T, x, rfl, nT, rfl, y⟩ := yl
  have : w = x := by
    have := y vs g1
    rw [g4] at this
    exact Option.some.inj this
  subst this
  refine ⟨.fresh nT, r'.fresh nT, .tup (.inl ⟨r'.notι nT, upd_same⟩) (.cons ?_ (.cons (g5.ext (.fresh nT)) .nil))⟩
  simp only [Nat.zero_add]
  exact .int _
theorem si_zip {elts : List Expr} {kk : Nat} {tpos : Pos} (hg : Gl X "zip") (hm : X.mg "zip" = none) (ha : SE X a f) (hb : SE X b g) (hs : starEach [a, b] X.env = (false, eval a X.env) :: starEach [b] X.env := by rfl) (hs2 : starEach [b] X.env = (false, eval b X.env) :: starEach [] X.env := by rfl) :
    SI X (.Tuple elts kk tpos) (.Call (.Name "zip" p) [a, b] [] pos) (PyD.iZip f g) := by
  refine pi_to (pi_zip hg hm (sa_cons ha (sa_cons hb sa_nil hs2) hs) hs (by rw [hs2]; rfl)) fun σ H Q q => ?_
  obtain ⟨ι, Z, h, σd, items, chk, h', r, rs, e, q⟩ := q
  obtain ⟨⟨x, h1⟩, ef, e⟩ := bind_inv e
  obtain ⟨⟨y, h2⟩, eg, e⟩ := bind_inv e
  obtain ⟨⟨xs, ck⟩, es, e⟩ := bind_inv e
  obtain ⟨⟨ys, ck2⟩, es2, e⟩ := map_inv e
  cases e
  refine ⟨ι, Z, h, σd, [x, y], h2, r, rs, ?_, fun vs ι1 H1 x1 r1 p1 => ?_⟩
  · show (f σd h).bind _ = _
    rw [ef]
    show ((g σd h1).bind _).bind _ = _
    rw [eg]; rfl
  obtain ⟨v, v', rfl, pv, pv'⟩ := rep2 p1
  obtain ⟨a, rfl, ⟨vs, g1, _⟩, g2⟩ := seq_lst r1 pv es
  obtain ⟨b, rfl, ⟨us, k1, _⟩, k2⟩ := seq_lst r1 pv' es2
  refine ⟨a, b, vs, us, rfl, g1, k1, q _ ι1 H1 x1 r1 ?_⟩
  intro i ι' Z' H' h' t r' ck'
  rw [Bool.and_eq_true] at ck'
  obtain ⟨vs, g1, g3⟩ := g2 ι' Z' H' h' t r' ck'.1
  obtain ⟨us, k1, k3⟩ := k2 ι' Z' H' h' t r' ck'.2
  refine ⟨fun hi => ⟨vs, us, g1, k1, ?_⟩, fun d hd => ?_⟩
  · rw [← g3.length, ← k3.length]
    rw [List.length_map, List.length_zip] at hi
    have hi : min xs.length ys.length ≤ i := hi
    show xs.length ≤ i ∨ ys.length ≤ i
    omega
  rw [List.getElem?_map] at hd
  obtain ⟨⟨y1, y2⟩, hy, rfl⟩ := map_inv hd
  obtain ⟨hz1, hz2⟩ := List.getElem?_zip_eq_some.mp hy
  obtain ⟨w, g4, g5⟩ := g3.get hz1
  obtain ⟨w2, k4, k5⟩ := k3.get hz2
  refine ⟨⟨vs, us, w, w2, g1, k1, g4, k4⟩, fun u H2 yl => ?_⟩
  obtain ⟨T, x, y, rfl, nT, rfl, yy, yy2⟩ := yl
  have e1 : w = x := by
    have := yy vs g1
    rw [g4] at this
    exact Option.some.inj this
  have e2 : w2 = y := by
    have := yy2 us k1
    rw [k4] at this
    exact Option.some.inj this
  subst e1 e2
  exact ⟨.fresh nT, r'.fresh nT, .tup (.inl ⟨r'.notι nT, upd_same⟩) (.cons (g5.ext (.fresh nT)) (.cons (k5.ext (.fresh nT)) .nil))⟩
end

/-! ### loops -/
section
variable {X : Cx} {tg iter c : Expr} {body : List Stmt} {it : Iv} {g : Tg} {is : List Nat} {sb : Sv} {tf : Tv} {pos : Pos}
theorem forD_cons {chk : MH → Bool} {x : D} {xs : List D} {σ : Sg} {h : MH} {R : Fl × Sg × MH} (e : forD chk g sb (x :: xs) σ h = some R) : chk h = true ∧ ∃ σ1 r, g x σ = some σ1 ∧ sb σ1 h = some r ∧
    (match r.1 with
      | .nx => forD chk g sb xs r.2.1 r.2.2
      | .ct => forD chk g sb xs r.2.1 r.2.2
      | .bk => some (.nx, r.2.1, r.2.2)
      | .rt d => some (.rt d, r.2.1, r.2.2)) = some R := by
  rw [forD] at e
  obtain ⟨h1, e⟩ := ite_inv e
  obtain ⟨σ1, h2, e⟩ := bind_inv e
  obtain ⟨r, h3, e⟩ := bind_inv e
  exact ⟨h1, σ1, r, h2, h3, e⟩
theorem ss_for (hp : PassesOwn (model X.prog X.w) X.A X.env X.xe) (hc : X.calm = true) (hi : SI X tg iter it) (hg : SG X tg is g) (hb : SSs X body sb)
    (hs : ∀ x, foldedSetIterable iter X.env x = pure x := by intro _; rfl) : SS X (.For tg iter body [] pos) (sFor it g sb) := by
  refine ps_to (ps_for hp hc hi hg hb hs) fun E σ H q => ?_
  obtain ⟨ι, Z, h, σd, fl, σd', h', r, rs, e, q⟩ := q
  obtain ⟨⟨items, chk, h1⟩, ei, e⟩ := bind_inv e
  refine ⟨ι, Z, h, σd, items, chk, h1, r, rs, ei, fun J ι1 H1 x1 r1 wk => ?_⟩
  refine ⟨fun i m σ2 H2 => m = items.length - i ∧ i ≤ items.length ∧ ∃ ι2 h2 σ2d, Ext ι1 H1 ι2 H2 ∧ R (cst X) ι2 Z H2 h2 ∧ RS (cst X) ι2 Z H2 σ2d σ2 ∧ forD chk g sb (items.drop i) σ2d h2 = some (fl, σd', h'),
    ⟨items.length, rfl, Nat.zero_le _, ι1, h1, σd, .refl _ _, r1, rs.ext x1, e⟩, ?_⟩
  rintro i m σ2 H2 ⟨rfl, hi', ι2, h2, σ2d, x2, r2, rs2, e2⟩
  by_cases hlt : i < items.length
  · rw [List.drop_eq_getElem_cons hlt] at e2
    obtain ⟨ck, σ3, res, eg, eb, e3⟩ := forD_cons e2
    obtain ⟨go, step⟩ := (wk i ι2 Z H2 h2 (Ext.tr x2) r2 ck).2 items[i] (by simp [hlt])
    refine .inr ⟨go, fun σ' H' => (items.length - (i + 1) = items.length - (i + 1) ∧ i + 1 ≤ items.length ∧ ∃ ι2 h2 σ2d, Ext ι1 H1 ι2 H' ∧ R (cst X) ι2 Z H' h2 ∧ RS (cst X) ι2 Z H' σ2d σ' ∧ forD chk g sb (items.drop (i + 1)) σ2d h2 = some (fl, σd', h')),
      fun σ' H' hN => ⟨items.length - (i + 1), by omega, hN⟩, fun x H' hy => ?_⟩
    obtain ⟨x3, r3, p3⟩ := step x H' hy
    refine ⟨ι2, Z, h2, _, σ2d, σ3, r3, rs2.ext x3, p3, eg, fun σ4 rs4 _ => ⟨ι2, Z, h2, σ3, res.1, res.2.1, res.2.2, r3, rs4, eb, fun ι5 H5 σ5 x5 r5 rs5 => ?_⟩⟩
    have nxt : forD chk g sb (items.drop (i + 1)) res.2.1 res.2.2 = some (fl, σd', h') → (items.length - (i + 1) = items.length - (i + 1) ∧ i + 1 ≤ items.length ∧ ∃ ι2 h2 σ2d, Ext ι1 H1 ι2 H5 ∧ R (cst X) ι2 Z H5 h2 ∧ RS (cst X) ι2 Z H5 σ2d σ5 ∧ forD chk g sb (items.drop (i + 1)) σ2d h2 = some (fl, σd', h')) :=
      fun e => ⟨rfl, hlt, ι5, _, _, (x2.trans x3).trans x5, r5, rs5, e⟩
    obtain ⟨fl1, σr, hr⟩ := res
    have xx := x1.trans ((x2.trans x3).trans x5)
    cases fl1 with
    | nx => exact nxt e3
    | ct => exact nxt e3
    | bk => cases e3; exact q ι5 H5 σ5 xx r5 rs5
    | rt d => cases e3; exact q ι5 H5 σ5 xx r5 rs5
  · have e0 : i = items.length := by omega
    subst e0
    rw [List.drop_length, forD] at e2
    obtain ⟨ck, e2⟩ := ite_inv e2
    cases e2
    exact .inl ⟨(wk _ ι2 Z H2 _ (Ext.tr x2) r2 ck).1 (Nat.le_refl _), q ι2 H2 σ2 (x1.trans x2) r2 rs2⟩
theorem ss_while (hp : PassesOwn (model X.prog X.w) X.A X.env X.xe) (hc : ST X c tf) (hb : SSs X body sb) : SS X (.While c body [] pos) (sWhile tf sb) := by
  refine ps_to (ps_while hp hc hb) fun E σ H q => ?_
  obtain ⟨ι, Z, h, σd, fl, σd', h', r, rs, e, q⟩ := q
  refine ⟨fun m σ2 H2 => ∃ ι2 h2 σ2d, Ext ι H ι2 H2 ∧ R (cst X) ι2 Z H2 h2 ∧ RS (cst X) ι2 Z H2 σ2d σ2 ∧ whD tf sb m σ2d h2 = some (fl, σd', h'), ⟨FUEL, ι, h, σd, .refl _ _, r, rs, e⟩, ?_⟩
  rintro m σ2 H2 ⟨ι2, h2, σ2d, x2, r2, rs2, e2⟩
  cases m with
  | zero => rw [whD] at e2; cases e2
  | succ m =>
    rw [whD] at e2
    obtain ⟨⟨b, h3⟩, ec, e2⟩ := bind_inv e2
    refine ⟨ι2, Z, h2, σ2d, b, h3, r2, rs2, ec, fun ι3 H3 x3 r3 => ?_⟩
    cases b with
    | true =>
      rw [if_pos rfl] at e2
      rw [if_pos rfl]
      obtain ⟨res, eb, e2⟩ := bind_inv e2
      refine ⟨fun σ' H' => ∃ ι2 h2 σ2d, Ext ι H ι2 H' ∧ R (cst X) ι2 Z H' h2 ∧ RS (cst X) ι2 Z H' σ2d σ' ∧ whD tf sb m σ2d h2 = some (fl, σd', h'), fun σ' H' hN => ⟨m, Nat.lt_succ_self m, hN⟩, ?_⟩
      refine ⟨ι3, Z, h3, σ2d, res.1, res.2.1, res.2.2, r3, rs2.ext x3, eb, fun ι5 H5 σ5 x5 r5 rs5 => ?_⟩
      have xx := (x2.trans x3).trans x5
      obtain ⟨fl1, σr, hr⟩ := res
      cases fl1 with
      | nx => exact ⟨ι5, _, _, xx, r5, rs5, e2⟩
      | ct => exact ⟨ι5, _, _, xx, r5, rs5, e2⟩
      | bk => cases e2; exact q ι5 H5 σ5 xx r5 rs5
      | rt d => cases e2; exact q ι5 H5 σ5 xx r5 rs5
    | false =>
      rw [if_neg Bool.false_ne_true] at e2
      rw [if_neg Bool.false_ne_true]
      cases e2
      exact q ι3 H3 σ2 (x2.trans x3) r3 (rs2.ext x3)
end

/-! ### list comprehensions -/
section
variable {X : Cx}
abbrev STs (X : Cx) (ifs : List Expr) (f : Tv) : Prop := PTs X ifs (tT (cst X) f)
theorem sts_nil : STs X [] PyD.tYes := ⟨fun pins s σ H Q I q => pts_nil.run pins s σ H Q I (by
  obtain ⟨ι, Z, h, σd, b, h', r, rs, e, q⟩ := q
  cases e
  exact q ι H (.refl _ _) r)⟩
theorem sts_one {c : Expr} {f : Tv} (h : ST X c f) : STs X [c] f := pts_one h
theorem wipe_wipe (σ : L2.St) (vs : List Nat) : L2.wipe (L2.wipe σ vs) vs = L2.wipe σ vs := by
  apply List.ext_getElem?
  intro i
  rw [wipe_at, wipe_at, wipe_length]
  split <;> rfl
theorem lcD_cons {chk : MH → Bool} {g : Tg} {c : Tv} {ev : Ev} {σ : Sg} {x : D} {xs : List D} {h : MH} {R : List D × MH} (e : lcD chk g c ev σ (x :: xs) h = some R) :
    chk h = true ∧ ∃ σ1 b h1, g x σ = some σ1 ∧ c σ1 h = some (b, h1) ∧
      (if b = true then (ev σ1 h1).bind fun q => (lcD chk g c ev σ xs q.2).bind fun r => some (q.1 :: r.1, r.2) else lcD chk g c ev σ xs h1) = some R := by
  rw [lcD] at e
  obtain ⟨h1, e⟩ := ite_inv e
  obtain ⟨σ1, h2, e⟩ := bind_inv e
  obtain ⟨⟨b, hb⟩, h3, e⟩ := bind_inv e
  exact ⟨h1, σ1, b, hb, h2, h3, e⟩
theorem upd_id {H : Hp} {a : Addr} {o : HO} (e : H a = some o) : upd H a o = H := by
  funext b
  unfold upd
  split
  · rename_i hb; subst hb; exact e.symm
  · rfl
/-- the loop of a list comprehension, ending in P of the made list -/
theorem lc_loop {C : Cst} {it : Iv} {g : Tg} {tf : Tv} {ev : Ev} {is vs : List Nat} {σ : L2.St} {H : Hp} {Q : VK} (hv : ∀ i ∈ is, i ∈ vs) {ι : List Addr} {Z : Addr → Prop} {h : MH} {σd : Sg} {items : List D} {chk : MH → Bool} {h1 : MH} {ys : List D} {h' : MH}
    (r : R C ι Z H h) (rs : RS C ι Z H σd σ) (ei : it σd h = some (items, chk, h1)) (el : lcD chk g tf ev (wipeD σd vs) items h1 = some (ys, h')) (hl : ys.length ≤ LIM)
    (q : ∀ D ι0 ι' H0 H' vs', H0 D = none → Ext ι H ι0 H0 → Ext ι0 H0 ι' H' → ¬ Z D → R C ι' (Zp Z D) H' h' → H' D = some (.lst vs') → RepAll C ι' (Zp Z D) H' ys vs' → Q (.ref D) H') :
    tLc (tI C it) (tG C is g) (tT C tf) (tE C ev) vs σ H Q := by
  refine ⟨ι, Z, h, σd, items, chk, h1, r, rs, ei, fun J ι1 H1 x1 r1 wk D nD => ?_⟩
  refine ⟨fun i m Hc => m = items.length - i ∧ i ≤ items.length ∧ ∃ ιc hc acc vacc rest, Ext ι1 H1 ιc Hc ∧ R C ιc (Zp Z D) Hc hc ∧ Tr ι1 Z H1 ιc (Zp Z D) Hc ∧ Hc D = some (.lst vacc) ∧ RepAll C ιc (Zp Z D) Hc acc vacc ∧
      lcD chk g tf ev (wipeD σd vs) (items.drop i) hc = some (rest, h') ∧ acc ++ rest = ys,
    ⟨items.length, rfl, Nat.zero_le _, ι1, h1, [], [], ys, .fresh nD, r1.hide nD, .hide nD (r1.notι nD), upd_same, .nil, el, rfl⟩, ?_⟩
  rintro i m Hc ⟨rfl, hi', ιc, hc, acc, vacc, rest, xc, rc, tc, eD, pa, ec, ea⟩
  have ntD : ∀ {H' : Hp} {vs' : List V}, H' D = some (.lst vs') → ∀ us, H' D ≠ some (.tup us) := fun e us => by rw [e]; exact nofun
  have nιD : ∀ {ι' : List Addr} {H' : Hp} {h2 : MH}, R C ι' (Zp Z D) H' h2 → D ∉ ι' := fun r m => r.apart D m (.inr rfl)
  by_cases hlt : i < items.length
  · rw [List.drop_eq_getElem_cons hlt] at ec
    obtain ⟨ck, σ1, b, h2, eg, et, ee⟩ := lcD_cons ec
    obtain ⟨go, step⟩ := (wk i ιc _ Hc hc tc rc ck).2 items[i] (by simp [hlt])
    refine .inr ⟨go, fun Hn => (items.length - (i + 1) = items.length - (i + 1) ∧ i + 1 ≤ items.length ∧ ∃ ιc hc acc vacc rest, Ext ι1 H1 ιc Hn ∧ R C ιc (Zp Z D) Hn hc ∧ Tr ι1 Z H1 ιc (Zp Z D) Hn ∧ Hn D = some (.lst vacc) ∧ RepAll C ιc (Zp Z D) Hn acc vacc ∧
      lcD chk g tf ev (wipeD σd vs) (items.drop (i + 1)) hc = some (rest, h') ∧ acc ++ rest = ys), fun H' hN => ⟨items.length - (i + 1), by omega, hN⟩, fun x H' hy => ?_⟩
    obtain ⟨x3, r3, p3⟩ := step x H' hy
    have rsw : RS C ιc (Zp Z D) H' (wipeD σd vs) (L2.wipe σ vs) := (((rs.ext x1).tr (tc.trans (Ext.tr x3)))).wipe vs
    refine ⟨ιc, _, hc, _, _, σ1, r3, rsw, p3, eg, fun σ2 rs2 fr => ⟨(fr.wipe hv).trans (wipe_wipe σ vs), ιc, _, hc, σ1, b, h2, r3, rs2, et, fun ι4 H4 x4 r4 => ?_⟩⟩
    have eD4 : H4 D = some (.lst vacc) := x4.un _ _ (x3.un _ _ eD (nιD rc)) (nιD r3)
    have pa4 := (pa.ext x3).ext x4
    cases b with
    | true =>
      rw [if_pos rfl] at ee
      refine iteT ?_
      obtain ⟨⟨y, h3⟩, ey, ee⟩ := bind_inv ee
      obtain ⟨⟨rr, h4⟩, er, ee⟩ := bind_inv ee
      cases ee
      refine ⟨ι4, _, h2, σ1, y, h3, r4, rs2.ext x4, ey, fun v ι5 H5 x5 r5 p5 => ?_⟩
      have eD5 : H5 D = some (.lst vacc) := x5.un _ _ eD4 (nιD r4)
      refine ⟨vacc, eD5, ?_, rfl, hlt, ι5, h3, acc ++ [y], vacc ++ [v], rr, Ext.data nD (((xc.trans x3).trans x4).trans x5), r5.keep (ntD eD5), ((tc.trans (Ext.tr x3)).trans (Ext.tr x4)).trans ((Ext.tr x5).trans (.keep (ntD eD5))), upd_same,
        ((pa4.ext x5).append (.cons p5 .nil)).tr (.keep (ntD eD5)), er, by rw [List.append_assoc]; exact ea⟩
      have := congrArg List.length ea
      rw [← line_eq, ← pa.length]
      simp only [List.length_append, List.length_cons] at this
      omega
    | false =>
      rw [if_neg Bool.false_ne_true] at ee
      refine iteF ?_
      exact ⟨rfl, hlt, ι4, h2, acc, vacc, rest, (xc.trans x3).trans x4, r4, (tc.trans (Ext.tr x3)).trans (Ext.tr x4), eD4, pa4, ee, ea⟩
  · have e0 : i = items.length := by omega
    subst e0
    rw [List.drop_length, lcD] at ec
    obtain ⟨ck, ec⟩ := ite_inv ec
    cases ec
    rw [List.append_nil] at ea
    subst ea
    exact .inl ⟨(wk _ ιc _ Hc _ tc rc ck).1 (Nat.le_refl _), q D ι1 ιc H1 Hc vacc nD x1 xc (r1.notZ nD) rc eD pa⟩
variable {elt tg iter : Expr} {ifs : List Expr} {scope : Scope} {own : List (Str × Nat)} {pos : Pos} {it : Iv} {g : Tg} {is : List Nat} {tf : Tv} {ev : Ev}
theorem lcF_to {C : Cst} {vs : List Nat} (hv : ∀ i ∈ is, i ∈ vs) {σ : L2.St} {H : Hp} {Q : VK} (q : tE C (eLcF it g tf ev vs) σ H Q) : tLc (tI C it) (tG C is g) (tT C tf) (tE C ev) vs σ H Q := by
  obtain ⟨ι, Z, h, σd, d, h', r, rs, e, q⟩ := q
  obtain ⟨⟨items, chk, h1⟩, ei, e⟩ := bind_inv e
  obtain ⟨⟨ys, h2⟩, el, e⟩ := bind_inv e
  obtain ⟨hl, e⟩ := ite_inv e
  cases e
  refine lc_loop hv r rs ei el hl fun D ι0 ι' H0 H' vs' nD x0 x1 nz r' eD pa => ?_
  have nt : ∀ us, H' D ≠ some (.tup us) := fun us => by rw [eD]; exact nofun
  have np : D ∉ ι' := fun m => r'.apart D m (.inr rfl)
  have r2 := r'.data (o := .lst vs') nt
  have t2 : Tr ι' (Zp Z D) H' ι' Z (upd H' D (.lst vs')) := .data np nt
  rw [upd_id eD] at r2 t2
  exact q _ ι' H' (x0.trans x1) r2 (.lst np nz eD (pa.tr t2))
theorem lc_to {C : Cst} {vs : List Nat} (hv : ∀ i ∈ is, i ∈ vs) {σ : L2.St} {H : Hp} {Q : VK} (q : tE C (eLc it g tf ev vs) σ H Q) : tLc (tI C it) (tG C is g) (tT C tf) (tE C ev) vs σ H Q := by
  obtain ⟨ι, Z, h, σd, d, h', r, rs, e, q⟩ := q
  obtain ⟨⟨items, chk, h1⟩, ei, e⟩ := bind_inv e
  obtain ⟨⟨ys, h2⟩, el, e⟩ := bind_inv e
  obtain ⟨hl, e⟩ := ite_inv e
  cases e
  refine lc_loop hv r rs ei el hl fun D ι0 ι' H0 H' vs' nD x0 x1 nz r' eD pa => ?_
  have nt : ∀ us, H' D ≠ some (.tup us) := fun us => by rw [eD]; exact nofun
  have np : D ∉ ι' := fun m => r'.apart D m (.inr rfl)
  have t2 : Tr ι' (Zp Z D) H' (ι' ++ [D]) Z (upd H' D (.lst vs')) := .show_ np nt
  have r2 := r'.show_ (o := .lst vs') (u := .lst ys) nz nt ⟨vs', upd_same, pa.tr t2⟩
  have nD0 : H D = none := by
    cases hq : H D with
    | none => rfl
    | some o => exact absurd nD (x0.live D (by rw [hq]; exact nofun))
  have x2 := (Ext.show_ (o := .lst vs') nD0 (x0.trans x1))
  rw [upd_id eD] at r2 x2
  exact q _ (ι' ++ [D]) H' x2 r2 (.ref (by rw [← r'.len]; simp))
abbrev Blk (X : Cx) (s : Shared) (H : Hp) (scope : Scope) (C : Addr) (cl : List (Str × Addr)) (fp : List Addr) : Cx := X.blk s H scope (compEnvC scope cl C X.env) fp
theorem se_lcF (hc : X.calm = true) (hN : X.N.Nodup) (hi : SI X tg iter it) (ok : BlkOk X.N X.env.scope scope own) (hv : ∀ i ∈ is, i ∈ own.map (·.2))
    (hg : ∀ (s : Shared) (H : Hp) (C : Addr) (cl : List (Str × Addr)) (fp : List Addr), SG (Blk X s H scope C cl fp) tg is g) (ht : ∀ (s : Shared) (H : Hp) (C : Addr) (cl : List (Str × Addr)) (fp : List Addr), STs (Blk X s H scope C cl fp) ifs tf)
    (he : ∀ (s : Shared) (H : Hp) (C : Addr) (cl : List (Str × Addr)) (fp : List Addr), SE (Blk X s H scope C cl fp) elt ev) (hs : ∀ x, foldedSetIterable iter X.env x = pure x := by intro _; rfl) :
    SE X (.ListComp elt [⟨tg, iter, ifs, 0⟩] scope pos) (eLcF it g tf ev (own.map (·.2))) := pe_to (pe_lc hc hN hi ok hg ht he hs) fun σ H Q q => lcF_to hv q
theorem se_lc (hc : X.calm = true) (hN : X.N.Nodup) (hi : SI X tg iter it) (ok : BlkOk X.N X.env.scope scope own) (hv : ∀ i ∈ is, i ∈ own.map (·.2))
    (hg : ∀ (s : Shared) (H : Hp) (C : Addr) (cl : List (Str × Addr)) (fp : List Addr), SG (Blk X s H scope C cl fp) tg is g) (ht : ∀ (s : Shared) (H : Hp) (C : Addr) (cl : List (Str × Addr)) (fp : List Addr), STs (Blk X s H scope C cl fp) ifs tf)
    (he : ∀ (s : Shared) (H : Hp) (C : Addr) (cl : List (Str × Addr)) (fp : List Addr), SE (Blk X s H scope C cl fp) elt ev) (hs : ∀ x, foldedSetIterable iter X.env x = pure x := by intro _; rfl) :
    SE X (.ListComp elt [⟨tg, iter, ifs, 0⟩] scope pos) (eLc it g tf ev (own.map (·.2))) := pe_to (pe_lc hc hN hi ok hg ht he hs) fun σ H Q q => lc_to hv q
theorem ss_lcF {i : Nat} {y : Str} {py spos : Pos} (hc : X.calm = true) (hN : X.N.Nodup) (hy : X.N[i]? = some y) (hyl : X.env.scope.names.lookup y = some .local)
    (hsw : swapsWith (.ListComp elt [⟨tg, iter, ifs, 0⟩] scope pos) (some (.Name y py)) spos.line X.env = pure true) (hi : SI X tg iter it) (ok : BlkOk X.N X.env.scope scope own) (hv : ∀ i ∈ is, i ∈ own.map (·.2))
    (hg : ∀ (s : Shared) (H : Hp) (C : Addr) (cl : List (Str × Addr)) (fp : List Addr), SG (Blk X s H scope C cl fp) tg is g) (ht : ∀ (s : Shared) (H : Hp) (C : Addr) (cl : List (Str × Addr)) (fp : List Addr), STs (Blk X s H scope C cl fp) ifs tf)
    (he : ∀ (s : Shared) (H : Hp) (C : Addr) (cl : List (Str × Addr)) (fp : List Addr), SE (Blk X s H scope C cl fp) elt ev) (hs : ∀ x, foldedSetIterable iter X.env x = pure x := by intro _; rfl) :
    SS X (.Assign [.Name y py] (.ListComp elt [⟨tg, iter, ifs, 0⟩] scope pos) spos) (sSet (gN i) (eLcF it g tf ev (own.map (·.2)))) := by
  refine ps_to (ps_setLc (g := tG (cst X) is g) (tt := tT (cst X) tf) (te := tE (cst X) ev) hc hN hy hyl hsw hi ok hg ht he hs) fun E σ H q => ?_
  obtain ⟨ι, Z, h, σd, fl, σd', h', r, rs, e, q⟩ := q
  obtain ⟨⟨x, h1⟩, ef, e⟩ := bind_inv e
  obtain ⟨σ1, eg, e⟩ := bind_inv e
  obtain ⟨_, eg⟩ := ite_inv eg
  cases eg; cases e
  exact lcF_to hv ⟨ι, Z, h, σd, x, _, r, rs, ef, fun v ι1 H1 x1 r1 p1 => q ι1 H1 _ x1 r1 ((rs.ext x1).set i p1)⟩
theorem ss_lc {i : Nat} {y : Str} {py spos : Pos} (hc : X.calm = true) (hN : X.N.Nodup) (hy : X.N[i]? = some y) (hyl : X.env.scope.names.lookup y = some .local)
    (hsw : swapsWith (.ListComp elt [⟨tg, iter, ifs, 0⟩] scope pos) (some (.Name y py)) spos.line X.env = pure true) (hi : SI X tg iter it) (ok : BlkOk X.N X.env.scope scope own) (hv : ∀ i ∈ is, i ∈ own.map (·.2))
    (hg : ∀ (s : Shared) (H : Hp) (C : Addr) (cl : List (Str × Addr)) (fp : List Addr), SG (Blk X s H scope C cl fp) tg is g) (ht : ∀ (s : Shared) (H : Hp) (C : Addr) (cl : List (Str × Addr)) (fp : List Addr), STs (Blk X s H scope C cl fp) ifs tf)
    (he : ∀ (s : Shared) (H : Hp) (C : Addr) (cl : List (Str × Addr)) (fp : List Addr), SE (Blk X s H scope C cl fp) elt ev) (hs : ∀ x, foldedSetIterable iter X.env x = pure x := by intro _; rfl) :
    SS X (.Assign [.Name y py] (.ListComp elt [⟨tg, iter, ifs, 0⟩] scope pos) spos) (sSet (gN i) (eLc it g tf ev (own.map (·.2)))) := by
  refine ps_to (ps_setLc (g := tG (cst X) is g) (tt := tT (cst X) tf) (te := tE (cst X) ev) hc hN hy hyl hsw hi ok hg ht he hs) fun E σ H q => ?_
  obtain ⟨ι, Z, h, σd, fl, σd', h', r, rs, e, q⟩ := q
  obtain ⟨⟨x, h1⟩, ef, e⟩ := bind_inv e
  obtain ⟨σ1, eg, e⟩ := bind_inv e
  obtain ⟨_, eg⟩ := ite_inv eg
  cases eg; cases e
  exact lc_to hv ⟨ι, Z, h, σd, x, _, r, rs, ef, fun v ι1 H1 x1 r1 p1 => q ι1 H1 _ x1 r1 ((rs.ext x1).set i p1)⟩
end
end PyD
set_option Elab.async false
set_option linter.all false
set_option maxRecDepth 100000
set_option maxHeartbeats 4000000
/-! PyS7: defs, calls, the law's end. -/
namespace PyD
open PySem PySem.Spec PyProof.Rows L2

/-- a def's promise: it gives what F gives -/
def spH (C : Cst) (np : Nat) (F : Fn) : Sp := fun vs H Q _ => vs.length = np ∧ ∃ (ι : List Addr) (Z : Addr → Prop) (h : MH) (ds : List D) (d : D) (h' : MH), R C ι Z H h ∧ RepAll C ι Z H ds vs ∧ F ds h = some (d, h') ∧
  ∀ v ι' H', Ext ι H ι' H' → R C ι' Z H' h' → Rep C ι' Z H' d v → Q v H'
theorem mkFn_inv {np ns : Nat} {b : Sv} {ds : List D} {h : MH} {d : D} {h' : MH} (e : mkFn np ns b ds h = some (d, h')) : ds.length = np ∧ ∃ fl σ', b (ds.map some ++ List.replicate (ns - np) none) h = some (fl, σ', h') ∧ retOf fl = some d := by
  obtain ⟨h1, e⟩ := ite_inv e
  obtain ⟨⟨fl, σ', h2⟩, e1, e⟩ := bind_inv e
  obtain ⟨d', e2, e⟩ := map_inv e
  cases e
  exact ⟨h1, fl, σ', e1, e2⟩
section
variable {P : Program} {w : World} {K : PySem.W.Frag} {mg : Str → Option Value} {base : Heap} {k : Nat}
/-- a def of the text: f stands under the name x, and gives what F gives -/
structure Def (P : Program) (w : World) (K : PySem.W.Frag) (mg : Str → Option Value) (base : Heap) (k : Nat) (x : Str) (F : Fn) : Prop where
  ex : ∃ (f : Addr) (fd : FuncData) (ps : List Str), FnOk P w K mg base CX0 k f fd ps (spH ⟨P, w, K⟩ ps.length F) ∧ mg x = some (.ref f) ∧ PySem.W.keepIn K (.ref f) = true ∧ Binds K fd ps [] ∧ ∀ ds h r, F ds h = some r → ds.length = ps.length
theorem Def.mono {j : Nat} {x : Str} {F : Fn} (d : Def P w K mg base j x F) (h : j ≤ k) : Def P w K mg base k x F := let ⟨f, fd, ps, a, r⟩ := d.ex; ⟨f, fd, ps, a.mono h, r⟩
/-- THE RULE for a def's body -/
theorem fn_ok {x qual : Str} {st : Stmt} {f : Addr} {fd : FuncData} {N ps : List Str} {b : Sv} (F : L2.Fun K x qual st f fd) (S : FnScope N ps (defScope st))
    (body : ∀ (cdv : Value) (A : Around) (outer : List Env) (s : Shared) (H : Hp) (E : XK), Room k (A.deeper (envOfC qual (defScope st) s.heap.objs.size f cdv)) →
      SSs (cxOf CX0 P w K mg base N qual (defScope st) f cdv A outer s H E).nox (defBody st) b) : FnOk P w K mg base CX0 (k + 1) f fd ps (spH ⟨P, w, K⟩ ps.length (mkFn ps.length N.length b)) := by
  refine F.ok S (fun vs H Q E h => h.1) fun cdv A outer s H vs Q E hr h => ?_
  refine ⟨_, body cdv A outer s H E hr, ?_⟩
  obtain ⟨hl, ι, Z, h, ds, d, h', r, p, e, q⟩ := h
  obtain ⟨hd, fl, σ', e1, e2⟩ := mkFn_inv e
  have rs : RS ⟨P, w, K⟩ ι Z H (ds.map some ++ List.replicate (N.length - ps.length) none) (L2.start N vs) := by
    unfold L2.start
    rw [hl]
    exact RS.start p _
  refine ⟨ι, Z, h, _, fl, σ', h', r, rs, e1, fun ι1 H1 σ1 x1 r1 rs1 => ?_⟩
  cases fl with
  | nx => cases e2; exact q _ ι1 H1 x1 r1 .non
  | rt d' => cases e2; exact fun v pv => q v ι1 H1 x1 r1 pv
  | bk => cases e2
  | ct => cases e2
theorem def_ok {x qual : Str} {st : Stmt} {f : Addr} {fd : FuncData} {N ps : List Str} {b : Sv} (F : L2.Fun K x qual st f fd) (S : FnScope N ps (defScope st)) (hb : Binds K fd ps []) {y : Str} (hm : mg y = some (.ref f))
    (body : ∀ (cdv : Value) (A : Around) (outer : List Env) (s : Shared) (H : Hp) (E : XK), Room k (A.deeper (envOfC qual (defScope st) s.heap.objs.size f cdv)) →
      SSs (cxOf CX0 P w K mg base N qual (defScope st) f cdv A outer s H E).nox (defBody st) b) : Def P w K mg base (k + 1) y (mkFn ps.length N.length b) :=
  ⟨f, fd, ps, fn_ok F S body, hm, F.kp, hb, fun ds h r e => (mkFn_inv (d := r.1) (h' := r.2) e).1⟩
end

/-! ### calls -/
section
variable {X : Cx} {k : Nat} {x : Str} {F : Fn} {p pos : Pos} {e : Expr} {es : List Expr} {av : Av}
abbrev DefX (X : Cx) (k : Nat) (x : Str) (F : Fn) : Prop := Def X.prog X.w X.K X.mg X.base k x F
theorem se_call (d : DefX X k x F) (hr : Room k X.A) (hg : Gl X x) (ha : SA X (e :: es) av) (hdb : (x == ("__debug__" : Str)) = false := by decide)
    (he : starEach (e :: es) X.env = (false, eval e X.env) :: starEach es X.env := by rfl) (hpl : (backTo pos (starEach es X.env)).any (·.1) = false := by rfl) : SE X (.Call (.Name x p) (e :: es) [] pos) (eN F av) := by
  obtain ⟨f, fd, ps, ok, hm, kp, hb, hl⟩ := d.ex
  refine pe_to (pe_call ok hr hg hm kp hb .nil pass0 ha hdb he hpl) fun σ H Q q => ?_
  obtain ⟨ι, Z, h, σd, ds, h', r, rs, e, q⟩ := tN_of q
  refine ⟨ι, Z, h, σd, ds, h', r, rs, e, fun vs ι1 H1 x1 r1 p1 => ?_⟩
  obtain ⟨ι2, Z2, h2, ds2, d2, h3, r2, p2, e2, q2⟩ := q vs ι1 H1 x1 r1 p1
  rw [List.append_nil]
  exact ⟨by rw [← p2.length]; exact hl _ _ _ e2, ι2, Z2, h2, ds2, d2, h3, r2, p2, e2, q2⟩
theorem se_call0 (d : DefX X k x F) (hr : Room k X.A) (hg : Gl X x) (hdb : (x == ("__debug__" : Str)) = false := by decide) : SE X (.Call (.Name x p) [] [] pos) (eN F aNil) := by
  obtain ⟨f, fd, ps, ok, hm, kp, hb, hl⟩ := d.ex
  refine pe_to (pe_call0 ok hr hg hm kp hb .nil pass0 hdb) fun σ H Q q => ?_
  obtain ⟨ι, Z, h, σd, ds, h', r, rs, e, q⟩ := tN_of q
  cases e
  obtain ⟨ι2, Z2, h2, ds2, d2, h3, r2, p2, e2, q2⟩ := q [] ι H (.refl _ _) r .nil
  exact ⟨by rw [← hl _ _ _ e2, p2.length]; rfl, ι2, Z2, h2, ds2, d2, h3, r2, p2, e2, q2⟩
end

/-! ### what no longer changes -/
section
variable {C : Cst} {ι ι' : List Addr} {Z Z' : Addr → Prop} {H H' : Hp} {h : MH}
theorem ORep.notup {o : MO} {a : Addr} (x : ORep C ι Z H o a) : ∀ vs, H a ≠ some (.tup vs) := fun vs e => by
  cases o with
  | lst xs => obtain ⟨us, e2, _⟩ := x; rw [e] at e2; cases e2
  | dct kvs => obtain ⟨us, e2, _⟩ := x; rw [e] at e2; cases e2
  | ins c fs => obtain ⟨_, _, _, e2, _⟩ := x; rw [e] at e2; cases e2
end
section
variable {P : Program} {w : World} {K : PySem.W.Frag} {mg : Str → Option Value} {base : Heap} {k : Nat}
/-- a def that changes nothing: it may run in a heap of its own -/
theorem Def.pure {x : Str} {np ns : Nat} {b : Sv} (d : Def P w K mg base k x (mkFn np ns b)) : Def P w K mg base k x (ePure (mkP np ns b)) := by
  obtain ⟨f, fd, ps, ok, hm, kp, hb, hl⟩ := d.ex
  have inv : ∀ {ds : List D} {h : MH} {d : D} {h' : MH}, ePure (mkP np ns b) ds h = some (d, h') → D.cls ds = true ∧ h' = h ∧ ∃ d0 h0, mkFn np ns b ds [] = some (d0, h0) ∧ frzN 0 8 h0 d0 = some d := fun {ds h d h'} e => by
    obtain ⟨c, e⟩ := ite_inv e
    obtain ⟨d1, e1, e⟩ := map_inv e
    cases e
    obtain ⟨_, e1⟩ := ite_inv e1
    obtain ⟨⟨d0, h0⟩, e2, e3⟩ := bind_inv e1
    exact ⟨c, rfl, d0, h0, e2, e3⟩
  refine ⟨f, fd, ps, ok.imp fun vs H Q E hs => ?_, hm, kp, hb, fun ds h r e => ?_⟩
  · obtain ⟨hlen, ι, Z, h, ds, d, h', r, p, e, q⟩ := hs
    obtain ⟨c, rfl, d0, h0, e1, e2⟩ := inv e
    have p' : RepAll ⟨P, w, K⟩ [] (fun a => Z a ∨ a ∈ ι) H ds vs := RepAll.op ⟨fun _ _ _ _ => by simp, fun a h1 h2 => ⟨by simp, fun z => z.elim h2 h1⟩⟩ p c
    refine ⟨hlen, [], _, [], ds, d0, h0, ⟨rfl, by simp, fun a z => z.elim (r.live a) (fun m => r.live_ m), by simp, fun n a o e => by simp at e⟩, p', e1, fun v ι1 H1 x1 r1 p1 => ?_⟩
    have un : ∀ a o, H a = some o → H1 a = some o := fun a o e => x1.un a o e (by simp)
    have x2 : Ext ι H ι H1 := ⟨⟨[], by simp, by simp⟩, fun a o e _ => un a o e, x1.live⟩
    have keep : ∀ a ∈ ι, H1 a = H a := fun a m => by
      cases hq : H a with
      | none => exact absurd hq (r.live_ m)
      | some o => exact un a o hq
    have r2 : R ⟨P, w, K⟩ ι Z H1 h' := ⟨r.len, r.nd, fun a z => x2.live a (r.live a z), r.apart, fun n a o e1 e2 => (r.at_ n a o e1 e2).ext x2 (keep a (List.mem_iff_getElem?.mpr ⟨n, e1⟩))⟩
    refine q v ι H1 x2 r2 (frz_rep r1 ⟨fun a vs' h1 h2 m => ?_, fun a h1 h2 => ⟨fun m => h2 (.inr m), fun z => h2 (.inl z)⟩⟩ (fun m a _ hm => ?_) 8 p1 e2)
    · obtain ⟨n, hn⟩ := List.mem_iff_getElem?.mp m
      obtain ⟨o, _, xo⟩ := r2.obj hn
      exact xo.notup vs' h2
    · have := r1.apart a (List.mem_iff_getElem?.mpr ⟨m, hm⟩)
      exact ⟨fun z => this (.inr z), fun z => this (.inl z)⟩
  · obtain ⟨c, _, d0, h0, e1, e2⟩ := inv (d := r.1) (h' := r.2) e
    exact hl ds [] _ e1
end

section
variable {P : Program} {w : World} {K : PySem.W.Frag} {mg : Str → Option Value} {base : Heap} {k : Nat}
/-- a def that hands back what no longer changes -/
theorem Def.frz {x : Str} {np ns : Nat} {b : Sv} (d : Def P w K mg base k x (mkFn np ns b)) : Def P w K mg base k x (mkH np ns b) := by
  obtain ⟨f, fd, ps, ok, hm, kp, hb, hl⟩ := d.ex
  have inv : ∀ {ds : List D} {h : MH} {d : D} {h' : MH}, mkH np ns b ds h = some (d, h') → ∃ d0 h0, mkFn np ns b ds h = some (d0, h0) ∧ frzN h.length 8 h0 d0 = some d ∧ (h0.take h.length).all clO = true ∧ h.length ≤ h0.length ∧ h' = h0.take h.length := fun {ds h d h'} e => by
    obtain ⟨⟨d0, h0⟩, e1, e⟩ := bind_inv e
    obtain ⟨d1, e2, e⟩ := bind_inv e
    obtain ⟨c, e⟩ := ite_inv e
    rw [Bool.and_eq_true, decide_eq_true_eq] at c
    cases e
    exact ⟨d0, h0, e1, e2, c.1, c.2, rfl⟩
  refine ⟨f, fd, ps, ok.imp fun vs H Q E hs => ?_, hm, kp, hb, fun ds h r e => ?_⟩
  · obtain ⟨hlen, ι, Z, h, ds, d, h', r, p, e, q⟩ := hs
    obtain ⟨d0, h0, e1, e2, c1, c2, rfl⟩ := inv e
    refine ⟨hlen, ι, Z, h, ds, d0, h0, r, p, e1, fun v ι1 H1 x1 r1 p1 => ?_⟩
    obtain ⟨new, en, fresh⟩ := x1.pre
    have op : Op ι1 Z H1 ι Z := ⟨fun a vs h1 _ m => h1 (by rw [en]; exact List.mem_append_left _ m), fun a h1 h2 => ⟨fun m => h1 (by rw [en]; exact List.mem_append_left _ m), h2⟩⟩
    have nd := r1.nd
    rw [en, List.nodup_append] at nd
    have x2 : Ext ι H ι H1 := ⟨⟨[], by simp, by simp⟩, x1.un, x1.live⟩
    have r2 : R ⟨P, w, K⟩ ι Z H1 (h0.take h.length) := by
      refine ⟨by rw [List.length_take, r.len]; omega, r.nd, r1.live, fun a m => r1.apart a (by rw [en]; exact List.mem_append_left _ m), fun n a o g1 g2 => ?_⟩
      have hn : n < h.length := by rw [← r.len]; exact (List.getElem?_eq_some_iff.mp g1).1
      rw [List.getElem?_take_of_lt hn] at g2
      have co : clO o = true := List.all_eq_true.mp c1 o (by
        rw [List.mem_iff_getElem?]
        exact ⟨n, by rw [List.getElem?_take_of_lt hn]; exact g2⟩)
      have xo := r1.at_ n a o (by rw [en, List.getElem?_append_left (List.getElem?_eq_some_iff.mp g1).1]; exact g1) g2
      cases o with
      | lst xs => obtain ⟨vs', k1, k2⟩ := xo; exact ⟨vs', k1, RepAll.op op k2 co⟩
      | dct kvs => obtain ⟨vs', k1, k2⟩ := xo; exact ⟨vs', k1, RepKV.op op k2 co⟩
      | ins c fs => obtain ⟨Ca, dx, fv, k1, k2, k3, k4⟩ := xo; exact ⟨Ca, dx, fv, k1, k2, k3, RepAll.op op k4 co⟩
    refine q v ι H1 x2 r2 (frz_rep r1 op (fun m a hlo hm => ⟨fun ma => ?_, r1.apart a (List.mem_iff_getElem?.mpr ⟨m, hm⟩)⟩) 8 p1 e2)
    rw [en, List.getElem?_append_right (by rw [r.len]; exact hlo)] at hm
    exact nd.2.2 a ma a (List.mem_iff_getElem?.mpr ⟨_, hm⟩) rfl
  · obtain ⟨d0, h0, e1, _⟩ := inv (d := r.1) (h' := r.2) e
    exact hl ds h _ e1
end

/-! ### short words for the printed proofs -/
theorem r64 {k : Nat} {A : Around} (r : Room k A) : A.units + 64 < cLine := r.units
theorem r65 {k : Nat} {A : Around} (r : Room k A) : A.units + 65 < cLine := by
  have := r.un
  omega
/-- a module's tuple of texts -/
structure GTup (K : PySem.W.Frag) (mg : Str → Option Value) (x : Str) (xs : List Str) : Prop where
  ex : ∃ (p : Addr) (o : Obj) (its : Array Value) (n : Nat), mg x = some (.ref p) ∧ K.lookup p = some o ∧ o.cls = .type "tuple" ∧ o.data = .seq its n ∧ its.size ≤ sizeLine ∧ Vals (xs.map V.str) its.toList
theorem se_gt {X : Cx} {x : Str} {xs : List Str} {pos : Pos} (G : GTup X.K X.mg x xs) (hg : Gl X x) (hd : (x == ("__debug__" : Str)) = false := by decide) : SE X (.Name x pos) (eK (.tup (xs.map D.str))) := by
  obtain ⟨p, o, its, n, h1, h2, h3, h4, h5, h6⟩ := G.ex
  exact se_gtup hg h1 h2 h3 h4 h5 h6 hd

/-! ### the law's end -/
theorem law_sp {P : Program} {w : World} {K : PySem.W.Frag} {F : Fn} (law : ∀ ns : List Int, ns.length ≤ 63 → ∃ h, F [.scr ns] [] = some (.bl true, h)) {H : Hp} {a : Addr} {ns : List Int} (hl : ns.length ≤ 63) (hO : L2.Only H) (hS : SqL K H a (ns.map V.int)) :
    spH ⟨P, w, K⟩ 1 F [.ref a] H (fun v _ => v = .bl true) fun _ _ _ => False := by
  obtain ⟨h, e⟩ := law ns hl
  refine ⟨rfl, [], fun _ => False, [], [.scr ns], .bl true, h, ⟨rfl, by simp, fun _ z => z.elim, by simp, fun n a o e => by simp at e⟩, .cons (.scr ?_) .nil, e, fun v ι' H' x r p => by cases p; rfl⟩
  rcases hS with (h1 | ⟨o, h1⟩) | h1
  · rcases hO a with h2 | ⟨o, xs, h2⟩
    · rw [h1] at h2; cases h2
    · rw [h1] at h2; cases h2
  · exact .inl ⟨o, by simp, fun z => z, h1⟩
  · exact .inr h1
end PyD
set_option Elab.async false
set_option linter.all false
set_option maxRecDepth 100000
set_option maxHeartbeats 4000000
/-! PyS8: operations that look at what they are given; isinstance. -/
namespace PyD
open PySem PySem.Spec PyProof.Rows L2

/-! ### a[b], x in y, a[b] = v, what is walked: whatever stands there -/
def isDct (h : MH) (d : D) : Bool := (asM h d).isSome
def kSub_ : Op2 := fun x y h => if isDct h x = true then kGet x y h else kIx x y h
def kIn_ : Op2 := fun x y h => if isDct h y = true then kInM x y h else match y with
  | .tup ys => kInT x (.tup ys) h
  | y => kIn x y h
def kNotIn_ : Op2 := fun x y h => if isDct h y = true then kNotInM x y h else match y with
  | .tup ys => kNotInT x (.tup ys) h
  | y => kNotIn x y h
def kSet_ : Op3 := fun o i v h => if isDct h o = true then kSetM o i v h else kSetL o i v h
def anyOf (h : MH) (d : D) : Option (List D × (MH → Bool)) := match d with
  | .tup xs => some (xs, yes)
  | .dct kvs => some (kvs.map (·.1), yes)
  | .lst xs => some (xs, yes)
  | .scr ns => some (ns.map .int, yes)
  | .ref n => match h[n]? with
    | some (.lst xs) => some (xs, isL n xs)
    | some (.dct kvs) => some (kvs.map (·.1), isD n kvs)
    | _ => none
  | _ => none
def iAny (f : Ev) : Iv := fun σ h => (f σ h).bind fun p => (anyOf p.2 p.1).map fun q => (q.1, q.2, p.2)

section
variable {X : Cx}
theorem rD_if {C : Cst} {k k' : Op2} {c : MH → D → D → Bool} {x y : V} {H : Hp} {Q : VK} (q : rD C (fun a b h => if c h a b = true then k a b h else k' a b h) x y H Q) : rD C k x y H Q ∨ rD C k' x y H Q := by
  obtain ⟨ι, Z, h, d, e, z, h', r, p1, p2, ek, q⟩ := q
  have ek : (if c h d e = true then k d e h else k' d e h) = some (z, h') := ek
  by_cases hc : c h d e = true
  · rw [if_pos hc] at ek
    exact .inl ⟨ι, Z, h, d, e, z, h', r, p1, p2, ek, q⟩
  · rw [if_neg hc] at ek
    exact .inr ⟨ι, Z, h, d, e, z, h', r, p1, p2, ek, q⟩
theorem od_sub_ (hu : X.A.units + 64 < cLine) : IxR X (rD (cst X) kSub_) := by
  intro value slice pins s σ H x y v u Q I rx ry q hs
  rcases rD_if (c := fun h a _ => isDct h a) q with q | q
  · exact od_get hu value slice pins s σ H x y v u Q I rx ry q hs
  · exact od_ix value slice pins s σ H x y v u Q I rx ry q hs
theorem od_in_ (hu : X.A.units + 65 < cLine) : OpR X (compareOp .In) (rD (cst X) kIn_) := by
  intro pins s σ H x y v u Q I rx ry q
  rcases rD_if (c := fun h _ b => isDct h b) (k := kInM) (k' := fun a b h => match b with | .tup ys => kInT a (.tup ys) h | b => kIn a b h) q with q | q
  · exact od_inM (by omega) pins s σ H x y v u Q I rx ry q
  · obtain ⟨ι, Z, h, d, e, z, h', r, p1, p2, ek, q⟩ := q
    cases e <;> first
      | exact od_inT pins s σ H x y v u Q I rx ry ⟨ι, Z, h, d, _, z, h', r, p1, p2, ek, q⟩
      | exact od_in hu pins s σ H x y v u Q I rx ry ⟨ι, Z, h, d, _, z, h', r, p1, p2, ek, q⟩
theorem od_notin_ (hu : X.A.units + 65 < cLine) : OpR X (compareOp .NotIn) (rD (cst X) kNotIn_) := by
  intro pins s σ H x y v u Q I rx ry q
  rcases rD_if (c := fun h _ b => isDct h b) (k := kNotInM) (k' := fun a b h => match b with | .tup ys => kNotInT a (.tup ys) h | b => kNotIn a b h) q with q | q
  · exact od_notinM (by omega) pins s σ H x y v u Q I rx ry q
  · obtain ⟨ι, Z, h, d, e, z, h', r, p1, p2, ek, q⟩ := q
    cases e <;> first
      | exact od_notinT pins s σ H x y v u Q I rx ry ⟨ι, Z, h, d, _, z, h', r, p1, p2, ek, q⟩
      | exact od_notin hu pins s σ H x y v u Q I rx ry ⟨ι, Z, h, d, _, z, h', r, p1, p2, ek, q⟩
theorem sd_set_ (hu : X.A.units + 64 < cLine) : PSet X (setD (cst X) kSet_) := by
  intro pins s σ H o i v ov iv u Q I ro ri rv ⟨ι, Z, h, d, e, z, h', r, p1, p2, p3, ek, q⟩
  unfold kSet_ at ek
  split at ek
  · exact sd_dict hu pins s σ H o i v ov iv u Q I ro ri rv ⟨ι, Z, h, d, e, z, h', r, p1, p2, p3, ek, q⟩
  · exact sd_list pins s σ H o i v ov iv u Q I ro ri rv ⟨ι, Z, h, d, e, z, h', r, p1, p2, p3, ek, q⟩
end

/-! ### the keys of a dict, walked -/
/-- a dict of ours with n keys at d -/
def Itx (C : Cst) (d : Addr) (n : Nat) : It :=
  ⟨fun i H => i < n ∧ ∃ ws, H d = some (.ext (dφ C d ws)) ∧ ws.length = n, fun i H x H' => H' = H ∧ ∀ ws, H d = some (.ext (dφ C d ws)) → ∃ e : Ent, ws[i]? = some e ∧ x = e.2.1,
    fun i H => n ≤ i ∧ ∃ ws, H d = some (.ext (dφ C d ws)) ∧ ws.length = n⟩
section
variable {P : Program} {w : World} {K : PySem.W.Frag} {tg : Expr} {d : Addr} {n : Nat}
theorem ext_raw {X : Cx} {pins : List (Addr × Obj)} {σ : L2.St} {H : Hp} {s : Shared} (I : L2.Inv X pins σ H s) {ws : List Ent} (e : H d = some (.ext (dφ (cst X) d ws))) :
    (d == sysModules) = false ∧ ∃ (es : Array DictEntry) (us : List EntV), s.heap.DictRaw d es ws.length ∧ es.size = ws.length ∧ es.toList = us.map (entryOfKey (nk X.prog X.w)) ∧ Paired EntRel ws us := by
  obtain ⟨⟨g1, g2, o, es, us, g3, g4, g5, g6, g7, g8⟩, _⟩ := I.hok d _ e
  refine ⟨g1, es, us, ⟨o, g3, g4, g5⟩, ?_, g6, g7⟩
  rw [size_of_entries g6, ← Paired.length g7]
theorem pair_at {ws : List Ent} {us : List EntV} (p : Paired EntRel ws us) {i : Nat} {u : EntV} (h : us[i]? = some u) : ∃ e : Ent, ws[i]? = some e ∧ EntRel e u := by
  induction p generalizing i with
  | nil => simp at h
  | cons r t ih =>
    cases i with
    | zero => simp at h; subst h; exact ⟨_, rfl, r⟩
    | succ i => simpa using ih (by simpa using h)
theorem turn_x (it : Addr) : Turn P w K tg (Itx ⟨P, w, K⟩ d n) [it] it (fun i h => h.IsKeyIter it d i n n) where
  mem := by simp
  obj := fun i h st b hb => by
    obtain rfl : b = it := by simpa using hb
    obtain ⟨oi, e, c, dd⟩ := st
    exact ⟨oi, e, fun v z => by rw [dd] at z; cases z⟩
  keep := fun i h h' st kp => st.at fun oi e => kp it (by simp) oi e
  item := by
    intro X hP hw hK hc i pins s σ H E I hf st hg
    subst hP hw hK
    obtain ⟨hi, ws, e1, e2⟩ := hg
    obtain ⟨f0, f1, f2, f3, f4, f5⟩ := hf it (by simp)
    obtain ⟨hs, es, us, raw, sz, el, pr⟩ := ext_raw I e1
    rw [e2] at raw sz
    have st2 : s.heap.IsKeyIter it d i es.size n := by rw [sz]; exact st
    have hlt : i < es.size := by omega
    refine wpAny_pyNext_keys_item_raw st2 raw hlt fun h' st' sb => ?_
    have I1 : L2.Inv X pins σ H { s with heap := h' } := I.turned (t' := s.toks) (fun b ob hb e => (sb.2 b hb).trans e) f0 f1 f3 f4 f5
    have hu : i < us.length := by rw [← size_of_entries el]; exact hlt
    have ek : es[i].key = .ref us[i].2.1 := by
      have := entry_at el i
      rw [Array.getElem?_eq_getElem hlt, List.getElem?_eq_getElem hu] at this
      have := Option.some.inj this
      rw [this]; rfl
    rw [sz] at st'
    obtain ⟨oi, eo, c, dd⟩ := id st'
    refine ⟨es[i].key, rfl, go_of (s := { s with heap := h' }) eo c dd (by decide) ⟨.ref us[i].2.1, H, I1, ek, ⟨rfl, fun ws' ew => ?_⟩, st', fun b hb => (hf b hb).1⟩⟩
    obtain ⟨_, es', us', raw', sz', el', pr'⟩ := ext_raw I ew
    obtain ⟨o1, g1, g2, g3⟩ := raw
    obtain ⟨o2, k1, k2, k3⟩ := raw'
    rw [g1] at k1; cases k1
    rw [g3] at k3
    obtain ⟨rfl, _⟩ : es = es' ∧ n = ws'.length := by
      injection k3 with a b
      exact ⟨a, b⟩
    have hu' : i < us'.length := by rw [← size_of_entries el']; exact hlt
    have ek' : es[i].key = .ref us'[i].2.1 := by
      have := entry_at el' i
      rw [Array.getElem?_eq_getElem hlt, List.getElem?_eq_getElem hu'] at this
      have := Option.some.inj this
      rw [this]; rfl
    obtain ⟨en, h1, h2⟩ := pair_at pr' (List.getElem?_eq_getElem hu')
    refine ⟨en, h1, ?_⟩
    rw [h2.2.1]
    rw [ek] at ek'
    injection ek' with ek'
    rw [ek']
  done := by
    intro X hP hw hK hc i pins s σ H E I hf st hg
    subst hP hw hK
    obtain ⟨hi, ws, e1, e2⟩ := hg
    obtain ⟨f0, f1, f2, f3, f4, f5⟩ := hf it (by simp)
    obtain ⟨hs, es, us, raw, sz, el, pr⟩ := ext_raw I e1
    rw [e2] at raw sz
    have st2 : s.heap.IsKeyIter it d i es.size n := by rw [sz]; exact st
    exact wpAny_pyNext_keys_end_raw (I.ok.hd hc) st2 raw (by omega) fun h' eb => ⟨rfl, I.turned (t' := s.toks) (fun b ob hb e => eb b ob hb e) f0 f1 f3 f4 f5⟩
  self := fun A i s Q E st h => wpAny_pyIter_keyiter st h
end
section
variable {X : Cx} {tg a : Expr} {f : Ev}
def iX (C : Cst) (td : TE) : TI := fun σ H Rr => td σ H fun x H1 => ∃ d ws, x = .ref d ∧ H1 d = some (.ext (dφ C d ws)) ∧ Rr (Itx C d ws.length) H1
theorem pi_x {td : TE} (ha : PE X a td) : PI X tg a (iX (cst X) td) := by
  refine ⟨fun pins s σ H R I h => ?_⟩
  refine thn (ha.run pins s σ H _ I h) fun u s1 ⟨x, H1, I1, rx, d, ws, ex, e, q⟩ => ?_
  subst ex
  obtain rfl : u = Value.ref d := rx
  obtain ⟨hs, es, us, raw, sz, el, pr⟩ := ext_raw I1 e
  refine wpAny_pyIter_dict_raw hs raw (pi_one (tk := s1.toks) I1 _ (turn_x _) ⟨_, Heap.get?_push_size _ rfl, rfl, ?_⟩ q)
  rw [sz]
  rfl
theorem kv_key {C : Cst} {ι : List Addr} {Z : Addr → Prop} {H : Hp} : ∀ {kvs : List (D × D)} {ws : List Ent} {i : Nat} {d : D}, RepKV C ι Z H kvs ws → (kvs.map (·.1))[i]? = some d → ∃ e : Ent, ws[i]? = some e ∧ Rep C ι Z H d e.2.1
  | _, _, _, _, .nil, h => by simp at h
  | _, _, 0, _, .cons _ _ r1 _ _, h => by simp at h; subst h; exact ⟨_, rfl, r1⟩
  | _, _, i + 1, _, .cons _ _ _ _ t, h => by
    obtain ⟨e, h1, h2⟩ := kv_key (i := i) t (by simpa using h)
    exact ⟨e, by simpa using h1, h2⟩
theorem walk_x {C : Cst} {ι : List Addr} {Z : Addr → Prop} {H : Hp} {d : Addr} {n : Nat} {kvs : List (D × D)} {chk : MH → Bool} (hn : n = kvs.length)
    (l : ∀ (ι' : List Addr) (Z' : Addr → Prop) (H' : Hp) (h' : MH), Tr ι Z H ι' Z' H' → R C ι' Z' H' h' → chk h' = true → ∃ ws, H' d = some (.ext (dφ C d ws)) ∧ RepKV C ι' Z' H' kvs ws) : Walk C ι Z H (Itx C d n) (kvs.map (·.1)) chk := by
  intro i ι' Z' H' h' t r' ck
  obtain ⟨ws, g1, g2⟩ := l ι' Z' H' h' t r' ck
  have hl := g2.length
  refine ⟨fun hi => ⟨by simpa [hn] using hi, ws, g1, by omega⟩, fun k hk => ?_⟩
  obtain ⟨e, g3, g4⟩ := kv_key g2 hk
  have hlt := (List.getElem?_eq_some_iff.mp g3).1
  refine ⟨⟨by omega, ws, g1, by omega⟩, fun x H2 y => ?_⟩
  obtain ⟨rfl, y⟩ := y
  obtain ⟨e', h1, rfl⟩ := y ws g1
  rw [g3] at h1
  cases h1
  exact ⟨.refl _ _, r', g4⟩
theorem si_any (ha : SE X a f) : SI X tg a (iAny f) := by
  refine ⟨fun pins s σ H Rr I q => ?_⟩
  obtain ⟨ι, Z, h, σd, items, chk, h', r, rs, e, q⟩ := q
  obtain ⟨⟨x, h1⟩, ef, e⟩ := bind_inv e
  obtain ⟨⟨xs, ck⟩, e1, e⟩ := map_inv e
  have e1 : anyOf h1 x = some (xs, ck) := e1
  cases e
  have seq : ∀ {xs ck}, seqOf x h1 = some (xs, ck) → (∀ J ι' H', Ext ι H ι' H' → R (cst X) ι' Z H' h1 → Walk (cst X) ι' Z H' J xs ck → Rr J H') →
      wpAny (model X.prog X.w) X.A (eval a X.env) (fun v s1 => wpAny (model X.prog X.w) X.A (pyIter v) (PIE X pins σ tg Rr) X.xe s1) X.xe s := fun {xs ck} es q =>
    (si_seq (tg := tg) ha).run pins s σ H Rr I ⟨ι, Z, h, σd, xs, ck, h1, r, rs, by
      show (f σd h).bind _ = _
      rw [ef]
      show (seqOf x h1).map _ = _
      rw [es]; rfl, q⟩
  cases x with
  | tup ys =>
    cases e1
    exact (si_tup (tg := tg) ha).run pins s σ H Rr I ⟨ι, Z, h, σd, _, _, h1, r, rs, by
      show (f σd h).bind _ = _
      rw [ef]; rfl, q⟩
  | lst ys => exact seq e1 q
  | scr ns => exact seq e1 q
  | dct kvs =>
    cases e1
    refine (pi_x (tg := tg) ha).run pins s σ H Rr I ⟨ι, Z, h, σd, _, h1, r, rs, ef, fun v ι1 H1 x1 r1 p1 => ?_⟩
    cases p1 with
    | dct g1 g2 g3 g4 =>
      refine ⟨_, _, rfl, g3, q _ ι1 H1 x1 r1 (walk_x g4.length.symm fun ι' Z' H' h' t r' _ => ?_)⟩
      obtain ⟨a1, a2, a3⟩ := t.fz _ _ g1 g2 g3
      exact ⟨_, a3, g4.tr t⟩
  | ref n =>
    cases hn : h1[n]? with
    | none => simp [anyOf, hn] at e1
    | some o =>
      cases o with
      | lst ys =>
        simp only [anyOf, hn] at e1
        exact seq (by simp only [seqOf, hn]; exact e1) q
      | dct kvs =>
        simp only [anyOf, hn] at e1
        cases e1
        refine (pi_x (tg := tg) ha).run pins s σ H Rr I ⟨ι, Z, h, σd, _, h1, r, rs, ef, fun v ι1 H1 x1 r1 p1 => ?_⟩
        cases p1 with
        | ref hm =>
          obtain ⟨ws, g1, g2⟩ := r1.at_ _ _ _ hm hn
          refine ⟨_, _, rfl, g1, q _ ι1 H1 x1 r1 (walk_x g2.length.symm fun ι' Z' H' h' t r' ck => ?_)⟩
          exact r'.at_ _ _ _ (t.ix _ _ hm) (of_decide_eq_true ck)
      | ins _ _ => simp [anyOf, hn] at e1
  | non => simp [anyOf] at e1
  | bl _ => simp [anyOf] at e1
  | int _ => simp [anyOf] at e1
  | str _ => simp [anyOf] at e1
end

/-! ### isinstance -/
def tyD (h : MH) (d : D) : Option String := match d with
  | .non => some "NoneType"
  | .bl _ => some "bool"
  | .int _ => some "int"
  | .str _ => some "str"
  | .tup _ => some "tuple"
  | .lst _ => some "list"
  | .scr _ => some "list"
  | .ref n => match h[n]? with
    | some (.lst _) => some "list"
    | _ => none
  | _ => none
/-- isinstance(a, T), T a built-in class -/
def kIsT (T : String) : D → MH → Option (D × MH) := fun d h => (tyD h d).bind fun t => (kitB t T).map fun b => (.bl b, h)
section
variable {X : Cx} {a : Expr} {f : Ev} {T : Str} {N : String} {p p2 pos : Pos}
theorem ty_rep {C : Cst} {ι : List Addr} {Z : Addr → Prop} {H : Hp} {h : MH} {d : D} {v : V} {t : String} (r : R C ι Z H h) (x : Rep C ι Z H d v) (e : tyD h d = some t) : TyX C.K H v (.type t) := by
  cases x with
  | non => cases e; exact .base .non
  | bl b => cases e; exact .base (.bl b)
  | int i => cases e; exact .base (.int i)
  | str z => cases e; exact .base (.str z)
  | tup t q =>
    cases e
    rcases t with ⟨_, t⟩ | ⟨o, its, n, h1, h2, _⟩
    · exact .base (.tup t)
    · exact .kTuple h1 h2
  | lst h1 h2 h3 q => cases e; exact .base (.lst h3)
  | dct h1 h2 h3 q => simp [tyD] at e
  | scr h1 =>
    cases e
    rcases h1 with ⟨o, _, _, h1⟩ | ⟨o, its, n, h1, h2, _⟩
    · exact .base (.frz h1)
    · exact .kList h1 h2
  | ref hn =>
    obtain ⟨o, e1, x⟩ := r.obj hn
    cases o with
    | lst xs =>
      simp only [tyD, e1] at e
      cases e
      obtain ⟨vs, g1, _⟩ := x
      exact .base (.lst g1)
    | dct _ => simp [tyD, e1] at e
    | ins _ _ => simp [tyD, e1] at e
theorem se_isT (hg : Gl X "isinstance") (hm : X.mg "isinstance" = none) (hgT : Gl X T) (hmT : X.mg T = none) (hvT : bootBuiltins T = some (.type N)) (ha : SE X a f) (hnT : T ≠ "__name__" := by decide) (hdT : (T == ("__debug__" : Str)) = false := by decide)
    (hs : starEach [a, .Name T p2] X.env = (false, eval a X.env) :: starEach [.Name T p2] X.env := by rfl) (hs2 : starEach [.Name T p2] X.env = (false, eval (.Name T p2) X.env) :: starEach [] X.env := by rfl)
    (hpl : (backTo pos (starEach [.Name T p2] X.env)).any (·.1) = false := by rfl) : SE X (.Call (.Name "isinstance" p) [a, .Name T p2] [] pos) (e1 (kIsT N) f) := by
  refine pe_to (pe_callB call_isi hg hm (by decide +kernel) (pa_cons ha (pa_cons (pe_bltn (v := .ty N) hgT hmT hvT rfl hnT hdT) pa_nil hs2) hs) (by decide) (by decide) hs hpl) fun σ H Q q => ?_
  obtain ⟨ι, Z, h, σd, d, h', r, rs, e, q⟩ := q
  obtain ⟨⟨x, h1⟩, ef, e⟩ := bind_inv e
  obtain ⟨t, et, e⟩ := bind_inv e
  obtain ⟨b, eb, e⟩ := map_inv e
  cases e
  exact ⟨ι, Z, h, σd, x, _, r, rs, ef, fun v ι1 H1 x1 r1 p1 => ⟨v, .ty N, .type t, .type N, b, rfl, .ty N, ty_rep r1 p1 et, kit_ty eb, q _ ι1 H1 x1 r1 (.bl b)⟩⟩
end
end PyD
set_option Elab.async false
set_option linter.all false
set_option maxRecDepth 100000
set_option maxHeartbeats 4000000
/-! PyS9: three at once. -/
namespace PyD
open PySem PySem.Spec PyProof.Rows L2
section
variable {X : Cx} {f g k : Ev} {pos : Pos}
/-- a, b, c = e1, e2, e3 with plain local names -/
theorem ss_par3 (i j l : Nat) {x y z : Str} {a b c : Expr} {px py pz pt : Pos} {kt k2 pt2} (hc : X.calm = true) (hN : X.N.Nodup) (hi : X.N[i]? = some x) (hj : X.N[j]? = some y) (hl : X.N[l]? = some z) (hij : i ≠ j) (hil : i ≠ l) (hjl : j ≠ l)
    (hx : X.env.scope.names.lookup x = some .local) (hy : X.env.scope.names.lookup y = some .local) (hz : X.env.scope.names.lookup z = some .local) (ha : SE X a f) (hb : SE X b g) (he : SE X c k)
    (hsa : starEach [a, b, c] X.env = (false, eval a X.env) :: starEach [b, c] X.env := by rfl) (hsb : starEach [b, c] X.env = (false, eval b X.env) :: starEach [c] X.env := by rfl) (hsc : starEach [c] X.env = (false, eval c X.env) :: starEach [] X.env := by rfl)
    (hw : swappedStores [.Tuple [.Name x px, .Name y py, .Name z pz] kt pt] (.Tuple [a, b, c] k2 pt2) X.env = pure (some [x, y, z]))
    (hs : swapsWithSole [.Tuple [.Name x px, .Name y py, .Name z pz] kt pt] (.Tuple [a, b, c] k2 pt2) pos.line X.env = pure false := by rfl) :
    SS X (.Assign [.Tuple [.Name x px, .Name y py, .Name z pz] kt pt] (.Tuple [a, b, c] k2 pt2) pos) (sSet (gT [gN i, gN j, gN l]) (eN kTup (aCons f (aCons g (aCons k aNil))))) := by
  refine ps_to (ps_par3 hc hN hi hj hl hij hil hjl hx hy hz (sa_cons ha (sa_cons hb (sa_cons he sa_nil hsc) hsb) hsa) hw hs) fun E σ H q => ?_
  obtain ⟨ι, Z, h, σd, fl, σd', h', r, rs, e, q⟩ := q
  obtain ⟨⟨x, h1⟩, ef, e⟩ := bind_inv e
  obtain ⟨σ1, eg, e⟩ := bind_inv e
  obtain ⟨⟨ds, h2⟩, ea, ek⟩ := bind_inv ef
  obtain ⟨_, ek⟩ := ite_inv ek
  cases ek; cases e
  refine ⟨ι, Z, h, σd, ds, _, r, rs, ea, fun vs ι1 H1 x1 r1 p1 => ?_⟩
  cases p1 with
  | nil => cases eg; all_goals exact nofun
  | cons p1 p2 =>
    rw [gT, gAll] at eg
    obtain ⟨σ2, e1, e2⟩ := bind_inv eg
    obtain ⟨_, e1⟩ := ite_inv e1
    cases e1
    cases p2 with
    | nil => rw [gAll] at e2; cases e2; all_goals exact nofun
    | cons p2 p3 =>
      rw [gAll] at e2
      obtain ⟨σ3, e3, e4⟩ := bind_inv e2
      obtain ⟨_, e3⟩ := ite_inv e3
      cases e3
      cases p3 with
      | nil => rw [gAll] at e4; cases e4; all_goals exact nofun
      | cons p3 p4 =>
        rw [gAll] at e4
        obtain ⟨σ4, e5, e6⟩ := bind_inv e4
        obtain ⟨_, e5⟩ := ite_inv e5
        cases e5
        cases p4 with
        | nil =>
          rw [gAll] at e6
          cases e6
          exact ⟨_, _, _, rfl, q ι1 H1 _ x1 r1 ((((rs.ext x1).set i p1).set j p2).set l p3)⟩
        | cons _ _ => rw [gAll] at e6; cases e6; all_goals exact nofun
end
/-- a list times k, a list that changes -/
def kMulT : Op2 := fun x y h => match y with
  | .int k => (asL h x).bind fun a => if k.natAbs < 2 ^ 62 ∧ a.length * k.toNat ≤ LIM then some (.ref h.length, h ++ [.lst (List.replicate k.toNat a).flatten]) else none
  | _ => none
theorem od_mulT {X : Cx} : OpR X (binaryOp .Mult) (rD (cst X) kMulT) := by
  intro pins s σ H x y v u Q I rx ry ⟨ι, Z, h, d, e, z, h', r, p1, p2, ek, q⟩
  unfold kMulT at ek
  split at ek
  · obtain ⟨xs, e1, ek⟩ := bind_inv ek
    obtain ⟨⟨l1, l3⟩, ek⟩ := ite_inv ek
    cases ek
    obtain ⟨a, vs, rfl, h1, q1⟩ := asL_rep r p1 e1
    cases p2
    exact op_rep pins s σ H _ _ v u Q I rx ry ⟨a, _, vs, rfl, rfl, h1, by omega, by omega, by rw [← line_eq, ← q1.length]; exact l3, fun p np => finM q r (q1.rep _) p np⟩
  · cases ek
end PyD
set_option Elab.async false
set_option linter.all false
set_option maxRecDepth 100000
set_option maxHeartbeats 4000000
/-! PyS10: order of data, sorted, count, least of data, d.get, list(range). -/
namespace PyD
open PySem PySem.Spec PyProof.Rows L2

def nonN : PyData → Bool
  | .none => false
  | _ => true
theorem nonN_ne {p : PyData} (h : nonN p = true) : p ≠ .none := by rintro rfl; cases h
def lowD (p : PyData) : Bool := decide (p.depth ≤ 60)
def dLtG (h : MH) (x y : D) : Option Bool := (D.data (flat h x)).bind fun a => (D.data (flat h y)).bind fun b =>
  if (W.alike a b && nonN a && lowD a) = true then some (W.dataLt a b) else none
def dGtG (h : MH) (x y : D) : Option Bool := (D.data (flat h x)).bind fun a => (D.data (flat h y)).bind fun b =>
  if (W.alike a b && nonN a && lowD a) = true then some (W.dataLt b a) else none
def kLtD : Op2 := fun x y h => match x, y with
  | .int i, .int j => some (.bl (decide (i < j)), h)
  | x, y => (dLtG h x y).map fun b => (.bl b, h)
def kGtD : Op2 := fun x y h => match x, y with
  | .int i, .int j => some (.bl (decide (j < i)), h)
  | x, y => (dGtG h x y).map fun b => (.bl b, h)
section
variable {X : Cx}
theorem od_ltD (hu : X.A.units + 64 < cLine) : OpR X (compareOp .Lt) (rD (cst X) kLtD) := by
  intro pins s σ H x y v u Q I rx ry ⟨ι, Z, h, d, e, z, h', r, p1, p2, ek, q⟩
  unfold kLtD at ek
  split at ek
  · exact od_lt pins s σ H x y v u Q I rx ry ⟨ι, Z, h, _, _, z, h', r, p1, p2, ek, q⟩
  · obtain ⟨b, eb, ek⟩ := map_inv ek
    cases ek
    obtain ⟨pa, ea, eb⟩ := bind_inv eb
    obtain ⟨pb, ebb, eb⟩ := bind_inv eb
    obtain ⟨c, eb⟩ := ite_inv eb
    cases eb
    rw [Bool.and_eq_true, Bool.and_eq_true] at c
    obtain ⟨as, r1⟩ := Dp.reads I pa x v (flat_dp r p1 ea) rx
    obtain ⟨bs, r2⟩ := Dp.reads I pb y u (flat_dp r p2 ebb) ry
    have hd := of_decide_eq_true c.2
    exact W.lt_data r1 r2 c.1.1 (nonN_ne c.1.2) (by omega) ⟨.bl _, H, I, rfl, fin0 q r (.bl _)⟩
theorem od_gtD (hu : X.A.units + 64 < cLine) : OpR X (compareOp .Gt) (rD (cst X) kGtD) := by
  intro pins s σ H x y v u Q I rx ry ⟨ι, Z, h, d, e, z, h', r, p1, p2, ek, q⟩
  unfold kGtD at ek
  split at ek
  · exact od_gt pins s σ H x y v u Q I rx ry ⟨ι, Z, h, _, _, z, h', r, p1, p2, ek, q⟩
  · obtain ⟨b, eb, ek⟩ := map_inv ek
    cases ek
    obtain ⟨pa, ea, eb⟩ := bind_inv eb
    obtain ⟨pb, ebb, eb⟩ := bind_inv eb
    obtain ⟨c, eb⟩ := ite_inv eb
    cases eb
    rw [Bool.and_eq_true, Bool.and_eq_true] at c
    obtain ⟨as, r1⟩ := Dp.reads I pa x v (flat_dp r p1 ea) rx
    obtain ⟨bs, r2⟩ := Dp.reads I pb y u (flat_dp r p2 ebb) ry
    have hd := of_decide_eq_true c.2
    exact W.gt_data r1 r2 c.1.1 (nonN_ne c.1.2) (by omega) ⟨.bl _, H, I, rfl, fin0 q r (.bl _)⟩
end

/-! ### l.count(x) -/
def mCount : OpM := fun o xs h => match xs with
  | [y] => (asL h o).bind fun l => (D.datas l).bind fun ps => (D.data y).bind fun p =>
      if (PyData.plainAll ps && PyData.plain p && decide (PyData.depthAll ps ≤ 60)) = true then some (.int ((ps.countP fun z => PyData.eqv z p : Nat) : Int), h) else none
  | _ => none
section
variable {X : Cx}
theorem md_count (hu : X.A.units + 64 < cLine) : MtR X "list.count" (rM (cst X) mCount) := by
  intro pins s σ H x xs v us Q I rx rxs ⟨ι, Z, h, d, ds, z, h', r, p1, p2, ek, q⟩
  unfold mCount at ek
  split at ek
  · obtain ⟨l, el, ek⟩ := bind_inv ek
    obtain ⟨ps, ep, ek⟩ := bind_inv ek
    obtain ⟨p, ey, ek⟩ := bind_inv ek
    obtain ⟨c, ek⟩ := ite_inv ek
    cases ek
    rw [Bool.and_eq_true, Bool.and_eq_true] at c
    obtain ⟨w, rfl, pw⟩ := rep1 p2
    obtain ⟨a, vs, rfl, g1, g2⟩ := asL_rep r p1 el
    cases rx
    cases rxs with
    | cons ry rt =>
      cases rt
      obtain ⟨its, rv, pl, hlen⟩ := I.list (SqL.of g1)
      obtain ⟨as, r1⟩ := Dp.readsAll I ps vs its (datas_dp g2 ep) rv
      obtain ⟨bs, r2⟩ := Dp.reads I p w _ (data_dp pw ey) ry
      have hd := of_decide_eq_true c.2
      refine SeqAt.count_list_data (vs := its.toArray) pl.isList (by simpa using r1) r2 c.1.1 c.1.2 (by omega) ?_
      exact ⟨.int _, H, I.tok _, ⟨_, rfl⟩, fin0 q r (.int _)⟩
  · cases ek
end

/-! ### sorted(l) -/
def dOf (d : D) : PyData := (D.data d).getD .none
def tupN : PyData → Bool
  | .tuple (_ :: _) => true
  | _ => false
def intN : PyData → Bool
  | .int _ => true
  | _ => false
def dLe (a b : D) : Bool := !W.dataLt (dOf b) (dOf a)
def kSortF : OpN := fun xs h => match xs with
  | [d] => (asL h d).bind fun l =>
      if ((l.all fun a => (D.data a).isSome && lowD (dOf a)) && (l.all fun a => l.all fun b => W.alike (dOf a) (dOf b)) && ((l.all fun a => tupN (dOf a)) || l.all fun a => intN (dOf a)) && decide (l.length ≤ LIM)) = true
      then some (.lst (l.mergeSort dLe), h) else none
  | _ => none
section
variable {X : Cx} {C : Cst} {ι : List Addr} {Z : Addr → Prop} {H : Hp} {h : MH} {pins : List (Addr × Obj)} {σ : L2.St} {s : Shared}
theorem each_rep (I : L2.Inv X pins σ H s) : ∀ {ds : List D} {vs : List V} {us : List Value}, RepAll (cst X) ι Z H ds vs → Vals vs us →
    W.EachIs (fun u d => ∃ v, RelV v u ∧ Rep (cst X) ι Z H d v) us ds
  | _, _, _, .nil, .nil => .nil
  | _, _, _, .cons r t, .cons a b => .cons ⟨_, a, r⟩ (each_rep I t b)
theorem rep_each : ∀ {us : List Value} {ds : List D}, W.EachIs (fun u d => ∃ v, RelV v u ∧ Rep C ι Z H d v) us ds → ∃ vs, RepAll C ι Z H ds vs ∧ Vals vs us
  | _, _, .nil => ⟨[], .nil, .nil⟩
  | _, _, .cons ⟨v, a, r⟩ t => let ⟨vs, p, q⟩ := rep_each t; ⟨v :: vs, .cons r p, .cons a q⟩
theorem each_imp {α β : Type} {R R' : α → β → Prop} : ∀ {as : List α} {bs : List β}, (∀ a b, b ∈ bs → R a b → R' a b) → W.EachIs R as bs → W.EachIs R' as bs
  | _, _, _, .nil => .nil
  | _, _, w, .cons r t => .cons (w _ _ (.head _) r) (each_imp (fun a b m => w a b (.tail _ m)) t)
theorem dataLe_dLe : W.dataLe false dOf = dLe := W.dataLe_eq false dOf
theorem cd_sortF (hu : X.A.units + 64 < cLine) : CallR X (.builtin "sorted") (rN (cst X) kSortF) := by
  intro pins s σ H xs us Q I rx ⟨ι, Z, h, ds, z, h', r, p, ek, q⟩
  unfold kSortF at ek
  split at ek
  · obtain ⟨l, el, ek⟩ := bind_inv ek
    obtain ⟨c, ek⟩ := ite_inv ek
    cases ek
    rw [Bool.and_eq_true, Bool.and_eq_true, Bool.and_eq_true] at c
    obtain ⟨⟨⟨c1, c2⟩, c3⟩, c4⟩ := c
    obtain ⟨w, rfl, pw⟩ := rep1 p
    obtain ⟨a, vs, rfl, g1, g2⟩ := asL_rep r pw el
    obtain ⟨its, rv, pl, _⟩ := I.list (SqL.of g1)
    have hz : l.length ≤ sizeLine := by rw [← line_eq]; exact of_decide_eq_true c4
    rw [List.all_eq_true] at c1
    have e0 := each_rep I g2 rv
    have e1 : W.EachIs (fun v b => ∃ as, Reads s.heap v (dOf b) as) its l := each_imp (fun u d hd ⟨v, a, b⟩ => by
      have := c1 d hd
      rw [Bool.and_eq_true] at this
      obtain ⟨pd, ed⟩ := Option.isSome_iff_exists.mp this.1
      have : dOf d = pd := by unfold dOf; rw [ed]; rfl
      rw [this]
      exact Dp.reads I pd v u (data_dp b ed) a) e0
    rw [Vals.ref1 rx]
    refine W.sorted_data (vs := its) (bs := l) (enc := dOf) (R := fun u d => ∃ v, RelV v u ∧ Rep (cst X) ι Z H d v) pl.isList e0 e1 ?_ ?_ hz ?_ fun out ho eo => ?_
    · intro x hx y hy
      obtain ⟨b, hb, rfl⟩ := List.mem_map.mp hx
      obtain ⟨b', hb', rfl⟩ := List.mem_map.mp hy
      exact List.all_eq_true.mp (List.all_eq_true.mp c2 b hb) b' hb'
    · rw [Bool.or_eq_true] at c3
      rcases c3 with c3 | c3
      · refine .inl fun x hx => ?_
        obtain ⟨b, hb, rfl⟩ := List.mem_map.mp hx
        have := List.all_eq_true.mp c3 b hb
        unfold tupN at this
        split at this
        · rename_i y t e; exact ⟨y, t, e⟩
        · cases this
      · refine .inr fun x hx => ?_
        obtain ⟨b, hb, rfl⟩ := List.mem_map.mp hx
        have := List.all_eq_true.mp c3 b hb
        unfold intN at this
        split at this
        · rename_i y e; rw [e]; exact ⟨nofun, fun _ => nofun⟩
        · cases this
    · intro b hb
      have := c1 b hb
      rw [Bool.and_eq_true] at this
      have := of_decide_eq_true this.2
      omega
    · rw [dataLe_dLe] at eo
      obtain ⟨vs', k1, k2⟩ := rep_each eo
      obtain ⟨ep, he'⟩ := PyProof.Rows.sortedAll_at s.heap its out.toArray
      have nf : H (s.heap.objs.size + 1) = none := I.hok.fresh (Nat.le_succ _)
      have hlen : vs'.length ≤ sizeLine := by rw [← k1.length, List.length_mergeSort]; exact hz
      exact ⟨.ref _, upd H (s.heap.objs.size + 1) (.lst vs'), I.laid (t' := s.toks) (fun _ _ => PyProof.Rows.sortedAll_old) (Nat.le_succ _) ⟨hlen, out.toArray.toList, ep, by simpa using k2, he'⟩, rfl, finL q r k1 _ nf⟩
  · cases ek

/-! ### min of a list of data -/
def mins (x : D) (xs : List D) : D := xs.foldl (fun a y => if W.dataLt (dOf y) (dOf a) then y else a) x
end
end PyD
set_option Elab.async false
set_option linter.all false
set_option maxRecDepth 100000
set_option maxHeartbeats 4000000
/-! PyS11: d.get, list(range), reversed lists, dict displays of one entry, d.items(), dict comprehensions. -/
namespace PyD
open PySem PySem.Spec PyProof.Rows L2

section
variable {X : Cx} {e o : Expr} {es : List Expr} {f : Ev} {av : Av} {apos cpos : Pos} {k : OpM}
/-- a dict's method -/
theorem se_md {id : String} {name : Str} (pa : PlainAttrs "dict") (slot : Slot "dict" name id) (hty : typeOf (.builtin id) = pure (.type "method_descriptor"))
    (hm : MtR X id (rM (cst X) k)) (ho : SE X o f) (ha : SA X (e :: es) av)
    (hbase : attributeBase o name X.env (eval o X.env) = eval o X.env := by rfl)
    (hfew : ((backTo cpos (starEach (e :: es) X.env)).all (fun x => !x.1) && (backToKw cpos (keywordEach [] X.env)).all (fun x => x.1.isSome)
      && decide ((e :: es).length + ([] : List Keyword).length + (if ([] : List Keyword).isEmpty then 0 else 1) < 30)) = true := by rfl)
    (hline : (apos.endLine == cpos.line) = true := by rfl) (hs : starEach (e :: es) X.env = (false, eval e X.env) :: starEach es X.env := by rfl) (hplain : (backTo cpos (starEach es X.env)).any (·.1) = false := by rfl) :
    SE X (.Call (.Attribute o name apos) (e :: es) [] cpos) (eMD k f av) := by
  refine ⟨fun pn st sl hp Qd I q => ?_⟩
  obtain ⟨ι, Z, h, σd, d, h', r, rs, e0, q⟩ := q
  obtain ⟨⟨x, h1⟩, ef, e0⟩ := bind_inv e0
  obtain ⟨hsm, e0⟩ := ite_inv e0
  obtain ⟨⟨ys, h2⟩, eg, e0⟩ := bind_inv e0
  refine wpAny_Call_method_late hbase hfew hline rfl (thn (ho.run pn st sl hp (fun v H1 => ∃ ι1, Ext ι hp ι1 H1 ∧ R (cst X) ι1 Z H1 h1 ∧ Rep (cst X) ι1 Z H1 x v) I
    ⟨ι, Z, h, σd, x, h1, r, rs, ef, fun v ι1 H1 x1 r1 p1 => ⟨ι1, x1, r1, p1⟩⟩) fun v s1 ⟨y, H1, I1, ry, ι1, x1, r1, p1⟩ => ?_)
  obtain ⟨kvs, e1⟩ := Option.isSome_iff_exists.mp hsm
  obtain ⟨a, ws, rfl, g1, g2⟩ := asM_rep r1 p1 e1
  obtain ⟨us, dic, pr, g3, g4⟩ := dic_of I1 g1 g2
  cases ry
  refine ⟨"dict", id, pa, slot, hty, dic.ofH.typeIs, fun b q => ?_, ?_⟩
  · cases q
    obtain ⟨ob, _, k1, k2, _⟩ := dic.all
    exact ⟨ob, k1, k2.2.1⟩
  have hA := ha.run cpos pn s1 sl H1 (fun vs H2 => rM (cst X) k (.ref a) vs H2 Qd) I1 ⟨ι1, Z, h1, σd, ys, h2, r1, rs.ext x1, eg, fun vs ι2 H2 x2 r2 p2 =>
    ⟨ι2, Z, h2, x, ys, d, h', r2, p1.ext x2, p2, e0, fun u ι3 H3 x3 r3 p3 => q u ι3 H3 ((x1.trans x2).trans x3) r3 p3⟩⟩
  rw [hs] at hA ⊢
  refine Calls.callWith_builtin (by show (false || (backTo cpos (starEach es X.env)).any (·.1)) = false; rw [hplain]; rfl) (Calls.evalArgs_plain ?_)
  exact thn hA fun us s2 ⟨vs, H2, I2, r2, q2⟩ => hm pn s2 sl H2 (.ref a) vs (.ref a) us Qd I2 rfl r2 q2
theorem md_get (hu : X.A.units + 64 < cLine) : MtR X "dict.get" (rM (cst X) mGet) := by
  intro pn st sl hp x xs v us Q I rx rxs ⟨ι, Z, h, d, ds, z, h', r, p1, p2, ek, q⟩
  unfold mGet at ek
  split at ek
  · obtain ⟨kvs, e1, ek⟩ := bind_inv ek
    obtain ⟨ok, ek⟩ := ite_inv ek
    cases ek
    obtain ⟨n, hn, hz, hr⟩ := kOk_inv ok
    obtain ⟨vk, vx, rfl, pk, px⟩ := rep2 p2
    obtain ⟨ka, rfl⟩ := hr pk
    obtain ⟨a, ws, rfl, g1, g2⟩ := asM_rep r p1 e1
    obtain ⟨ents, dic, pr, g3, g4⟩ := dic_of I g1 g2
    cases rx
    cases rxs with
    | cons rk rt =>
      cases rt with
      | cons rv rt2 =>
        cases rt2
        cases rk
        obtain ⟨f1, f2, f3⟩ := find_rep hn g2 pr
        have hlk := look_some hn g2
        refine getOr_keyed (knd := nk X.prog X.w) (k := n) (room_of hu) (key_is I pk hn hz) g3 ⟨ents, dic.ofH, rfl⟩ ?_
        rw [valueAt_pairsH]
        rename_i k0 xd0 _ vd
        cases hl : dLook kvs k0 with
        | none =>
          rw [hl] at hlk
          have : atKey ents n = none := by
            rw [← hlk] at f2
            cases ha : atKey ents n with
            | none => rfl
            | some _ => rw [ha] at f2; cases f2
          rw [this]
          exact ⟨vx, hp, I.tok _, rv, fin0 q r (by rw [hl]; exact px)⟩
        | some w =>
          obtain ⟨vw, ka', uw, f4, f5, f6⟩ := f3 _ hl
          rw [f6]
          exact ⟨vw, hp, I.tok _, f5, fin0 q r (by rw [hl]; exact f4)⟩
  · cases ek
theorem se_dget (hu : X.A.units + 64 < cLine) (ho : SE X o f) (ha : SA X (e :: es) av)
    (hbase : attributeBase o "get" X.env (eval o X.env) = eval o X.env := by rfl)
    (hfew : ((backTo cpos (starEach (e :: es) X.env)).all (fun x => !x.1) && (backToKw cpos (keywordEach [] X.env)).all (fun x => x.1.isSome)
      && decide ((e :: es).length + ([] : List Keyword).length + (if ([] : List Keyword).isEmpty then 0 else 1) < 30)) = true := by rfl)
    (hline : (apos.endLine == cpos.line) = true := by rfl) (hs : starEach (e :: es) X.env = (false, eval e X.env) :: starEach es X.env := by rfl) (hplain : (backTo cpos (starEach es X.env)).any (·.1) = false := by rfl) :
    SE X (.Call (.Attribute o "get" apos) (e :: es) [] cpos) (eMD mGet f av) :=
  se_md PySem.F.plainAttrs_dict PySem.F.slot_dict_get PySem.F.type_dict_get (md_get hu) ho ha hbase hfew hline hs hplain
end

/-! ### list(range(n)) -/
section
variable {X : Cx} {a : Expr} {f : Ev} {p p2 pos pos2 : Pos}
theorem rng_rep {C : Cst} {ι : List Addr} {Z : Addr → Prop} {H : Hp} (lo : Int) : ∀ l : List Nat, RepAll C ι Z H (l.map fun (i : Nat) => D.int (lo + (i : Int))) (l.map fun (i : Nat) => V.int (lo + (i : Int)))
  | [] => .nil
  | i :: r => .cons (.int _) (rng_rep lo r)
theorem se_lstRg (hc : X.calm = true) (hg : Gl X "list") (hm : X.mg "list" = none) (hg2 : Gl X "range") (hm2 : X.mg "range" = none) (ha : SE X a f) (na : starEach [a] X.env = (false, eval a X.env) :: starEach [] X.env := by rfl)
    (na2 : starEach [.Call (.Name "range" p2) [a] [] pos2] X.env = (false, eval (.Call (.Name "range" p2) [a] [] pos2) X.env) :: starEach [] X.env := by rfl) :
    SE X (.Call (.Name "list" p) [.Call (.Name "range" p2) [a] [] pos2] [] pos) (eLstRg 0 f) := by
  refine pe_to (pe_listRg hc hg hm (prg_1 hg2 hm2 ha na) na2) fun σ H Q q => ?_
  obtain ⟨ι, Z, h, σd, d, h', r, rs, e, q⟩ := q
  obtain ⟨⟨x, h1⟩, ef, e⟩ := bind_inv e
  refine ⟨ι, Z, h, σd, x, h1, r, rs, ef, fun v ι1 H1 x1 r1 p1 => ?_⟩
  cases x <;> try (cases e; done)
  rename_i n
  obtain ⟨⟨b1, b2, b3⟩, e⟩ := ite_inv e
  cases e
  cases p1
  have b3' : (n - 0).toNat ≤ 16777216 := b3
  refine ⟨n, rfl, ⟨by decide, by decide, by omega, by omega, by omega⟩, fun c nc => ?_⟩
  exact finL (fun v ι2 H2 x2 r2 p2 => q v ι2 H2 (x1.trans x2) r2 p2) r1 (rng_rep 0 _) c nc
end

/-! ### l[::-1] -/
def eRev (f : Ev) : Ev := fun σ h => (f σ h).bind fun p => (asL p.2 p.1).map fun l => (.lst l.reverse, p.2)
section
variable {X : Cx} {a : Expr} {f : Ev} {k : Nat} {p1 p2 p3 pos : Pos}
theorem rep_rev {C : Cst} {ι : List Addr} {Z : Addr → Prop} {H : Hp} : ∀ {ds : List D} {vs : List V}, RepAll C ι Z H ds vs → RepAll C ι Z H ds.reverse vs.reverse
  | _, _, .nil => .nil
  | _, _, .cons r t => by
    rw [List.reverse_cons, List.reverse_cons]
    exact (rep_rev t).append (.cons r .nil)
theorem se_rev (ha : SE X a f) : SE X (.Subscript a (.Slice none none (some (.UnaryOp .USub (.Constant (.int 1) k p1) p2)) p3) pos) (eRev f) := by
  refine pe_to (pe_revL ha) fun σ H Q q => ?_
  obtain ⟨ι, Z, h, σd, d, h', r, rs, e, q⟩ := q
  obtain ⟨⟨x, h1⟩, ef, e⟩ := bind_inv e
  obtain ⟨l, el, e⟩ := map_inv e
  cases e
  refine ⟨ι, Z, h, σd, x, _, r, rs, ef, fun v ι1 H1 x1 r1 p1 => ?_⟩
  obtain ⟨b, vs, rfl, g1, g2⟩ := asL_rep r1 p1 el
  exact ⟨b, vs, rfl, SqL.of g1, fun c nc => finL (fun v ι2 H2 x2 r2 p2 => q v ι2 H2 (x1.trans x2) r2 p2) r1 (rep_rev g2) c nc⟩
end

/-! ### {k: v} -/
theorem room_X {X : Cx} (hu : X.A.units + 64 < cLine) : (nk X.prog X.w).room X.A := by
  show X.A.units + 8 < cLine
  omega
section
variable {X : Cx} {pins : List (Addr × Obj)} {σ : L2.St} {H : Hp} {s : Shared} {ι : List Addr} {Z : Addr → Prop} {h : MH}
/-- a store into a dict that no one else tells of -/
theorem dx_put {dd a : Addr} {ws : List Ent} {kvs : List (D × D)} {kd : D} {n : NestedKey} {z : V} {r' : Value} {E : Value → Shared → Prop} {Q : Unit → Shared → Prop} (hu : X.A.units + 64 < cLine) (I : L2.Inv X pins σ H s) (e : H dd = some (.ext (dφ (cst X) dd ws)))
    (g2 : RepKV (cst X) ι Z H kvs ws) (pk : Rep (cst X) ι Z H kd (.ref a)) (hn : D.key kd = some n) (hz : n.depth ≤ 8) (rv : RelV z r') (hl : ws.length < sizeLine)
    (q : ∀ s', L2.Inv X pins σ (upd H dd (.ext (dφ (cst X) dd (putW ws n (.ref a) z)))) s' → Q () s') : wpAny (model X.prog X.w) X.A (dictSet dd (.ref a) r') Q E s := by
  obtain ⟨us, dic, pr, g3, g4⟩ := dic_of I e g2
  have hlen : ws.length = us.length := Paired.length pr
  obtain ⟨f1, f2, f3⟩ := find_rep hn g2 pr
  refine dict_put (room_X hu) (key_is I pk hn hz) dic (by rw [← hlen]; exact g4) fun h' dic' sb => q _ ?_
  have lw := putW_len ws n (.ref a) z
  rw [f2] at lw
  rw [← lw] at dic'
  refine dict_write I e (dic'.phi (C := cst X) (put_ent rv pr) g3 ?_) sb
  rw [lw]
  split <;> omega
end
end PyD
set_option Elab.async false
set_option linter.all false
set_option maxRecDepth 100000
set_option maxHeartbeats 4000000
/-! PyS12: dict comprehensions, dict displays of one entry. -/
namespace PyD
open PySem PySem.Spec PyProof.Rows L2

/-- what a comprehension of a dict asks: D is the dict while it is made -/
def tDcX (C : Cst) (wi : TI) (g : TG) (tt : TT) (tk tv : TE) (vs : List Nat) : TE := fun σ H Q => wi σ H fun J H1 => ∀ ad, H1 ad = none → ∃ W : Nat → Nat → Hp → Prop, (∃ m, W 0 m (upd H1 ad (.ext (dφ C ad [])))) ∧ ∀ i m H, W i m H →
  (J.stop i H ∧ Q (.ref ad) H) ∨ (J.go i H ∧ ∃ Nx : Hp → Prop, (∀ H', Nx H' → ∃ m', m' < m ∧ W (i + 1) m' H') ∧ ∀ x H', J.yld i H x H' → g x (L2.wipe σ vs) H' fun σ2 H2 => L2.wipe σ2 vs = L2.wipe σ vs ∧ tt σ2 H2 fun b H3 =>
    if b = true then tk σ2 H3 fun y H4 => tv σ2 H4 fun z H5 => ∃ (ι : List Addr) (Z : Addr → Prop) (kvs : List (D × D)) (ws : List Ent) (n : NestedKey) (kd : D) (a : Addr), y = .ref a ∧ D.key kd = some n ∧ n.depth ≤ 8 ∧
      Rep C ι Z H5 kd (.ref a) ∧ H5 ad = some (.ext (dφ C ad ws)) ∧ RepKV C ι Z H5 kvs ws ∧ ws.length < sizeLine ∧ Nx (upd H5 ad (.ext (dφ C ad (putW ws n (.ref a) z)))) else Nx H3)
section
variable {X : Cx}
theorem dcx_core {pn : List (Addr × Obj)} {st : Shared} {sl : L2.St} {hp : Hp} {Qd : VK} {kx vx tg it0 : Expr} {cs : List Expr} {sc : Scope} {own : List (Str × Nat)} {pos pos' : Pos} {wi : TI} {g : TG} {tt : TT} {tk tv : TE} {use : Option (Value → Sem Unit)} {Qf : Value → Shared → Prop}
    (hu : X.A.units + 64 < cLine) (hc : X.calm = true) (hN : X.N.Nodup) (I : L2.Inv X pn sl hp st) (hi : PI X tg it0 wi) (ok : BlkOk X.N X.env.scope sc own)
    (hg : ∀ (st : Shared) (hp : Hp) (C : Addr) (cl : List (Str × Addr)) (fp : List Addr), PG (X.blk st hp sc (compEnvC sc cl C X.env) fp) tg g)
    (ht : ∀ (st : Shared) (hp : Hp) (C : Addr) (cl : List (Str × Addr)) (fp : List Addr), PTs (X.blk st hp sc (compEnvC sc cl C X.env) fp) cs tt)
    (hk : ∀ (st : Shared) (hp : Hp) (C : Addr) (cl : List (Str × Addr)) (fp : List Addr), PE (X.blk st hp sc (compEnvC sc cl C X.env) fp) kx tk)
    (he : ∀ (st : Shared) (hp : Hp) (C : Addr) (cl : List (Str × Addr)) (fp : List Addr), PE (X.blk st hp sc (compEnvC sc cl C X.env) fp) vx tv) (hs : ∀ x, foldedSetIterable it0 X.env x = pure x)
    (ask : tDcX (cst X) wi g tt tk tv (own.map (·.2)) sl hp Qd)
    (fin : ∀ dd C s' m H', L2.Inv X pn sl H' s' → Qd (.ref dd) H' → s'.heap.Ns C m → FpOk X pn H' C → compPost (model X.prog X.w) X.A X.xe use Qf (.ref dd) C (.ok .next) s') :
    wpAny (model X.prog X.w) X.A (comprehension (.DictComp kx vx [⟨tg, it0, cs, 0⟩] sc pos) sc X.env pos' newDict false (eval it0 X.env) use) Qf X.xe st := by
  have free : ∀ y ∈ sc.names, y.2 = .free → ∃ c, X.env.cells.lookup y.1 = some c := fun y hy e => (ok.free y hy e).elim (fun k => I.ok.has _ (.inl k)) fun k => I.ok.has _ (.inr k)
  refine wpAny_comprehension_free (use := use) rfl hs (closure_ok free) ok.kind (fun y hy e => by rw [ok.uniq y hy, e]) ?_
  refine thn (hi.run pn st sl hp _ I ask) fun xv s1 hx => thn hx fun itv s2 h2 => ?_
  obtain ⟨it, fp, tn, J, H2, e, I2, T, st2, f2, q⟩ := h2
  subst e
  refine wpAny_newObj_type (newEnv_comp ?_)
  -- the new dict
  have big := I2.big
  generalize hD : s2.heap.objs.size = dd at big
  have nD : H2 dd = none := I2.hok.fresh (Nat.le_of_eq hD)
  obtain ⟨W, ⟨m0, w0⟩, turn⟩ := q dd nD
  have I3' := dict_new I2
  rw [hD] at I3'
  generalize hs3 : ({ s2 with heap := s2.heap.push { cls := .type "dict", data := .dict #[] } } : Shared) = s3 at I3'
  have h3 : s3.heap = s2.heap.push { cls := .type "dict", data := .dict #[] } := by rw [← hs3]
  generalize hH3 : upd H2 dd (.ext (dφ (cst X) dd [])) = H3 at I3' w0
  have up3 : ∀ b, b ≠ dd → H3 b = H2 b := fun b hb => by rw [← hH3]; exact upd_ne hb
  have below : ∀ b ∈ fp, b < s2.heap.objs.size := fun b hb => let ⟨o, eo, _⟩ := T.obj _ _ st2 b hb; Heap.lt_size eo
  have f3 : ∀ b ∈ fp, FpOk X pn H3 b ∧ b < s3.heap.objs.size := fun b hb => by
    have lt := below b hb
    have ne : b ≠ dd := by rw [← hD]; exact Nat.ne_of_lt lt
    exact ⟨⟨by rw [up3 b ne]; exact (f2 b hb).1, (f2 b hb).2⟩, by rw [h3, Heap.size_push]; exact Nat.lt_succ_of_lt lt⟩
  have st3 : tn 0 s3.heap := T.keep _ _ _ st2 fun b _ o eo => by rw [h3]; exact Heap.get?_push_of_some _ eo
  have I4 := block_start I3' ok hN f3
  have kg := hg s3 H3 s3.heap.objs.size (cellsFrom (s3.heap.objs.size + 1) sc.names (cloFrom X.env.cells sc.names [])) fp
  have kt := ht s3 H3 s3.heap.objs.size (cellsFrom (s3.heap.objs.size + 1) sc.names (cloFrom X.env.cells sc.names [])) fp
  have kk := hk s3 H3 s3.heap.objs.size (cellsFrom (s3.heap.objs.size + 1) sc.names (cloFrom X.env.cells sc.names [])) fp
  have ke := he s3 H3 s3.heap.objs.size (cellsFrom (s3.heap.objs.size + 1) sc.names (cloFrom X.env.cells sc.names [])) fp
  show codeAny _ _ (.compStart (.DictComp kx vx [⟨tg, it0, cs, 0⟩] sc pos) 0 (.ref it) (.ref dd) (compEnvC sc (cellsFrom (s3.heap.objs.size + 1) sc.names (cloFrom X.env.cells sc.names [])) s3.heap.objs.size X.env))
    (compPost (model X.prog X.w) X.A X.xe use Qf (.ref dd) s3.heap.objs.size) { s3 with heap := pushCells (s3.heap.push { cls := .type "dict", data := .dict #[] }) sc.names }
  have nfp : ∀ b ∈ fp, H3 b = none := fun b hb => (f3 b hb).1.1
  generalize hce : compEnvC sc (cellsFrom (s3.heap.objs.size + 1) sc.names (cloFrom X.env.cells sc.names [])) s3.heap.objs.size X.env = ce at I4 kg kt kk ke ⊢
  have cL : ce.locals = s3.heap.objs.size := by rw [← hce]; rfl
  generalize hs4 : ({ s3 with heap := pushCells (s3.heap.push { cls := .type "dict", data := .dict #[] }) sc.names } : Shared) = s4 at I4 ⊢
  have st4 : tn 0 s4.heap := T.keep _ _ _ st3 fun b _ o eo => by rw [← hs4]; exact pushCells_keeps _ _ _ _ (Heap.get?_push_of_some _ eo)
  have stat : ∀ {σ' : L2.St} {H' : Hp} {s' : Shared}, L2.Inv (X.blk s3 H3 sc ce fp) [] σ' H' s' → (∀ b ∈ fp, H' b = none) → ∀ b ∈ fp, FpOk (X.blk s3 H3 sc ce fp) [] H' b := fun {σ' H' s'} I' hn b hb =>
    ⟨hn b hb, (I'.ok.exf b hb).1, I'.ok.exfs b hb, .inl hb, fun x c eo => (I'.ok.exf b hb).2 x c eo, fun p hp' => absurd (show p ∈ ([] : List (Addr × Obj)) ++ [] from hp') (by simp)⟩
  refine codeAny_compStart_dict ?loop (T.self X.A 0 _ _ _ st4 ?loop)
  refine compLoop_anyD (fun n s' => ∃ i H', L2.Inv (X.blk s3 H3 sc ce fp) [] (L2.wipe sl (own.map (·.2))) H' s' ∧ tn i s'.heap ∧ (∀ b ∈ fp, H' b = none) ∧ W i n H') ?_ m0 ⟨0, H3, I4, st4, nfp, w0⟩
  rintro n s5 ⟨i, H5, I5, st5, n5, w5⟩
  rcases turn i n H5 w5 with ⟨stop, qq⟩ | ⟨go, Nx, hNx, step⟩
  · refine thnF (T.done (X.blk s3 H3 sc ce fp) rfl rfl rfl hc i [] s5 _ H5 (fun _ _ => False) I5 (stat I5 n5) st5 stop) fun r s6 ⟨hr, I6⟩ => ?_
    subst hr
    have I7 : L2.Inv X pn sl H5 s6 := I3'.call' (ch := fp) I6.os I6.base I6.hok I6.bare fun b hb => ⟨(f3 b hb).1.2.2.2.1, (f3 b hb).1.2.1, (f3 b hb).1.2.2.2.2.1, (f3 b hb).1.2.2.2.2.2⟩
    have nC : H5 s3.heap.objs.size = none := by
      rw [← cL]
      exact I6.free
    obtain ⟨m, hn, _⟩ := I6.loc
    have hn2 : s6.heap.Ns s3.heap.objs.size m := by
      rw [← cL]
      exact hn
    exact fin dd s3.heap.objs.size s6 m H5 I7 qq hn2 (I3'.fpOk (Nat.le_refl _) nC)
  · refine thnF (T.item (X.blk s3 H3 sc ce fp) rfl rfl rfl hc i [] s5 _ H5 (fun _ _ => False) I5 (stat I5 n5) st5 go) fun r s6 ⟨u, hr, h6⟩ => ?_
    subst hr
    refine thnF h6 fun _ s7 ⟨x, H7, I7, r7, y7, st7, n7⟩ => ?_
    refine thnF (kg.run _ s7 _ H7 x u _ (I7.pinned (stat I7 n7) (T.obj _ _ st7)) r7 (step x H7 y7)) fun _ s8 ⟨σ8, H8, I8, hw8, q8⟩ => ?_
    refine thnF (kt.run _ s8 σ8 H8 _ I8 q8) fun b s9 ⟨H9, I9, q9⟩ => ?_
    have next : ∀ {s' : Shared} {H' : Hp}, L2.Inv (X.blk s3 H3 sc ce fp) ([] ++ pinsAt fp s7.heap) σ8 H' s' → Nx H' →
        ∃ m, m < n ∧ ∃ i H', L2.Inv (X.blk s3 H3 sc ce fp) [] (L2.wipe sl (own.map (·.2))) H' s' ∧ tn i s'.heap ∧ (∀ b ∈ fp, H' b = none) ∧ W i m H' := fun {s' H'} I' nx => by
      obtain ⟨m', lt, w'⟩ := hNx H' nx
      have pin : ∀ b ∈ fp, ∀ o, s7.heap.get? b = some o → s'.heap.get? b = some o ∧ H' b = none := fun b hb o eo =>
        let z := I'.pin (b, o) (List.mem_append_right _ (List.mem_append_right _ (mem_pinsAt hb eo)))
        ⟨z.1, z.2.1⟩
      have same : (L2.wipe sl (own.map (·.2))).length = σ8.length := by rw [← hw8, wipe_length]
      refine ⟨m', lt, i + 1, H', (I'.unpinned (pins := [])).weak same (fun j v ej => ?_), T.keep _ _ _ st7 fun b hb o eo => (pin b hb o eo).1, fun b hb => ?_, w'⟩
      · rw [← hw8] at ej
        exact (wipe_some ej).1
      · obtain ⟨o, eo, _⟩ := T.obj _ _ st7 b hb
        exact (pin b hb o eo).2
    cases b with
    | false =>
      simp only [Bool.false_eq_true, if_false] at q9 ⊢
      exact next I9 q9
    | true =>
      simp only [if_true] at q9 ⊢
      refine thnF (kk.run _ s9 σ8 H9 _ I9 q9) fun z s10 ⟨yk, H10, I10, r10, q10⟩ => ?_
      refine thnF (ke.run _ s10 σ8 H10 _ I10 q10) fun z2 s11 ⟨yv, H11, I11, r11, ιk, Zk, kvs, ws, nkk, kd, a, ey, ekk, hz, pk, eD, g2, hl, nx⟩ => ?_
      subst ey
      cases r10
      exact dx_put (X := X.blk s3 H3 sc ce fp) hu I11 eD g2 pk ekk hz r11 hl fun s12 I12 => next I12 nx
theorem pe_dcx {kx vx tg it0 : Expr} {cs : List Expr} {sc : Scope} {own : List (Str × Nat)} {pos : Pos} {wi : TI} {g : TG} {tt : TT} {tk tv : TE} (hu : X.A.units + 64 < cLine) (hc : X.calm = true) (hN : X.N.Nodup) (hi : PI X tg it0 wi) (ok : BlkOk X.N X.env.scope sc own)
    (hg : ∀ (st : Shared) (hp : Hp) (C : Addr) (cl : List (Str × Addr)) (fp : List Addr), PG (X.blk st hp sc (compEnvC sc cl C X.env) fp) tg g)
    (ht : ∀ (st : Shared) (hp : Hp) (C : Addr) (cl : List (Str × Addr)) (fp : List Addr), PTs (X.blk st hp sc (compEnvC sc cl C X.env) fp) cs tt)
    (hk : ∀ (st : Shared) (hp : Hp) (C : Addr) (cl : List (Str × Addr)) (fp : List Addr), PE (X.blk st hp sc (compEnvC sc cl C X.env) fp) kx tk)
    (he : ∀ (st : Shared) (hp : Hp) (C : Addr) (cl : List (Str × Addr)) (fp : List Addr), PE (X.blk st hp sc (compEnvC sc cl C X.env) fp) vx tv) (hs : ∀ x, foldedSetIterable it0 X.env x = pure x := by intro _; rfl) :
    PE X (.DictComp kx vx [⟨tg, it0, cs, 0⟩] sc pos) (tDcX (cst X) wi g tt tk tv (own.map (·.2))) := by
  refine ⟨fun pn st sl hp Qd I q => ?_⟩
  rw [arm_eval_DictComp]
  refine dcx_core hu hc hN I hi ok hg ht hk he hs q fun dd C s' m H' I' q' hn f => ⟨m, hn, fun h'' sb => ?_⟩
  obtain ⟨f0, f1, f2, f3, f4, f5⟩ := f
  exact ⟨.ref dd, H', I'.turned (t' := s'.toks) (fun b o hb eo => (sb.2 b hb).trans eo) f0 f1 f3 f4 f5, rfl, q'⟩
end
end PyD
set_option Elab.async false
set_option linter.all false
set_option maxRecDepth 100000
set_option maxHeartbeats 4000000
/-! PyS13: dict comprehensions play their evaluators; {k: v}; d.items(). -/
namespace PyD
open PySem PySem.Spec PyProof.Rows L2
section
variable {X : Cx} {it : Iv} {g : Tg} {is : List Nat} {tf : Tv} {ev ev' : Ev}
theorem dcD_cons {chk : MH → Bool} {σ : Sg} {x : D} {xs : List D} {acc : List (D × D)} {h : MH} {Rr : List (D × D) × MH} (e : dcD chk g tf ev ev' σ (x :: xs) acc h = some Rr) :
    chk h = true ∧ ∃ σ1 b h2, g x σ = some σ1 ∧ tf σ1 h = some (b, h2) ∧ (if b = true then (ev σ1 h2).bind fun q => (ev' σ1 q.2).bind fun r => if kOk q.1 && decide (acc.length < LIM) then dcD chk g tf ev ev' σ xs (dPut acc q.1 r.1) r.2 else none
      else dcD chk g tf ev ev' σ xs acc h2) = some Rr := by
  rw [dcD] at e
  obtain ⟨h1, e⟩ := ite_inv e
  obtain ⟨σ1, h2, e⟩ := bind_inv e
  obtain ⟨⟨b, hb⟩, h3, e⟩ := bind_inv e
  exact ⟨h1, σ1, b, hb, h2, h3, e⟩
theorem dc_loop {C : Cst} {vs : List Nat} {σ : L2.St} {H : Hp} {Q : VK} (hv : ∀ i ∈ is, i ∈ vs) {ι : List Addr} {Z : Addr → Prop} {h : MH} {σd : Sg} {items : List D} {chk : MH → Bool} {h1 : MH} {ys : List (D × D)} {h' : MH}
    (r : R C ι Z H h) (rs : RS C ι Z H σd σ) (ei : it σd h = some (items, chk, h1)) (el : dcD chk g tf ev ev' (wipeD σd vs) items [] h1 = some (ys, h'))
    (q : ∀ dd ι0 ι' H0 H' vs', H0 dd = none → Ext ι H ι0 H0 → Ext ι0 H0 ι' H' → ¬ Z dd → R C ι' (Zp Z dd) H' h' → H' dd = some (.ext (dφ C dd vs')) → RepKV C ι' (Zp Z dd) H' ys vs' → Q (.ref dd) H') :
    tDcX C (tI C it) (tG C is g) (tT C tf) (tE C ev) (tE C ev') vs σ H Q := by
  refine ⟨ι, Z, h, σd, items, chk, h1, r, rs, ei, fun J ι1 H1 x1 r1 wk dd nD => ?_⟩
  refine ⟨fun i m Hc => m = items.length - i ∧ i ≤ items.length ∧ ∃ ιc hc acc vacc, Ext ι1 H1 ιc Hc ∧ R C ιc (Zp Z dd) Hc hc ∧ Tr ι1 Z H1 ιc (Zp Z dd) Hc ∧ Hc dd = some (.ext (dφ C dd vacc)) ∧ RepKV C ιc (Zp Z dd) Hc acc vacc ∧
      dcD chk g tf ev ev' (wipeD σd vs) (items.drop i) acc hc = some (ys, h'),
    ⟨items.length, rfl, Nat.zero_le _, ι1, h1, [], [], .fresh nD, r1.hide nD, .hide nD (r1.notι nD), upd_same, .nil, el⟩, ?_⟩
  rintro i m Hc ⟨rfl, hi', ιc, hc, acc, vacc, xc, rc, tc, eD, pa, ec⟩
  have ntD : ∀ {H' : Hp} {vs' : List Ent}, H' dd = some (.ext (dφ C dd vs')) → ∀ us, H' dd ≠ some (.tup us) := fun e us => by rw [e]; exact nofun
  have nιD : ∀ {ι' : List Addr} {H' : Hp} {h2 : MH}, R C ι' (Zp Z dd) H' h2 → dd ∉ ι' := fun r m => r.apart dd m (.inr rfl)
  by_cases hlt : i < items.length
  · rw [List.drop_eq_getElem_cons hlt] at ec
    obtain ⟨ck, σ1, b, h2, eg, et, ee⟩ := dcD_cons ec
    obtain ⟨go, step⟩ := (wk i ιc _ Hc hc tc rc ck).2 items[i] (by simp [hlt])
    refine .inr ⟨go, fun Hn => (items.length - (i + 1) = items.length - (i + 1) ∧ i + 1 ≤ items.length ∧ ∃ ιc hc acc vacc, Ext ι1 H1 ιc Hn ∧ R C ιc (Zp Z dd) Hn hc ∧ Tr ι1 Z H1 ιc (Zp Z dd) Hn ∧ Hn dd = some (.ext (dφ C dd vacc)) ∧ RepKV C ιc (Zp Z dd) Hn acc vacc ∧
      dcD chk g tf ev ev' (wipeD σd vs) (items.drop (i + 1)) acc hc = some (ys, h')), fun H' hN => ⟨items.length - (i + 1), by omega, hN⟩, fun x H' hy => ?_⟩
    obtain ⟨x3, r3, p3⟩ := step x H' hy
    have rsw : RS C ιc (Zp Z dd) H' (wipeD σd vs) (L2.wipe σ vs) := (((rs.ext x1).tr (tc.trans (Ext.tr x3)))).wipe vs
    refine ⟨ιc, _, hc, _, _, σ1, r3, rsw, p3, eg, fun σ2 rs2 fr => ⟨(fr.wipe hv).trans (wipe_wipe σ vs), ιc, _, hc, σ1, b, h2, r3, rs2, et, fun ι4 H4 x4 r4 => ?_⟩⟩
    have eD4 : H4 dd = some (.ext (dφ C dd vacc)) := x4.un _ _ (x3.un _ _ eD (nιD rc)) (nιD r3)
    have pa4 := (RepKV.ext x4 (RepKV.ext x3 pa))
    cases b with
    | true =>
      rw [if_pos rfl] at ee
      refine iteT ?_
      obtain ⟨⟨y, h3⟩, ey, ee⟩ := bind_inv ee
      obtain ⟨⟨z, h4⟩, ez, ee⟩ := bind_inv ee
      obtain ⟨okk, ee⟩ := ite_inv ee
      rw [Bool.and_eq_true, decide_eq_true_eq] at okk
      obtain ⟨okk, lt⟩ := okk
      obtain ⟨nn, hn, hz, hr⟩ := kOk_inv okk
      refine ⟨ι4, _, h2, σ1, y, h3, r4, rs2.ext x4, ey, fun v ι5 H5 x5 r5 p5 => ⟨ι5, _, h3, σ1, z, h4, r5, (rs2.ext x4).ext x5, ez, fun w ι6 H6 x6 r6 p6 => ?_⟩⟩
      obtain ⟨ka, rfl⟩ := hr p5
      have eD5 : H5 dd = some (.ext (dφ C dd vacc)) := x5.un _ _ eD4 (nιD r4)
      have eD6 : H6 dd = some (.ext (dφ C dd vacc)) := x6.un _ _ eD5 (nιD r5)
      have pa6 := RepKV.ext x6 (RepKV.ext x5 pa4)
      have pk6 := p5.ext x6
      have hl : vacc.length < sizeLine := by rw [← line_eq, ← pa6.length]; exact lt
      refine ⟨ι6, _, acc, vacc, nn, y, ka, rfl, hn, hz, pk6, eD6, pa6, hl, rfl, hlt, ι6, h4, dPut acc y z, putW vacc nn (.ref ka) w, Ext.data nD ((((xc.trans x3).trans x4).trans x5).trans x6), r6.keep (ntD eD6),
        (((tc.trans (Ext.tr x3)).trans (Ext.tr x4)).trans (Ext.tr x5)).trans ((Ext.tr x6).trans (.keep (ntD eD6))), upd_same, (put_rep hn hz pk6 p6 pa6).tr (.keep (ntD eD6)), ee⟩
    | false =>
      rw [if_neg Bool.false_ne_true] at ee
      refine iteF ?_
      exact ⟨rfl, hlt, ι4, h2, acc, vacc, (xc.trans x3).trans x4, r4, (tc.trans (Ext.tr x3)).trans (Ext.tr x4), eD4, pa4, ee⟩
  · have e0 : i = items.length := by omega
    subst e0
    rw [List.drop_length, dcD] at ec
    obtain ⟨ck, ec⟩ := ite_inv ec
    cases ec
    exact .inl ⟨(wk _ ιc _ Hc _ tc rc ck).1 (Nat.le_refl _), q dd ι1 ιc H1 Hc vacc nD x1 xc (r1.notZ nD) rc eD pa⟩
theorem dcF_to {C : Cst} {vs : List Nat} (hv : ∀ i ∈ is, i ∈ vs) {σ : L2.St} {H : Hp} {Q : VK} (q : tE C (eDcF it g tf ev ev' vs) σ H Q) : tDcX C (tI C it) (tG C is g) (tT C tf) (tE C ev) (tE C ev') vs σ H Q := by
  obtain ⟨ι, Z, h, σd, d, h', r, rs, e, q⟩ := q
  obtain ⟨⟨items, chk, h1⟩, ei, e⟩ := bind_inv e
  obtain ⟨⟨ys, h2⟩, el, e⟩ := bind_inv e
  cases e
  refine dc_loop hv r rs ei el fun dd ι0 ι' H0 H' vs' nD x0 x1 nz r' eD pa => ?_
  have nt : ∀ us, H' dd ≠ some (.tup us) := fun us => by rw [eD]; exact nofun
  have np : dd ∉ ι' := fun m => r'.apart dd m (.inr rfl)
  have r2 := r'.data (o := .ext (dφ C dd vs')) nt
  have t2 : Tr ι' (Zp Z dd) H' ι' Z (upd H' dd (.ext (dφ C dd vs'))) := .data np nt
  rw [upd_id eD] at r2 t2
  exact q _ ι' H' (x0.trans x1) r2 (.dct np nz eD (pa.tr t2))
theorem dc_to {C : Cst} {vs : List Nat} (hv : ∀ i ∈ is, i ∈ vs) {σ : L2.St} {H : Hp} {Q : VK} (q : tE C (eDc it g tf ev ev' vs) σ H Q) : tDcX C (tI C it) (tG C is g) (tT C tf) (tE C ev) (tE C ev') vs σ H Q := by
  obtain ⟨ι, Z, h, σd, d, h', r, rs, e, q⟩ := q
  obtain ⟨⟨items, chk, h1⟩, ei, e⟩ := bind_inv e
  obtain ⟨⟨ys, h2⟩, el, e⟩ := bind_inv e
  cases e
  refine dc_loop hv r rs ei el fun dd ι0 ι' H0 H' vs' nD x0 x1 nz r' eD pa => ?_
  have nt : ∀ us, H' dd ≠ some (.tup us) := fun us => by rw [eD]; exact nofun
  have np : dd ∉ ι' := fun m => r'.apart dd m (.inr rfl)
  have t2 : Tr ι' (Zp Z dd) H' (ι' ++ [dd]) Z (upd H' dd (.ext (dφ C dd vs'))) := .show_ np nt
  have r2 := r'.show_ (o := .ext (dφ C dd vs')) (u := .dct ys) nz nt ⟨vs', upd_same, pa.tr t2⟩
  have nD0 : H dd = none := by
    cases hq : H dd with
    | none => rfl
    | some o => exact absurd nD (x0.live dd (by rw [hq]; exact nofun))
  have x2 := (Ext.show_ (o := .ext (dφ C dd vs')) nD0 (x0.trans x1))
  rw [upd_id eD] at r2 x2
  exact q _ (ι' ++ [dd]) H' x2 r2 (.ref (by rw [← r'.len]; simp))
variable {kx vx tg iter : Expr} {ifs : List Expr} {scope : Scope} {own : List (Str × Nat)} {pos : Pos}
theorem se_dcF (hu : X.A.units + 64 < cLine) (hc : X.calm = true) (hN : X.N.Nodup) (hi : SI X tg iter it) (ok : BlkOk X.N X.env.scope scope own) (hv : ∀ i ∈ is, i ∈ own.map (·.2))
    (hg : ∀ (s : Shared) (H : Hp) (C : Addr) (cl : List (Str × Addr)) (fp : List Addr), SG (Blk X s H scope C cl fp) tg is g) (ht : ∀ (s : Shared) (H : Hp) (C : Addr) (cl : List (Str × Addr)) (fp : List Addr), STs (Blk X s H scope C cl fp) ifs tf)
    (hk : ∀ (s : Shared) (H : Hp) (C : Addr) (cl : List (Str × Addr)) (fp : List Addr), SE (Blk X s H scope C cl fp) kx ev)
    (he : ∀ (s : Shared) (H : Hp) (C : Addr) (cl : List (Str × Addr)) (fp : List Addr), SE (Blk X s H scope C cl fp) vx ev') (hs : ∀ x, foldedSetIterable iter X.env x = pure x := by intro _; rfl) :
    SE X (.DictComp kx vx [⟨tg, iter, ifs, 0⟩] scope pos) (eDcF it g tf ev ev' (own.map (·.2))) := pe_to (pe_dcx hu hc hN hi ok hg ht hk he hs) fun σ H Q q => dcF_to hv q
theorem se_dc (hu : X.A.units + 64 < cLine) (hc : X.calm = true) (hN : X.N.Nodup) (hi : SI X tg iter it) (ok : BlkOk X.N X.env.scope scope own) (hv : ∀ i ∈ is, i ∈ own.map (·.2))
    (hg : ∀ (s : Shared) (H : Hp) (C : Addr) (cl : List (Str × Addr)) (fp : List Addr), SG (Blk X s H scope C cl fp) tg is g) (ht : ∀ (s : Shared) (H : Hp) (C : Addr) (cl : List (Str × Addr)) (fp : List Addr), STs (Blk X s H scope C cl fp) ifs tf)
    (hk : ∀ (s : Shared) (H : Hp) (C : Addr) (cl : List (Str × Addr)) (fp : List Addr), SE (Blk X s H scope C cl fp) kx ev)
    (he : ∀ (s : Shared) (H : Hp) (C : Addr) (cl : List (Str × Addr)) (fp : List Addr), SE (Blk X s H scope C cl fp) vx ev') (hs : ∀ x, foldedSetIterable iter X.env x = pure x := by intro _; rfl) :
    SE X (.DictComp kx vx [⟨tg, iter, ifs, 0⟩] scope pos) (eDc it g tf ev ev' (own.map (·.2))) := pe_to (pe_dcx hu hc hN hi ok hg ht hk he hs) fun σ H Q q => dc_to hv q
end
end PyD
set_option Elab.async false
set_option linter.all false
set_option maxRecDepth 100000
set_option maxHeartbeats 4000000
/-! PyS14: {k: v}; d.items(). -/
namespace PyD
open PySem PySem.Spec PyProof.Rows L2
section
variable {X : Cx} {kx vx : Expr} {f g : Ev} {pos : Pos}
theorem d1_core (hu : X.A.units + 64 < cLine) (hk : SE X kx f) (hv : SE X vx g) {pn : List (Addr × Obj)} {st : Shared} {sl : L2.St} {hp : Hp} {Qd : VK} (I : L2.Inv X pn sl hp st)
    {ι : List Addr} {Z : Addr → Prop} {h : MH} {σd : Sg} {kd vd : D} {h1 h2 : MH} (r : R (cst X) ι Z hp h) (rs : RS (cst X) ι Z hp σd sl) (ek : f σd h = some (kd, h1)) (ev : g σd h1 = some (vd, h2)) (ok : kOk kd = true)
    (q : ∀ dd ι' H' ws', hp dd = none → Ext ι hp ι' H' → ¬ Z dd → R (cst X) ι' (Zp Z dd) H' h2 → H' dd = some (.ext (dφ (cst X) dd ws')) → RepKV (cst X) ι' (Zp Z dd) H' [(kd, vd)] ws' → Qd (.ref dd) H') :
    wpAny (model X.prog X.w) X.A (eval (.Dict [some kx] [vx] pos) X.env) (EP X pn sl Qd) X.xe st := by
  refine wpAny_Dict_any rfl rfl (by simp) (by show 1 ≤ 15; decide) ?_
  have I1 := dict_new I
  have nD : hp st.heap.objs.size = none := I.hok.fresh (Nat.le_refl _)
  generalize hD : st.heap.objs.size = dd at I1 nD ⊢
  have nz := r.notZ nD
  have r1 := r.hide (o := .ext (dφ (cst X) dd [])) nD
  have t1 : Tr ι Z hp ι (Zp Z dd) (upd hp dd (.ext (dφ (cst X) dd []))) := .hide nD (r.notι nD)
  have x1 : Ext ι hp ι (upd hp dd (.ext (dφ (cst X) dd []))) := .fresh nD
  have nιD : ∀ {ι' : List Addr} {H' : Hp} {h2 : MH}, R (cst X) ι' (Zp Z dd) H' h2 → dd ∉ ι' := fun r m => r.apart dd m (.inr rfl)
  refine pairTrees_cons_walk (thn (hk.run pn _ sl _ (fun v H2 => ∃ ι2, Ext ι (upd hp dd (.ext (dφ (cst X) dd []))) ι2 H2 ∧ R (cst X) ι2 (Zp Z dd) H2 h1 ∧ Rep (cst X) ι2 (Zp Z dd) H2 kd v) I1
    ⟨ι, _, h, σd, kd, h1, r1, (rs.tr t1), ek, fun v ι2 H2 x2 r2 p2 => ⟨ι2, x2, r2, p2⟩⟩) fun u s1 ⟨y, H2, I2, ry, ι2, x2, r2, p2⟩ => ?_)
  refine thn (hv.run pn s1 sl H2 (fun v H3 => ∃ ι3, Ext ι2 H2 ι3 H3 ∧ R (cst X) ι3 (Zp Z dd) H3 h2 ∧ Rep (cst X) ι3 (Zp Z dd) H3 vd v) I2
    ⟨ι2, _, h1, σd, vd, h2, r2, (rs.tr t1).ext x2, ev, fun v ι3 H3 x3 r3 p3 => ⟨ι3, x3, r3, p3⟩⟩) fun u2 s2 ⟨z, H3, I3, rz, ι3, x3, r3, p3⟩ => ?_
  refine pairTrees_nil_walk ?_
  obtain ⟨nn, hn, hz, hr⟩ := kOk_inv ok
  have p2' := p2.ext x3
  obtain ⟨ka, rfl⟩ := hr p2
  cases ry
  have e2 : H2 dd = some (.ext (dφ (cst X) dd [])) := x2.un _ _ upd_same (nιD r1)
  have e3 : H3 dd = some (.ext (dφ (cst X) dd [])) := x3.un _ _ e2 (nιD r2)
  have nt : ∀ us, H3 dd ≠ some (.tup us) := fun us => by rw [e3]; exact nofun
  show wpAny _ _ (storeAll dd [(.ref ka, u2)]) _ _ _
  unfold storeAll
  rw [List.forIn_cons]
  refine wpAny_bind (wpAny_bind (dx_put hu I3 e3 .nil p2' hn hz rz (by show 0 < sizeLine; rw [sizeLine_eq]; decide) fun s3 I4 => wpAny_pure ?_))
  show wpAny _ _ (forIn [] _ _) _ _ _
  rw [List.forIn_nil]
  refine wpAny_pure ⟨.ref dd, _, I4, rfl, ?_⟩
  have pk := put_rep (kvs := []) (ws := []) hn hz p2' p3 .nil
  have k2 : dPut [] kd vd = [(kd, vd)] := rfl
  rw [k2] at pk
  exact q dd ι3 _ _ nD (Ext.data nD ((x1.trans x2).trans x3)) nz (r3.keep nt) upd_same (pk.tr (.keep nt))
theorem se_dict1F (hu : X.A.units + 64 < cLine) (hk : SE X kx f) (hv : SE X vx g) : SE X (.Dict [some kx] [vx] pos) (eN kDict1F (aCons f (aCons g aNil))) := by
  refine ⟨fun pn st sl hp Qd I q => ?_⟩
  obtain ⟨ι, Z, h, σd, d, h', r, rs, e, q⟩ := q
  obtain ⟨⟨ds, h1⟩, ea, e⟩ := bind_inv e
  obtain ⟨⟨kd, h2⟩, ek, ea⟩ := bind_inv ea
  obtain ⟨⟨ys, h3⟩, eb, ea⟩ := bind_inv ea
  cases ea
  obtain ⟨⟨vd, h4⟩, ev, eb⟩ := bind_inv eb
  cases eb
  obtain ⟨ok, e⟩ := ite_inv e
  cases e
  refine d1_core hu hk hv I r rs ek ev ok fun dd ι' H' ws' nD x nz r' eD pa => ?_
  have nt : ∀ us, H' dd ≠ some (.tup us) := fun us => by rw [eD]; exact nofun
  have np : dd ∉ ι' := fun m => r'.apart dd m (.inr rfl)
  have r2 := r'.data (o := .ext (dφ (cst X) dd ws')) nt
  have t2 : Tr ι' (Zp Z dd) H' ι' Z (upd H' dd (.ext (dφ (cst X) dd ws'))) := .data np nt
  rw [upd_id eD] at r2 t2
  exact q _ ι' H' x r2 (.dct np nz eD (pa.tr t2))
theorem se_dict1 (hu : X.A.units + 64 < cLine) (hk : SE X kx f) (hv : SE X vx g) : SE X (.Dict [some kx] [vx] pos) (eN kDict1 (aCons f (aCons g aNil))) := by
  refine ⟨fun pn st sl hp Qd I q => ?_⟩
  obtain ⟨ι, Z, h, σd, d, h', r, rs, e, q⟩ := q
  obtain ⟨⟨ds, h1⟩, ea, e⟩ := bind_inv e
  obtain ⟨⟨kd, h2⟩, ek, ea⟩ := bind_inv ea
  obtain ⟨⟨ys, h3⟩, eb, ea⟩ := bind_inv ea
  cases ea
  obtain ⟨⟨vd, h4⟩, ev, eb⟩ := bind_inv eb
  cases eb
  obtain ⟨ok, e⟩ := ite_inv e
  cases e
  refine d1_core hu hk hv I r rs ek ev ok fun dd ι' H' ws' nD x nz r' eD pa => ?_
  have nt : ∀ us, H' dd ≠ some (.tup us) := fun us => by rw [eD]; exact nofun
  have np : dd ∉ ι' := fun m => r'.apart dd m (.inr rfl)
  have t2 : Tr ι' (Zp Z dd) H' (ι' ++ [dd]) Z (upd H' dd (.ext (dφ (cst X) dd ws'))) := .show_ np nt
  have r2 := r'.show_ (o := .ext (dφ (cst X) dd ws')) (u := .dct [(kd, vd)]) nz nt ⟨ws', upd_same, pa.tr t2⟩
  have x2 := (Ext.show_ (o := .ext (dφ (cst X) dd ws')) nD x)
  rw [upd_id eD] at r2 x2
  exact q _ (ι' ++ [dd]) H' x2 r2 (.ref (by rw [← r'.len]; simp))
end
end PyD
set_option Elab.async false
set_option linter.all false
set_option maxRecDepth 100000
set_option maxHeartbeats 4000000
/-! PyS15: d.items() walked. -/
namespace PyD
open PySem PySem.Spec PyProof.Rows L2
def Itm (C : Cst) (d : Addr) (n : Nat) : It :=
  ⟨fun i H => i < n ∧ ∃ ws, H d = some (.ext (dφ C d ws)) ∧ ws.length = n,
    fun i H x H' => ∃ (T : Addr) (u v : V), x = .ref T ∧ H T = none ∧ H' = upd H T (.tup [u, v]) ∧ ∀ ws, H d = some (.ext (dφ C d ws)) → ∃ e : Ent, ws[i]? = some e ∧ u = e.2.1 ∧ v = e.2.2,
    fun i H => n ≤ i ∧ ∃ ws, H d = some (.ext (dφ C d ws)) ∧ ws.length = n⟩
section
variable {P : Program} {w : World} {K : PySem.W.Frag} {d : Addr} {n : Nat} {elts : List Expr} {kk : Nat} {tpos : Pos}
theorem turn_m (it : Addr) : Turn P w K (.Tuple elts kk tpos) (Itm ⟨P, w, K⟩ d n) [it] it (fun i h => ∃ ok ov, IsItemIter h it d i n n ok ov) where
  mem := by simp
  obj := fun i h st b hb => by
    obtain rfl : b = it := by simpa using hb
    obtain ⟨ok, ov, e⟩ := st
    exact ⟨_, e, fun v z => nomatch z⟩
  keep := fun i h h' st kp => let ⟨ok, ov, e⟩ := st; ⟨ok, ov, kp it (by simp) _ e⟩
  item := by
    intro X hP hw hK hc i pn st sl hp E I hf tn hg
    subst hP hw hK
    obtain ⟨hi, ws, e1, e2⟩ := hg
    obtain ⟨hs, es, us, raw, sz, el, pr⟩ := ext_raw I e1
    rw [e2] at raw sz
    obtain ⟨ok, ov, he⟩ := tn
    have lt : i < es.size := by omega
    have lti : it < st.heap.objs.size := Heap.lt_size he
    have ltu : i < us.length := by rw [← size_of_entries el]; exact lt
    have ent : ∀ (us' : List EntV), es.toList = us'.map (entryOfKey (nk X.prog X.w)) → ∀ hl : i < us'.length, es[i].key = .ref us'[i].2.1 ∧ es[i].val = us'[i].2.2 := fun us' el' hl => by
      have := entry_at el' i
      rw [Array.getElem?_eq_getElem lt, List.getElem?_eq_getElem hl] at this
      have := Option.some.inj this
      rw [this]; exact ⟨rfl, rfl⟩
    obtain ⟨ek, ev⟩ := ent us el ltu
    obtain ⟨en, en1, en2⟩ := pair_at pr (List.getElem?_eq_getElem ltu)
    refine wpAny_pyNext_items_item_raw (es := es) (by rw [sz]; exact he) raw lt fun h' ho hT hz keep => ?_
    refine ⟨_, rfl, wpAny_letOwnedTupleGo_items (s := { st with heap := h' }) ho fun h'' he' sb => ?_⟩
    have hT2 : h''.get? st.heap.objs.size = some { cls := .type "tuple", data := .seq #[es[i].key, es[i].val] } := (sb.2 _ (Nat.ne_of_gt lti)).trans hT
    have new : ObjOk X.prog X.w (upd hp st.heap.objs.size (.tup [en.2.1, en.2.2])) h'' st.heap.objs.size (.tup [en.2.1, en.2.2]) :=
      ⟨by show 2 ≤ sizeLine; decide, [es[i].key, es[i].val], .cons (by rw [ek, en2.2.1]; exact rfl) (.cons (by rw [ev]; exact en2.2.2) .nil), ⟨_, hT2, rfl, _, rfl⟩⟩
    have I1 : L2.Inv X pn sl (upd hp st.heap.objs.size (.tup [en.2.1, en.2.2])) { st with heap := h'' } :=
      I.turnedNew (t' := st.toks) (ch := [it]) (fun b ob hb e => (sb.2 b (by simpa using hb)).trans (keep b ob (by simpa using hb) e)) hf (Nat.le_refl _) new
    refine ⟨.ref st.heap.objs.size, _, I1, rfl, ⟨_, en.2.1, en.2.2, rfl, I.hok.fresh (Nat.le_refl _), rfl, fun ws' ew => ?_⟩, ⟨es[i].key, es[i].val, by rw [sz] at he'; exact he'⟩, fun b hb => ?_⟩
    · obtain ⟨_, es', us', raw', sz', el', pr'⟩ := ext_raw I ew
      obtain ⟨o1, g1, g2, g3⟩ := raw
      obtain ⟨o2, k1, k2, k3⟩ := raw'
      rw [g1] at k1; cases k1
      rw [g3] at k3
      obtain ⟨rfl, _⟩ : es = es' ∧ n = ws'.length := by
        injection k3 with a b
        exact ⟨a, b⟩
      have ltu' : i < us'.length := by rw [← size_of_entries el']; exact lt
      obtain ⟨ek', ev'⟩ := ent us' el' ltu'
      obtain ⟨en', m1, m2⟩ := pair_at pr' (List.getElem?_eq_getElem ltu')
      refine ⟨en', m1, ?_, ?_⟩
      · rw [en2.2.1, m2.2.1]
        rw [ek] at ek'
        injection ek' with ek'
        rw [ek']
      · have m3 := m2.2.2
        rw [← ev', ev] at m3
        exact en2.2.2.inj m3
    · obtain rfl : b = it := by simpa using hb
      rw [upd_ne (Nat.ne_of_lt lti)]
      exact (hf b (by simp)).1
  done := by
    intro X hP hw hK hc i pn st sl hp E I hf tn hg
    subst hP hw hK
    obtain ⟨hi, ws, e1, e2⟩ := hg
    obtain ⟨f0, f1, f2, f3, f4, f5⟩ := hf it (by simp)
    obtain ⟨hs, es, us, raw, sz, el, pr⟩ := ext_raw I e1
    rw [e2] at raw sz
    obtain ⟨ok, ov, he⟩ := tn
    exact wpAny_pyNext_items_end_raw (es := es) (I.ok.hd hc) (by rw [sz]; exact he) raw (by omega) fun h' eb => ⟨rfl, I.turned (t' := st.toks) (fun b ob hb e => eb b ob hb e) f0 f1 f3 f4 f5⟩
  self := fun A i s Q E st h => let ⟨_, _, e⟩ := st; PySem.W.kcp_self e h
end
section
variable {X : Cx} {a : Expr} {f : Ev} {elts : List Expr} {kk : Nat} {tpos apos cpos : Pos}
def iXm (C : Cst) (td : TE) : TI := fun σ H Rr => td σ H fun x H1 => ∃ d ws, x = .ref d ∧ H1 d = some (.ext (dφ C d ws)) ∧ Rr (Itm C d ws.length) H1
theorem pi_xm {td : TE} (ha : PE X a td) (hbase : attributeBase a "items" X.env (eval a X.env) = eval a X.env := by rfl) (hline : (apos.endLine == cpos.line) = true := by rfl) :
    PI X (.Tuple elts kk tpos) (.Call (.Attribute a "items" apos) [] [] cpos) (iXm (cst X) td) := by
  refine ⟨fun pn st sl hp Rr I h => ?_⟩
  refine wpAny_Call_method (T := "dict") (id := "dict.items") hbase rfl hline F.plainAttrs_dict F.slot_dict_items F.type_dict_items (thn (ha.run pn st sl hp _ I h) fun u s1 ⟨x, H1, I1, rx, d, ws, ex, e, q⟩ => ?_)
  subst ex
  obtain rfl : u = Value.ref d := rx
  obtain ⟨hs, es, us, raw, sz, el, pr⟩ := ext_raw I1 e
  obtain ⟨od, k1, k2, k3⟩ := id raw
  refine ⟨raw.typeIs, fun b qb => ?_, ?_⟩
  · cases qb
    exact ⟨od, k1, k2.2.1⟩
  have I2 : L2.Inv X pn sl H1 { s1 with heap := s1.heap.push { cls := .type "dict_items", data := .fields #[.ref d] } } := I1.kept (t' := s1.toks) fun b ob q => Heap.get?_push_of_some _ q
  have raw2 : (s1.heap.push { cls := .type "dict_items", data := .fields #[.ref d] }).DictRaw d es ws.length := raw.at fun o eo => Heap.get?_push_of_some _ eo
  have fin : wpAny (model X.prog X.w) X.A (pyIter (.ref s1.heap.objs.size)) (PIE X pn sl (.Tuple elts kk tpos) Rr) X.xe { s1 with heap := s1.heap.push { cls := .type "dict_items", data := .fields #[.ref d] } } := by
    refine wpAny_pyIter_items_raw (d := d) (es := es) ⟨_, Heap.get?_push_size _ rfl, rfl, rfl⟩ raw2 (pi_one (tk := s1.toks) I2 _ (turn_m _) ⟨.none, .none, ?_⟩ q)
    rw [sz]
    exact Heap.get?_push_size _ rfl
  show wpAny _ _ (callWith cpos (.builtin "dict.items") [.ref d] [] []) _ X.xe s1
  exact method_meetsIn F.slot_dict_items F.entry_dict_items rfl (PySem.evalArgs_none ⟨rfl, raw.typeIs, F.args_dict_items_1 _, _, meets_dict_items_raw d hs, ⟨_, _, raw⟩, fin⟩)
theorem kv_both {C : Cst} {ι : List Addr} {Z : Addr → Prop} {H : Hp} : ∀ {kvs : List (D × D)} {ws : List Ent} {i : Nat} {p : D × D}, RepKV C ι Z H kvs ws → kvs[i]? = some p → ∃ e : Ent, ws[i]? = some e ∧ Rep C ι Z H p.1 e.2.1 ∧ Rep C ι Z H p.2 e.2.2
  | _, _, _, _, .nil, h => by simp at h
  | _, _, 0, _, .cons _ _ r1 r2 _, h => by simp at h; subst h; exact ⟨_, rfl, r1, r2⟩
  | _, _, i + 1, _, .cons _ _ _ _ t, h => by
    obtain ⟨e, h1, h2⟩ := kv_both (i := i) t (by simpa using h)
    exact ⟨e, by simpa using h1, h2⟩
theorem si_items (ha : SE X a f) (hbase : attributeBase a "items" X.env (eval a X.env) = eval a X.env := by rfl) (hline : (apos.endLine == cpos.line) = true := by rfl) :
    SI X (.Tuple elts kk tpos) (.Call (.Attribute a "items" apos) [] [] cpos) (PyD.iItems f) := by
  refine pi_to (pi_xm ha hbase hline) fun σ H Rr q => ?_
  obtain ⟨ι, Z, h, σd, items, chk, h', r, rs, e, q⟩ := q
  obtain ⟨⟨x, h1⟩, ef, e⟩ := bind_inv e
  cases x <;> try (cases e; done)
  rename_i kvs
  cases e
  refine ⟨ι, Z, h, σd, _, h1, r, rs, ef, fun v ι1 H1 x1 r1 p1 => ?_⟩
  cases p1 with
  | @dct dd _ ws g1 g2 g3 g4 =>
    refine ⟨_, _, rfl, g3, q _ ι1 H1 x1 r1 ?_⟩
    intro i ι' Z' H' h' t r' ck
    obtain ⟨a1, a2, a3⟩ := t.fz _ _ g1 g2 g3
    have g4' := g4.tr t
    have hl := g4'.length
    refine ⟨fun hi => ⟨by rw [List.length_map] at hi; omega, ws, a3, rfl⟩, fun dd2 hd => ?_⟩
    rw [List.getElem?_map] at hd
    obtain ⟨p, hp, rfl⟩ := map_inv hd
    obtain ⟨e, m1, m2, m3⟩ := kv_both g4' hp
    have lt := (List.getElem?_eq_some_iff.mp m1).1
    refine ⟨⟨lt, ws, a3, rfl⟩, fun x H2 y => ?_⟩
    obtain ⟨T, u, v, rfl, nT, rfl, y⟩ := y
    obtain ⟨e', k1, rfl, rfl⟩ := y ws a3
    rw [m1] at k1
    cases k1
    exact ⟨.fresh nT, r'.fresh nT, .tup (.inl ⟨r'.notι nT, upd_same⟩) (.cons (m2.ext (.fresh nT)) (.cons (m3.ext (.fresh nT)) .nil))⟩
end
end PyD
set_option Elab.async false
set_option linter.all false
set_option maxRecDepth 100000
set_option maxHeartbeats 4000000
/-! PyS16: comprehensions with two clauses. -/
namespace PyD
open PySem PySem.Spec PyProof.Rows L2
def lc2D (chk : MH → Bool) (g : Tg) (it1 : Iv) (g1 : Tg) (e : Ev) (σ : Sg) (vs1 : List Nat) : List D → MH → Option (List D × MH)
  | [], h => if chk h = true then some ([], h) else none
  | x :: xs, h => if chk h = true then (g x σ).bind fun σ1 => (it1 σ1 h).bind fun p => (lcD p.2.1 g1 PyD.tYes e (wipeD σ1 vs1) p.1 p.2.2).bind fun q =>
      (lc2D chk g it1 g1 e σ vs1 xs q.2).bind fun r => some (q.1 ++ r.1, r.2) else none
def eLc2F (it : Iv) (g : Tg) (it1 : Iv) (g1 : Tg) (e : Ev) (vs vs1 : List Nat) : Ev := fun σ h => (it σ h).bind fun p => (lc2D p.2.1 g it1 g1 e (wipeD σ vs) vs1 p.1 p.2.2).bind fun r => kLstF r.1 r.2
section
variable {X : Cx} {it it1 : Iv} {g g1 : Tg} {is is1 : List Nat} {ev : Ev}
theorem lc2_to {C : Cst} {vs vs1 : List Nat} (hv : ∀ i ∈ is, i ∈ vs) (hv1 : ∀ i ∈ is1, i ∈ vs1) {σ : L2.St} {H : Hp} {Q : VK} (q : tE C (eLc2F it g it1 g1 ev vs vs1) σ H Q) :
    tLc2 (tI C it) (tG C is g) L2.tYes (tI C it1) (tG C is1 g1) L2.tYes (tE C ev) vs vs1 σ H Q := by
  obtain ⟨ι, Z, h, σd, d, h', r, rs, e, q⟩ := q
  obtain ⟨⟨items, chk, h1⟩, ei, e⟩ := bind_inv e
  obtain ⟨⟨ys, hE⟩, el, e⟩ := bind_inv e
  obtain ⟨hl, e⟩ := ite_inv e
  cases e
  refine ⟨ι, Z, h, σd, items, chk, h1, r, rs, ei, fun J ι1 H1 x1 r1 wk dd nD => ?_⟩
  have ntD : ∀ {H' : Hp} {vs' : List V}, H' dd = some (.lst vs') → ∀ us, H' dd ≠ some (.tup us) := fun e us => by rw [e]; exact nofun
  have nιD : ∀ {ι' : List Addr} {H' : Hp} {h2 : MH}, R C ι' (Zp Z dd) H' h2 → dd ∉ ι' := fun r m => r.apart dd m (.inr rfl)
  refine ⟨fun i m Hc => m = items.length - i ∧ i ≤ items.length ∧ ∃ ιc hc acc vacc rest, Ext ι1 H1 ιc Hc ∧ R C ιc (Zp Z dd) Hc hc ∧ Tr ι1 Z H1 ιc (Zp Z dd) Hc ∧ Hc dd = some (.lst vacc) ∧ RepAll C ιc (Zp Z dd) Hc acc vacc ∧
      lc2D chk g it1 g1 ev (wipeD σd vs) vs1 (items.drop i) hc = some (rest, hE) ∧ acc ++ rest = ys,
    ⟨items.length, rfl, Nat.zero_le _, ι1, h1, [], [], ys, .fresh nD, r1.hide nD, .hide nD (r1.notι nD), upd_same, .nil, el, rfl⟩, ?_⟩
  rintro i m Hc ⟨rfl, hi', ιc, hc, acc, vacc, rest, xc, rc, tc, eD, pa, ec, ea⟩
  by_cases hlt : i < items.length
  · rw [List.drop_eq_getElem_cons hlt, lc2D] at ec
    obtain ⟨ck, ec⟩ := ite_inv ec
    obtain ⟨σ1, eg, ec⟩ := bind_inv ec
    obtain ⟨⟨its1, chk1, h2⟩, ei1, ec⟩ := bind_inv ec
    obtain ⟨⟨qs, hq⟩, eq1, ec⟩ := bind_inv ec
    obtain ⟨⟨rr, hr⟩, er, ec⟩ := bind_inv ec
    obtain ⟨rfl, rfl⟩ : qs ++ rr = rest ∧ hr = hE := by cases ec; exact ⟨rfl, rfl⟩
    obtain ⟨go, step⟩ := (wk i ιc _ Hc hc tc rc ck).2 items[i] (by simp [hlt])
    refine .inr ⟨go, fun Hn => (items.length - (i + 1) = items.length - (i + 1) ∧ i + 1 ≤ items.length ∧ ∃ ιc hc acc vacc rest, Ext ι1 H1 ιc Hn ∧ R C ιc (Zp Z dd) Hn hc ∧ Tr ι1 Z H1 ιc (Zp Z dd) Hn ∧ Hn dd = some (.lst vacc) ∧ RepAll C ιc (Zp Z dd) Hn acc vacc ∧
      lc2D chk g it1 g1 ev (wipeD σd vs) vs1 (items.drop (i + 1)) hc = some (rest, hr) ∧ acc ++ rest = ys), fun H' hN => ⟨items.length - (i + 1), by omega, hN⟩, fun x H' hy => ?_⟩
    obtain ⟨x3, r3, p3⟩ := step x H' hy
    have rsw : RS C ιc (Zp Z dd) H' (wipeD σd vs) (L2.wipe σ vs) := (((rs.ext x1).tr (tc.trans (Ext.tr x3)))).wipe vs
    refine ⟨ιc, _, hc, _, _, σ1, r3, rsw, p3, eg, fun σ2 rs2 fr => ⟨(fr.wipe hv).trans (wipe_wipe σ vs), ?_⟩⟩
    simp only [L2.tYes, if_true]
    refine ⟨ιc, _, hc, σ1, its1, chk1, h2, r3, rs2, ei1, fun J1 ι4 H4 x4 r4 wk1 => ?_⟩
    have eD4 : H4 dd = some (.lst vacc) := x4.un _ _ (x3.un _ _ eD (nιD rc)) (nιD r3)
    refine ⟨fun j k Hj => k = its1.length - j ∧ j ≤ its1.length ∧ ∃ ιj hj accj vaccj restj, R C ιj (Zp Z dd) Hj hj ∧ Tr ι4 (Zp Z dd) H4 ιj (Zp Z dd) Hj ∧ Hj dd = some (.lst vaccj) ∧ RepAll C ιj (Zp Z dd) Hj accj vaccj ∧
        Ext ι1 H1 ιj Hj ∧ Tr ι1 Z H1 ιj (Zp Z dd) Hj ∧ lcD chk1 g1 PyD.tYes ev (wipeD σ1 vs1) (its1.drop j) hj = some (restj, hq) ∧ accj ++ restj = acc ++ qs,
      ⟨its1.length, rfl, Nat.zero_le _, ι4, h2, acc, vacc, qs, r4, .refl, eD4, (pa.ext x3).ext x4, (xc.trans x3).trans x4, (tc.trans (Ext.tr x3)).trans (Ext.tr x4), eq1, rfl⟩, ?_⟩
    rintro j k Hj ⟨rfl, hj', ιj, hj, accj, vaccj, restj, rj, tj, eDj, paj, x1j, t1j, ecj, eaj⟩
    by_cases hltj : j < its1.length
    · rw [List.drop_eq_getElem_cons hltj] at ecj
      obtain ⟨ckj, σj, b, h5, egj, etj, eej⟩ := lcD_cons ecj
      cases etj
      rw [if_pos rfl] at eej
      obtain ⟨⟨y, h6⟩, ey, eej⟩ := bind_inv eej
      obtain ⟨⟨rr2, h7⟩, er2, eej⟩ := bind_inv eej
      obtain ⟨rfl, rfl⟩ : y :: rr2 = restj ∧ h7 = hq := by cases eej; exact ⟨rfl, rfl⟩
      obtain ⟨goj, stepj⟩ := (wk1 j ιj _ Hj _ tj rj ckj).2 its1[j] (by simp [hltj])
      refine .inr ⟨goj, fun Hn => (its1.length - (j + 1) = its1.length - (j + 1) ∧ j + 1 ≤ its1.length ∧ ∃ ιj hj accj vaccj restj, R C ιj (Zp Z dd) Hn hj ∧ Tr ι4 (Zp Z dd) H4 ιj (Zp Z dd) Hn ∧ Hn dd = some (.lst vaccj) ∧ RepAll C ιj (Zp Z dd) Hn accj vaccj ∧
        Ext ι1 H1 ιj Hn ∧ Tr ι1 Z H1 ιj (Zp Z dd) Hn ∧ lcD chk1 g1 PyD.tYes ev (wipeD σ1 vs1) (its1.drop (j + 1)) hj = some (restj, h7) ∧ accj ++ restj = acc ++ qs), fun H' hN => ⟨its1.length - (j + 1), by omega, hN⟩, fun xj2 H5 hyj => ?_⟩
      obtain ⟨x5, r5, p5⟩ := stepj xj2 H5 hyj
      have rsj : RS C ιj (Zp Z dd) H5 (wipeD σ1 vs1) (L2.wipe σ2 vs1) := ((rs2.ext x4).tr (tj.trans (Ext.tr x5))).wipe vs1
      refine ⟨ιj, _, _, _, _, σj, r5, rsj, p5, egj, fun σ3 rs3 fr3 => ⟨(fr3.wipe hv1).trans (wipe_wipe σ2 vs1), ?_⟩⟩
      have eD5 : H5 dd = some (.lst vaccj) := x5.un _ _ eDj (nιD rj)
      refine ⟨ιj, _, _, σj, y, h6, r5, rs3, ey, fun v ι6 H6 x6 r6 p6 => ?_⟩
      have eD6 : H6 dd = some (.lst vaccj) := x6.un _ _ eD5 (nιD r5)
      have pa6 := (paj.ext x5).ext x6
      have lenj : vaccj.length < sizeLine := by
        have h8 := congrArg List.length eaj
        have h9 := congrArg List.length ea
        have hl' : ys.length ≤ LIM := hl
        rw [← line_eq, ← paj.length]
        simp only [List.length_append, List.length_cons] at h8 h9
        omega
      exact ⟨vaccj, eD6, lenj, rfl, hltj, ι6, h6, accj ++ [y], vaccj ++ [v], rr2, r6.keep (ntD eD6), ((tj.trans (Ext.tr x5)).trans (Ext.tr x6)).trans (.keep (ntD eD6)), upd_same,
        (pa6.append (.cons p6 .nil)).tr (.keep (ntD eD6)), Ext.data nD ((x1j.trans x5).trans x6), ((t1j.trans (Ext.tr x5)).trans (Ext.tr x6)).trans (.keep (ntD eD6)), er2, by rw [List.append_assoc]; exact eaj⟩
    · have e0 : j = its1.length := by omega
      subst e0
      rw [List.drop_length, lcD] at ecj
      obtain ⟨ckj, ecj⟩ := ite_inv ecj
      cases ecj
      rw [List.append_nil] at eaj
      subst eaj
      exact .inl ⟨(wk1 _ ιj _ Hj _ tj rj ckj).1 (Nat.le_refl _), trivial, hlt, ιj, _, acc ++ qs, vaccj, rr, x1j, rj, t1j, eDj, paj, er, by rw [List.append_assoc]; exact ea⟩
  · have e0 : i = items.length := by omega
    subst e0
    rw [List.drop_length, lc2D] at ec
    obtain ⟨ck, ec⟩ := ite_inv ec
    cases ec
    rw [List.append_nil] at ea
    subst ea
    have nt : ∀ us, Hc dd ≠ some (.tup us) := fun us => by rw [eD]; exact nofun
    have np : dd ∉ ιc := fun m => rc.apart dd m (.inr rfl)
    have r2 := rc.data (o := .lst vacc) nt
    have t2 : Tr ιc (Zp Z dd) Hc ιc Z (upd Hc dd (.lst vacc)) := .data np nt
    rw [upd_id eD] at r2 t2
    exact .inl ⟨(wk _ ιc _ Hc _ tc rc ck).1 (Nat.le_refl _), q _ ιc Hc (x1.trans xc) r2 (.lst np (r1.notZ nD) eD (pa.tr t2))⟩
variable {elt tg iter tg1 iter1 : Expr} {scope : Scope} {own : List (Str × Nat)} {vs1 : List Nat} {pos : Pos}
theorem se_lc2F (hc : X.calm = true) (hN : X.N.Nodup) (hi : SI X tg iter it) (ok : BlkOk X.N X.env.scope scope own) (hv : ∀ i ∈ is, i ∈ own.map (·.2)) (hv1 : ∀ i ∈ is1, i ∈ vs1) (hvs : ∀ i ∈ vs1, i ∈ own.map (·.2))
    (hg : ∀ (s : Shared) (H : Hp) (C : Addr) (cl : List (Str × Addr)) (fp : List Addr), SG (Blk X s H scope C cl fp) tg is g)
    (hi1 : ∀ (s : Shared) (H : Hp) (C : Addr) (cl : List (Str × Addr)) (fp : List Addr), SI (Blk X s H scope C cl fp) tg1 iter1 it1)
    (hg1 : ∀ (s : Shared) (H : Hp) (C : Addr) (cl : List (Str × Addr)) (fp : List Addr), SG (Blk X s H scope C cl fp) tg1 is1 g1)
    (he : ∀ (s : Shared) (H : Hp) (C : Addr) (cl : List (Str × Addr)) (fp : List Addr), SE (Blk X s H scope C cl fp) elt ev) (hs : ∀ x, foldedSetIterable iter X.env x = pure x := by intro _; rfl) (hs1 : ∀ env x, foldedSetIterable iter1 env x = pure x := by intro _ _; rfl) :
    SE X (.ListComp elt [⟨tg, iter, [], 0⟩, ⟨tg1, iter1, [], 0⟩] scope pos) (eLc2F it g it1 g1 ev (own.map (·.2)) vs1) :=
  pe_to (pe_lc2 hc hN hi ok hvs hg (fun _ _ _ _ _ => pts_nil) hi1 hg1 (fun _ _ _ _ _ => pts_nil) he hs hs1) fun σ H Q q => lc2_to hv hv1 q
end
end PyD
set_option Elab.async false
set_option linter.all false
set_option maxRecDepth 100000
set_option maxHeartbeats 4000000
/-! PyS17: == and != of dicts of ours. -/
namespace PyD
open PySem PySem.Spec PyProof.Rows L2
section
variable {prog : Program} {w : World} {A : Around} {E : Value → Shared → Prop} {s : Shared}
/-- how the entries left are found in the other dict, up to the first that is not -/
inductive DHit (A : Around) (s : Shared) (ub : List EntV) : List EntV → Bool → Prop
  | nil : DHit A s ub [] true
  | miss {k : NestedKey} {c : Addr} {v : Value} {r : List EntV} : atKey ub k = none → DHit A s ub ((k, c, v) :: r) false
  | bad {k : NestedKey} {c c' : Addr} {v y : Value} {r : List EntV} : atKey ub k = some (c', y) → SeqAt.EqAt A s v y false → DHit A s ub ((k, c, v) :: r) false
  | hit {k : NestedKey} {c c' : Addr} {v y : Value} {r : List EntV} {b : Bool} : atKey ub k = some (c', y) → SeqAt.EqAt A s v y true → DHit A s ub r b → DHit A s ub ((k, c, v) :: r) b
theorem same_dicts {nm : String} {a b : Addr} {na nb : Nat} {ua ub : List EntV} {r : Bool} {Q : Bool → Shared → Prop} (hu : (nk prog w).room A) (ha : (a == sysModules) = false) (hb : (b == sysModules) = false)
    (da : Dic prog w s.heap a na ua) (db : Dic prog w s.heap b nb ub) (hits : ua.length = ub.length → DHit A s ub ua r) (h : Q (decide (ua.length = ub.length) && r) s) :
    wpAny (model prog w) A (Builtin.Dict.samePairs nm a b) Q E s := by
  obtain ⟨⟨oa, ea, a1, a2, a3, a4⟩, a5, a6⟩ := da
  obtain ⟨⟨ob, eb, b1, b2, b3, b4⟩, b5, b6⟩ := db
  have la : ea.size = ua.length := size_of_entries a4
  have lb : eb.size = ub.length := size_of_entries b4
  unfold Builtin.Dict.samePairs Builtin.Dict.showsAll
  rw [if_neg (by rw [ha]; exact Bool.false_ne_true), if_neg (by rw [hb]; exact Bool.false_ne_true)]
  refine wpAny_bind (wpAny_pure (wpAny_bind (wpAny_pure ?_)))
  refine wpAny_bind (wpAny_dictEntries a1 a3 ?_)
  dsimp only
  refine wpAny_bind (wpAny_dictEntries b1 b3 ?_)
  by_cases sz : ea.size = eb.size
  · have hl : ua.length = ub.length := by omega
    rw [decide_eq_true hl, Bool.true_and] at h
    have hit := hits hl
    rw [if_neg (by rw [sz]; simp)]
    refine wpAny_bind (wpAny_dictEpoch a1 a3 ?_)
    refine wpAny_bind ?_
    rw [Std.Legacy.Range.forIn_eq_forIn_range']
    simp only [Std.Legacy.Range.size, Nat.sub_zero, Nat.add_sub_cancel, Nat.div_one]
    refine wpAny_forIn_list _ (fun rest q s' => s' = s ∧ q = (none, ()) ∧ ∃ i, rest = List.range' i (ea.size - i) ∧ i ≤ ea.size ∧ DHit A s ub (ua.drop i) r) _ ?_ ?_ _ _ ⟨rfl, rfl, 0, by simp, Nat.zero_le _, hit⟩
    · rintro x rest q s' ⟨rfl, rfl, i, hr, hi, pre⟩
      have lt : i < ea.size := by
        rcases Nat.lt_or_ge i ea.size with z | z
        · exact z
        · rw [Nat.sub_eq_zero_of_le z] at hr; simp at hr
      obtain ⟨rfl, hrest⟩ : x = i ∧ rest = List.range' (i + 1) (ea.size - (i + 1)) := by
        rw [show ea.size - i = (ea.size - (i + 1)) + 1 by omega, List.range'_succ] at hr
        injection hr with h1 h2
        exact ⟨h1, h2⟩
      have ltu : x < ua.length := by omega
      obtain ⟨k, c, v, hkv⟩ : ∃ k c v, ua[x] = (k, c, v) := ⟨_, _, _, rfl⟩
      have hdrop : ua.drop x = (k, c, v) :: ua.drop (x + 1) := by rw [← hkv]; exact List.drop_eq_getElem_cons ltu
      have en : ea[x] = entryOfKey (nk prog w) (k, c, v) := by
        have z := entry_at a4 x
        rw [Array.getElem?_eq_getElem lt, List.getElem?_eq_getElem ltu, hkv] at z
        exact Option.some.inj z
      have his : (nk prog w).is s'.heap k c := a5 (k, c, v) (by rw [← hkv]; exact List.getElem_mem ltu)
      rw [hdrop] at pre
      refine wpAny_bind (wpAny_dictEntries a1 a3 ?_)
      rw [Array.getElem?_eq_getElem lt]
      show wpAny _ _ (holding [ea[x].key, ea[x].val] _ >>= _) _ _ _
      rw [en]
      refine wpAny_bind (wpAny_holding (wpAny_bind (wpAny_dictFind_heap (knd := nk prog w) hu his b1 b3 b4 b5 b6 (fun none_ => ?_) fun j p some_ => ?_)))
      · have miss := atKey_none_of_get none_
        have er : r = false := by
          cases pre with
          | miss _ => rfl
          | bad _ _ => rfl
          | hit e _ _ => rw [miss] at e; cases e
        refine wpAny_pure ?_
        show wpAny _ _ (if (!false) = true then _ else _) _ _ _
        rw [if_pos (by decide)]
        rw [er] at h
        exact wpAny_pure (wpAny_pure h)
      · have at_ := atKey_of_get b6 some_
        obtain ⟨c', y⟩ := p
        have ltj : j < eb.size := by rw [lb]; exact (List.getElem?_eq_some_iff.mp some_).1
        have enj : eb[j] = entryOfKey (nk prog w) (k, c', y) := by
          have z := entry_at b4 j
          rw [Array.getElem?_eq_getElem ltj, some_] at z
          exact Option.some.inj z
        refine wpAny_bind (wpAny_dictEntries b1 b3 ?_)
        rw [Array.getElem?_eq_getElem ltj]
        show wpAny _ _ (holding [eb[j].val] _) _ _ _
        rw [enj]
        cases pre with
        | miss e => rw [at_] at e; cases e
        | bad e q =>
          rw [at_] at e
          cases e
          refine wpAny_holding (q prog w _ _ ?_)
          show wpAny _ _ (if (!false) = true then _ else _) _ _ _
          rw [if_pos (by decide)]
          exact wpAny_pure (wpAny_pure h)
        | hit e q t =>
          rw [at_] at e
          cases e
          refine wpAny_holding (q prog w _ _ ?_)
          show wpAny _ _ (if (!true) = true then _ else _) _ _ _
          rw [if_neg (by decide)]
          refine wpAny_bind (wpAny_dictEpoch a1 a3 ?_)
          rw [if_neg (by simp)]
          exact wpAny_pure ⟨rfl, rfl, x + 1, hrest, lt, t⟩
    · rintro q s' ⟨rfl, rfl, i, hr, hi, pre⟩
      have hin : i = ea.size := by
        rcases Nat.lt_or_ge i ea.size with z | z
        · rw [show ea.size - i = (ea.size - (i + 1)) + 1 by omega, List.range'_succ] at hr; exact nomatch hr
        · omega
      refine wpAny_pure ?_
      rw [hin, la, List.drop_length] at pre
      cases pre
      exact h
  · rw [if_pos (by simpa using sz)]
    rw [decide_eq_false (by omega), Bool.false_and] at h
    exact wpAny_bind (wpAny_rule (wpAny_pure h))
theorem cmp_dicts {a b : Addr} {na nb : Nat} {ua ub : List EntV} {r : Bool} {Q : Value → Shared → Prop} (hr : A.units + 64 < cLine) (ha : (a == sysModules) = false) (hb : (b == sysModules) = false)
    (da : Dic prog w s.heap a na ua) (db : Dic prog w s.heap b nb ub) (hits : ua.length = ub.length → DHit A.in1 s ub ua r) (h : Q (.bool (decide (ua.length = ub.length) && r)) s) :
    wpAny (model prog w) A (compareOp .Eq (.ref a) (.ref b)) Q E s := by
  refine wpAny_richCompare_same_room (op := .Eq) da.ofH.typeIs db.ofH.typeIs PySem.F.slot_dict_eq (wpAny_call_entry PySem.F.slot_dict_eq da.ofH.typeIs PySem.F.entry_dict_eq ?_ (PySem.F.args_dict_eq_2 _ _)) (by omega)
  show wpAny _ _ (Builtin.Dict.dictSlotArgs "__eq__" ⟨[.ref a, .ref b], []⟩ >>= _) _ _ s
  refine wpAny_bind ?_
  unfold Builtin.Dict.dictSlotArgs
  refine wpAny_bind (wpAny_notOrdered_dict da.ofH.typeIs ?_)
  show wpAny _ _ (pure (Value.ref a, Value.ref b)) _ _ s
  refine wpAny_pure (wpAny_bind (wpAny_isInstance (T := "dict") db.ofH.typeIs PySem.F.sub_dict_dict ?_))
  simp only [Bool.not_true, Bool.false_eq_true, if_false]
  refine wpAny_bind (wpAny_pure (wpAny_bind (wpAny_pure ?_)))
  refine wpAny_bind (same_dicts (room_of hr) ha hb da db hits ?_)
  exact wpAny_pure ⟨_, rfl, (fun x => nomatch x), by simpa using h⟩
theorem cmn_dicts {a b : Addr} {na nb : Nat} {ua ub : List EntV} {r : Bool} {Q : Value → Shared → Prop} (hr : A.units + 64 < cLine) (ha : (a == sysModules) = false) (hb : (b == sysModules) = false)
    (da : Dic prog w s.heap a na ua) (db : Dic prog w s.heap b nb ub) (hits : ua.length = ub.length → DHit A.in1 s ub ua r) (h : Q (.bool (!(decide (ua.length = ub.length) && r))) s) :
    wpAny (model prog w) A (compareOp .NotEq (.ref a) (.ref b)) Q E s := by
  refine wpAny_richCompare_same_room (op := .NotEq) da.ofH.typeIs db.ofH.typeIs PySem.F.slot_dict_ne (wpAny_call_entry PySem.F.slot_dict_ne da.ofH.typeIs PySem.F.entry_dict_ne ?_ (PySem.F.args_dict_ne_2 _ _)) (by omega)
  show wpAny _ _ (Builtin.Dict.dictSlotArgs "__ne__" ⟨[.ref a, .ref b], []⟩ >>= _) _ _ s
  refine wpAny_bind ?_
  unfold Builtin.Dict.dictSlotArgs
  refine wpAny_bind (wpAny_notOrdered_dict da.ofH.typeIs ?_)
  show wpAny _ _ (pure (Value.ref a, Value.ref b)) _ _ s
  refine wpAny_pure (wpAny_bind (wpAny_isInstance (T := "dict") db.ofH.typeIs PySem.F.sub_dict_dict ?_))
  simp only [Bool.not_true, Bool.false_eq_true, if_false]
  refine wpAny_bind (wpAny_pure (wpAny_bind (wpAny_pure ?_)))
  refine wpAny_bind (same_dicts (room_of hr) ha hb da db hits ?_)
  exact wpAny_pure ⟨_, rfl, (fun x => nomatch x), by simpa using h⟩
end

/-- the entries left, each looked up in the other dict -/
def dqD (h : MH) (kb : List (D × D)) : List (D × D) → Option Bool
  | [] => some true
  | (k, v) :: r => match dLook kb k with
    | none => some false
    | some y => (dEqG h v y).bind fun e => if e = true then dqD h kb r else some false
def dEqM (h : MH) (x y : D) : Option Bool := (asM h x).bind fun a => (asM h y).bind fun b => if a.length = b.length then dqD h b a else some false
def kEqM : Op2 := fun x y h => (dEqM h x y).map fun b => (.bl b, h)
def kNeM : Op2 := fun x y h => (dEqM h x y).map fun b => (.bl (!b), h)
section
variable {X : Cx} {pins : List (Addr × Obj)} {σ : L2.St} {H : Hp} {s : Shared} {ι : List Addr} {Z : Addr → Prop} {h : MH}
theorem dhit_of (hu : X.A.units + 65 < cLine) (I : L2.Inv X pins σ H s) (r : R (cst X) ι Z H h) {kb : List (D × D)} {wb : List Ent} {ub : List EntV} (rb : RepKV (cst X) ι Z H kb wb) (pb : Paired EntRel wb ub) :
    ∀ {ka : List (D × D)} {wa : List Ent} {ua : List EntV} {t : Bool}, RepKV (cst X) ι Z H ka wa → Paired EntRel wa ua → dqD h kb ka = some t → DHit X.A.in1 s ub ua t
  | _, _, _, _, .nil, .nil, e => by cases e; exact .nil
  | _, _, _, _, .cons (nk := m) (k := kd) (d := vd) e1 z r1 r2 t, .cons (b := q) p u, e => by
    obtain ⟨q1, q2, q3⟩ := q
    obtain ⟨x1, x2, x3⟩ := p
    have x1 : m = q1 := x1
    subst x1
    have x3 : RelV _ q3 := x3
    obtain ⟨f1, f2, f3⟩ := find_rep e1 rb pb
    have hlk := look_some e1 rb
    rw [dqD] at e
    cases hd : dLook kb kd with
    | none =>
      rw [hd] at e hlk
      cases e
      rw [← hlk] at f2
      refine .miss ?_
      cases ha : atKey ub m with
      | none => rfl
      | some _ => rw [ha] at f2; cases f2
    | some y =>
      rw [hd] at e
      obtain ⟨vy, ca, uy, g1, g2, g3⟩ := f3 y hd
      obtain ⟨b, eb, e⟩ := bind_inv e
      obtain ⟨pa, pc, d1, d2, s1, s2, rfl⟩ := dEq_inv eb
      obtain ⟨as, k1⟩ := Dp.reads I pa _ _ (flat_dp r r2 d1) x3
      obtain ⟨bs, k2⟩ := Dp.reads I pc _ _ (flat_dp r g1 d2) g2
      have eq := PySem.W.keq_at (A := X.A) k1 k2 s1 s2 (by show X.A.in1.units + 64 < cLine; rw [Around.in1_units]; omega)
      cases hq : PyData.eqv pa pc with
      | true =>
        rw [hq] at e eq
        rw [if_pos rfl] at e
        exact .hit g3 eq (dhit_of hu I r rb pb t u e)
      | false =>
        rw [hq] at e eq
        rw [if_neg Bool.false_ne_true] at e
        cases e
        exact .bad g3 eq
theorem dEqM_inv {x y : D} {t : Bool} (e : dEqM h x y = some t) : ∃ a b, asM h x = some a ∧ asM h y = some b ∧ ∃ t', (a.length = b.length → dqD h b a = some t') ∧ t = (decide (a.length = b.length) && t') := by
  obtain ⟨a, ea, e⟩ := bind_inv e
  obtain ⟨b, eb, e⟩ := bind_inv e
  refine ⟨a, b, ea, eb, ?_⟩
  by_cases hl : a.length = b.length
  · rw [if_pos hl] at e
    exact ⟨t, fun _ => e, by simp [hl]⟩
  · rw [if_neg hl] at e
    cases e
    exact ⟨true, fun z => absurd z hl, by simp [hl]⟩
theorem od_eqM (hu : X.A.units + 65 < cLine) : OpR X (compareOp .Eq) (rD (cst X) kEqM) := by
  intro pn st sl hp x y v u Q I rx ry ⟨ι, Z, h, d, e, z, h', r, p1, p2, ek, q⟩
  obtain ⟨t, et, ek⟩ := map_inv ek
  cases ek
  obtain ⟨a, b, ea, eb, t', e1, rfl⟩ := dEqM_inv et
  obtain ⟨ad, wa, rfl, g1, g2⟩ := asM_rep r p1 ea
  obtain ⟨bd, wb, rfl, k1, k2⟩ := asM_rep r p2 eb
  obtain ⟨ua, dia, pa, sa, la⟩ := dic_of I g1 g2
  obtain ⟨ub, dib, pb, sb, lb⟩ := dic_of I k1 k2
  cases rx; cases ry
  have l1 : a.length = ua.length := g2.length.trans (Paired.length pa)
  have l2 : b.length = ub.length := k2.length.trans (Paired.length pb)
  refine cmp_dicts (by omega) sa sb dia dib (fun hl => dhit_of (by omega) I r k2 pb g2 pa (e1 (by omega))) ?_
  rw [l1, l2] at q
  exact ⟨.bl _, hp, I, rfl, fin0 q r (.bl _)⟩
theorem od_neM (hu : X.A.units + 65 < cLine) : OpR X (compareOp .NotEq) (rD (cst X) kNeM) := by
  intro pn st sl hp x y v u Q I rx ry ⟨ι, Z, h, d, e, z, h', r, p1, p2, ek, q⟩
  obtain ⟨t, et, ek⟩ := map_inv ek
  cases ek
  obtain ⟨a, b, ea, eb, t', e1, rfl⟩ := dEqM_inv et
  obtain ⟨ad, wa, rfl, g1, g2⟩ := asM_rep r p1 ea
  obtain ⟨bd, wb, rfl, k1, k2⟩ := asM_rep r p2 eb
  obtain ⟨ua, dia, pa, sa, la⟩ := dic_of I g1 g2
  obtain ⟨ub, dib, pb, sb, lb⟩ := dic_of I k1 k2
  cases rx; cases ry
  have l1 : a.length = ua.length := g2.length.trans (Paired.length pa)
  have l2 : b.length = ub.length := k2.length.trans (Paired.length pb)
  refine cmn_dicts (by omega) sa sb dia dib (fun hl => dhit_of (by omega) I r k2 pb g2 pa (e1 (by omega))) ?_
  rw [l1, l2] at q
  exact ⟨.bl _, hp, I, rfl, fin0 q r (.bl _)⟩
end
end PyD
set_option Elab.async false
set_option linter.all false
set_option maxRecDepth 100000
set_option maxHeartbeats 4000000
/-! PyS18: a + b kept, len of a dict, two stores at once. -/
namespace PyD
open PySem PySem.Spec PyProof.Rows L2
/-- a + b, a list that changes -/
def kAddT : Op2 := fun x y h => (asL h x).bind fun a => (asL h y).bind fun b => if a.length + b.length ≤ LIM then some (.ref h.length, h ++ [.lst (a ++ b)]) else none
section
variable {X : Cx}
theorem od_addT : OpR X (binaryOp .Add) (rD (cst X) kAddT) := by
  intro pins s σ H x y v u Q I rx ry ⟨ι, Z, h, d, e, z, h', r, p1, p2, ek, q⟩
  obtain ⟨xs, e1, ek⟩ := bind_inv ek
  obtain ⟨ys, e2, ek⟩ := bind_inv ek
  obtain ⟨hl, ek⟩ := ite_inv ek
  cases ek
  obtain ⟨a, vs, rfl, h1, q1⟩ := asL_rep r p1 e1
  obtain ⟨b, us, rfl, h2, q2⟩ := asL_rep r p2 e2
  exact op_cat pins s σ H _ _ v u Q I rx ry ⟨a, b, vs, us, rfl, rfl, h1, h2, by rw [← line_eq, ← q1.length, ← q2.length]; exact hl, fun p np => finM q r (q1.append q2) p np⟩
theorem cd_lenM : CallR X (.builtin "len") (rN (cst X) kLenM) := by
  intro pn st sl hp xs us Q I rx ⟨ι, Z, h, ds, z, h', r, p, ek, q⟩
  unfold kLenM at ek
  split at ek
  · obtain ⟨l, e1, ek⟩ := map_inv ek
    cases ek
    obtain ⟨v, rfl, pv⟩ := rep1 p
    obtain ⟨a, ws, rfl, g1, g2⟩ := asM_rep r pv e1
    obtain ⟨ents, dic, pr, g3, g4⟩ := dic_of I g1 g2
    obtain ⟨u, rfl, ru⟩ := vals1 rx
    obtain rfl : u = .ref a := ru
    have hl : l.length = ents.length := g2.length.trans (Paired.length pr)
    have hl2 := g2.length
    refine call_len_dictH (knd := nk X.prog X.w) g3 dic.ofH (by rw [← hl, hl2]; rw [sizeLine_eq] at g4; omega) ?_
    rw [← hl]
    exact ⟨.int _, hp, I.tok _, ⟨_, rfl⟩, fin0 q r (.int _)⟩
  · cases ek
end
/-- o[i], o'[i'] = x, y -/
def sPut2 (k : Op3) (f o1 i1 o2 i2 : Ev) : Sv := fun σ h => (f σ h).bind fun p => match p.1 with
  | .tup [x, y] => (o1 σ p.2).bind fun a => (i1 σ a.2).bind fun b => (k a.1 b.1 x b.2).bind fun h' => (o2 σ h').bind fun c => (i2 σ c.2).bind fun d => (k c.1 d.1 y d.2).bind fun h'' => some (.nx, σ, h'')
  | _ => none
section
variable {X : Cx} {o1 i1 o2 i2 e : Expr} {fo1 fi1 fo2 fi2 fe : Ev} {pos t1 t2 t3 : Pos} {kk : Nat}
theorem ss_put2 {k : Op3} (hc : X.calm = true) (hk : PSet X (setD (cst X) k)) (ho1 : SE X o1 fo1) (hi1 : SE X i1 fi1) (ho2 : SE X o2 fo2) (hi2 : SE X i2 fi2) (he : SE X e fe)
    (ha1 : ∀ v, assign (.Subscript o1 i1 t1) X.env v = (do
      let ov ← holding [v] (eval o1 X.env)
      let iv ← holding [v, ov] (eval i1 X.env)
      standAt t1
      holding [v, ov, iv] (setItem ov iv v)
      release [v, ov, iv] []) := by intro _; rfl)
    (ha2 : ∀ v, assign (.Subscript o2 i2 t2) X.env v = (do
      let ov ← holding [v] (eval o2 X.env)
      let iv ← holding [v, ov] (eval i2 X.env)
      standAt t2
      holding [v, ov, iv] (setItem ov iv v)
      release [v, ov, iv] []) := by intro _; rfl)
    (hs1 : (assignEach [.Subscript o1 i1 t1, .Subscript o2 i2 t2] X.env).map (·.2) = assign (.Subscript o1 i1 t1) X.env :: (assignEach [.Subscript o2 i2 t2] X.env).map (·.2) := by rfl)
    (hs2 : (assignEach [.Subscript o2 i2 t2] X.env).map (·.2) = assign (.Subscript o2 i2 t2) X.env :: (assignEach [] X.env).map (·.2) := by rfl)
    (hn : (assignEach [.Subscript o1 i1 t1, .Subscript o2 i2 t2] X.env).length = 2 := by rfl) (hst : (assignEach [.Subscript o1 i1 t1, .Subscript o2 i2 t2] X.env).findIdx? (·.1) = none := by rfl)
    (hs : swapsWithSole [.Tuple [.Subscript o1 i1 t1, .Subscript o2 i2 t2] kk t3] e pos.line X.env = pure false := by rfl) (hw : swappedStores [.Tuple [.Subscript o1 i1 t1, .Subscript o2 i2 t2] kk t3] e X.env = pure none := by rfl)
    (h1 : (assignEach [.Tuple [.Subscript o1 i1 t1, .Subscript o2 i2 t2] kk t3] X.env).map (·.2) = [assign (.Tuple [.Subscript o1 i1 t1, .Subscript o2 i2 t2] kk t3) X.env] := by rfl) :
    SS X (.Assign [.Tuple [.Subscript o1 i1 t1, .Subscript o2 i2 t2] kk t3] e pos) (sPut2 k fe fo1 fi1 fo2 fi2) := by
  refine ps_to (ps_asg he (pg_tup hc (pgs_cons (pg_sub ho1 hi1 hk ha1) (pgs_cons (pg_sub ho2 hi2 hk ha2) pgs_nil hs2) hs1) hn hst) hs hw h1) fun E σ H q => ?_
  obtain ⟨ι, Z, h, σd, fl, σd', h', r, rs, eq, q⟩ := q
  obtain ⟨⟨x, h1⟩, ev, eq⟩ := bind_inv eq
  refine ⟨ι, Z, h, σd, x, h1, r, rs, ev, fun v ι1 H1 x1 r1 p1 => ?_⟩
  cases p1 with
  | @tup a xs vs ta pa =>
    rcases pa with _ | ⟨px, pa⟩
    · cases eq
    rcases pa with _ | ⟨py, pa⟩
    · cases eq
    rcases pa with _ | ⟨pz, pa⟩
    · obtain ⟨⟨a1, k1⟩, ea, eq⟩ := bind_inv eq
      obtain ⟨⟨b1, k2⟩, eb, eq⟩ := bind_inv eq
      obtain ⟨k3, es, eq⟩ := bind_inv eq
      obtain ⟨⟨c1, k4⟩, ec, eq⟩ := bind_inv eq
      obtain ⟨⟨d1, k5⟩, ed, eq⟩ := bind_inv eq
      obtain ⟨k6, et, eq⟩ := bind_inv eq
      cases eq
      refine ⟨a, _, rfl, ta.sqT, rfl, _, _, rfl, ι1, Z, h1, σd, a1, k1, r1, rs.ext x1, ea, fun ov ι2 H2 x2 r2 p2 => ⟨ι2, Z, k1, σd, b1, k2, r2, rs.ext (x1.trans x2), eb, fun iv ι3 H3 x3 r3 p3 =>
        ⟨ι3, Z, k2, a1, b1, _, k3, r3, p2.ext x3, p3, px.ext (x2.trans x3), es, fun ι4 H4 x4 r4 => ?_⟩⟩⟩
      refine ⟨_, _, rfl, ι4, Z, k3, σd, c1, k4, r4, rs.ext (((x1.trans x2).trans x3).trans x4), ec, fun ov2 ι5 H5 x5 r5 p5 => ⟨ι5, Z, k4, σd, d1, k5, r5, rs.ext ((((x1.trans x2).trans x3).trans x4).trans x5), ed, fun iv2 ι6 H6 x6 r6 p6 =>
        ⟨ι6, Z, k5, c1, d1, _, _, r6, p5.ext x6, p6, py.ext ((((x2.trans x3).trans x4).trans x5).trans x6), et, fun ι7 H7 x7 r7 => ⟨rfl, ?_⟩⟩⟩⟩
      have xx := ((((((x1.trans x2).trans x3).trans x4).trans x5).trans x6).trans x7)
      exact q ι7 H7 σ xx r7 (rs.ext xx)
    · cases eq
  | _ => cases eq
end
end PyD
set_option Elab.async false
set_option linter.all false
set_option maxRecDepth 100000
set_option maxHeartbeats 4000000
/-! PyS19: what is looked at, and no longer changed while it is: all that changes stands deep for one test. -/
namespace PyD
open PySem PySem.Spec PyProof.Rows L2
/-- a slot's value, read deep -/
def deepO (h : MH) (o : Option D) : Option D := o.bind fun d => if D.cl d = true then some d else frzN 0 8 h d
def deepS (h : MH) (σ : Sg) : Sg := σ.map (deepO h)
/-- a test of what stands deep -/
def eFrz (f : Ev) : Ev := fun σ h => (f (deepS h σ) []).bind fun p => match p.1 with
  | .bl b => some (.bl b, h)
  | _ => none
def tFrz (f : Tv) : Tv := fun σ h => (f (deepS h σ) []).bind fun p => some (p.1, h)
section
variable {X : Cx} {e : Expr} {f : Ev}
theorem frz_world {σd : Sg} {σ : L2.St} {ι : List Addr} {Z : Addr → Prop} {H : Hp} {h : MH} (r : R (cst X) ι Z H h) (rs : RS (cst X) ι Z H σd σ) : R (cst X) [] Z H [] ∧ RS (cst X) [] Z H (deepS h σd) σ ∧
    ∀ ι1 H1, Ext [] H ι1 H1 → Ext ι H ι H1 ∧ R (cst X) ι Z H1 h := by
  have op : Op ι Z H [] Z := ⟨fun _ _ _ _ => by simp, fun a h1 h2 => ⟨by simp, h2⟩⟩
  refine ⟨⟨rfl, by simp, r.live, by simp, fun n a o e => by simp at e⟩, ⟨by unfold deepS; rw [List.length_map]; exact rs.1, fun i d' e => ?_⟩, fun ι1 H1 x1 => ?_⟩
  · unfold deepS at e
    rw [List.getElem?_map] at e
    cases hi : σd[i]? with
    | none => rw [hi] at e; cases e
    | some o =>
      rw [hi] at e
      cases o with
      | none => simp [deepO] at e
      | some d0 =>
        obtain ⟨v, a, p⟩ := rs.2 i d0 hi
        refine ⟨v, a, ?_⟩
        have e : (if D.cl d0 = true then some d0 else frzN 0 8 h d0) = some d' := by simpa [deepO] using e
        by_cases hc : D.cl d0 = true
        · rw [if_pos hc] at e; cases e
          exact Rep.op op p hc
        · rw [if_neg hc] at e
          exact frz_rep r op (fun m a _ hm => ⟨by simp, r.apart a (List.mem_iff_getElem?.mpr ⟨m, hm⟩)⟩) 8 p e
  · have un : ∀ a o, H a = some o → H1 a = some o := fun a o e => x1.un a o e (by simp)
    have x2 : Ext ι H ι H1 := ⟨⟨[], by simp, by simp⟩, fun a o e _ => un a o e, x1.live⟩
    have keep : ∀ a ∈ ι, H1 a = H a := fun a m => by
      cases hq : H a with
      | none => exact absurd hq (r.live_ m)
      | some o => exact un a o hq
    exact ⟨x2, r.len, r.nd, fun a z => x2.live a (r.live a z), r.apart, fun n a o e1 e2 => (r.at_ n a o e1 e2).ext x2 (keep a (List.mem_iff_getElem?.mpr ⟨n, e1⟩))⟩
theorem se_frz (he : SE X e f) : SE X e (eFrz f) := by
  refine pe_to he fun σ H Q q => ?_
  obtain ⟨ι, Z, h, σd, d, h', r, rs, e, q⟩ := q
  obtain ⟨⟨x, h1⟩, ef, e⟩ := bind_inv e
  cases x <;> try (cases e; done)
  rename_i b
  cases e
  obtain ⟨r0, rs0, back⟩ := frz_world r rs
  refine ⟨[], Z, [], deepS h σd, .bl b, h1, r0, rs0, ef, fun v ι1 H1 x1 r1 p1 => ?_⟩
  cases p1
  obtain ⟨x2, r2⟩ := back ι1 H1 x1
  exact q (.bl b) ι H1 x2 r2 (.bl b)
theorem st_frz {tf : Tv} (he : ST X e tf) : ST X e (tFrz tf) := by
  refine pt_to he fun σ H Q q => ?_
  obtain ⟨ι, Z, h, σd, b, h', r, rs, e, q⟩ := q
  obtain ⟨⟨x, h1⟩, ef, e⟩ := bind_inv e
  cases e
  obtain ⟨r0, rs0, back⟩ := frz_world r rs
  refine ⟨[], Z, [], deepS h σd, x, h1, r0, rs0, ef, fun ι1 H1 x1 r1 => ?_⟩
  obtain ⟨x2, r2⟩ := back ι1 H1 x1
  exact q ι H1 x2 r2
end
end PyD
set_option Elab.async false
set_option linter.all false
set_option maxRecDepth 100000
set_option maxHeartbeats 4000000
/-! PyS20: a name set to a dict comprehension. -/
namespace PyD
open PySem PySem.Spec PyProof.Rows L2
section
variable {X : Cx}
theorem sw_trueD {kx vx : Expr} {gs : List Comprehension} {scope : Scope} {pos py : Pos} {y : Str} {l : Nat} {env : Env} (hk : env.scope.kind = .function) (hy : env.scope.names.lookup y = some .local) (hl : (py.line == pos.line) = true)
    (ha : (scope.names.any fun (n, k) => n == y && (k == .local || k == .cell)) = false) : swapsWith (.DictComp kx vx gs scope pos) (some (.Name y py)) l env = pure true := by
  have ky : env.kindOf y = some .local := hy
  have hb : env.blockKind = .function := by unfold Env.blockKind; rw [hk]; rfl
  unfold swapsWith
  simp only [hb, ky, ha, Expr.pos, hl]
  rfl
theorem ps_setDcx {i : Nat} {y : Str} {py : Pos} {kx vx tg it0 : Expr} {cs : List Expr} {sc : Scope} {own : List (Str × Nat)} {pos spos : Pos} {wi : TI} {g : TG} {tt : TT} {tk tv : TE} (hu : X.A.units + 64 < cLine) (hc : X.calm = true) (hN : X.N.Nodup) (hy : X.N[i]? = some y) (hyl : X.env.scope.names.lookup y = some .local)
    (hsw : swapsWith (.DictComp kx vx [⟨tg, it0, cs, 0⟩] sc pos) (some (.Name y py)) spos.line X.env = pure true) (hi : PI X tg it0 wi) (ok : BlkOk X.N X.env.scope sc own)
    (hg : ∀ (st : Shared) (hp : Hp) (C : Addr) (cl : List (Str × Addr)) (fp : List Addr), PG (X.blk st hp sc (compEnvC sc cl C X.env) fp) tg g)
    (ht : ∀ (st : Shared) (hp : Hp) (C : Addr) (cl : List (Str × Addr)) (fp : List Addr), PTs (X.blk st hp sc (compEnvC sc cl C X.env) fp) cs tt)
    (hk : ∀ (st : Shared) (hp : Hp) (C : Addr) (cl : List (Str × Addr)) (fp : List Addr), PE (X.blk st hp sc (compEnvC sc cl C X.env) fp) kx tk)
    (he : ∀ (st : Shared) (hp : Hp) (C : Addr) (cl : List (Str × Addr)) (fp : List Addr), PE (X.blk st hp sc (compEnvC sc cl C X.env) fp) vx tv) (hs : ∀ x, foldedSetIterable it0 X.env x = pure x := by intro _; rfl) :
    PS X (.Assign [.Name y py] (.DictComp kx vx [⟨tg, it0, cs, 0⟩] sc pos) spos) (tAsg (tDcX (cst X) wi g tt tk tv (own.map (·.2))) (gName i)) := by
  refine ⟨fun pins s σ H D I h => ?_⟩
  rw [exec_Assign_Name_used _ _ _ _ hsw]
  refine wpAny_bind (wpAny_standAt (wpAny_bind ?_))
  show wpAny _ X.A (do let _ ← comprehension (.DictComp kx vx [⟨tg, it0, cs, 0⟩] sc pos) sc X.env (firstIterPos [⟨tg, it0, cs, 0⟩] pos) newDict false (eval it0 X.env) (some (assign (.Name y py) X.env))) _ _ s
  have h : tDcX (cst X) wi g tt tk tv (own.map (·.2)) σ H (fun x H1 => gName i x σ H1 D.nx) := h
  refine wpAny_bind (thn (dcx_core (Qf := fun _ s' => SP X pins D .next s') hu hc hN I hi ok hg ht hk he hs h fun L C s' m H' I' q hn f => ?_) fun _ s' hq => wpAny_pure (wpAny_pure hq))
  show wpAny _ _ (assign (.Name y py) X.env (.ref L)) _ _ _
  refine wpAny_assign_Name (store_ok2 (v := V.ref L) I' hN hy (.inl hyl) rfl (fun s2 I2 ⟨a, sb, ha⟩ => ?_) (.inr hyl))
  obtain ⟨f0, f1, f2, f3, f4, f5⟩ := f
  have haC : C ≠ a := by
    rcases ha with z | z
    · rw [z]; exact f1
    · exact fun e => f4 y a z e.symm
  refine ⟨m, hn.sameBut sb haC, fun h3 sb3 => ?_⟩
  exact ⟨_, H', I2.turned (t' := s2.toks) (fun b o hb e => (sb3.2 b hb).trans e) f0 f1 f3 f4 f5, q⟩
variable {it : Iv} {g : Tg} {tf : Tv} {ev ev' : Ev} {is : List Nat}
variable {kx vx tg iter : Expr} {ifs : List Expr} {scope : Scope} {own : List (Str × Nat)} {pos : Pos}
theorem ss_dcF {i : Nat} {y : Str} {py spos : Pos} (hu : X.A.units + 64 < cLine) (hc : X.calm = true) (hN : X.N.Nodup) (hy : X.N[i]? = some y) (hyl : X.env.scope.names.lookup y = some .local)
    (hsw : swapsWith (.DictComp kx vx [⟨tg, iter, ifs, 0⟩] scope pos) (some (.Name y py)) spos.line X.env = pure true) (hi : SI X tg iter it) (ok : BlkOk X.N X.env.scope scope own) (hv : ∀ i ∈ is, i ∈ own.map (·.2))
    (hg : ∀ (s : Shared) (H : Hp) (C : Addr) (cl : List (Str × Addr)) (fp : List Addr), SG (Blk X s H scope C cl fp) tg is g) (ht : ∀ (s : Shared) (H : Hp) (C : Addr) (cl : List (Str × Addr)) (fp : List Addr), STs (Blk X s H scope C cl fp) ifs tf)
    (hk : ∀ (s : Shared) (H : Hp) (C : Addr) (cl : List (Str × Addr)) (fp : List Addr), SE (Blk X s H scope C cl fp) kx ev)
    (he : ∀ (s : Shared) (H : Hp) (C : Addr) (cl : List (Str × Addr)) (fp : List Addr), SE (Blk X s H scope C cl fp) vx ev') (hs : ∀ x, foldedSetIterable iter X.env x = pure x := by intro _; rfl) :
    SS X (.Assign [.Name y py] (.DictComp kx vx [⟨tg, iter, ifs, 0⟩] scope pos) spos) (sSet (gN i) (eDcF it g tf ev ev' (own.map (·.2)))) := by
  refine ps_to (ps_setDcx (g := tG (cst X) is g) (tt := tT (cst X) tf) (tk := tE (cst X) ev) (tv := tE (cst X) ev') hu hc hN hy hyl hsw hi ok hg ht hk he hs) fun E σ H q => ?_
  obtain ⟨ι, Z, h, σd, fl, σd', h', r, rs, e, q⟩ := q
  obtain ⟨⟨x, h1⟩, ef, e⟩ := bind_inv e
  obtain ⟨σ1, eg, e⟩ := bind_inv e
  obtain ⟨_, eg⟩ := ite_inv eg
  cases eg; cases e
  exact dcF_to hv ⟨ι, Z, h, σd, x, _, r, rs, ef, fun v ι1 H1 x1 r1 p1 => q ι1 H1 _ x1 r1 ((rs.ext x1).set i p1)⟩
theorem ss_dc {i : Nat} {y : Str} {py spos : Pos} (hu : X.A.units + 64 < cLine) (hc : X.calm = true) (hN : X.N.Nodup) (hy : X.N[i]? = some y) (hyl : X.env.scope.names.lookup y = some .local)
    (hsw : swapsWith (.DictComp kx vx [⟨tg, iter, ifs, 0⟩] scope pos) (some (.Name y py)) spos.line X.env = pure true) (hi : SI X tg iter it) (ok : BlkOk X.N X.env.scope scope own) (hv : ∀ i ∈ is, i ∈ own.map (·.2))
    (hg : ∀ (s : Shared) (H : Hp) (C : Addr) (cl : List (Str × Addr)) (fp : List Addr), SG (Blk X s H scope C cl fp) tg is g) (ht : ∀ (s : Shared) (H : Hp) (C : Addr) (cl : List (Str × Addr)) (fp : List Addr), STs (Blk X s H scope C cl fp) ifs tf)
    (hk : ∀ (s : Shared) (H : Hp) (C : Addr) (cl : List (Str × Addr)) (fp : List Addr), SE (Blk X s H scope C cl fp) kx ev)
    (he : ∀ (s : Shared) (H : Hp) (C : Addr) (cl : List (Str × Addr)) (fp : List Addr), SE (Blk X s H scope C cl fp) vx ev') (hs : ∀ x, foldedSetIterable iter X.env x = pure x := by intro _; rfl) :
    SS X (.Assign [.Name y py] (.DictComp kx vx [⟨tg, iter, ifs, 0⟩] scope pos) spos) (sSet (gN i) (eDc it g tf ev ev' (own.map (·.2)))) := by
  refine ps_to (ps_setDcx (g := tG (cst X) is g) (tt := tT (cst X) tf) (tk := tE (cst X) ev) (tv := tE (cst X) ev') hu hc hN hy hyl hsw hi ok hg ht hk he hs) fun E σ H q => ?_
  obtain ⟨ι, Z, h, σd, fl, σd', h', r, rs, e, q⟩ := q
  obtain ⟨⟨x, h1⟩, ef, e⟩ := bind_inv e
  obtain ⟨σ1, eg, e⟩ := bind_inv e
  obtain ⟨_, eg⟩ := ite_inv eg
  cases eg; cases e
  exact dc_to hv ⟨ι, Z, h, σd, x, _, r, rs, ef, fun v ι1 H1 x1 r1 p1 => q ι1 H1 _ x1 r1 ((rs.ext x1).set i p1)⟩
end
end PyD
set_option Elab.async false
set_option linter.all false
set_option maxRecDepth 100000
set_option maxHeartbeats 4000000
/-! PyS21: list(zip(a, b)). -/
namespace PyD
open PySem PySem.W PySem.Calls PySem.Spec PyProof.Rows L2

def kLZip : OpN := fun xs h => match xs with
  | [a, b] => (asL h a).bind fun l => (asL h b).bind fun m => if l.length ≤ LIM then some (.lst ((l.zip m).map fun z => .tup [z.1, z.2]), h) else none
  | _ => none

theorem zip_no_len : typeLookup (.type "zip") "__len__" = pure none := am_miss_of_fast (by decide +kernel)
theorem zip_no_hint : typeLookup (.type "zip") "__length_hint__" = pure none := am_miss_of_fast (by decide +kernel)

section
variable {prog : Program} {w : World} {A : Around} {E : Value → Shared → Prop} {s : Shared}
theorem lz_hint {r : Addr} (hT : s.TypeIs (.ref r) "zip") {Q : Bool → Shared → Prop} (h : Q true s) : wpAny (model prog w) A (Builtin.List.listLengthHint (.ref r)) Q E s := by
  unfold Builtin.List.listLengthHint
  refine wpAny_bind (wpAny_specialOf hT zip_no_len ?_)
  refine wpAny_ite_split (fun hab => absurd hab (by decide)) (fun _ => ?_)
  refine wpAny_ite_split (fun hab => absurd hab (by decide)) (fun _ => ?_)
  refine wpAny_bind (wpAny_specialOf hT zip_no_hint ?_)
  exact wpAny_pure h

structure ZpG (xs ys : Array Value) (lo : Addr) (h : Heap) (as : List Addr) : Prop where
  rise : as.Pairwise (· < ·)
  above : ∀ a ∈ as, lo < a
  pairs : ∀ (j : Nat) (a : Addr), as[j]? = some a → ∃ x y, xs[j]? = some x ∧ ys[j]? = some y ∧ h.get? a = some { cls := .type "tuple", data := .seq #[x, y] }
theorem ZpG.there {xs ys : Array Value} {lo : Addr} {h : Heap} {as : List Addr} (g : ZpG xs ys lo h as) {a : Addr} (ha : a ∈ as) : a < h.objs.size := by
  obtain ⟨j, hj⟩ := List.mem_iff_getElem?.mp ha
  obtain ⟨_, _, _, _, e⟩ := g.pairs j a hj
  exact Heap.lt_size e

def ZpSt (z TI TO i1 i2 l1 l2 S : Addr) (xs ys : Array Value) (i : Nat) (h : Heap) : Prop :=
  IsPair h TI (.ref i1) (.ref i2) ∧ h.IsListIter i1 l1 i ∧ h.IsListIter i2 l2 i ∧ h.IsList l1 xs ∧ h.IsList l2 ys ∧
    ((IsZip h z TI TO .none ∧ ∃ a b, IsPair h TO a b) ∨ ∃ T f oT, IsZipHeld h z TI TO T f ∧ h.get? T = some oT ∧ T ≠ z ∧ T ≠ i1 ∧ T ≠ i2 ∧ T ≠ S)
structure ZpOff (z TI TO i1 i2 l1 l2 S : Addr) : Prop where
  z : z ≠ S
  TI : TI ≠ S
  TO : TO ≠ S
  i1 : i1 ≠ S
  i2 : i2 ≠ S
  l1 : l1 ≠ S
  l2 : l2 ≠ S
variable {z TI TO i1 i2 l1 l2 S : Addr} {xs ys : Array Value}
theorem ZpSt.keep {i : Nat} {h h' : Heap} (st : ZpSt z TI TO i1 i2 l1 l2 S xs ys i h) (F : ZpOff z TI TO i1 i2 l1 l2 S) (hk : ∀ b o, b ≠ S → h.get? b = some o → h'.get? b = some o) : ZpSt z TI TO i1 i2 l1 l2 S xs ys i h' := by
  obtain ⟨hTI, h1, h2, hl1, hl2, hz⟩ := st
  refine ⟨hk _ _ F.TI hTI, h1.at fun o e => hk _ o F.i1 e, h2.at fun o e => hk _ o F.i2 e, hl1.at fun o e => hk _ o F.l1 e, hl2.at fun o e => hk _ o F.l2 e, ?_⟩
  rcases hz with ⟨hz, a, b, hTO⟩ | ⟨T, f, oT, hz, hT, r1, r2, r3, r4⟩
  · exact .inl ⟨hk _ _ F.z hz, a, b, hk _ _ F.TO hTO⟩
  · exact .inr ⟨T, f, oT, hk _ _ F.z hz, hk _ _ r4 hT, r1, r2, r3, r4⟩
theorem zp_item {i : Nat} {x y : Value} {Q : Option Value → Shared → Prop} (D : ZipApart z TI TO i1 i2 l1 l2) (st : ZpSt z TI TO i1 i2 l1 l2 S xs ys i s.heap) (hS : S < s.heap.objs.size) (ex : xs[i]? = some x) (ey : ys[i]? = some y)
    (hQ : ∀ h', ZpSt z TI TO i1 i2 l1 l2 S xs ys (i + 1) h' → IsPair h' s.heap.objs.size x y → h'.objs.size = s.heap.objs.size + 1 → (∀ c o, c ≠ z → c ≠ TO → c ≠ i1 → c ≠ i2 → s.heap.get? c = some o → h'.get? c = some o) → Q (some (.ref s.heap.objs.size)) { s with heap := h' }) :
    wpAny (model prog w) A (pyNext (.ref z)) Q E s := by
  obtain ⟨hTI, h1, h2, hl1, hl2, hz⟩ := st
  have lt : ∀ {c o}, s.heap.get? c = some o → s.heap.objs.size ≠ c := fun e => Nat.ne_of_gt (Heap.lt_size e)
  have n1 : s.heap.objs.size ≠ i1 := let ⟨_, e, _⟩ := h1; lt e
  have n2 : s.heap.objs.size ≠ i2 := let ⟨_, e, _⟩ := h2; lt e
  rcases hz with ⟨hz, a, b, hTO⟩ | ⟨T, f, oT, hz, hT, r1, r2, r3, r4⟩
  · refine wpAny_pyNext_zip_item D hz hTI hTO h1 h2 hl1 hl2 ex ey fun h' a1 a2 a3 a4 a5 a6 hk => ?_
    exact hQ h' ⟨hk _ _ D.TIz D.TITO D.TIi1 D.TIi2 hTI, a3, a4, hl1.at fun o e => hk _ o D.l1z D.l1TO D.l1i1 D.l1i2 e, hl2.at fun o e => hk _ o D.l2z D.l2TO D.l2i1 D.l2i2 e,
        .inr ⟨s.heap.objs.size, false, _, a1, a5, lt hz, n1, n2, Nat.ne_of_gt hS⟩⟩ a5 a6 hk
  · refine wpAny_pyNext_zip_item_held D hz hT hTI h1 h2 hl1 hl2 ex ey fun h' a1 a3 a4 a5 a6 hk => ?_
    exact hQ h' ⟨hk _ _ D.TIz D.TIi1 D.TIi2 hTI, a3, a4, hl1.at fun o e => hk _ o D.l1z D.l1i1 D.l1i2 e, hl2.at fun o e => hk _ o D.l2z D.l2i1 D.l2i2 e,
        .inr ⟨T, true, oT, a1, hk _ _ r1 r2 r3 hT, r1, r2, r3, r4⟩⟩ a5 a6 fun c o c1 _ c3 c4 e => hk c o c1 c3 c4 e
theorem zp_end {i : Nat} {Q : Option Value → Shared → Prop} (hh : A.handled = none) (D : ZipApart z TI TO i1 i2 l1 l2) (st : ZpSt z TI TO i1 i2 l1 l2 S xs ys i s.heap) (hend : xs[i]? = none ∨ ys[i]? = none)
    (hQ : ∀ h', (∀ c o, c ≠ z → c ≠ TO → c ≠ i1 → c ≠ i2 → s.heap.get? c = some o → h'.get? c = some o) → Q none { s with heap := h' }) : wpAny (model prog w) A (pyNext (.ref z)) Q E s := by
  obtain ⟨hTI, h1, h2, hl1, hl2, hz⟩ := st
  rcases hz with ⟨hz, a, b, hTO⟩ | ⟨T, f, oT, hz, hT, r1, r2, r3, r4⟩
  · exact wpAny_pyNext_zip_end hh D hz hTI hTO h1 h2 hl1 hl2 hend hQ
  · exact wpAny_pyNext_zip_end_held hh D hz hT hTI h1 h2 hl1 hl2 hend fun h' hk => hQ h' fun c o c1 _ c3 c4 e => hk c o c1 c3 c4 e

theorem lz_loop {R : Result → Shared → Prop} (hh : A.handled = none) (D : ZipApart z TI TO i1 i2 l1 l2) (F : ZpOff z TI TO i1 i2 l1 l2 S) (hn : min xs.size ys.size ≤ sizeLine) (res : Value) {h₁ : Heap} (hlo : ∀ c, c = z ∨ c = TO ∨ c = i1 ∨ c = i2 → c < S)
    (hR : ∀ h' tk acc c as, (∀ b o, b ≠ S → b ≠ z → b ≠ TO → b ≠ i1 → b ≠ i2 → h₁.get? b = some o → h'.get? b = some o) → h'.get? S = some { cls := .type "list", dict := none, data := .seq acc c, slots := #[] } → as.length = min xs.size ys.size → ZpG xs ys S h' as →
      acc.toList = as.map Value.ref → R (.ok (.ret res)) { s with heap := h', toks := tk }) :
    ∀ (k i : Nat) (h : Heap) (tk c : Nat) (acc : Array Value) (as : List Addr), min xs.size ys.size - i = k → i ≤ min xs.size ys.size → ZpSt z TI TO i1 i2 l1 l2 S xs ys i h → (∀ b o, b ≠ S → b ≠ z → b ≠ TO → b ≠ i1 → b ≠ i2 → h₁.get? b = some o → h.get? b = some o) →
      h.get? S = some { cls := .type "list", dict := none, data := .seq acc c, slots := #[] } → acc.toList = as.map Value.ref → as.length = i → ZpG xs ys S h as →
      codeAny (model prog w) A (.builtin "list.extend.loop" ⟨[.ref S, .ref z, res], []⟩) R { s with heap := h, toks := tk } := by
  have ab : ∀ {a : Addr}, S < a → a ≠ z ∧ a ≠ TO ∧ a ≠ i1 ∧ a ≠ i2 := fun {a} h => ⟨fun q => Nat.lt_asymm h (q ▸ hlo z (.inl rfl)), fun q => Nat.lt_asymm h (q ▸ hlo TO (.inr (.inl rfl))), fun q => Nat.lt_asymm h (q ▸ hlo i1 (.inr (.inr (.inl rfl)))), fun q => Nat.lt_asymm h (q ▸ hlo i2 (.inr (.inr (.inr rfl))))⟩
  intro k
  induction k with
  | zero =>
    intro i h tk c acc as hk hi hst hkeep hS hacc hal hG
    have hin : i = min xs.size ys.size := by omega
    have hend : xs[i]? = none ∨ ys[i]? = none := by
      rcases Nat.le_total xs.size ys.size with q | q
      · exact .inl (Array.getElem?_eq_none (by omega))
      · exact .inr (Array.getElem?_eq_none (by omega))
    refine codeAny_builtin PySem.F.entry_extend_loop ?_
    rw [Around.under_plainId PySem.F.plain_extend_loop _]
    show wpAny _ A.in1 (pyNext (.ref z) >>= _) _ _ _
    refine wpAny_bind (zp_end (s := { s with heap := h, toks := tk }) (A := A.in1) hh D hst hend fun h' he => ?_)
    refine wpAny_pure (hR h' tk acc c as (fun b o h1 h2 h3 h4 h5 e => he b o h2 h3 h4 h5 (hkeep b o h1 h2 h3 h4 h5 e)) (he S _ F.z.symm F.TO.symm F.i1.symm F.i2.symm hS) (by omega) ⟨hG.rise, hG.above, fun j a hj => ?_⟩ hacc)
    obtain ⟨x, y, e1, e2, e3⟩ := hG.pairs j a hj
    obtain ⟨g1, g2, g3, g4⟩ := ab (hG.above a (List.mem_of_getElem? hj))
    exact ⟨x, y, e1, e2, he a _ g1 g2 g3 g4 e3⟩
  | succ k ih =>
    intro i h tk c acc as hk hi hst hkeep hS hacc hal hG
    have hlt : i < min xs.size ys.size := by omega
    have hx : xs[i]? = some (xs[i]'(by omega)) := Array.getElem?_eq_getElem (by omega)
    have hy : ys[i]? = some (ys[i]'(by omega)) := Array.getElem?_eq_getElem (by omega)
    generalize xs[i]'(by omega) = x at hx
    generalize ys[i]'(by omega) = y at hy
    have hsz : acc.size = i := by rw [← Array.length_toList, hacc, List.length_map, hal]
    refine codeAny_builtin PySem.F.entry_extend_loop ?_
    rw [Around.under_plainId PySem.F.plain_extend_loop _]
    show wpAny _ A.in1 (pyNext (.ref z) >>= _) _ _ _
    refine wpAny_bind (zp_item (s := { s with heap := h, toks := tk }) D hst (Heap.lt_size hS) hx hy fun h' hst' ht hz hkp => ?_)
    dsimp only at ht hz hkp ⊢
    have hS' := hkp S _ F.z.symm F.TO.symm F.i1.symm F.i2.symm hS
    have up : ∀ b o, b ≠ S → h'.get? b = some o → (h'.update S (Obj.mapSeq (·.push (Value.ref h.objs.size)))).get? b = some o := fun b o hb e => (Heap.get?_update_other _ _ (Ne.symm hb)).trans e
    have hSl : S < h.objs.size := Heap.lt_size hS
    show wpAny _ A.in1 (updateSeq S (·.push (Value.ref h.objs.size)) >>= _) _ _ _
    refine wpAny_bind ?_
    refine wpAny_updateSeq hS' rfl (wpAny_pure ⟨plainId_quiet PySem.F.plain_extend_loop _, ih (i + 1) _ tk _ (acc.push (Value.ref h.objs.size)) (as ++ [h.objs.size]) (by omega) hlt (hst'.keep F up)
      (fun b o h1 h2 h3 h4 h5 e => up b o h1 (hkp b o h2 h3 h4 h5 (hkeep b o h1 h2 h3 h4 h5 e))) (Heap.get?_update_self _ hS' rfl) (by rw [Array.toList_push, hacc, List.map_append]; rfl) (by rw [List.length_append, hal]; rfl) ⟨?_, ?_, ?_⟩⟩) (by rw [hsz]; omega) (by show (acc.push (Value.ref h.objs.size)).size ≤ sizeLine + 1; rw [Array.size_push, hsz]; omega)
    · refine List.pairwise_append.mpr ⟨hG.rise, List.pairwise_singleton _ _, fun a ha b hb => ?_⟩
      rw [List.mem_singleton.mp hb]
      exact hG.there ha
    · intro a ha
      rcases List.mem_append.mp ha with ha | ha
      · exact hG.above a ha
      · rw [List.mem_singleton.mp ha]; exact hSl
    · intro j b hj
      rcases Nat.lt_trichotomy j as.length with h1 | h1 | h1
      · rw [List.getElem?_append_left h1] at hj
        obtain ⟨x', y', e1, e2, e3⟩ := hG.pairs j b hj
        have hb := hG.above b (List.mem_of_getElem? hj)
        obtain ⟨g1, g2, g3, g4⟩ := ab hb
        exact ⟨x', y', e1, e2, up b _ (Nat.ne_of_gt hb) (hkp b _ g1 g2 g3 g4 e3)⟩
      · subst h1
        have hb : h.objs.size = b := by simpa using hj
        subst hb
        exact ⟨x, y, by rw [hal]; exact hx, by rw [hal]; exact hy, up _ _ (Nat.ne_of_gt hSl) ht⟩
      · have hnone : (as ++ [h.objs.size])[j]? = none := List.getElem?_eq_none (by rw [List.length_append, List.length_singleton]; omega)
        rw [hnone] at hj; cases hj
theorem lz_extend {R : Result → Shared → Prop} (hh : A.handled = none) (D : ZipApart z TI TO i1 i2 l1 l2) (F : ZpOff z TI TO i1 i2 l1 l2 S) (hlo : ∀ c, c = z ∨ c = TO ∨ c = i1 ∨ c = i2 → c < S) (st : ZpSt z TI TO i1 i2 l1 l2 S xs ys 0 s.heap) (hzz : IsZip s.heap z TI TO .none)
    (res : Value) (c₀ : Nat) (hS : s.heap.get? S = some { cls := .type "list", data := .seq #[] c₀ })
    (hR : ∀ h' tk acc c as, (∀ b o, b ≠ S → b ≠ z → b ≠ TO → b ≠ i1 → b ≠ i2 → s.heap.get? b = some o → h'.get? b = some o) → h'.get? S = some { cls := .type "list", dict := none, data := .seq acc c, slots := #[] } → as.length = min xs.size ys.size → ZpG xs ys S h' as →
      acc.toList = as.map Value.ref → R (.ok (.ret res)) { s with heap := h', toks := tk }) (hn : min xs.size ys.size ≤ sizeLine) :
    wpAny (model prog w) A.in1 (Builtin.List.listExtendWith (.ref S) (.ref z) res)
      (fun fin s' => match fin with | .done f => R (.ok f) s' | .again c' => c'.quiet = true ∧ codeAny (model prog w) A c' R s') (fun e s' => R (.error e) s') s := by
  have hT : s.TypeIs (.ref z) "zip" := ⟨_, hzz, rfl⟩
  have key : ∀ (h : Heap) (c₁ tk : Nat), (∀ b o, b ≠ S → s.heap.get? b = some o → h.get? b = some o) →
      h.get? S = some { cls := .type "list", data := .seq #[] c₁ } → codeAny (model prog w) A (.builtin "list.extend.loop" ⟨[.ref S, .ref z, res], []⟩) R { s with heap := h, toks := tk } := by
    intro h c₁ tk hk hS₁
    exact lz_loop (s := s) (h₁ := s.heap) hh D F hn res hlo hR _ 0 h tk c₁ #[] [] (Nat.sub_zero _) (Nat.zero_le _) (st.keep F hk) (fun b o hb _ _ _ _ e => hk b o hb e) hS₁ rfl rfl ⟨List.Pairwise.nil, (fun _ ha => nomatch ha), (fun j a hj => by simp at hj)⟩
  unfold Builtin.List.listExtendWith
  refine wpAny_bind (wpAny_typeOf (T := "zip") hT ?_)
  have h1 : Builtin.List.listSameRef (.ref S) (.ref z) = false := by simp [Builtin.List.listSameRef, F.z.symm]
  have h2 : (Value.type "zip" == Value.type "list") = false := by decide
  have h3 : (Value.type "zip" == Value.type "tuple") = false := by decide
  simp only [h1, h2, h3, Bool.or_false, Bool.false_eq_true, if_false]
  refine wpAny_bind (wpAny_pyIter_zip hzz ?_)
  refine wpAny_bind (wpAny_holding (lz_hint hT ?_))
  refine wpAny_ite_split (fun _ => ?_) (fun _ => wpAny_pure ⟨plainId_quiet PySem.F.plain_extend_loop _, key _ c₀ _ (fun b o _ e => e) hS⟩)
  refine wpAny_bind (wpAny_rule ?_)
  refine wpAny_bind ?_
  show wpAny _ _ (updateSeq S (·.push .none) >>= fun _ => updateSeq S (·.pop)) _ _ _
  refine wpAny_bind (wpAny_updateSeq hS rfl ?_)
  have hS₂ := Heap.get?_update_self (Obj.mapSeq (·.push Value.none)) hS rfl
  refine wpAny_updateSeq (hz := by seq_fits) hS₂ rfl ?_
  have hS₃ := Heap.get?_update_self (Obj.mapSeq (·.pop)) hS₂ rfl
  refine wpAny_pure ⟨plainId_quiet PySem.F.plain_extend_loop _, key _ _ _ (fun b o hb e => ?_) hS₃⟩
  exact (Heap.get?_update_other _ _ (Ne.symm hb)).trans ((Heap.get?_update_other _ _ (Ne.symm hb)).trans e)
theorem lz_init {R : Result → Shared → Prop} (hh : A.handled = none) (D : ZipApart z TI TO i1 i2 l1 l2) (F : ZpOff z TI TO i1 i2 l1 l2 S) (hlo : ∀ c, c = z ∨ c = TO ∨ c = i1 ∨ c = i2 → c < S) (st : ZpSt z TI TO i1 i2 l1 l2 S xs ys 0 s.heap) (hzz : IsZip s.heap z TI TO .none)
    (hS : s.heap.get? S = some { cls := .type "list", data := .seq #[] })
    (hR : ∀ h' tk acc c as, (∀ b o, b ≠ S → b ≠ z → b ≠ TO → b ≠ i1 → b ≠ i2 → s.heap.get? b = some o → h'.get? b = some o) → h'.get? S = some { cls := .type "list", dict := none, data := .seq acc c, slots := #[] } → as.length = min xs.size ys.size → ZpG xs ys S h' as →
      acc.toList = as.map Value.ref → R (.ok (.ret .none)) { s with heap := h', toks := tk }) (hn : min xs.size ys.size ≤ sizeLine) :
    wpAny (model prog w) A.in1 (Builtin.«list.__init__» ⟨[.ref S, .ref z], []⟩)
      (fun fin s' => match fin with | .done f => R (.ok f) s' | .again c' => c'.quiet = true ∧ codeAny (model prog w) A c' R s') (fun e s' => R (.error e) s') s := by
  show wpAny _ _ (do let old ← Builtin.List.listItems (.ref S); Builtin.List.listUpdate (.ref S) (fun _ => #[]); letGo old.toList.reverse; Builtin.List.listExtendWith (.ref S) (.ref z) .none) _ _ s
  refine wpAny_bind ?_
  unfold Builtin.List.listItems
  refine wpAny_bind (wpAny_seqItems hS rfl (wpAny_pure ?_))
  show wpAny _ _ (updateSeq S (fun _ => #[]) >>= fun _ => letGo (#[] : Array Value).toList.reverse >>= fun _ => Builtin.List.listExtendWith (.ref S) (.ref z) .none) _ _ s
  refine wpAny_bind (wpAny_updateSeq hS rfl ?_)
  have hS₂ := Heap.get?_update_self (Obj.mapSeq (fun _ => (#[] : Array Value))) hS rfl
  have oth : ∀ b o, b ≠ S → s.heap.get? b = some o → (s.heap.update S (Obj.mapSeq (fun _ => (#[] : Array Value)))).get? b = some o :=
    fun b o hb e => (Heap.get?_update_other _ _ (Ne.symm hb)).trans e
  refine wpAny_bind (wpAny_letGo ?_)
  exact lz_extend hh D F hlo (st.keep F oth) (oth _ _ F.z hzz) .none _ hS₂ (fun h' tk acc c as hk hS' hl hG hacc => hR h' tk acc c as (fun b o h1 h2 h3 h4 h5 e => hk b o h1 h2 h3 h4 h5 (oth b o h1 e)) hS' hl hG hacc) hn
theorem lz_call {Q : Value → Shared → Prop} (hh : A.handled = none) (D : ZipApart z TI TO i1 i2 l1 l2) (F : ∀ S, s.heap.objs.size ≤ S → ZpOff z TI TO i1 i2 l1 l2 S) (hlo : ∀ c, c = z ∨ c = TO ∨ c = i1 ∨ c = i2 → c < s.heap.objs.size)
    (hTI : IsPair s.heap TI (.ref i1) (.ref i2)) (h1 : s.heap.IsListIter i1 l1 0) (h2 : s.heap.IsListIter i2 l2 0) (hl1 : s.heap.IsList l1 xs) (hl2 : s.heap.IsList l2 ys) (hzz : IsZip s.heap z TI TO .none) {a b : Value} (hTO : IsPair s.heap TO a b)
    (hn : min xs.size ys.size ≤ sizeLine)
    (hQ : ∀ h' tk acc c as, (∀ b o, b ≠ z → b ≠ TO → b ≠ i1 → b ≠ i2 → s.heap.get? b = some o → h'.get? b = some o) → h'.get? s.heap.objs.size = some { cls := .type "list", dict := none, data := .seq acc c, slots := #[] } → as.length = min xs.size ys.size → ZpG xs ys s.heap.objs.size h' as →
      acc.toList = as.map Value.ref → Q (.ref s.heap.objs.size) { s with heap := h', toks := tk }) :
    wpAny (model prog w) A (call (.type "list") [.ref z]) Q E s := by
  refine callType_codes (Q₁ := fun obj s₁ => obj = .ref s.heap.objs.size ∧ s₁ = { s with heap := s.heap.push { cls := .type "list", data := .seq #[] } }) PySem.F.called_list (PySem.F.typeCall_list_1 _) PySem.F.entry_list_init
    (code_list_new _ ⟨rfl, rfl⟩) fun obj s₁ h₁ => ?_
  obtain ⟨rfl, rfl⟩ := h₁
  have hS : (s.heap.push { cls := .type "list", data := .seq #[] }).get? s.heap.objs.size = some { cls := .type "list", data := .seq #[] } := Heap.get?_push_size _ rfl
  have up : ∀ b o, s.heap.get? b = some o → (s.heap.push { cls := .type "list", data := .seq #[] }).get? b = some o := fun b o e => Heap.get?_push_of_some _ e
  have st : ZpSt z TI TO i1 i2 l1 l2 s.heap.objs.size xs ys 0 (s.heap.push { cls := .type "list", data := .seq #[] }) :=
    ⟨up _ _ hTI, h1.at fun o e => up _ o e, h2.at fun o e => up _ o e, hl1.at fun o e => up _ o e, hl2.at fun o e => up _ o e, .inl ⟨up _ _ hzz, a, b, up _ _ hTO⟩⟩
  refine ⟨⟨_, hS, rfl⟩, PySem.F.args_list_init_2 _ _, lz_init (A := A.in1) hh D (F _ (Nat.le_refl _)) hlo st (up _ _ hzz) hS (fun h' tk acc c as hk hS' hl hG hacc => ?_) hn⟩
  exact ⟨rfl, hQ h' tk acc c as (fun b o h2 h3 h4 h5 e => hk b o (Nat.ne_of_lt (Heap.lt_size e)) h2 h3 h4 h5 (up b o e)) hS' hl hG hacc⟩
end

/-! ### what is laid -/
def putP : Hp → List Addr → List (V × V) → Hp
  | H, a :: as, p :: kvs => putP (upd H a (.tup [p.1, p.2])) as kvs
  | H, _, _ => H
theorem putP_off {b : Addr} : ∀ (as : List Addr) (kvs : List (V × V)) (H : Hp), b ∉ as → putP H as kvs b = H b
  | [], _, _, _ => rfl
  | _ :: _, [], _, _ => rfl
  | a :: as, p :: kvs, H, h => by
    show putP (upd H a (.tup [p.1, p.2])) as kvs b = H b
    rw [putP_off as kvs _ (fun z => h (List.mem_cons_of_mem _ z)), upd_ne (fun z => h (by rw [z]; exact List.mem_cons_self))]
theorem putP_at : ∀ (as : List Addr) (kvs : List (V × V)) (H : Hp), as.Nodup → ∀ (j : Nat) (a : Addr) (p : V × V), as[j]? = some a → kvs[j]? = some p → putP H as kvs a = some (.tup [p.1, p.2])
  | [], _, _, _, _, _, _, h, _ => by simp at h
  | _ :: _, [], _, _, _, _, _, _, h => by simp at h
  | a :: as, p :: kvs, H, hn, 0, b, q, h1, h2 => by
    have hn' := List.nodup_cons.mp hn
    simp at h1 h2
    subst h1 h2
    show putP (upd H a (.tup [p.1, p.2])) as kvs a = _
    rw [putP_off as kvs _ hn'.1, upd_same]
  | a :: as, p :: kvs, H, hn, j + 1, b, q, h1, h2 => putP_at as kvs _ (List.nodup_cons.mp hn).2 j b q (by simpa using h1) (by simpa using h2)
section
variable {X : Cx} {pins : List (Addr × Obj)} {σ : L2.St} {H : Hp} {s : Shared}
theorem pairs_laid {h' : Heap} {tk : Nat} {xs ys : List V} {us ws : List Value} {acc : Array Value} {c : Nat} {as : List Addr} {S : Addr} (I : L2.Inv X pins σ H s) (rx : Vals xs us) (ry : Vals ys ws) (hz : (xs.zip ys).length ≤ sizeLine) (hlo : s.heap.objs.size ≤ S)
    (hk : ∀ b o, s.heap.get? b = some o → h'.get? b = some o) (hS : h'.get? S = some { cls := .type "list", dict := none, data := .seq acc c, slots := #[] }) (hl : as.length = (xs.zip ys).length) (hG : ZpG us.toArray ws.toArray S h' as) (hacc : acc.toList = as.map Value.ref) :
    ∃ H' : Hp, (∀ b o, H b = some o → H' b = some o) ∧ H S = none ∧ (∀ t ∈ as, H t = none) ∧ H' S = some (.lst (as.map V.ref)) ∧ (∀ (j : Nat) (t : Addr), as[j]? = some t → ∃ x y, xs[j]? = some x ∧ ys[j]? = some y ∧ H' t = some (.tup [x, y])) ∧ L2.Inv X pins σ H' { s with heap := h', toks := tk } := by
  have hSn : S ∉ as := fun z => Nat.lt_irrefl _ (hG.above _ z)
  have nd : as.Nodup := List.Pairwise.imp (fun {a b} (h : a < b) => Nat.ne_of_lt h) hG.rise
  have new : ∀ t ∈ as, H t = none := fun t ht => I.hok.fresh (Nat.le_trans hlo (Nat.le_of_lt (hG.above t ht)))
  have newS : H S = none := I.hok.fresh hlo
  have off : ∀ b, b ∉ as → b ≠ S → putP (upd H S (.lst (as.map V.ref))) as (xs.zip ys) b = H b := fun b h1 h2 => by rw [putP_off as _ _ h1, upd_ne h2]
  have eS : putP (upd H S (.lst (as.map V.ref))) as (xs.zip ys) S = some (.lst (as.map V.ref)) := by rw [putP_off as _ _ hSn, upd_same]
  have at_ : ∀ (j : Nat) (t : Addr), as[j]? = some t → ∃ x y, xs[j]? = some x ∧ ys[j]? = some y ∧ putP (upd H S (.lst (as.map V.ref))) as (xs.zip ys) t = some (.tup [x, y]) := fun j t hj => by
    have lt : j < (xs.zip ys).length := by rw [← hl]; exact (List.getElem?_eq_some_iff.mp hj).1
    have e := putP_at as (xs.zip ys) (upd H S (.lst (as.map V.ref))) nd j t _ hj (List.getElem?_eq_getElem lt)
    obtain ⟨e1, e2⟩ := List.getElem?_zip_eq_some.mp (List.getElem?_eq_getElem lt)
    exact ⟨_, _, e1, e2, e⟩
  have low : ∀ b o, s.heap.get? b = some o → b ∉ as ∧ b ≠ S := fun b o e => ⟨fun z => absurd (Heap.lt_size e) (Nat.not_lt.mpr (Nat.le_trans hlo (Nat.le_of_lt (hG.above b z)))), fun q => absurd (Heap.lt_size e) (Nat.not_lt.mpr (by rw [q]; exact hlo))⟩
  have kp : ∀ b u, H b = some u → (putP (upd H S (.lst (as.map V.ref))) as (xs.zip ys)) b = some u := fun b u e => by
    rw [off b (fun z => by rw [new b z] at e; cases e) (fun z => by rw [z, newS] at e; cases e)]
    exact e
  refine ⟨putP (upd H S (.lst (as.map V.ref))) as (xs.zip ys), kp, newS, new, eS, at_, ?_⟩
  refine I.call' (ch := []) rfl ⟨fun b o q _ _ _ => hk b o q, fun b o q _ _ _ => ⟨o.slots, hk b o q⟩, fun b o q n _ => ?_, fun b o q _ => ⟨o, hk b o q⟩, fun b xs q => kp b _ q, fun b o u q => kp b _ q, fun b ps q => ⟨#[], by rw [kp b _ q]; simp⟩⟩ (fun b u q => ?_) I.bare fun b z => by simp at z
  · obtain ⟨z1, z2⟩ := low b o q
    rw [off b z1 z2]
    exact n
  · by_cases hb : b ∈ as
    · obtain ⟨j, hj⟩ := List.mem_iff_getElem?.mp hb
      obtain ⟨x, y, e1, e2, e3⟩ := at_ j b hj
      rw [e3] at q
      cases q
      obtain ⟨u1, u2, f1, f2, f3⟩ := hG.pairs j b hj
      obtain ⟨v1, g1, g2⟩ := rx.get e1
      obtain ⟨v2, g3, g4⟩ := ry.get e2
      have w1 : u1 = v1 := by
        have : us[j]? = some u1 := by simpa using f1
        rw [g1] at this; exact (Option.some.inj this).symm
      have w2 : u2 = v2 := by
        have : ws[j]? = some u2 := by simpa using f2
        rw [g3] at this; exact (Option.some.inj this).symm
      subst w1 w2
      exact ⟨by show 2 ≤ sizeLine; decide, [u1, u2], .cons g2 (.cons g4 .nil), ⟨_, f3, rfl, _, rfl⟩⟩
    · by_cases hb2 : b = S
      · rw [hb2] at q ⊢
        rw [eS] at q
        cases q
        refine ⟨by rw [List.length_map, hl]; exact hz, acc.toList, c, by rw [hacc]; exact LiI.vals_refs as, ?_⟩
        rw [Array.toArray_toList]
        exact hS
      · rw [off b hb hb2] at q
        exact (I.hok b u q).stay (fun d v _ y => hk d v y) (fun d y => kp d _ y) fun d xs y => kp d _ y
/-- more stands in the heap -/
theorem Ext.more {ι : List Addr} {H H' : Hp} (k : ∀ b o, H b = some o → H' b = some o) : Ext ι H ι H' :=
  ⟨⟨[], by simp, by simp⟩, fun a o e _ => k a o e, fun a e => by
    cases q : H a with
    | none => exact absurd q e
    | some o => rw [k a o q]; exact nofun⟩
theorem R.more {C : Cst} {ι : List Addr} {Z : Addr → Prop} {H H' : Hp} {h : MH} (r : R C ι Z H h) (k : ∀ b o, H b = some o → H' b = some o) : R C ι Z H' h :=
  ⟨r.len, r.nd, fun a z => (Ext.more (ι := ι) k).live a (r.live a z), r.apart, fun n a u e1 e2 => (r.at_ n a u e1 e2).ext (Ext.more k) (by
    obtain ⟨o, q⟩ := Option.ne_none_iff_exists'.mp (r.live_ (List.mem_iff_getElem?.mpr ⟨n, e1⟩))
    rw [q]; exact k a o q)⟩
theorem repAll_ix {C : Cst} {ι : List Addr} {Z : Addr → Prop} {H : Hp} : ∀ {ds : List D} {vs : List V}, ds.length = vs.length → (∀ (j : Nat) (d : D) (v : V), ds[j]? = some d → vs[j]? = some v → Rep C ι Z H d v) → RepAll C ι Z H ds vs
  | [], [], _, _ => .nil
  | d :: ds, v :: vs, hl, h => .cons (h 0 d v rfl rfl) (repAll_ix (by simpa using hl) fun j d' v' e1 e2 => h (j + 1) d' v' (by simpa using e1) (by simpa using e2))
  | [], _ :: _, hl, _ => by simp at hl
  | _ :: _, [], hl, _ => by simp at hl
theorem off5 {n S aa ab : Addr} (h : n + 5 ≤ S) (la : aa < n) (lb : ab < n) : ZpOff (n + 4) (n + 2) (n + 3) n (n + 1) aa ab S := by
  have g : ∀ k : Nat, k < 5 → n + k ≠ S := fun k hk => Nat.ne_of_lt (Nat.lt_of_lt_of_le (Nat.add_lt_add_left hk n) h)
  have n5 : n < S := Nat.lt_of_lt_of_le (Nat.lt_add_of_pos_right (by decide : 0 < 5)) h
  exact ⟨g 4 (by decide), g 2 (by decide), g 3 (by decide), Nat.ne_of_lt n5, g 1 (by decide), Nat.ne_of_lt (Nat.lt_trans la n5), Nat.ne_of_lt (Nat.lt_trans lb n5)⟩
theorem lo5 {n c : Addr} (h : c = n + 4 ∨ c = n + 3 ∨ c = n ∨ c = n + 1) : c < n + 5 := by
  rcases h with q | q | q | q
  · rw [q]; exact Nat.add_lt_add_left (by decide : 4 < 5) n
  · rw [q]; exact Nat.add_lt_add_left (by decide : 3 < 5) n
  · rw [q]; exact Nat.lt_add_of_pos_right (by decide : 0 < 5)
  · rw [q]; exact Nat.add_lt_add_left (by decide : 1 < 5) n
variable {a b : Expr} {f g : Ev} {p p2 pos pos2 : Pos}
theorem se_lzip (hc : X.calm = true) (hg : Gl X "list") (hm : X.mg "list" = none) (hg2 : Gl X "zip") (hm2 : X.mg "zip" = none) (ha : SE X a f) (hb : SE X b g)
    (hs : starEach [.Call (.Name "zip" p2) [a, b] [] pos2] X.env = (false, eval (.Call (.Name "zip" p2) [a, b] [] pos2) X.env) :: starEach [] X.env := by rfl)
    (hs2 : starEach [a, b] X.env = (false, eval a X.env) :: starEach [b] X.env := by rfl) (hs3 : starEach [b] X.env = (false, eval b X.env) :: starEach [] X.env := by rfl) (hpl : (backTo pos2 (starEach [b] X.env)).any (·.1) = false := by rfl) :
    SE X (.Call (.Name "list" p) [.Call (.Name "zip" p2) [a, b] [] pos2] [] pos) (eN kLZip (aCons f (aCons g aNil))) := by
  refine ⟨fun pn st sl hp Qd I q => ?_⟩
  obtain ⟨ι, Z, h, σd, d, h', r, rs, e0, q⟩ := q
  obtain ⟨⟨ds, h1⟩, ea, e0⟩ := bind_inv e0
  refine wpAny_Call_Name_kw (ld_blt I hg hm PyProof.Rows.boot_list ?_)
  refine PyProof.Rows.callWith_type1 ?_ hs rfl
  rw [hs]
  show wpAny _ _ (spliced ((false, eval (.Call (.Name "zip" p2) [a, b] [] pos2) X.env) :: backTo pos (starEach [] X.env))) _ _ st
  refine Calls.spliced_cons ?_
  refine Call_ (ld_blt I hg2 hm2 PyProof.Rows.boot_zip (PyProof.Rows.callWith_type1 (thn ((sa_cons ha (sa_cons hb sa_nil hs3) hs2).run pos2 pn st sl hp (fun vs H1 => ∃ ι1, Ext ι hp ι1 H1 ∧ R (cst X) ι1 Z H1 h1 ∧ RepAll (cst X) ι1 Z H1 ds vs) I
    ⟨ι, Z, h, σd, ds, h1, r, rs, ea, fun vs ι1 H1 x1 r1 p1 => ⟨ι1, x1, r1, p1⟩⟩) fun us s1 ⟨vs, H1, I1, r1, ι1, x1, rr, pp⟩ => ?_) hs2 hpl))
  replace e0 : kLZip ds h1 = some (d, h') := e0
  unfold kLZip at e0
  split at e0
  · rename_i da db
    obtain ⟨l, el, e0⟩ := bind_inv e0
    obtain ⟨m, em, e0⟩ := bind_inv e0
    obtain ⟨hlim, e0⟩ := ite_inv e0
    cases e0
    obtain ⟨va, vb, rfl, pa, pb⟩ := rep2 pp
    obtain ⟨aa, xs, rfl, ga, qa⟩ := asL_rep rr pa el
    obtain ⟨ab, ys, rfl, gb, qb⟩ := asL_rep rr pb em
    cases r1 with
    | cons r r1 =>
      cases r1 with
      | cons r' r1 =>
        cases r1
        cases r
        cases r'
        obtain ⟨its, rv, p1, _⟩ := I1.list (SqL.of ga)
        obtain ⟨its2, rv2, p2', _⟩ := I1.list (SqL.of gb)
        refine call_zip_2 p1.isList p2'.isList fun h2 hz hTI hTO hi1 hi2 hsz hk => ?_
        refine Calls.spliced_nil ?_
        have la : aa < s1.heap.objs.size := p1.lt
        have lb : ab < s1.heap.objs.size := p2'.lt
        have lx := rv.length
        have ly := rv2.length
        have hmin : min its.toArray.size its2.toArray.size = (xs.zip ys).length := by simp [List.length_zip, lx, ly]
        have hzl : (xs.zip ys).length ≤ sizeLine := by
          rw [List.length_zip, ← qa.length]
          exact Nat.le_trans (Nat.min_le_left _ _) (by rw [← line_eq]; exact hlim)
        refine lz_call (s := { s1 with heap := h2 }) (xs := its.toArray) (ys := its2.toArray) (I1.ok.hd hc) (PySem.W.ktu_apart s1.heap.objs.size aa ab la lb) (fun S hS => ?_) (fun c hcc => ?_) hTI hi1 hi2 (p1.isList.at fun o e => hk _ o e) (p2'.isList.at fun o e => hk _ o e) hz hTO (by rw [hmin]; exact hzl) (fun h3 tk acc c as hk3 hS hl hG hacc => ?_)
        · dsimp only at hS
          rw [hsz] at hS
          exact off5 hS la lb
        · dsimp only
          rw [hsz]
          exact lo5 hcc
        · dsimp only at hk3 hS hG
          have nw : ∀ b o, s1.heap.get? b = some o → h3.get? b = some o := fun b o e => by
            have hlt := Heap.lt_size e
            exact hk3 b o (Nat.ne_of_lt (Nat.lt_of_lt_of_le hlt (Nat.le_add_right _ _))) (Nat.ne_of_lt (Nat.lt_of_lt_of_le hlt (Nat.le_add_right _ _))) (Nat.ne_of_lt hlt) (Nat.ne_of_lt (Nat.lt_of_lt_of_le hlt (Nat.le_add_right _ _))) (hk b o e)
          obtain ⟨H', k1, k2, k3, k4, k5, J⟩ := pairs_laid (tk := tk) (S := h2.objs.size) I1 rv rv2 hzl (by rw [hsz]; exact Nat.le_add_right _ _) nw hS (by rw [hl, hmin]) hG hacc
          have X2 : Ext ι1 H1 ι1 H' := Ext.more k1
          have R2 := rr.more k1
          refine ⟨.ref _, H', J, rfl, q _ ι1 H' (x1.trans X2) R2 (.lst (rr.notι k2) (rr.notZ k2) k4 (repAll_ix ?_ ?_))⟩
          · rw [List.length_map, List.length_map, hl, hmin, List.length_zip, List.length_zip, qa.length, qb.length]
          · intro j d v e1 e2
            rw [List.getElem?_map] at e1 e2
            cases hj : as[j]? with
            | none => rw [hj] at e2; cases e2
            | some t =>
              rw [hj] at e2; cases e2
              obtain ⟨x, y, g1, g2, g3⟩ := k5 j t hj
              cases hzz : (l.zip m)[j]? with
              | none => rw [hzz] at e1; cases e1
              | some z =>
                rw [hzz] at e1; cases e1
                obtain ⟨z1, z2⟩ := List.getElem?_zip_eq_some.mp hzz
                obtain ⟨v1, w1, w2⟩ := qa.get z1
                obtain ⟨v2, w3, w4⟩ := qb.get z2
                rw [g1] at w1; cases w1
                rw [g2] at w3; cases w3
                exact .tup (.inl ⟨rr.notι (k3 t (List.mem_of_getElem? hj)), g3⟩) (.cons (w2.ext X2) (.cons (w4.ext X2) .nil))
  · cases e0
end
end PyD
set_option Elab.async false
set_option linter.all false
set_option maxRecDepth 100000
set_option maxHeartbeats 4000000
/-! PyS22: min of a list of data. -/
namespace PyD
open PySem PySem.Spec PyProof.Rows L2
def ltO (a b : D) : Bool := W.dataLt (dOf a) (dOf b)
def kMinD : OpN := fun xs h => match xs with
  | [d] => (asL h d).bind fun l => match l with
    | [] => none
    | x :: r => if (((x :: r).all fun a => (D.data a).isSome && (lowD (dOf a) && nonN (dOf a))) && (x :: r).all fun a => (x :: r).all fun b => W.alike (dOf a) (dOf b)) = true
      then some (r.foldl (fun a y => if ltO y a = true then y else a) x, h) else none
  | _ => none
theorem depAll_le {n : Nat} : ∀ {xs : List PyData}, (∀ x ∈ xs, x.depth ≤ n) → PyData.depthAll xs ≤ n
  | [], _ => Nat.zero_le _
  | x :: r, h => by
    rw [PyData.depthAll]
    exact Nat.max_le.mpr ⟨h x (.head _), depAll_le fun y hy => h y (.tail _ hy)⟩
theorem reads_of {X : Cx} {pins : List (Addr × Obj)} {σ : L2.St} {H : Hp} {s : Shared} {ι : List Addr} {Z : Addr → Prop} (I : L2.Inv X pins σ H s) : ∀ {ds : List D} {vs : List V} {us : List Value}, (∀ d ∈ ds, (D.data d).isSome = true) → RepAll (cst X) ι Z H ds vs → Vals vs us → ∃ as, ReadsAll s.heap us (ds.map dOf) as
  | _, _, _, _, .nil, .nil => ⟨_, .nil⟩
  | d :: ds, _, _, h, .cons r t, .cons a b => by
    obtain ⟨as, e⟩ := reads_of I (fun d hd => h d (.tail _ hd)) t b
    obtain ⟨pd, ed⟩ := Option.isSome_iff_exists.mp (h d (.head _))
    obtain ⟨bs, e2⟩ := Dp.reads I pd _ _ (data_dp r ed) a
    have : dOf d = pd := by unfold dOf; rw [ed]; rfl
    exact ⟨_, .cons (by rw [this]; exact e2) e⟩
theorem getD_dOf (l : List D) (i : Nat) : (l.map dOf).getD i .none = dOf (l.getD i .non) := by
  rw [List.getD_eq_getElem?_getD, List.getD_eq_getElem?_getD, List.getElem?_map]
  cases l[i]? <;> rfl
theorem cd_minD {X : Cx} (hc : X.calm = true) (hu : X.A.units + 64 < cLine) : CallR X (.builtin "min") (rN (cst X) kMinD) := by
  intro pins s σ H xs us Q I rx ⟨ι, Z, h, ds, z, h', r, p, ek, q⟩
  unfold kMinD at ek
  split at ek
  · obtain ⟨l, el, ek⟩ := bind_inv ek
    cases l with
    | nil => cases ek
    | cons x t =>
      obtain ⟨c, ek⟩ := ite_inv ek
      cases ek
      rw [Bool.and_eq_true, List.all_eq_true, List.all_eq_true] at c
      obtain ⟨c1, c2⟩ := c
      have c1' : ∀ d ∈ x :: t, (D.data d).isSome = true ∧ (dOf d).depth ≤ 60 ∧ dOf d ≠ .none := fun d hd => by
        have := c1 d hd
        rw [Bool.and_eq_true, Bool.and_eq_true] at this
        exact ⟨this.1, of_decide_eq_true this.2.1, nonN_ne this.2.2⟩
      obtain ⟨w, rfl, pw⟩ := rep1 p
      obtain ⟨a, vs, rfl, g1, g2⟩ := asL_rep r pw el
      obtain ⟨its, rv, pl, _⟩ := I.list (SqL.of g1)
      rw [Vals.ref1 rx]
      obtain ⟨as, hr⟩ := reads_of I (fun d hd => (c1' d hd).1) g2 rv
      have ha : W.AlikeAll ((x :: t).map dOf) := ⟨fun y hy y' hy' => by
        obtain ⟨b, hb, rfl⟩ := List.mem_map.mp hy
        obtain ⟨b', hb', rfl⟩ := List.mem_map.mp hy'
        exact List.all_eq_true.mp (c2 b hb) b' hb', fun y hy => by
        obtain ⟨b, hb, rfl⟩ := List.mem_map.mp hy
        exact (c1' b hb).2.2⟩
      have hd : PyData.depthAll ((x :: t).map dOf) ≤ 60 := depAll_le fun y hy => by
        obtain ⟨b, hb, rfl⟩ := List.mem_map.mp hy
        exact (c1' b hb).2.1
      have hr' : ReadsAll s.heap its.toArray.toList ((x :: t).map dOf) as := by simpa using hr
      have hn : its.toArray.size = t.length + 1 := by rw [W.readsAll_len hr']; simp
      refine call_min_walkH (W.iter_listW (A := X.A.in1) (I.ok.hd hc) pl.isList fun s₂ e W' st hfp hw hk => ?_)
      refine ⟨_, _, _, _, _, _, _, s.heap, _, rfl, W', st, hfp, by omega, hw, hk, W.cmpIn_lt (A := X.A.in1) hr' ha (by show X.A.units + 1 + _ < _; omega), fun v s' hP m => ?_⟩
      obtain ⟨h2, tk, rfl, hk'⟩ := W.moved_old e rfl m
      have e1 : its.toArray.size - 1 = t.length := by omega
      have ef : (fun i j : Nat => W.dataLt (((x :: t).map dOf).getD i .none) (((x :: t).map dOf).getD j .none)) = fun i j : Nat => ltO ((x :: t).getD i .non) ((x :: t).getD j .non) := by
        funext i j
        rw [getD_dOf, getD_dOf]; rfl
      have e2 := W.argBest_fold ltO D.non x t t.length (Nat.le_refl _)
      rw [List.take_length] at e2
      rw [e1] at hP
      rw [ef] at hP
      generalize argBest (fun i j => ltO ((x :: t).getD i .non) ((x :: t).getD j .non)) t.length = k at hP e2
      have hk2 : k < (x :: t).length := by have := e2.1; simp; omega
      have ed : (x :: t)[k]? = some (t.foldl (fun a y => if ltO y a = true then y else a) x) := by
        have e3 := e2.2
        rw [List.getD_eq_getElem?_getD, List.getElem?_eq_getElem hk2, Option.getD_some] at e3
        rw [List.getElem?_eq_getElem hk2, e3]
      obtain ⟨v1, f1, f2⟩ := g2.get ed
      obtain ⟨u1, f3, f4⟩ := rv.get f1
      have : v = u1 := by
        have hP' : its[k]? = some v := by simpa using hP
        rw [f3] at hP'; exact (Option.some.inj hP').symm
      subst this
      exact ⟨_, H, I.kept (t' := tk) hk', f4, fin0 q r f2⟩
  · cases ek
end PyD
set_option Elab.async false
set_option linter.all false
set_option maxRecDepth 100000
set_option maxHeartbeats 4000000
/-! PyS23: own classes: fields, methods, instances made. -/
namespace PyD
open PySem PySem.Spec PyProof.Rows L2

structure KCls (K : PySem.W.Frag) (c : Str) (C : Addr) : Prop where
  ns : PySem.W.nsIn K mainGlobals c = some (some (.ref C))
  cl : Cls K C
theorem KCls.inj {K : PySem.W.Frag} {c : Str} {C C' : Addr} (k : KCls K c C) (e : PySem.W.nsIn K mainGlobals c = some (some (.ref C'))) : C' = C := by
  have := k.ns.symm.trans e
  injection this with this
  injection this with this
  injection this with this
  exact this.symm
def insOf (h : MH) (c : Str) (d : D) : Option (Nat × List (Str × D)) := match d with
  | .ref n => match h[n]? with
    | some (.ins c' fs) => if c' = c then some (n, fs) else none
    | _ => none
  | _ => none
def putD (f : Str) (d : D) : List (Str × D) → List (Str × D)
  | [] => [(f, d)]
  | (g, x) :: r => if g = f then (g, d) :: r else (g, x) :: putD f d r
def eFld (c f : Str) (e : Ev) : Ev := fun σ h => (e σ h).bind fun p => (insOf p.2 c p.1).bind fun q => (q.2.lookup f).map fun v => (v, p.2)
def sFldS (c f : Str) (o v : Ev) : Sv := fun σ h => (v σ h).bind fun p => (o σ p.2).bind fun q => (insOf q.2 c q.1).bind fun r => if r.2.length < 1000 then some (.nx, σ, q.2.set r.1 (.ins c (putD f p.1 r.2))) else none
def eMeth (c m : Str) (F : Fn) (o : Ev) (av : Av) : Ev := fun σ h => (o σ h).bind fun p => (insOf p.2 c p.1).bind fun q => if q.2.lookup m = none then (av σ p.2).bind fun r => F (p.1 :: r.1) r.2 else none
def eMake (c : Str) (F : Fn) (av : Av) : Ev := fun σ h => (av σ h).bind fun r => (F (.ref r.2.length :: r.1) (r.2 ++ [.ins c []])).bind fun z => if z.1 = .non then some (.ref r.2.length, z.2) else none
section
variable {C : Cst} {ι : List Addr} {Z : Addr → Prop} {H : Hp} {h : MH}
theorem look_rep : ∀ {fs : List (Str × D)} {fv : List (Str × V)} {f : Str} {d : D}, fs.map (·.1) = fv.map (·.1) → RepAll C ι Z H (fs.map (·.2)) (fv.map (·.2)) → fs.lookup f = some d → ∃ v, fv.lookup f = some v ∧ Rep C ι Z H d v
  | [], _, _, _, _, _, e => by cases e
  | (g, x) :: fs, [], _, _, ek, _, _ => by cases ek
  | (g, x) :: fs, (g', y) :: fv, f, d, ek, r, e => by
    rw [List.map_cons, List.map_cons, List.cons.injEq] at ek
    obtain ⟨e1, e2⟩ := ek
    have e1 : g = g' := e1
    subst e1
    cases r with
    | cons r1 r2 =>
      rw [List.lookup_cons] at e ⊢
      cases hb : f == g with
      | true => rw [hb] at e; cases e; exact ⟨y, rfl, r1⟩
      | false => rw [hb] at e; exact look_rep e2 r2 e
theorem look_none : ∀ {fs : List (Str × D)} {fv : List (Str × V)} {f : Str}, fs.map (·.1) = fv.map (·.1) → fs.lookup f = none → fv.lookup f = none
  | [], [], _, _, _ => rfl
  | [], _ :: _, _, ek, _ => by cases ek
  | (g, x) :: fs, [], _, ek, _ => by cases ek
  | (g, x) :: fs, (g', y) :: fv, f, ek, e => by
    rw [List.map_cons, List.map_cons, List.cons.injEq] at ek
    obtain ⟨e1, e2⟩ := ek
    have e1 : g = g' := e1
    subst e1
    rw [List.lookup_cons] at e ⊢
    cases hb : f == g with
    | true => rw [hb] at e; cases e
    | false => rw [hb] at e; exact look_none e2 e
theorem putF_keys : ∀ {fs : List (Str × D)} {fv : List (Str × V)} {f : Str} {d : D} {v : V}, fs.map (·.1) = fv.map (·.1) → (putD f d fs).map (·.1) = (putF f v fv).map (·.1)
  | [], [], _, _, _, _ => rfl
  | [], _ :: _, _, _, _, ek => by cases ek
  | (g, x) :: fs, [], _, _, _, ek => by cases ek
  | (g, x) :: fs, (g', y) :: fv, f, d, v, ek => by
    rw [List.map_cons, List.map_cons, List.cons.injEq] at ek
    obtain ⟨e1, e2⟩ := ek
    have e1 : g = g' := e1
    subst e1
    unfold putD putF
    by_cases hg : g = f
    · rw [if_pos hg, if_pos hg, List.map_cons, List.map_cons, e2]
    · rw [if_neg hg, if_neg hg, List.map_cons, List.map_cons, putF_keys (d := d) (v := v) e2]
theorem putF_rep : ∀ {fs : List (Str × D)} {fv : List (Str × V)} {f : Str} {d : D} {v : V}, fs.map (·.1) = fv.map (·.1) → RepAll C ι Z H (fs.map (·.2)) (fv.map (·.2)) → Rep C ι Z H d v → RepAll C ι Z H ((putD f d fs).map (·.2)) ((putF f v fv).map (·.2))
  | [], [], _, _, _, _, _, p => .cons p .nil
  | [], _ :: _, _, _, _, ek, _, _ => by cases ek
  | (g, x) :: fs, [], _, _, _, ek, _, _ => by cases ek
  | (g, x) :: fs, (g', y) :: fv, f, d, v, ek, r, p => by
    rw [List.map_cons, List.map_cons, List.cons.injEq] at ek
    obtain ⟨e1, e2⟩ := ek
    have e1 : g = g' := e1
    subst e1
    cases r with
    | cons r1 r2 =>
      unfold putD putF
      by_cases hg : g = f
      · rw [if_pos hg, if_pos hg]; exact .cons p r2
      · rw [if_neg hg, if_neg hg]; exact .cons r1 (putF_rep e2 r2 p)
/-- an instance met -/
theorem ins_rep {c : Str} {d : D} {v : V} {n : Nat} {fs : List (Str × D)} {Ca : Addr} (k : KCls C.K c Ca) (r : R C ι Z H h) (p : Rep C ι Z H d v) (e : insOf h c d = some (n, fs)) :
    ∃ a dx fv, d = .ref n ∧ v = .ref a ∧ ι[n]? = some a ∧ h[n]? = some (.ins c fs) ∧ H a = some (.ins Ca dx fv) ∧ fs.map (·.1) = fv.map (·.1) ∧ RepAll C ι Z H (fs.map (·.2)) (fv.map (·.2)) := by
  unfold insOf at e
  split at e
  · rename_i m
    split at e
    · rename_i c' fs' e0
      obtain ⟨ec, e⟩ := ite_inv e
      cases e
      subst ec
      cases p with
      | ref hn =>
        obtain ⟨Ca', dx, fv, e1, e2, e3, e4⟩ := r.at_ _ _ _ hn e0
        have := k.inj e2
        subst this
        exact ⟨_, dx, fv, rfl, rfl, hn, e0, e1, e3, e4⟩
    · cases e
  · cases e
end
section
variable {X : Cx} {c f m : Str} {Ca : Addr} {e o value : Expr} {es : List Expr} {ev ov : Ev} {av : Av} {pos pos' apos p : Pos}
theorem se_fld (k : KCls X.K c Ca) (na : NoAttr X.K Ca f) (he : SE X e ev) (hb : attributeBase e f X.env (eval e X.env) = eval e X.env := by rfl) : SE X (.Attribute e f pos) (eFld c f ev) := by
  refine pe_to (pe_fld he hb) fun σ H Q q => ?_
  obtain ⟨ι, Z, h, σd, d, h', r, rs, e1, q⟩ := q
  obtain ⟨⟨x, h1⟩, ef, e1⟩ := bind_inv e1
  obtain ⟨⟨n, fs⟩, ei, e1⟩ := bind_inv e1
  obtain ⟨z, el, e1⟩ := map_inv e1
  cases e1
  refine ⟨ι, Z, h, σd, x, _, r, rs, ef, fun v ι1 H1 x1 r1 p1 => ?_⟩
  obtain ⟨a, dx, fv, rfl, rfl, hn, _, h3, h4, h5⟩ := ins_rep k r1 p1 ei
  obtain ⟨v, h6, h7⟩ := look_rep h4 h5 el
  exact ⟨a, Ca, dx, fv, v, rfl, h3, k.cl, na, h6, q v ι1 H1 x1 r1 h7⟩
theorem ss_fld (k : KCls X.K c Ca) (na : NoAttr X.K Ca f) (ho : SE X o ov) (hv : SE X value ev) (hs : swapsWith value (some (.Attribute o f pos')) pos.line X.env = pure false := by rfl) : SS X (.Assign [.Attribute o f pos'] value pos) (sFldS c f ov ev) := by
  refine ps_to (ps_fld ho hv hs) fun E σ H q => ?_
  obtain ⟨ι, Z, h, σd, fl, σd', h', r, rs, e1, q⟩ := q
  obtain ⟨⟨x, h1⟩, ex, e1⟩ := bind_inv e1
  obtain ⟨⟨y, h2⟩, ey, e1⟩ := bind_inv e1
  obtain ⟨⟨n, fs⟩, ei, e1⟩ := bind_inv e1
  obtain ⟨hl, e1⟩ := ite_inv e1
  cases e1
  have hl : fs.length < 1000 := hl
  refine ⟨ι, Z, h, σd, x, h1, r, rs, ex, fun v ι1 H1 x1 r1 p1 => ⟨ι1, Z, h1, σd, y, h2, r1, rs.ext x1, ey, fun u ι2 H2 x2 r2 p2 => ?_⟩⟩
  obtain ⟨a, dx, fv, rfl, rfl, hn, _, h3, h4, h5⟩ := ins_rep k r2 p2 ei
  have hlen : fv.length < 1000 := by
    have := congrArg List.length h4
    rw [List.length_map, List.length_map] at this
    omega
  have wx : Ext ι2 H2 ι2 (upd H2 a (.ins Ca dx (putF f v fv))) := .write (List.mem_iff_getElem?.mpr ⟨n, hn⟩)
  have x3 := x1.trans (x2.trans wx)
  exact ⟨a, Ca, dx, fv, rfl, h3, k.cl, na, hlen, q ι2 _ _ x3 (r2.write hn ⟨Ca, dx, _, upd_same, k.ns, putF_keys h4, (putF_rep h4 h5 (p1.ext x2)).ext wx⟩) (rs.ext x3)⟩
end
section
variable {P : Program} {w : World} {K : PySem.W.Frag} {mg : Str → Option Value} {base : Heap} {k : Nat}
/-- a method m of class c: it gives what F gives -/
structure MDef (P : Program) (w : World) (K : PySem.W.Frag) (mg : Str → Option Value) (base : Heap) (k : Nat) (c m : Str) (F : Fn) : Prop where
  ex : ∃ (C f : Addr) (fd : FuncData) (ps : List Str), FnOk P w K mg base CX0 k f fd ps (spH ⟨P, w, K⟩ ps.length F) ∧ KCls K c C ∧ Meth K C m f ∧ Binds K fd ps [] ∧ ∀ ds h r, F ds h = some r → ds.length = ps.length
/-- class c is made, with what F does to the new instance -/
structure IDef (P : Program) (w : World) (K : PySem.W.Frag) (mg : Str → Option Value) (base : Heap) (k : Nat) (c : Str) (F : Fn) : Prop where
  ex : ∃ (C f : Addr) (fd : FuncData) (ps : List Str), FnOk P w K mg base CX0 k f fd ps (spH ⟨P, w, K⟩ ps.length F) ∧ KCls K c C ∧ Mk K C f ∧ mg c = some (.ref C) ∧ Binds K fd ps [] ∧ ∀ ds h r, F ds h = some r → ds.length = ps.length
theorem MDef.mono {j : Nat} {c m : Str} {F : Fn} (d : MDef P w K mg base j c m F) (h : j ≤ k) : MDef P w K mg base k c m F := let ⟨C, f, fd, ps, a, r⟩ := d.ex; ⟨C, f, fd, ps, a.mono h, r⟩
theorem IDef.mono {j : Nat} {c : Str} {F : Fn} (d : IDef P w K mg base j c F) (h : j ≤ k) : IDef P w K mg base k c F := let ⟨C, f, fd, ps, a, r⟩ := d.ex; ⟨C, f, fd, ps, a.mono h, r⟩
abbrev MDefX (X : Cx) (k : Nat) (c m : Str) (F : Fn) : Prop := MDef X.prog X.w X.K X.mg X.base k c m F
abbrev IDefX (X : Cx) (k : Nat) (c : Str) (F : Fn) : Prop := IDef X.prog X.w X.K X.mg X.base k c F
theorem meth_ok {x qual c m : Str} {C : Addr} {st : Stmt} {f : Addr} {fd : FuncData} {N ps : List Str} {b : Sv} (F : L2.Fun K x qual st f fd) (S : FnScope N ps (defScope st)) (hb : Binds K fd ps []) (kc : KCls K c C) (hm : Meth K C m f)
    (body : ∀ (cdv : Value) (A : Around) (outer : List Env) (s : Shared) (H : Hp) (E : XK), Room k (A.deeper (envOfC qual (defScope st) s.heap.objs.size f cdv)) →
      SSs (cxOf CX0 P w K mg base N qual (defScope st) f cdv A outer s H E).nox (defBody st) b) : MDef P w K mg base (k + 1) c m (mkFn ps.length N.length b) :=
  ⟨C, f, fd, ps, fn_ok F S body, kc, hm, hb, fun ds h r e => (mkFn_inv (d := r.1) (h' := r.2) e).1⟩
theorem init_ok {x qual c : Str} {C : Addr} {st : Stmt} {f : Addr} {fd : FuncData} {N ps : List Str} {b : Sv} (F : L2.Fun K x qual st f fd) (S : FnScope N ps (defScope st)) (hb : Binds K fd ps []) (kc : KCls K c C) (hm : Mk K C f) (hg : mg c = some (.ref C))
    (body : ∀ (cdv : Value) (A : Around) (outer : List Env) (s : Shared) (H : Hp) (E : XK), Room k (A.deeper (envOfC qual (defScope st) s.heap.objs.size f cdv)) →
      SSs (cxOf CX0 P w K mg base N qual (defScope st) f cdv A outer s H E).nox (defBody st) b) : IDef P w K mg base (k + 1) c (mkFn ps.length N.length b) :=
  ⟨C, f, fd, ps, fn_ok F S body, kc, hm, hg, hb, fun ds h r e => (mkFn_inv (d := r.1) (h' := r.2) e).1⟩
end
section
variable {X : Cx} {k : Nat} {c m : Str} {F : Fn} {o e : Expr} {es : List Expr} {ov : Ev} {av : Av} {pos apos p : Pos}
theorem meth_to {C : Addr} {ps : List Str} {t : TA} (kc : KCls X.K c C) (ht : ∀ σ H Q, tA (cst X) av σ H Q → t σ H Q) (hl : ∀ ds h r, F ds h = some r → ds.length = ps.length) (σ : L2.St) (H : Hp) (Q : VK) (q : tE (cst X) (eMeth c m F ov av) σ H Q) :
    tMeth C m (spH (cst X) ps.length F) [] (fun _ _ _ => False) (tE (cst X) ov) t σ H Q := by
  obtain ⟨ι, Z, h, σd, d, h', r, rs, e1, q⟩ := q
  obtain ⟨⟨x, h1⟩, ex, e1⟩ := bind_inv e1
  obtain ⟨⟨n, fs⟩, ei, e1⟩ := bind_inv e1
  obtain ⟨hn, e1⟩ := ite_inv e1
  obtain ⟨⟨ds, h2⟩, ea, e1⟩ := bind_inv e1
  refine ⟨ι, Z, h, σd, x, h1, r, rs, ex, fun v ι1 H1 x1 r1 p1 => ?_⟩
  obtain ⟨a, dx, fv, rfl, rfl, hna, _, h3, h4, h5⟩ := ins_rep kc r1 p1 ei
  refine ⟨a, dx, fv, rfl, h3, look_none h4 hn, ht _ _ _ ⟨ι1, Z, h1, σd, ds, h2, r1, rs.ext x1, ea, fun vs ι2 H2 x2 r2 p2 => ?_⟩⟩
  show spH (cst X) ps.length F (V.ref a :: (vs ++ [])) H2 Q _
  rw [List.append_nil]
  have pa : RepAll (cst X) ι2 Z H2 (D.ref n :: ds) (V.ref a :: vs) := .cons (p1.ext x2) p2
  exact ⟨by rw [← pa.length]; exact hl _ _ _ e1, ι2, Z, h2, _, d, h', r2, pa, e1, fun u ι3 H3 x3 r3 p3 => q u ι3 H3 (x1.trans (x2.trans x3)) r3 p3⟩
theorem se_meth {pl : Sem Bool} (d : MDefX X k c m F) (hr : Room k X.A) (ho : SE X o ov) (ha : SA X (e :: es) av)
    (hst : starEach (e :: es) X.env = (false, eval e X.env) :: starEach es X.env := by rfl) (hpl : (backTo pos (starEach es X.env)).any (·.1) = false := by rfl)
    (ht : eval (.Call (.Attribute o m apos) (e :: es) [] pos) X.env = (do
      let ov ← eval o X.env
      standAt apos.atName
      let (f, first) ← holding [ov] (getMethod ov m pl)
      callWith pos f first (backTo pos (starEach (e :: es) X.env)) (backToKw pos (keywordEach [] X.env))) := by rfl) : SE X (.Call (.Attribute o m apos) (e :: es) [] pos) (eMeth c m F ov av) := by
  obtain ⟨C, f, fd, ps, ok, kc, hm, hb, hl⟩ := d.ex
  exact pe_to (pe_meth (pl := pl) ho kc.cl hm ok hr hb .nil pass0 ha hst hpl ht) fun σ H Q q => meth_to kc (fun _ _ _ h => h) hl σ H Q q
theorem se_meth0 {pl : Sem Bool} (d : MDefX X k c m F) (hr : Room k X.A) (ho : SE X o ov)
    (ht : eval (.Call (.Attribute o m apos) [] [] pos) X.env = (do
      let ov ← eval o X.env
      standAt apos.atName
      let (f, first) ← holding [ov] (getMethod ov m pl)
      callWith pos f first (backTo pos (starEach [] X.env)) (backToKw pos (keywordEach [] X.env))) := by rfl) : SE X (.Call (.Attribute o m apos) [] [] pos) (eMeth c m F ov aNil) := by
  obtain ⟨C, f, fd, ps, ok, kc, hm, hb, hl⟩ := d.ex
  refine pe_to (pe_meth0 (pl := pl) ho kc.cl hm ok hr hb .nil pass0 ht) fun σ H Q q => meth_to kc (fun σ H Q h => ?_) hl σ H Q q
  obtain ⟨ι, Z, h, σd, ds, h', r, rs, e, q⟩ := h
  cases e
  exact q [] ι H (.refl _ _) r .nil
theorem se_make (d : IDefX X k c F) (hr : Room (k + 1) X.A) (hg : Gl X c) (ha : SA X (e :: es) av) (hdb : (c == ("__debug__" : Str)) = false := by decide)
    (he : starEach (e :: es) X.env = (false, eval e X.env) :: starEach es X.env := by rfl) (hpl : (backTo pos (starEach es X.env)).any (·.1) = false := by rfl) : SE X (.Call (.Name c p) (e :: es) [] pos) (eMake c F av) := by
  obtain ⟨C, f, fd, ps, ok, kc, hm, hgm, hb, hl⟩ := d.ex
  refine pe_to (pe_make hm ok hr hg hgm hb .nil pass0 ha hdb he hpl) fun σ H Q q => ?_
  obtain ⟨ι, Z, h, σd, d, h', r, rs, e1, q⟩ := q
  obtain ⟨⟨ds, h1⟩, ea, e1⟩ := bind_inv e1
  obtain ⟨⟨z, h2⟩, ef, e1⟩ := bind_inv e1
  obtain ⟨hz, e1⟩ := ite_inv e1
  cases e1
  have hz : z = .non := hz
  subst hz
  refine ⟨ι, Z, h, σd, ds, h1, r, rs, ea, fun vs ι1 H1 x1 r1 p1 => fun x dx nx ndx nex => ?_⟩
  rw [List.append_nil]
  have nx2 : (upd H1 dx (.own x)) x = none := by rw [upd_ne (Ne.symm nex)]; exact nx
  have r2 : R (cst X) ι1 Z (upd H1 dx (.own x)) h1 := r1.fresh ndx
  have xa : Ext ι1 H1 ι1 (upd H1 dx (.own x)) := .fresh ndx
  have xb : Ext ι1 (upd H1 dx (.own x)) (ι1 ++ [x]) (upd (upd H1 dx (.own x)) x (.ins C dx [])) := .new nx2
  have r3 : R (cst X) (ι1 ++ [x]) Z (upd (upd H1 dx (.own x)) x (.ins C dx [])) (h1 ++ [.ins c []]) := r2.new nx2 ⟨C, dx, [], upd_same, kc.ns, rfl, .nil⟩
  have pr : Rep (cst X) (ι1 ++ [x]) Z (upd (upd H1 dx (.own x)) x (.ins C dx [])) (.ref h1.length) (.ref x) := .ref (by rw [← r1.len]; simp)
  have pa : RepAll (cst X) (ι1 ++ [x]) Z (upd (upd H1 dx (.own x)) x (.ins C dx [])) (.ref h1.length :: ds) (.ref x :: vs) := .cons pr (p1.ext (xa.trans xb))
  refine ⟨by rw [← pa.length]; exact hl _ _ _ ef, ι1 ++ [x], Z, _, _, .non, _, r3, pa, ef, fun v ι4 H4 x4 r4 p4 => ?_⟩
  cases p4
  exact ⟨rfl, q _ ι4 H4 (x1.trans ((xa.trans xb).trans x4)) r4 (pr.ext x4)⟩
end
/-- a statement that is not to be met -/
def sBad : Sv := fun _ _ => none
theorem ss_bad {X : Cx} {st : Stmt} : SS X st sBad := ⟨fun pins s σ H E I q => by
  obtain ⟨ι, Z, h, σd, fl, σd', h', r, rs, e1, q⟩ := q
  cases e1⟩
end PyD
set_option Elab.async false
set_option linter.all false
set_option maxRecDepth 100000
set_option maxHeartbeats 4000000
/-! PyS24: a result that no longer changes, where what was there may hold what changes. -/
namespace PyD
open PySem PySem.Spec PyProof.Rows L2
mutual
def D.bd (n : Nat) : D → Bool
  | .ref m => decide (m < n)
  | .tup xs => D.bds n xs
  | .lst xs => D.bds n xs
  | .dct kvs => D.bdk n kvs
  | _ => true
def D.bds (n : Nat) : List D → Bool
  | [] => true
  | x :: r => D.bd n x && D.bds n r
def D.bdk (n : Nat) : List (D × D) → Bool
  | [] => true
  | (k, v) :: r => D.bd n k && D.bd n v && D.bdk n r
end
def bdO (n : Nat) : MO → Bool
  | .lst xs => D.bds n xs
  | .dct kvs => D.bdk n kvs
  | .ins _ fs => D.bds n (fs.map (·.2))
def mkZ (np ns : Nat) (b : Sv) : Fn := fun ds h => (mkFn np ns b ds h).bind fun p => (frzN h.length 8 p.2 p.1).bind fun d => if ((p.2.take h.length).all (bdO h.length) && decide (h.length ≤ p.2.length)) = true then some (d, p.2.take h.length) else none
section
variable {C : Cst} {ι new : List Addr} {Z : Addr → Prop} {H : Hp}
theorem TupA.less {a : Addr} {vs : List V} (t : TupA C (ι ++ new) H a vs) : TupA C ι H a vs := by
  rcases t with ⟨h1, h2⟩ | t
  · exact .inl ⟨fun m => h1 (List.mem_append_left _ m), h2⟩
  · exact .inr t
mutual
theorem Rep.less : ∀ {d : D} {v : V}, Rep C (ι ++ new) Z H d v → D.bd ι.length d = true → Rep C ι Z H d v
  | _, _, .non, _ => .non
  | _, _, .bl b, _ => .bl b
  | _, _, .int i, _ => .int i
  | _, _, .str z, _ => .str z
  | _, _, .ref (n := n) h, c => .ref (by
      have c : decide (n < ι.length) = true := c
      rw [List.getElem?_append_left (of_decide_eq_true c)] at h; exact h)
  | _, _, .tup h r, c => .tup h.less (RepAll.less r (by rw [D.bd] at c; exact c))
  | _, _, .lst h1 h2 h3 r, c => .lst (fun m => h1 (List.mem_append_left _ m)) h2 h3 (RepAll.less r (by rw [D.bd] at c; exact c))
  | _, _, .dct h1 h2 h3 r, c => .dct (fun m => h1 (List.mem_append_left _ m)) h2 h3 (RepKV.less r (by rw [D.bd] at c; exact c))
  | _, _, .scr (.inl ⟨o, h1, h2, h3⟩), _ => .scr (.inl ⟨o, fun m => h1 (List.mem_append_left _ m), h2, h3⟩)
  | _, _, .scr (.inr h), _ => .scr (.inr h)
theorem RepAll.less : ∀ {ds : List D} {vs : List V}, RepAll C (ι ++ new) Z H ds vs → D.bds ι.length ds = true → RepAll C ι Z H ds vs
  | _, _, .nil, _ => .nil
  | _, _, .cons r t, c => by
    rw [D.bds, Bool.and_eq_true] at c
    exact .cons (Rep.less r c.1) (RepAll.less t c.2)
theorem RepKV.less : ∀ {ks : List (D × D)} {ws : List Ent}, RepKV C (ι ++ new) Z H ks ws → D.bdk ι.length ks = true → RepKV C ι Z H ks ws
  | _, _, .nil, _ => .nil
  | _, _, .cons k z r1 r2 t, c => by
    rw [D.bdk, Bool.and_eq_true, Bool.and_eq_true] at c
    exact .cons k z (Rep.less r1 c.1.1) (Rep.less r2 c.1.2) (RepKV.less t c.2)
end
end
theorem mkZ_inv {np ns : Nat} {b : Sv} {ds : List D} {h : MH} {d : D} {h' : MH} (e : mkZ np ns b ds h = some (d, h')) : ∃ d0 h0, mkFn np ns b ds h = some (d0, h0) ∧ frzN h.length 8 h0 d0 = some d ∧ (h0.take h.length).all (bdO h.length) = true ∧ h.length ≤ h0.length ∧ h' = h0.take h.length := by
  obtain ⟨⟨d0, h0⟩, e1, e⟩ := bind_inv e
  obtain ⟨d1, e2, e⟩ := bind_inv e
  obtain ⟨c, e⟩ := ite_inv e
  rw [Bool.and_eq_true, decide_eq_true_eq] at c
  cases e
  exact ⟨d0, h0, e1, e2, c.1, c.2, rfl⟩
theorem spZ {C : Cst} {n np ns : Nat} {b : Sv} {vs : List V} {H : Hp} {Q : VK} {E : XK} (hs : spH C n (mkZ np ns b) vs H Q E) : spH C n (mkFn np ns b) vs H Q E := by
  obtain ⟨hlen, ι, Z, h, ds, d, h', r, p, e, q⟩ := hs
  obtain ⟨d0, h0, e1, e2, c1, c2, rfl⟩ := mkZ_inv e
  refine ⟨hlen, ι, Z, h, ds, d0, h0, r, p, e1, fun v ι1 H1 x1 r1 p1 => ?_⟩
  obtain ⟨new, en, fresh⟩ := x1.pre
  have op : Op ι1 Z H1 ι Z := ⟨fun a vs h1 _ m => h1 (by rw [en]; exact List.mem_append_left _ m), fun a h1 h2 => ⟨fun m => h1 (by rw [en]; exact List.mem_append_left _ m), h2⟩⟩
  have nd := r1.nd
  rw [en, List.nodup_append] at nd
  have x2 : Ext ι H ι H1 := ⟨⟨[], by simp, by simp⟩, x1.un, x1.live⟩
  have r2 : R C ι Z H1 (h0.take h.length) := by
    refine ⟨by rw [List.length_take, r.len]; omega, r.nd, r1.live, fun a m => r1.apart a (by rw [en]; exact List.mem_append_left _ m), fun n a o g1 g2 => ?_⟩
    have hn : n < h.length := by rw [← r.len]; exact (List.getElem?_eq_some_iff.mp g1).1
    rw [List.getElem?_take_of_lt hn] at g2
    have co : bdO h.length o = true := List.all_eq_true.mp c1 o (by
      rw [List.mem_iff_getElem?]
      exact ⟨n, by rw [List.getElem?_take_of_lt hn]; exact g2⟩)
    rw [← r.len] at co
    have xo := r1.at_ n a o (by rw [en, List.getElem?_append_left (List.getElem?_eq_some_iff.mp g1).1]; exact g1) g2
    cases o with
    | lst xs => obtain ⟨vs', k1, k2⟩ := xo; rw [en] at k2; exact ⟨vs', k1, RepAll.less k2 co⟩
    | dct kvs => obtain ⟨vs', k1, k2⟩ := xo; rw [en] at k2; exact ⟨vs', k1, RepKV.less k2 co⟩
    | ins c fs => obtain ⟨Ca, dx, fv, k1, k2, k3, k4⟩ := xo; rw [en] at k4; exact ⟨Ca, dx, fv, k1, k2, k3, RepAll.less k4 co⟩
  refine q v ι H1 x2 r2 (frz_rep r1 op (fun m a hlo hm => ⟨fun ma => ?_, r1.apart a (List.mem_iff_getElem?.mpr ⟨m, hm⟩)⟩) 8 p1 e2)
  rw [en, List.getElem?_append_right (by rw [r.len]; exact hlo)] at hm
  exact nd.2.2 a ma a (List.mem_iff_getElem?.mpr ⟨_, hm⟩) rfl
section
variable {P : Program} {w : World} {K : PySem.W.Frag} {mg : Str → Option Value} {base : Heap} {k : Nat}
theorem Def.z {x : Str} {np ns : Nat} {b : Sv} (d : Def P w K mg base k x (mkFn np ns b)) : Def P w K mg base k x (mkZ np ns b) := by
  obtain ⟨f, fd, ps, ok, hm, kp, hb, hl⟩ := d.ex
  exact ⟨f, fd, ps, ok.imp fun vs H Q E hs => spZ hs, hm, kp, hb, fun ds h r e => let ⟨_, _, e1, _⟩ := mkZ_inv (d := r.1) (h' := r.2) e; hl ds h _ e1⟩
theorem MDef.z {c m : Str} {np ns : Nat} {b : Sv} (d : MDef P w K mg base k c m (mkFn np ns b)) : MDef P w K mg base k c m (mkZ np ns b) := by
  obtain ⟨C, f, fd, ps, ok, hm, kp, hb, hl⟩ := d.ex
  exact ⟨C, f, fd, ps, ok.imp fun vs H Q E hs => spZ hs, hm, kp, hb, fun ds h r e => let ⟨_, _, e1, _⟩ := mkZ_inv (d := r.1) (h' := r.2) e; hl ds h _ e1⟩
end
end PyD
set_option Elab.async false
set_option linter.all false
set_option maxRecDepth 100000
set_option maxHeartbeats 4000000
/-! PyS25: len of an instance of an own class. -/
namespace PyD
open PySem PySem.Spec PyProof.Rows L2
def eLenO (c : Str) (F : Fn) (o : Ev) : Ev := fun σ h => (o σ h).bind fun p => (insOf p.2 c p.1).bind fun q => (F [p.1] p.2).bind fun z => match z.1 with
  | .int n => if 0 ≤ n ∧ n < 2 ^ 63 then some (.int n, z.2) else none
  | _ => none
section
variable {X : Cx} {k : Nat} {c : Str} {F : Fn} {o : Expr} {ov : Ev} {pos p : Pos}
def rLenO (X : Cx) (C : Addr) (sp : Sp) : List V → Hp → VK → Prop := fun xs H Q => ∃ a dx fs, xs = [.ref a] ∧ H a = some (.ins C dx fs) ∧ sp [.ref a] H (fun v H' => ∃ n : Int, v = .int n ∧ (0 ≤ n ∧ n < 2 ^ 63) ∧ Q v H') (fun _ _ _ => False)
theorem call_lenO {C f : Addr} {fd : FuncData} {ps : List Str} {sp : Sp} (ok : FnOk X.prog X.w X.K X.mg X.base CX0 k f fd ps sp) (hm : Meth X.K C "__len__" f) (hb : Binds X.K fd ps []) (hr : Room (k + 1) X.A) : CallR X (.builtin "len") (rLenO X C sp) := by
  intro pins s σ H xs us Q I r h
  obtain ⟨a, dx, fs, rfl, ha, hsp⟩ := h
  obtain ⟨u, rfl, rx⟩ := vals1 r
  obtain rfl : u = Value.ref a := rx
  obtain ⟨mA, J, _⟩ := ins_get I.hok ha
  obtain ⟨od, J, _⟩ := J.look
  obtain ⟨m, hF⟩ := I.fr
  refine PySem.W.len_K hF I.ok.mod.kin J hm.at_ hm.fn ?_
  have e0 : Env0 X.prog X.w X.K X.mg X.base X.A.in1 X.stack s H := by
    have e := I.env0
    exact ⟨e.frames, e.mod, e.bs, e.bsz, e.funs, e.frf, e.hok, e.bare⟩
  have hl := ok.len _ _ _ _ hsp
  have r2 : Vals [V.ref a] [Value.ref a] := .cons rfl .nil
  refine wpAny_call (codeAny_mono (ok.run X.A.in1 X.stack s H ⟨[.ref a], []⟩ [.ref a] [.ref a] _ _ hr.in1 e0 (by
    have := hb s [.ref a] I.kIn (by simpa using hl)
    simpa using this) r2 hsp) fun r s' hq => ?_)
  cases r with
  | error e => exact False.elim hq
  | ok fl =>
    cases fl with
    | ret w =>
      obtain ⟨z, H', I', rz, n, rfl, hn, q⟩ := I.after hq
      obtain ⟨t, rfl⟩ := (show ∃ t, w = Value.int n t from rz)
      exact ⟨hn, .int n, H', I'.tok _, ⟨_, rfl⟩, q⟩
    | next => exact False.elim hq
    | brk => exact False.elim hq
    | cont => exact False.elim hq
theorem se_lenO (d : MDefX X k c "__len__" F) (hr : Room (k + 1) X.A) (hg : Gl X "len") (hm : X.mg "len" = none) (ho : SE X o ov) (he : starEach [o] X.env = (false, eval o X.env) :: starEach [] X.env := by rfl) : SE X (.Call (.Name "len" p) [o] [] pos) (eLenO c F ov) := by
  obtain ⟨C, f, fd, ps, ok, kc, me, hb, hl⟩ := d.ex
  refine pe_to (pe_callB (call_lenO ok me hb hr) hg hm (by decide +kernel) (sa_cons ho sa_nil he) (he := he)) fun σ H Q q => ?_
  obtain ⟨ι, Z, h, σd, x, h', r, rs, e1, q⟩ := q
  obtain ⟨⟨d, h1⟩, ex, e1⟩ := bind_inv e1
  obtain ⟨⟨n, fs⟩, ei, e1⟩ := bind_inv e1
  obtain ⟨⟨z, h2⟩, ef, e1⟩ := bind_inv e1
  have ea : aCons ov aNil σd h = some ([d], h1) := by
    show (ov σd h).bind _ = _
    rw [ex]; rfl
  refine ⟨ι, Z, h, σd, [d], h1, r, rs, ea, fun vs ι1 H1 x1 r1 p1 => ?_⟩
  cases p1 with
  | cons p1 pn =>
    cases pn
    obtain ⟨a, dx, fv, rfl, rfl, hna, _, h3, h4, h5⟩ := ins_rep kc r1 p1 ei
    refine ⟨a, dx, fv, rfl, h3, hl _ _ _ ef, ι1, Z, h1, [.ref n], z, h2, r1, .cons p1 .nil, ef, fun v ι2 H2 x2 r2 p2 => ?_⟩
    dsimp only at e1
    cases p2 with
    | int i =>
      obtain ⟨hn, e1⟩ := ite_inv e1
      cases e1
      exact ⟨i, rfl, hn, q _ ι2 H2 (x1.trans x2) r2 (.int i)⟩
    | non => cases e1
    | bl _ => cases e1
    | str _ => cases e1
    | ref _ => cases e1
    | tup _ _ => cases e1
    | lst _ _ _ _ => cases e1
    | dct _ _ _ _ => cases e1
    | scr _ => cases e1
end
end PyD
set_option Elab.async false
set_option linter.all false
set_option maxRecDepth 100000
set_option maxHeartbeats 4000000
/-! PyProg: the evaluators of the defs. Printed by gen.py. -/
namespace PyD
open PySem (Str)
/-! is_int: value, least, most -/
def k_is_int : Sv := sRet (eAnd (e1 (kIsT "int") (eVar 0)) (eAnd (eNot (e1 (kIsT "bool") (eVar 0))) (eChain kLe kLe (eVar 1) (eVar 0) (eVar 2))))
def F_is_int : PFn := mkP 3 3 k_is_int
/-! is_setting: candidate -/
def k_is_setting : Sv := sSeq (sIf (tOr (tNot (tV (e1 (kIsT "tuple") (eVar 0)))) (tV (e2 kNe (eN kLen (aCons (eVar 0) aNil)) (eK (.int 2))))) (sRet (eK (.bl false))) (sNil)) (sRet (eAnd (eN (ePure F_is_int) (aCons (e2 kSub_ (eVar 0) (eK (.int 0))) (aCons (eK (.int 1)) (aCons (eK (.int 2)) aNil)))) (eN (ePure F_is_int) (aCons (e2 kSub_ (eVar 0) (eK (.int 1))) (aCons (eK (.int 1)) (aCons (eK (.int 3)) aNil))))))
def F_is_setting : PFn := mkP 1 1 k_is_setting
/-! is_rule: candidate -/
def k_is_rule : Sv := sSeq (sIf (tOr (tNot (tV (e1 (kIsT "tuple") (eVar 0)))) (tOr (tV (e2 kLt (eN kLen (aCons (eVar 0) aNil)) (eK (.int 2)))) (tNot (tV (e1 (kIsT "str") (e2 kSub_ (eVar 0) (eK (.int 0)))))))) (sRet (eK (.bl false))) (sNil)) (sSeq (sIf (tNot (tV (eN (ePure F_is_int) (aCons (e2 kSub_ (eVar 0) (eK (.int 1))) (aCons (eK (.int 1)) (aCons (eK (.int 4)) aNil)))))) (sRet (eK (.bl false))) (sNil)) (sSeq (sIf (tV (e2 kIn_ (e2 kSub_ (eVar 0) (eK (.int 0))) (eK (.tup ((["every", "quiet", "slower", "sooner"] : List Str).map D.str))))) (sRet (e2 kEq (eN kLen (aCons (eVar 0) aNil)) (eK (.int 2)))) (sNil)) (sRet (eAnd (e2 kEq (e2 kSub_ (eVar 0) (eK (.int 0))) (eK (.str "times"))) (eAnd (e2 kEq (eN kLen (aCons (eVar 0) aNil)) (eK (.int 3))) (eN (ePure F_is_int) (aCons (e2 kSub_ (eVar 0) (eK (.int 2))) (aCons (eK (.int 1)) (aCons (eK (.int 3)) aNil)))))))))
def F_is_rule : PFn := mkP 1 1 k_is_rule
/-! are_answers: candidate, one -/
def e_are_answers_0 : Ev := eN (ePure F_is_int) (aCons (eVar 1) (aCons (eK (.int 0)) (aCons (eK (.int 3)) aNil)))
def k_are_answers : Sv := sSeq (sIf (tOr (tNot (tV (e1 (kIsT "list") (eVar 0)))) (tV (e2 kGt (eN kLen (aCons (eVar 0) aNil)) (eK (.int 40))))) (sRet (eK (.bl false))) (sNil)) (sRet (eN kAll (aCons (eLcF (iAny (eVar 0)) (gN 1) (PyD.tYes) (e_are_answers_0) [1]) aNil)))
def F_are_answers : PFn := mkP 1 2 k_are_answers
/-! need_setting: value -/
def k_need_setting : Sv := sIf (tNot (tV (eN (ePure F_is_setting) (aCons (eVar 0) aNil)))) (sNever) (sNil)
def F_need_setting : PFn := mkP 1 1 k_need_setting
/-! need_rule: value -/
def k_need_rule : Sv := sIf (tNot (tV (eN (ePure F_is_rule) (aCons (eVar 0) aNil)))) (sNever) (sNil)
def F_need_rule : PFn := mkP 1 1 k_need_rule
/-! need_both: setting, rule -/
def k_need_both : Sv := sSeq (sExpr (eN (ePure F_need_setting) (aCons (eVar 0) aNil))) (sExpr (eN (ePure F_need_rule) (aCons (eVar 1) aNil)))
def F_need_both : PFn := mkP 2 2 k_need_both
/-! need_answers: value -/
def k_need_answers : Sv := sIf (tNot (tV (eN (ePure F_are_answers) (aCons (eVar 0) aNil)))) (sNever) (sNil)
def F_need_answers : PFn := mkP 1 1 k_need_answers
/-! begun:  -/
def k_begun : Sv := sRet (eN kTup (aNil))
def F_begun : PFn := mkP 0 0 k_begun
/-! gap_of: rule, times, word, number -/
def k_gap_of : Sv := sSeq (sSet (gT [gN 2, gN 3]) (eN kTup (aCons (e2 kSub_ (eVar 0) (eK (.int 0))) (aCons (e2 kSub_ (eVar 0) (eK (.int 1))) aNil)))) (sSeq (sIf (tV (e2 kEq (eVar 2) (eK (.str "sooner")))) (sRet (eN kMax2 (aCons (eK (.int 1)) (aCons (e2 kSub (eVar 3) (eVar 1)) aNil)))) (sNil)) (sSeq (sIf (tV (e2 kEq (eVar 2) (eK (.str "slower")))) (sRet (eN kMin2 (aCons (eVar 3) (aCons (e2 kAdd (eVar 1) (eK (.int 1))) aNil)))) (sNil)) (sSeq (sIf (tAnd (tV (e2 kEq (eVar 2) (eK (.str "times")))) (tV (e2 kGe (eVar 1) (e2 kSub_ (eVar 0) (eK (.int 2)))))) (sRet (eK .non)) (sNil)) (sRet (eVar 3)))))
def F_gap_of : PFn := mkP 2 4 k_gap_of
/-! answered: setting, rule, place, answer, changed, left, times, rang -/
def e_answered_0 : Ev := eN kTup (aCons (e2 kAdd (e2 kSub_ (eVar 1) (eK (.int 1))) (eK (.int 1))) (aCons (eVar 6) (aCons (eVar 7) aNil)))
def e_answered_1 : Ev := eN kTup (aCons (eIf (tV (eVar 7)) (e2 kAdd (e2 kSub_ (eVar 0) (eK (.int 1))) (eK (.int 1))) (eVar 5)) (aCons (eVar 6) (aCons (eVar 7) aNil)))
def e_answered_2 : Ev := eVar 7
def k_answered : Sv := sSeq (sSet (gN 4) (eAnd (e2 kEq (eVar 3) (eK (.int 2))) (e2 kNe (eVar 2) (eN kTup (aNil))))) (sSeq (sIf (tV (e2 kEq (eVar 3) (eK (.int 2)))) (sSet (gN 2) (eSlice (eVar 2) (oE (eK (.int 1))) (oNo))) (sNil)) (sSeq (sIf (tV (e2 kEq (eVar 3) (eK (.int 3)))) (sSeq (sSet (gN 4) (eN kAny (aCons (eLcF (iAny (eVar 2)) (gT [gN 5, gN 6, gN 7]) (PyD.tYes) (e_answered_2) [5, 6, 7]) aNil))) (sSet (gN 2) (eN kTupleOf (aCons (eLcF (iAny (eVar 2)) (gT [gN 5, gN 6, gN 7]) (PyD.tYes) (e_answered_1) [5, 6, 7]) aNil)))) (sNil)) (sSeq (sIf (tAnd (tV (e2 kEq (eVar 3) (eK (.int 1)))) (tV (e2 kLt (eN kLen (aCons (eVar 2) aNil)) (e2 kSub_ (eVar 0) (eK (.int 0)))))) (sSet (gT [gN 4, gN 2]) (eN kTup (aCons (eK (.bl true)) (aCons (e2 kAdd (eVar 2) (eN kTup (aCons (eN kTup (aCons (e2 kAdd (eN (ePure F_gap_of) (aCons (eVar 1) (aCons (eK (.int 0)) aNil))) (eK (.int 1))) (aCons (eK (.int 0)) (aCons (eK (.bl false)) aNil)))) aNil))) aNil)))) (sNil)) (sSeq (sIf (tAnd (tV (e2 kEq (e2 kSub_ (eVar 1) (eK (.int 0))) (eK (.str "quiet")))) (tV (eVar 4))) (sSet (gN 2) (eN kTupleOf (aCons (eLcF (iAny (eVar 2)) (gT [gN 5, gN 6, gN 7]) (PyD.tYes) (e_answered_0) [5, 6, 7]) aNil))) (sNil)) (sRet (eVar 2))))))
def F_answered : PFn := mkP 4 8 k_answered
/-! tick: setting, rule, place, answer, found, many, left, times, rang -/
def b_tick_0 : Sv := sSeq (sSet (gN 6) (eIf (tV (e2 kIsN (eVar 6) (eK .non))) (eVar 6) (e2 kSub (eVar 6) (eK (.int 1))))) (sSeq (sSet (gN 8) (e2 kEq (eVar 6) (eK (.int 0)))) (sSeq (sIf (tV (eVar 8)) (sSeq (sSet (gN 7) (eN kMin2 (aCons (eK (.int 4)) (aCons (e2 kAdd (eVar 7) (eK (.int 1))) aNil)))) (sSet (gT [gN 6, gN 5]) (eN kTup (aCons (eN (ePure F_gap_of) (aCons (eVar 1) (aCons (eVar 7) aNil))) (aCons (e2 kAdd (eVar 5) (eK (.int 1))) aNil))))) (sNil)) (sExpr (eM mAppend (eVar 4) (aCons (eN kTup (aCons (eVar 6) (aCons (eVar 7) (aCons (eVar 8) aNil)))) aNil)))))
def k_tick : Sv := sSeq (sSet (gT [gN 4, gN 5]) (eN kTup (aCons (eN kLst (aNil)) (aCons (eK (.int 0)) aNil)))) (sSeq (sFor (iAny (eN (ePure F_answered) (aCons (eVar 0) (aCons (eVar 1) (aCons (eVar 2) (aCons (eVar 3) aNil)))))) (gT [gN 6, gN 7, gN 8]) (b_tick_0)) (sRet (eN kTup (aCons (eN kTupleOf (aCons (eVar 4) aNil)) (aCons (eVar 5) aNil)))))
def F_tick : PFn := mkP 4 9 k_tick
/-! run: setting, rule, answers, answer, place, found, note -/
def b_run_0 : Sv := sSeq (sSet (gT [gN 4, gN 6]) (eN (ePure F_tick) (aCons (eVar 0) (aCons (eVar 1) (aCons (eVar 4) (aCons (eVar 3) aNil)))))) (sExpr (eM mAppend (eVar 5) (aCons (eN kTup (aCons (eVar 4) (aCons (eVar 6) aNil))) aNil)))
def k_run : Sv := sSeq (sSet (gT [gN 4, gN 5]) (eN kTup (aCons (eN (ePure F_begun) (aNil)) (aCons (eN kLst (aNil)) aNil)))) (sSeq (sFor (iAny (eVar 2)) (gN 3) (b_run_0)) (sRet (eVar 5)))
def F_run : PFn := mkP 3 7 k_run
/-! need_run: setting, rule, answers -/
def k_need_run : Sv := sSeq (sExpr (eN (ePure F_need_both) (aCons (eVar 0) (aCons (eVar 1) aNil)))) (sExpr (eN (ePure F_need_answers) (aCons (eVar 2) aNil)))
def F_need_run : PFn := mkP 3 3 k_need_run
/-! notes_of: setting, rule, answers, place, note -/
def e_notes_of_0 : Ev := eVar 4
def k_notes_of : Sv := sRet (eLcF (iAny (eN (ePure F_run) (aCons (eVar 0) (aCons (eVar 1) (aCons (eVar 2) aNil))))) (gT [gN 3, gN 4]) (PyD.tYes) (e_notes_of_0) [3, 4])
def F_notes_of : PFn := mkP 3 5 k_notes_of
/-! notes_along: setting, rule, answers -/
def k_notes_along : Sv := sSeq (sExpr (eN (ePure F_need_run) (aCons (eVar 0) (aCons (eVar 1) (aCons (eVar 2) aNil))))) (sRet (eN (ePure F_notes_of) (aCons (eVar 0) (aCons (eVar 1) (aCons (eVar 2) aNil)))))
def F_notes_along : PFn := mkP 3 3 k_notes_along
/-! opens_along: setting, rule, answers, place, note -/
def e_opens_along_0 : Ev := eN kLen (aCons (eVar 3) aNil)
def k_opens_along : Sv := sSeq (sExpr (eN (ePure F_need_run) (aCons (eVar 0) (aCons (eVar 1) (aCons (eVar 2) aNil))))) (sRet (eLcF (iAny (eN (ePure F_run) (aCons (eVar 0) (aCons (eVar 1) (aCons (eVar 2) aNil))))) (gT [gN 3, gN 4]) (PyD.tYes) (e_opens_along_0) [3, 4]))
def F_opens_along : PFn := mkP 3 5 k_opens_along
/-! lefts_along: setting, rule, answers, place, note, left, times, rang -/
def e_lefts_along_0 : Ev := eVar 5
def e_lefts_along_1 : Ev := eN kTupleOf (aCons (eLcF (iAny (eVar 3)) (gT [gN 5, gN 6, gN 7]) (PyD.tYes) (e_lefts_along_0) [5, 6, 7]) aNil)
def k_lefts_along : Sv := sSeq (sExpr (eN (ePure F_need_run) (aCons (eVar 0) (aCons (eVar 1) (aCons (eVar 2) aNil))))) (sRet (eLcF (iAny (eN (ePure F_run) (aCons (eVar 0) (aCons (eVar 1) (aCons (eVar 2) aNil))))) (gT [gN 3, gN 4]) (PyD.tYes) (e_lefts_along_1) [3, 4]))
def F_lefts_along : PFn := mkP 3 8 k_lefts_along
/-! law_draw: law_script, law_town, law_many, law_at, law_mixed, law_one -/
def k_law_draw : Sv := sSeq (sIf (tV (e2 kGt (e2 kSub_ (eVar 1) (eK (.int 1))) (eK (.int 0)))) (sSeq (sSet (gN 5) (e2 kMod (e2 kSub_ (eVar 1) (eK (.int 1))) (eVar 2))) (sSeq (sPut kSet_ (eVar 1) (eK (.int 1)) (e2 kDiv (e2 kSub_ (eVar 1) (eK (.int 1))) (eVar 2))) (sRet (eVar 5)))) (sNil)) (sSeq (sSet (gN 3) (e2 kSub_ (eVar 1) (eK (.int 0)))) (sSeq (sAugS kAddI (eVar 1) (eK (.int 0)) (eK (.int 1))) (sSeq (sIf (tV (e2 kEq (eVar 0) (eN kLstF (aNil)))) (sRet (e2 kMod (eVar 3) (eVar 2))) (sNil)) (sSeq (sIf (tAnd (tV (e2 kLt (eVar 3) (eN kLen (aCons (eVar 0) aNil)))) (tV (e2 kGe (e2 kSub_ (eVar 0) (eVar 3)) (e2 kPow (eK (.int 10)) (eK (.int 18)))))) (sSeq (sPut kSet_ (eVar 1) (eK (.int 1)) (e2 kMod (e2 kDiv (e2 kSub_ (eVar 0) (eVar 3)) (eVar 2)) (e2 kMul (e2 kPow (eK (.int 10)) (eK (.int 60))) (e2 kPow (eK (.int 10)) (eK (.int 60)))))) (sRet (e2 kMod (e2 kSub_ (eVar 0) (eVar 3)) (eVar 2)))) (sNil)) (sSeq (sSet (gN 4) (e2 kMod (e2 kAdd (e2 kAdd (e2 kMul (e2 kSub_ (eVar 0) (e2 kMod (eVar 3) (eN kLen (aCons (eVar 0) aNil)))) (eK (.int 1103515245))) (e2 kMul (eK (.int 7919)) (eVar 3))) (eK (.int 12345))) (eK (.int 2147483647)))) (sRet (e2 kMod (e2 kMod (e2 kMod (e2 kPow (eVar 4) (eK (.int 5))) (eK (.int 2147483647))) (eK (.int 999983))) (eVar 2))))))))
def F_law_draw : Fn := mkH 3 6 k_law_draw
/-! law_pick: law_script, law_town, law_some -/
def k_law_pick : Sv := sRet (e2 kSub_ (eVar 2) (eN (F_law_draw) (aCons (eVar 0) (aCons (eVar 1) (aCons (eN kLen (aCons (eVar 2) aNil)) aNil)))))
def F_law_pick : Fn := mkH 3 3 k_law_pick
/-! law_setting: law_script, law_town -/
def k_law_setting : Sv := sRet (eN kTup (aCons (e2 kAdd (eK (.int 1)) (eN (F_law_draw) (aCons (eVar 0) (aCons (eVar 1) (aCons (eK (.int 2)) aNil))))) (aCons (e2 kAdd (eK (.int 1)) (eN (F_law_draw) (aCons (eVar 0) (aCons (eVar 1) (aCons (eK (.int 3)) aNil))))) aNil)))
def F_law_setting : Fn := mkH 2 2 k_law_setting
/-! law_rule: law_script, law_town, law_word, law_number -/
def k_law_rule : Sv := sSeq (sSet (gN 2) (eN (F_law_pick) (aCons (eVar 0) (aCons (eVar 1) (aCons (eN kLstF (aCons (eK (.str "every")) (aCons (eK (.str "sooner")) (aCons (eK (.str "slower")) (aCons (eK (.str "quiet")) (aCons (eK (.str "times")) aNil)))))) aNil))))) (sSeq (sSet (gN 3) (e2 kAdd (eK (.int 1)) (eN (F_law_draw) (aCons (eVar 0) (aCons (eVar 1) (aCons (eK (.int 4)) aNil)))))) (sRet (eIf (tV (e2 kEq (eVar 2) (eK (.str "times")))) (eN kTup (aCons (eVar 2) (aCons (eVar 3) (aCons (e2 kAdd (eK (.int 1)) (eN (F_law_draw) (aCons (eVar 0) (aCons (eVar 1) (aCons (eK (.int 3)) aNil))))) aNil)))) (eN kTup (aCons (eVar 2) (aCons (eVar 3) aNil))))))
def F_law_rule : Fn := mkH 2 4 k_law_rule
/-! law_answers: law_script, law_town, law_most, law_turn, law_quiet, law_row, law_answer -/
def b_law_answers_0 : Sv := sSeq (sSet (gN 6) (eN (F_law_draw) (aCons (eVar 0) (aCons (eVar 1) (aCons (eK (.int 4)) aNil))))) (sExpr (eM mAppend (eVar 5) (aCons (eIf (tOr (tV (e2 kLt (eVar 4) (eK (.int 1)))) (tV (e2 kEq (eN (F_law_draw) (aCons (eVar 0) (aCons (eVar 1) (aCons (eK (.int 2)) aNil)))) (eK (.int 0))))) (eVar 6) (eN kMin2 (aCons (eK (.int 1)) (aCons (e2 kMod (eVar 6) (eK (.int 3))) aNil)))) aNil)))
def k_law_answers : Sv := sSeq (sSet (gT [gN 4, gN 5]) (eN kTup (aCons (eN (F_law_draw) (aCons (eVar 0) (aCons (eVar 1) (aCons (eK (.int 3)) aNil)))) (aCons (eN kLst (aNil)) aNil)))) (sSeq (sFor (iRange1 (eN (F_law_draw) (aCons (eVar 0) (aCons (eVar 1) (aCons (e2 kAdd (eVar 2) (eK (.int 1))) aNil))))) (gN 3) (b_law_answers_0)) (sRet (eVar 5)))
def F_law_answers : Fn := mkH 3 7 k_law_answers
/-! law_gap: law_rule_here, law_times, law_word, law_number -/
def k_law_gap : Sv := sSeq (sSet (gT [gN 2, gN 3]) (eN kTup (aCons (e2 kSub_ (eVar 0) (eK (.int 0))) (aCons (e2 kSub_ (eVar 0) (eK (.int 1))) aNil)))) (sSeq (sIf (tV (e2 kEq (eVar 2) (eK (.str "sooner")))) (sRet (eIf (tV (e2 kLt (eVar 1) (eVar 3))) (e2 kSub (eVar 3) (eVar 1)) (eK (.int 1)))) (sNil)) (sSeq (sIf (tV (e2 kEq (eVar 2) (eK (.str "slower")))) (sRet (eIf (tV (e2 kLt (eVar 1) (eVar 3))) (e2 kAdd (eVar 1) (eK (.int 1))) (eVar 3))) (sNil)) (sRet (eIf (tAnd (tV (e2 kEq (eVar 2) (eK (.str "times")))) (tV (e2 kGe (eVar 1) (e2 kSub_ (eVar 0) (eK (.int 2)))))) (eK (.int 0)) (eVar 3)))))
def F_law_gap : PFn := mkP 2 4 k_law_gap
/-! law_tick: law_setting_here, law_rule_here, law_state, law_answer, law_many, law_thing, law_things, law_changed -/
def b_law_tick_0 : Sv := sSeq (sIf (tAnd (tV (eVar 7)) (tV (e2 kEq (e2 kSub_ (eVar 1) (eK (.int 0))) (eK (.str "quiet"))))) (sPut kSet_ (eVar 5) (eK (.int 0)) (e2 kAdd (e2 kSub_ (eVar 1) (eK (.int 1))) (eK (.int 1)))) (sNil)) (sSeq (sAugS kAddI (eVar 5) (eK (.int 2)) (eK (.int 1))) (sIf (tV (e2 kEq (e2 kSub_ (eVar 5) (eK (.int 0))) (eK (.int 1)))) (sSeq (sAugS kAddI (eVar 5) (eK (.int 1)) (eK (.int 1))) (sSeq (sPut kSet_ (eVar 5) (eK (.int 0)) (eN (ePure F_law_gap) (aCons (eVar 1) (aCons (e2 kSub_ (eVar 5) (eK (.int 1))) aNil)))) (sSeq (sPut kSet_ (eVar 5) (eK (.int 2)) (eK (.int 0))) (sAug 4 kAddI (eK (.int 1)))))) (sIf (tV (e2 kGt (e2 kSub_ (eVar 5) (eK (.int 0))) (eK (.int 1)))) (sAugS kSub (eVar 5) (eK (.int 0)) (eK (.int 1))) (sNil))))
def b_law_tick_1 : Sv := sIf (tAnd (tV (e2 kGt (e2 kSub_ (eVar 5) (eK (.int 1))) (eK (.int 0)))) (tV (e2 kEq (e2 kSub_ (eVar 5) (eK (.int 2))) (eK (.int 0))))) (sSeq (sSet (gN 7) (eK (.bl true))) (sPut kSet_ (eVar 5) (eK (.int 0)) (e2 kAdd (e2 kSub_ (eVar 0) (eK (.int 1))) (eK (.int 1))))) (sNil)
def e_law_tick_2 : Ev := eN kListOf (aCons (eVar 5) aNil)
def k_law_tick : Sv := sSeq (sSet (gT [gN 6, gN 7]) (eN kTup (aCons (eLc (iAny (eVar 2)) (gN 5) (PyD.tYes) (e_law_tick_2) [5]) (aCons (eK (.bl false)) aNil)))) (sSeq (sIf (tAnd (tV (e2 kEq (eVar 3) (eK (.int 1)))) (tV (e2 kLt (eN kLen (aCons (eVar 6) aNil)) (e2 kSub_ (eVar 0) (eK (.int 0)))))) (sSeq (sSet (gN 7) (eK (.bl true))) (sExpr (eM mAppend (eVar 6) (aCons (eN kLst (aCons (e2 kAdd (eN (ePure F_law_gap) (aCons (eVar 1) (aCons (eK (.int 0)) aNil))) (eK (.int 1))) (aCons (eK (.int 0)) (aCons (eNeg (eK (.int 1))) aNil)))) aNil)))) (sIf (tAnd (tV (e2 kEq (eVar 3) (eK (.int 2)))) (tV (e2 kNe (eVar 6) (eN kLstF (aNil))))) (sSeq (sSet (gN 7) (eK (.bl true))) (sSet (gN 6) (eSlice (eVar 6) (oE (eK (.int 1))) (oNo)))) (sIf (tV (e2 kEq (eVar 3) (eK (.int 3)))) (sFor (iAny (eVar 6)) (gN 5) (b_law_tick_1)) (sNil)))) (sSeq (sSet (gN 4) (eK (.int 0))) (sSeq (sFor (iAny (eVar 6)) (gN 5) (b_law_tick_0)) (sRet (eN kTup (aCons (eVar 6) (aCons (eVar 4) aNil)))))))
def F_law_tick : PFn := mkP 4 8 k_law_tick
/-! law_play: law_setting_here, law_rule_here, law_answers_here, law_answer, law_state, law_found, law_note -/
def b_law_play_0 : Sv := sSeq (sSet (gT [gN 4, gN 6]) (eN (ePure F_law_tick) (aCons (eVar 0) (aCons (eVar 1) (aCons (eVar 4) (aCons (eVar 3) aNil)))))) (sExpr (eM mAppend (eVar 5) (aCons (eN kTup (aCons (eVar 4) (aCons (eVar 6) aNil))) aNil)))
def k_law_play : Sv := sSeq (sSet (gT [gN 4, gN 5]) (eN kTup (aCons (eN kLstF (aNil)) (aCons (eN kLst (aNil)) aNil)))) (sSeq (sFor (iAny (eVar 2)) (gN 3) (b_law_play_0)) (sRet (eVar 5)))
def F_law_play : PFn := mkP 3 7 k_law_play
/-! law_key: law_rule_here, law_state, law_found, law_left, law_times, law_since, law_many -/
def b_law_key_0 : Sv := sSeq (sSet (gN 6) (eIf (tV (e2 kIn_ (e2 kSub_ (eVar 0) (eK (.int 0))) (eN kTup (aCons (eK (.str "every")) (aCons (eK (.str "quiet")) aNil))))) (eK (.int 0)) (eN kMin2 (aCons (eK (.int 4)) (aCons (eVar 4) aNil))))) (sExpr (eM mAppend (eVar 2) (aCons (eN kTup (aCons (eVar 3) (aCons (eVar 6) (aCons (eAnd (e2 kGt (eVar 4) (eK (.int 0))) (e2 kEq (eVar 5) (eK (.int 0)))) aNil)))) aNil)))
def k_law_key : Sv := sSeq (sSet (gN 2) (eN kLst (aNil))) (sSeq (sFor (iAny (eVar 1)) (gT [gN 3, gN 4, gN 5]) (b_law_key_0)) (sRet (eN kTupleOf (aCons (eVar 2) aNil))))
def F_law_key : PFn := mkP 2 7 k_law_key
/-! law: law_script, law_town, law_turn, law_answers_here, law_due, law_lefts, law_setting_here, law_rule_here, law_state, law_note, law_thing -/
def e_law_k01_0 : Ev := eIf (tV (e2 kEq (e2 kSub_ (eVar 10) (eK (.int 0))) (eK (.int 0)))) (eK .non) (e2 kSub_ (eVar 10) (eK (.int 0)))
def e_law_k01_1 : Ev := eN kTupleOf (aCons (eLcF (iAny (eVar 8)) (gN 10) (PyD.tYes) (e_law_k01_0) [10]) aNil)
def e_law_k01_2 : Ev := eN kLen (aCons (eVar 8) aNil)
def e_law_k01_3 : Ev := eVar 9
def b_law_k01_4 : Sv := sSeq (sSet (gT [gN 6, gN 7]) (eN kTup (aCons (eN (F_law_setting) (aCons (eVar 0) (aCons (eVar 1) aNil))) (aCons (eN (F_law_rule) (aCons (eVar 0) (aCons (eVar 1) aNil))) aNil)))) (sSeq (sSet (gN 3) (eN (F_law_answers) (aCons (eVar 0) (aCons (eVar 1) (aCons (eK (.int 40)) aNil))))) (sSeq (sSet (gN 4) (eN (ePure F_law_play) (aCons (eVar 6) (aCons (eVar 7) (aCons (eVar 3) aNil))))) (sSeq (sIf (tV (e2 kNe (eN (ePure F_notes_along) (aCons (eVar 6) (aCons (eVar 7) (aCons (eVar 3) aNil)))) (eLcF (iAny (eVar 4)) (gT [gN 8, gN 9]) (PyD.tYes) (e_law_k01_3) [8, 9]))) (sRet (eK (.bl false))) (sNil)) (sSeq (sIf (tV (e2 kNe (eN (ePure F_opens_along) (aCons (eVar 6) (aCons (eVar 7) (aCons (eVar 3) aNil)))) (eLcF (iAny (eVar 4)) (gT [gN 8, gN 9]) (PyD.tYes) (e_law_k01_2) [8, 9]))) (sRet (eK (.bl false))) (sNil)) (sSeq (sSet (gN 5) (eLcF (iAny (eVar 4)) (gT [gN 8, gN 9]) (PyD.tYes) (e_law_k01_1) [8, 9])) (sIf (tV (e2 kNe (eN (ePure F_lefts_along) (aCons (eVar 6) (aCons (eVar 7) (aCons (eVar 3) aNil)))) (eVar 5))) (sRet (eK (.bl false))) (sNil)))))))
def k_law_k01 : Sv := sSeq (sSet (gN 1) (eN kLst (aCons (eK (.int 0)) (aCons (eK (.int 0)) aNil)))) (sSeq (sFor (iRange1 (eK (.int 3))) (gN 2) (b_law_k01_4)) (sRet (eK (.bl true))))
def F_law_k01 : Fn := mkFn 1 11 k_law_k01
/-! law: law_script, law_town, law_lefts, law_setting_here, law_rule_here, law_answers_here, law_before, law_notes, law_opens, law_at, law_answer, law_due, law_left -/
def e_law_k02_0 : Ev := eOr (e2 kIsN (eVar 12) (eK .non)) (eChain kLe kLe (eK (.int 1)) (eVar 12) (eK (.int 5)))
def b_law_k02_1 : Sv := sSeq (sSet (gN 11) (eVar 6)) (sSeq (sIf (tV (e2 kEq (eVar 10) (eK (.int 1)))) (sSet (gN 11) (eN kMin2 (aCons (e2 kSub_ (eVar 3) (eK (.int 0))) (aCons (e2 kAdd (eVar 6) (eK (.int 1))) aNil)))) (sNil)) (sSeq (sIf (tV (e2 kEq (eVar 10) (eK (.int 2)))) (sSet (gN 11) (eN kMax2 (aCons (eK (.int 0)) (aCons (e2 kSub (eVar 6) (eK (.int 1))) aNil)))) (sNil)) (sSeq (sIf (tOr (tV (e2 kNe (e2 kSub_ (eVar 8) (eVar 9)) (eVar 11))) (tOr (tNot (tV (eChain kLe kLe (eK (.int 0)) (e2 kSub_ (eVar 7) (eVar 9)) (e2 kSub_ (eVar 8) (eVar 9))))) (tV (e2 kNe (eN kLen (aCons (e2 kSub_ (eVar 2) (eVar 9)) aNil)) (e2 kSub_ (eVar 8) (eVar 9)))))) (sRet (eK (.bl false))) (sNil)) (sSeq (sIf (tNot (tV (eN kAll (aCons (eLcF (iAny (e2 kSub_ (eVar 2) (eVar 9))) (gN 12) (PyD.tYes) (e_law_k02_0) [12]) aNil)))) (sRet (eK (.bl false))) (sNil)) (sSeq (sIf (tAnd (tV (e2 kGt (e2 kSub_ (eVar 8) (eVar 9)) (eVar 6))) (tV (e2 kNe (e2 kSub_ (e2 kSub_ (eVar 2) (eVar 9)) (eNeg (eK (.int 1)))) (eIf (tV (e2 kEq (e2 kSub_ (eVar 4) (eK (.int 0))) (eK (.str "slower")))) (eK (.int 1)) (e2 kSub_ (eVar 4) (eK (.int 1))))))) (sRet (eK (.bl false))) (sNil)) (sSet (gN 6) (e2 kSub_ (eVar 8) (eVar 9))))))))
def k_law_k02 : Sv := sSeq (sSet (gN 1) (eN kLst (aCons (eK (.int 0)) (aCons (eK (.int 0)) aNil)))) (sSeq (sSet (gT [gN 3, gN 4]) (eN kTup (aCons (eN (F_law_setting) (aCons (eVar 0) (aCons (eVar 1) aNil))) (aCons (eN (F_law_rule) (aCons (eVar 0) (aCons (eVar 1) aNil))) aNil)))) (sSeq (sSet (gT [gN 5, gN 6]) (eN kTup (aCons (eN (F_law_answers) (aCons (eVar 0) (aCons (eVar 1) (aCons (eK (.int 40)) aNil)))) (aCons (eK (.int 0)) aNil)))) (sSeq (sSet (gT [gN 7, gN 8]) (eN kTup (aCons (eN (ePure F_notes_along) (aCons (eVar 3) (aCons (eVar 4) (aCons (eVar 5) aNil)))) (aCons (eN (ePure F_opens_along) (aCons (eVar 3) (aCons (eVar 4) (aCons (eVar 5) aNil)))) aNil)))) (sSeq (sSet (gN 2) (eN (ePure F_lefts_along) (aCons (eVar 3) (aCons (eVar 4) (aCons (eVar 5) aNil))))) (sSeq (sIf (tOr (tV (e2 kNe (eN kLen (aCons (eVar 7) aNil)) (eN kLen (aCons (eVar 5) aNil)))) (tV (e2 kNe (eN kLen (aCons (eVar 8) aNil)) (eN kLen (aCons (eVar 5) aNil))))) (sRet (eK (.bl false))) (sNil)) (sSeq (sFor (PyD.iEnum (eVar 5)) (gT [gN 9, gN 10]) (b_law_k02_1)) (sRet (eK (.bl true)))))))))
def F_law_k02 : Fn := mkFn 1 13 k_law_k02
/-! family: found, number, word, most -/
def e_family_0 : Ev := eN kTup (aCons (eK (.str "times")) (aCons (eVar 1) (aCons (eVar 3) aNil)))
def e_family_1 : Ev := eN kTup (aCons (eVar 2) (aCons (eVar 1) aNil))
def e_family_2 : Ev := eN kTup (aCons (eK (.str "every")) (aCons (eVar 1) aNil))
def e_family_3 : Ev := eN kTup (aCons (eK (.str "quiet")) (aCons (eVar 1) aNil))
def k_family : Sv := sSeq (sSet (gN 0) (e2 kAddT (eLcF (iAny (eN kTup (aCons (eK (.int 1)) (aCons (eK (.int 2)) (aCons (eK (.int 3)) (aCons (eK (.int 4)) aNil)))))) (gN 1) (PyD.tYes) (e_family_2) [1]) (eLcF (iAny (eN kTup (aCons (eK (.int 1)) (aCons (eK (.int 2)) (aCons (eK (.int 3)) aNil))))) (gN 1) (PyD.tYes) (e_family_3) [1]))) (sSeq (sExpr (eM mExtend (eVar 0) (aCons (eLc2F (iAny (eN kTup (aCons (eK (.str "slower")) (aCons (eK (.str "sooner")) aNil)))) (gN 2) (iAny (eN kTup (aCons (eK (.int 2)) (aCons (eK (.int 3)) (aCons (eK (.int 4)) aNil))))) (gN 1) (e_family_1) [2, 1] [1]) aNil))) (sSeq (sExpr (eM mExtend (eVar 0) (aCons (eLc2F (iAny (eN kTup (aCons (eK (.int 2)) (aCons (eK (.int 3)) aNil)))) (gN 1) (iAny (eN kTup (aCons (eK (.int 1)) (aCons (eK (.int 2)) aNil)))) (gN 3) (e_family_0) [1, 3] [3]) aNil))) (sRet (eN kSortF (aCons (eVar 0) aNil)))))
def F_family : PFn := mkP 0 4 k_family
/-! law: law_script, law_town, law_due, law_number, law_answers_here, law_bad, law_word, law_other, law_rule_here -/
def b_law_k03_0 : Sv := sIf (tV (e2 kNotN (eN (ePure F_are_answers) (aCons (e2 kAdd (eVar 4) (eN kLstF (aCons (eVar 5) aNil))) aNil)) (eK (.bl false)))) (sRet (eK (.bl false))) (sNil)
def b_law_k03_1 : Sv := sSeq (sIf (tV (e2 kNe (eN (ePure F_is_rule) (aCons (eN kTup (aCons (eK (.str "times")) (aCons (eVar 3) (aCons (eVar 7) aNil)))) aNil)) (eAnd (eChain kLe kLe (eK (.int 1)) (eVar 3) (eK (.int 4))) (eChain kLe kLe (eK (.int 1)) (eVar 7) (eK (.int 3)))))) (sRet (eK (.bl false))) (sNil)) (sIf (tV (e2 kNe (eN (ePure F_is_setting) (aCons (eN kTup (aCons (eVar 3) (aCons (eVar 7) aNil))) aNil)) (eAnd (eChain kLe kLe (eK (.int 1)) (eVar 3) (eK (.int 2))) (eChain kLe kLe (eK (.int 1)) (eVar 7) (eK (.int 3)))))) (sRet (eK (.bl false))) (sNil))
def b_law_k03_2 : Sv := sIf (tOr (tV (e2 kNe (eN (ePure F_is_rule) (aCons (eN kTup (aCons (eVar 6) (aCons (eVar 3) aNil))) aNil)) (eChain kLe kLe (eK (.int 1)) (eVar 3) (eK (.int 4))))) (tV (e2 kNotN (eN (ePure F_is_rule) (aCons (eN kTup (aCons (eVar 6) (aCons (eVar 3) (aCons (eK (.int 1)) aNil)))) aNil)) (eK (.bl false))))) (sRet (eK (.bl false))) (sNil)
def b_law_k03_3 : Sv := sSeq (sFor (iAny (eN kTup (aCons (eK (.str "every")) (aCons (eK (.str "sooner")) (aCons (eK (.str "slower")) (aCons (eK (.str "quiet")) aNil)))))) (gN 6) (b_law_k03_2)) (sFor (iRange2 (eNeg (eK (.int 1))) (eK (.int 7))) (gN 7) (b_law_k03_1))
def e_law_k03_4 : Ev := eN (ePure F_is_rule) (aCons (eVar 8) aNil)
def b_law_k03_5 : Sv := sExpr (eM mExtend (eVar 2) (aCons (eN kLstF (aCons (eN kTup (aCons (eK (.str "every")) (aCons (eVar 3) aNil))) (aCons (eN kTup (aCons (eK (.str "sooner")) (aCons (eVar 3) aNil))) (aCons (eN kTup (aCons (eK (.str "slower")) (aCons (eVar 3) aNil))) aNil)))) aNil))
def k_law_k03 : Sv := sSeq (sSet (gN 1) (eN kLst (aCons (eK (.int 0)) (aCons (eK (.int 0)) aNil)))) (sSeq (sSet (gN 2) (eN kLst (aCons (eN kTup (aCons (eK (.str "every")) (aCons (eK (.int 1)) aNil))) (aCons (eN kTup (aCons (eK (.str "quiet")) (aCons (eK (.int 1)) aNil))) (aCons (eN kTup (aCons (eK (.str "times")) (aCons (eK (.int 2)) (aCons (eK (.int 1)) aNil)))) (aCons (eN kTup (aCons (eK (.str "times")) (aCons (eK (.int 2)) (aCons (eK (.int 2)) aNil)))) (aCons (eN kTup (aCons (eK (.str "times")) (aCons (eK (.int 3)) (aCons (eK (.int 1)) aNil)))) (aCons (eN kTup (aCons (eK (.str "times")) (aCons (eK (.int 3)) (aCons (eK (.int 2)) aNil)))) aNil)))))))) (sSeq (sFor (iAny (eN kTup (aCons (eK (.int 2)) (aCons (eK (.int 3)) (aCons (eK (.int 4)) aNil))))) (gN 3) (b_law_k03_5)) (sSeq (sExpr (eM mExtend (eVar 2) (aCons (eN kLstF (aCons (eN kTup (aCons (eK (.str "quiet")) (aCons (eK (.int 2)) aNil))) (aCons (eN kTup (aCons (eK (.str "quiet")) (aCons (eK (.int 3)) aNil))) aNil))) aNil))) (sSeq (sIf (tOr (tV (e2 kNe (eN (ePure F_family) (aNil)) (eN kSortF (aCons (eVar 2) aNil)))) (tOr (tV (e2 kNe (eN kLen (aCons (eVar 2) aNil)) (eK (.int 17)))) (tNot (tV (eN kAll (aCons (eLcF (iAny (eVar 2)) (gN 8) (PyD.tYes) (e_law_k03_4) [8]) aNil)))))) (sRet (eK (.bl false))) (sNil)) (sSeq (sFor (iRange2 (eNeg (eK (.int 1))) (eK (.int 7))) (gN 3) (b_law_k03_3)) (sSeq (sSet (gN 4) (eN (F_law_answers) (aCons (eVar 0) (aCons (eVar 1) (aCons (eK (.int 39)) aNil))))) (sSeq (sFor (iAny (eN kTup (aCons (eK (.int 4)) (aCons (eNeg (eK (.int 1))) (aCons (eK (.bl true)) (aCons (eK .non) (aCons (eK (.str "1")) (aCons (eN kTup (aCons (eK (.int 1)) aNil)) aNil)))))))) (gN 5) (b_law_k03_0)) (sSeq (sIf (tOr (tV (e2 kNotN (eN (ePure F_is_rule) (aCons (eN kTup (aCons (eK (.str "times")) (aCons (eK (.int 2)) aNil))) aNil)) (eK (.bl false)))) (tV (e2 kNotN (eN (ePure F_is_rule) (aCons (eN kLstF (aCons (eK (.str "every")) (aCons (eK (.int 1)) aNil))) aNil)) (eK (.bl false))))) (sRet (eK (.bl false))) (sNil)) (sSeq (sIf (tV (e2 kNotN (eN (ePure F_is_setting) (aCons (eN kTup (aCons (eK (.int 1)) (aCons (eK (.int 1)) (aCons (eK (.int 1)) aNil)))) aNil)) (eK (.bl false)))) (sRet (eK (.bl false))) (sNil)) (sSeq (sIf (tOr (tV (e2 kNotN (eN (ePure F_are_answers) (aCons (eVar 4) aNil)) (eK (.bl true)))) (tV (e2 kNotN (eN (ePure F_is_rule) (aCons (eN kTup (aCons (eK (.str "every")) (aCons (eK (.bl true)) aNil))) aNil)) (eK (.bl false))))) (sRet (eK (.bl false))) (sNil)) (sRet (e2 kIsN (eN (ePure F_is_rule) (aCons (eN kTup (aCons (eK (.str "often")) (aCons (eK (.int 1)) aNil))) aNil)) (eK (.bl false))))))))))))))
def F_law_k03 : Fn := mkFn 1 9 k_law_k03
/-! need_range: value -/
def k_need_range : Sv := sIf (tNot (tV (eN (ePure F_is_int) (aCons (eVar 0) (aCons (eK (.int 1)) (aCons (eK (.int 3)) aNil)))))) (sNever) (sNil)
def F_need_range : PFn := mkP 1 1 k_need_range
/-! answers_of: value -/
def k_answers_of : Sv := sRet (eLstRg 0 (e2 kAdd (eVar 0) (eK (.int 1))))
def F_answers_of : PFn := mkP 1 1 k_answers_of
/-! folded: rule, place, plain, left, times, rang -/
def e_folded_0 : Ev := eN kTup (aCons (eVar 3) (aCons (eIf (tV (eVar 2)) (eK (.int 0)) (eVar 4)) (aCons (eVar 5) aNil)))
def k_folded : Sv := sSeq (sSet (gN 2) (e2 kIn_ (e2 kSub_ (eVar 0) (eK (.int 0))) (eN kTup (aCons (eK (.str "every")) (aCons (eK (.str "quiet")) aNil))))) (sRet (eN kTupleOf (aCons (eLcF (iAny (eVar 1)) (gT [gN 3, gN 4, gN 5]) (PyD.tYes) (e_folded_0) [3, 4, 5]) aNil)))
def F_folded : PFn := mkP 2 6 k_folded
/-! step: setting, rule, place, answer, new, note -/
def k_step : Sv := sSeq (sSet (gT [gN 4, gN 5]) (eN (ePure F_tick) (aCons (eVar 0) (aCons (eVar 1) (aCons (eVar 2) (aCons (eVar 3) aNil)))))) (sRet (eN kTup (aCons (eN (ePure F_folded) (aCons (eVar 1) (aCons (eVar 4) aNil))) (aCons (eVar 5) aNil))))
def F_step : PFn := mkP 4 6 k_step
/-! need_two: setting, one, other -/
def k_need_two : Sv := sSeq (sExpr (eN (ePure F_need_setting) (aCons (eVar 0) aNil))) (sSeq (sExpr (eN (ePure F_need_rule) (aCons (eVar 1) aNil))) (sExpr (eN (ePure F_need_rule) (aCons (eVar 2) aNil))))
def F_need_two : PFn := mkP 3 3 k_need_two
/-! all_rows: many, found, turn, later, row, answer -/
def e_all_rows_0 : Ev := e2 kAdd (eVar 4) (eN kLstF (aCons (eVar 5) aNil))
def b_all_rows_1 : Sv := sExpr (eM mExtend (eVar 3) (aCons (eLcF (iAny (eN kTup (aCons (eK (.int 0)) (aCons (eK (.int 1)) (aCons (eK (.int 2)) (aCons (eK (.int 3)) aNil)))))) (gN 5) (PyD.tYes) (e_all_rows_0) [5]) aNil))
def b_all_rows_2 : Sv := sSeq (sSet (gN 3) (eN kLst (aNil))) (sSeq (sFor (iAny (eVar 1)) (gN 4) (b_all_rows_1)) (sSet (gN 1) (eVar 3)))
def k_all_rows : Sv := sSeq (sSet (gN 1) (eN kLstF (aCons (eN kLstF (aNil)) aNil))) (sSeq (sFor (iRange1 (eVar 0)) (gN 2) (b_all_rows_2)) (sRet (eVar 1)))
def F_all_rows : PFn := mkP 1 6 k_all_rows
/-! need_few: value -/
def k_need_few : Sv := sIf (tNot (tV (eN (ePure F_is_int) (aCons (eVar 0) (aCons (eK (.int 0)) (aCons (eK (.int 5)) aNil)))))) (sNever) (sNil)
def F_need_few : PFn := mkP 1 1 k_need_few
/-! naive_rings: setting, rule, many, row -/
def e_naive_rings_0 : Ev := eN kSum (aCons (eN (ePure F_notes_of) (aCons (eVar 0) (aCons (eVar 1) (aCons (eVar 3) aNil)))) aNil)
def k_naive_rings : Sv := sSeq (sExpr (eN (ePure F_need_both) (aCons (eVar 0) (aCons (eVar 1) aNil)))) (sSeq (sExpr (eN (ePure F_need_few) (aCons (eVar 2) aNil))) (sRet (eN kMaxL (aCons (eLcF (iAny (eN (ePure F_all_rows) (aCons (eVar 2) aNil))) (gN 3) (PyD.tYes) (e_naive_rings_0) [3]) aNil))))
def F_naive_rings : PFn := mkP 3 4 k_naive_rings
/-! naive_parting: setting, one, other, many, size, row -/
def b_naive_parting_0 : Sv := sIf (tV (e2 kNe (eN (ePure F_notes_of) (aCons (eVar 0) (aCons (eVar 1) (aCons (eVar 5) aNil)))) (eN (ePure F_notes_of) (aCons (eVar 0) (aCons (eVar 2) (aCons (eVar 5) aNil)))))) (sRet (eVar 5)) (sNil)
def b_naive_parting_1 : Sv := sFor (iAny (eN (ePure F_all_rows) (aCons (eVar 4) aNil))) (gN 5) (b_naive_parting_0)
def k_naive_parting : Sv := sSeq (sExpr (eN (ePure F_need_two) (aCons (eVar 0) (aCons (eVar 1) (aCons (eVar 2) aNil))))) (sSeq (sExpr (eN (ePure F_need_few) (aCons (eVar 3) aNil))) (sSeq (sFor (iRange2 (eK (.int 1)) (e2 kAdd (eVar 3) (eK (.int 1)))) (gN 4) (b_naive_parting_1)) (sRet (eK .non))))
def F_naive_parting : PFn := mkP 4 6 k_naive_parting
/-! lowest: above, below, one, two -/
def w_lowest_0 : Tv := tV (e2 kGt (eVar 3) (eK (.int 0)))
def b_lowest_1 : Sv := sSet (gT [gN 2, gN 3]) (eN kTup (aCons (eVar 3) (aCons (e2 kMod (eVar 2) (eVar 3)) aNil)))
def k_lowest : Sv := sSeq (sSet (gT [gN 2, gN 3]) (eN kTup (aCons (eN kAbs (aCons (eVar 0) aNil)) (aCons (eVar 1) aNil)))) (sSeq (sWhile (w_lowest_0) (b_lowest_1)) (sRet (eN kTup (aCons (e2 kDiv (eVar 0) (eVar 2)) (aCons (e2 kDiv (eVar 1) (eVar 2)) aNil)))))
def F_lowest : PFn := mkP 2 4 k_lowest
/-! is_more: one, other -/
def k_is_more : Sv := sRet (e2 kGt (e2 kMul (e2 kSub_ (eVar 0) (eK (.int 0))) (e2 kSub_ (eVar 1) (eK (.int 1)))) (e2 kMul (e2 kSub_ (eVar 1) (eK (.int 0))) (e2 kSub_ (eVar 0) (eK (.int 1)))))
def F_is_more : PFn := mkP 2 2 k_is_more
/-! sums_of: graph, rows, turn, place, later, last, answer, new, worth, value -/
def b_sums_of_0 : Sv := sSeq (sSet (gN 9) (e2 kAdd (e2 kSub_ (eVar 5) (eVar 3)) (eVar 8))) (sIf (tOr (tV (e2 kNotIn_ (eVar 7) (eVar 4))) (tV (e2 kGt (eVar 9) (e2 kSub_ (eVar 4) (eVar 7))))) (sPut kSet_ (eVar 4) (eVar 7) (eVar 9)) (sNil))
def b_sums_of_1 : Sv := sFor (iAny (e2 kSub_ (eVar 0) (eVar 3))) (gT [gN 6, gN 7, gN 8]) (b_sums_of_0)
def b_sums_of_2 : Sv := sSeq (sSet (gT [gN 4, gN 5]) (eN kTup (aCons (eN kDict0 aNil) (aCons (e2 kSub_ (eVar 1) (eNeg (eK (.int 1)))) aNil)))) (sSeq (sFor (iAny (eVar 5)) (gN 3) (b_sums_of_1)) (sExpr (eM mAppend (eVar 1) (aCons (eVar 4) aNil))))
def e_sums_of_3 : Ev := eVar 3
def e_sums_of_4 : Ev := eK (.int 0)
def k_sums_of : Sv := sSeq (sSet (gN 1) (eN kLst (aCons (eDcF (iAny (eVar 0)) (gN 3) (PyD.tYes) (e_sums_of_3) (e_sums_of_4) [3]) aNil))) (sSeq (sFor (iRange1 (eN kLenM (aCons (eVar 0) aNil))) (gN 2) (b_sums_of_2)) (sRet (eVar 1)))
def F_sums_of : PFn := mkP 1 10 k_sums_of
/-! mean_of: graph, place, rows, many, best, least, turn, pair -/
def b_mean_of_0 : Sv := sIf (tV (e2 kIn_ (eVar 1) (e2 kSub_ (eVar 2) (eVar 6)))) (sSeq (sSet (gN 7) (eN kTup (aCons (e2 kSub (e2 kSub_ (e2 kSub_ (eVar 2) (eVar 3)) (eVar 1)) (e2 kSub_ (e2 kSub_ (eVar 2) (eVar 6)) (eVar 1))) (aCons (e2 kSub (eVar 3) (eVar 6)) aNil)))) (sIf (tOr (tV (e2 kIsN (eVar 5) (eK .non))) (tV (eN (ePure F_is_more) (aCons (eVar 5) (aCons (eVar 7) aNil))))) (sSet (gN 5) (eVar 7)) (sNil))) (sNil)
def b_mean_of_1 : Sv := sSeq (sSet (gN 5) (eK .non)) (sSeq (sFor (iRange1 (eVar 3)) (gN 6) (b_mean_of_0)) (sIf (tOr (tV (e2 kIsN (eVar 4) (eK .non))) (tV (eN (ePure F_is_more) (aCons (eVar 5) (aCons (eVar 4) aNil))))) (sSet (gN 4) (eVar 5)) (sNil)))
def k_mean_of : Sv := sSeq (sSet (gT [gN 2, gN 3, gN 4]) (eN kTup (aCons (eN (ePure F_sums_of) (aCons (eVar 0) aNil)) (aCons (eN kLenM (aCons (eVar 0) aNil)) (aCons (eK .non) aNil))))) (sSeq (sFor (iAny (e2 kSub_ (eVar 2) (eVar 3))) (gN 1) (b_mean_of_1)) (sRet (eN (ePure F_lowest) (aCons (e2 kSub_ (eVar 4) (eK (.int 0))) (aCons (e2 kSub_ (eVar 4) (eK (.int 1))) aNil)))))
def F_mean_of : PFn := mkP 1 8 k_mean_of
/-! heights_of: graph, mean, found, changed, place, answer, new, worth, value -/
def b_heights_of_0 : Sv := sSeq (sSet (gN 8) (e2 kSub (e2 kAdd (e2 kSub_ (eVar 2) (eVar 4)) (e2 kMul (eVar 7) (e2 kSub_ (eVar 1) (eK (.int 1))))) (e2 kSub_ (eVar 1) (eK (.int 0))))) (sIf (tV (e2 kGt (eVar 8) (e2 kSub_ (eVar 2) (eVar 6)))) (sSeq (sPut kSet_ (eVar 2) (eVar 6) (eVar 8)) (sSet (gN 3) (eK (.bl true)))) (sNil))
def b_heights_of_1 : Sv := sFor (iAny (e2 kSub_ (eVar 0) (eVar 4))) (gT [gN 5, gN 6, gN 7]) (b_heights_of_0)
def w_heights_of_2 : Tv := tV (eVar 3)
def b_heights_of_3 : Sv := sSeq (sSet (gN 3) (eK (.bl false))) (sFor (iAny (eVar 0)) (gN 4) (b_heights_of_1))
def e_heights_of_4 : Ev := eVar 4
def e_heights_of_5 : Ev := eK (.int 0)
def k_heights_of : Sv := sSeq (sSet (gT [gN 2, gN 3]) (eN kTup (aCons (eDc (iAny (eVar 0)) (gN 4) (PyD.tYes) (e_heights_of_4) (e_heights_of_5) [4]) (aCons (eK (.bl true)) aNil)))) (sSeq (sWhile (w_heights_of_2) (b_heights_of_3)) (sRet (eVar 2)))
def F_heights_of : PFn := mkP 2 9 k_heights_of
/-! tight_of: graph, mean, place, going, high, tight, good, kept, answer, new, worth, step -/
def t_tight_of_0 : Tv := tV (e2 kIn_ (e2 kSub_ (eVar 11) (eK (.int 1))) (eVar 5))
def e_tight_of_1 : Ev := eVar 11
def b_tight_of_2 : Sv := sSeq (sSet (gN 6) (eLc (iAny (e2 kSub_ (eVar 5) (eVar 2))) (gN 11) (t_tight_of_0) (e_tight_of_1) [11])) (sIf (tV (e2 kNe (eVar 6) (eN kLstF (aNil)))) (sPut kSet_ (eVar 7) (eVar 2) (eVar 6)) (sNil))
def w_tight_of_3 : Tv := tV (eVar 3)
def b_tight_of_4 : Sv := sSeq (sSet (gN 7) (eN kDict0 aNil)) (sSeq (sFor (iAny (eVar 5)) (gN 2) (b_tight_of_2)) (sSeq (sSet (gN 3) (e2 kNeM (eVar 7) (eVar 5))) (sSet (gN 5) (eVar 7))))
def b_tight_of_5 : Sv := sIf (tV (e2 kEq (e2 kSub (e2 kAdd (e2 kSub_ (eVar 4) (eVar 2)) (e2 kMul (eVar 10) (e2 kSub_ (eVar 1) (eK (.int 1))))) (e2 kSub_ (eVar 1) (eK (.int 0)))) (e2 kSub_ (eVar 4) (eVar 9)))) (sExpr (eM mAppend (eVar 6) (aCons (eN kTup (aCons (eVar 8) (aCons (eVar 9) aNil))) aNil))) (sNil)
def b_tight_of_6 : Sv := sSeq (sSet (gN 6) (eN kLst (aNil))) (sSeq (sFor (iAny (e2 kSub_ (eVar 0) (eVar 2))) (gT [gN 8, gN 9, gN 10]) (b_tight_of_5)) (sPut kSet_ (eVar 5) (eVar 2) (eVar 6)))
def k_tight_of : Sv := sSeq (sSet (gT [gN 4, gN 5]) (eN kTup (aCons (eN (ePure F_heights_of) (aCons (eVar 0) (aCons (eVar 1) aNil))) (aCons (eN kDict0 aNil) aNil)))) (sSeq (sFor (iAny (eVar 0)) (gN 2) (b_tight_of_6)) (sSeq (sSet (gN 3) (eK (.bl true))) (sSeq (sWhile (w_tight_of_3) (b_tight_of_4)) (sRet (eVar 5)))))
def F_tight_of : PFn := mkP 2 12 k_tight_of
/-! way_into: graph, begin, ends, rows, left, place, answer, new, worth -/
def b_way_into_0 : Sv := sIf (tV (e2 kNotIn_ (eVar 7) (eVar 3))) (sSeq (sPut kSet_ (eVar 3) (eVar 7) (e2 kAdd (e2 kSub_ (eVar 3) (eVar 5)) (eN kLstF (aCons (eVar 6) aNil)))) (sExpr (eM mAppend (eVar 4) (aCons (eVar 7) aNil)))) (sNil)
def w_way_into_1 : Tv := tV (e2 kNotIn_ (e2 kSub_ (eVar 4) (eK (.int 0))) (eVar 2))
def b_way_into_2 : Sv := sSeq (sSet (gN 5) (eM mPop0 (eVar 4) (aCons (eK (.int 0)) aNil))) (sFor (iAny (e2 kSub_ (eVar 0) (eVar 5))) (gT [gN 6, gN 7, gN 8]) (b_way_into_0))
def k_way_into : Sv := sSeq (sSet (gT [gN 3, gN 4]) (eN kTup (aCons (eN kDict1 (aCons (eVar 1) (aCons (eN kLstF (aNil)) aNil))) (aCons (eN kLst (aCons (eVar 1) aNil)) aNil)))) (sSeq (sWhile (w_way_into_1) (b_way_into_2)) (sRet (eN kTup (aCons (e2 kSub_ (eVar 3) (e2 kSub_ (eVar 4) (eK (.int 0)))) (aCons (e2 kSub_ (eVar 4) (eK (.int 0))) aNil)))))
def F_way_into : PFn := mkP 3 9 k_way_into
/-! best_ring: graph, begin, tight, first, place, row, seen, answer -/
def w_best_ring_0 : Tv := tV (e2 kNotIn_ (eVar 4) (eVar 6))
def b_best_ring_1 : Sv := sSeq (sPut kSet_ (eVar 6) (eVar 4) (eN kLen (aCons (eVar 5) aNil))) (sSeq (sSet (gT [gN 7, gN 4]) (e2 kSub_ (e2 kSub_ (eVar 2) (eVar 4)) (eK (.int 0)))) (sExpr (eM mAppend (eVar 5) (aCons (eVar 7) aNil))))
def k_best_ring : Sv := sSeq (sSet (gN 2) (eN (ePure F_tight_of) (aCons (eVar 0) (aCons (eN (ePure F_mean_of) (aCons (eVar 0) aNil)) aNil)))) (sSeq (sSet (gT [gN 3, gN 4]) (eN (ePure F_way_into) (aCons (eVar 0) (aCons (eVar 1) (aCons (eVar 2) aNil))))) (sSeq (sSet (gT [gN 5, gN 6]) (eN kTup (aCons (eN kListOf (aCons (eVar 3) aNil)) (aCons (eN kDict0 aNil) aNil)))) (sSeq (sWhile (w_best_ring_0) (b_best_ring_1)) (sRet (eN kTup (aCons (eSlice (eVar 5) (oNo) (oE (e2 kSub_ (eVar 6) (eVar 4)))) (aCons (eSlice (eVar 5) (oE (e2 kSub_ (eVar 6) (eVar 4))) (oNo)) aNil)))))))
def F_best_ring : PFn := mkP 2 8 k_best_ring
/-! worths: setting, rule, value, graph, left, place, answer, new, note -/
def b_worths_0 : Sv := sSeq (sSet (gT [gN 7, gN 8]) (eN (ePure F_step) (aCons (eVar 0) (aCons (eVar 1) (aCons (eVar 5) (aCons (eVar 6) aNil)))))) (sSeq (sExpr (eM mAppend (e2 kSub_ (eVar 3) (eVar 5)) (aCons (eN kTup (aCons (eVar 6) (aCons (eVar 7) (aCons (eVar 8) aNil)))) aNil))) (sExpr (eM mAppend (eVar 4) (aCons (eVar 7) aNil))))
def w_worths_1 : Tv := tV (e2 kNe (eVar 4) (eN kLstF (aNil)))
def b_worths_2 : Sv := sSeq (sSet (gN 5) (eM mPop (eVar 4) aNil)) (sSeq (sIf (tV (e2 kIn_ (eVar 5) (eVar 3))) (sCont) (sNil)) (sSeq (sPut kSet_ (eVar 3) (eVar 5) (eN kLst (aNil))) (sFor (iAny (eN (ePure F_answers_of) (aCons (eVar 2) aNil))) (gN 6) (b_worths_0))))
def k_worths : Sv := sSeq (sSet (gT [gN 3, gN 4]) (eN kTup (aCons (eN kDict0 aNil) (aCons (eN kLst (aCons (eN (ePure F_begun) (aNil)) aNil)) aNil)))) (sSeq (sWhile (w_worths_1) (b_worths_2)) (sRet (eVar 3)))
def F_worths : PFn := mkP 3 9 k_worths
/-! need_rate: setting, rule, range_of -/
def k_need_rate : Sv := sSeq (sExpr (eN (ePure F_need_both) (aCons (eVar 0) (aCons (eVar 1) aNil)))) (sExpr (eN (ePure F_need_range) (aCons (eVar 2) aNil)))
def F_need_rate : PFn := mkP 3 3 k_need_rate
/-! greatest_rate: setting, rule, range_of -/
def k_greatest_rate : Sv := sSeq (sExpr (eN (ePure F_need_rate) (aCons (eVar 0) (aCons (eVar 1) (aCons (eVar 2) aNil))))) (sRet (eN (ePure F_mean_of) (aCons (eN (ePure F_worths) (aCons (eVar 0) (aCons (eVar 1) (aCons (eVar 2) aNil)))) aNil)))
def F_greatest_rate : PFn := mkP 3 3 k_greatest_rate
/-! loudest_row: setting, rule, range_of -/
def k_loudest_row : Sv := sSeq (sExpr (eN (ePure F_need_rate) (aCons (eVar 0) (aCons (eVar 1) (aCons (eVar 2) aNil))))) (sRet (eN (ePure F_best_ring) (aCons (eN (ePure F_worths) (aCons (eVar 0) (aCons (eVar 1) (aCons (eVar 2) aNil)))) (aCons (eN (ePure F_begun) (aNil)) aNil))))
def F_loudest_row : PFn := mkP 3 3 k_loudest_row
/-! left_alone: setting, rule, ring, place, seen, notes, note -/
def w_left_alone_0 : Tv := tV (e2 kNotIn_ (eVar 3) (eVar 4))
def b_left_alone_1 : Sv := sSeq (sPut kSet_ (eVar 4) (eVar 3) (eN kLen (aCons (eVar 5) aNil))) (sSeq (sSet (gT [gN 3, gN 6]) (eN (ePure F_step) (aCons (eVar 0) (aCons (eVar 1) (aCons (eVar 3) (aCons (eK (.int 0)) aNil)))))) (sExpr (eM mAppend (eVar 5) (aCons (eVar 6) aNil))))
def k_left_alone : Sv := sSeq (sExpr (eN (ePure F_need_both) (aCons (eVar 0) (aCons (eVar 1) aNil)))) (sSeq (sSet (gT [gN 3, gN 4, gN 5]) (eN kTup (aCons (e2 kSub_ (eN (ePure F_step) (aCons (eVar 0) (aCons (eVar 1) (aCons (eN (ePure F_begun) (aNil)) (aCons (eK (.int 1)) aNil))))) (eK (.int 0))) (aCons (eN kDict0 aNil) (aCons (eN kLst (aNil)) aNil))))) (sSeq (sWhile (w_left_alone_0) (b_left_alone_1)) (sSeq (sSet (gN 2) (eSlice (eVar 5) (oE (e2 kSub_ (eVar 4) (eVar 3))) (oNo))) (sRet (eN (ePure F_lowest) (aCons (eN kSum (aCons (eVar 2) aNil)) (aCons (eN kLen (aCons (eVar 2) aNil)) aNil)))))))
def F_left_alone : PFn := mkP 2 7 k_left_alone
/-! graph_of: setting, rule, value, graph, left, place, answer, new -/
def b_graph_of_0 : Sv := sSeq (sSet (gN 7) (e2 kSub_ (eN (ePure F_step) (aCons (eVar 0) (aCons (eVar 1) (aCons (eVar 5) (aCons (eVar 6) aNil))))) (eK (.int 0)))) (sSeq (sExpr (eM mAppend (e2 kSub_ (eVar 3) (eVar 5)) (aCons (eN kTup (aCons (eVar 6) (aCons (eVar 7) (aCons (eIf (tAnd (tV (e2 kEq (eVar 6) (eK (.int 2)))) (tV (e2 kNe (eVar 5) (eN kTup (aNil))))) (eK (.int 1)) (eK (.int 0))) aNil)))) aNil))) (sExpr (eM mAppend (eVar 4) (aCons (eVar 7) aNil))))
def w_graph_of_1 : Tv := tV (e2 kNe (eVar 4) (eN kLstF (aNil)))
def b_graph_of_2 : Sv := sSeq (sSet (gN 5) (eM mPop (eVar 4) aNil)) (sSeq (sIf (tV (e2 kIn_ (eVar 5) (eVar 3))) (sCont) (sNil)) (sSeq (sPut kSet_ (eVar 3) (eVar 5) (eN kLst (aNil))) (sFor (iAny (eN (ePure F_answers_of) (aCons (eVar 2) aNil))) (gN 6) (b_graph_of_0))))
def k_graph_of : Sv := sSeq (sSet (gT [gN 3, gN 4]) (eN kTup (aCons (eN kDict0 aNil) (aCons (eN kLst (aCons (eN (ePure F_begun) (aNil)) aNil)) aNil)))) (sSeq (sWhile (w_graph_of_1) (b_graph_of_2)) (sRet (eVar 3)))
def F_graph_of : PFn := mkP 3 8 k_graph_of
/-! silent_steps: graph, found, place, at, good, answer, new, gone -/
def b_silent_steps_0 : Sv := sIf (tAnd (tV (e2 kGe (eVar 3) (eVar 7))) (tNot (tV (e2 kSub_ (e2 kSub_ (eVar 6) (e2 kSub (eVar 3) (eVar 7))) (eK (.int 2)))))) (sExpr (eM mAppend (eVar 4) (aCons (eN kTup (aCons (eVar 5) (aCons (eN kTup (aCons (eVar 6) (aCons (e2 kSub (eVar 3) (eVar 7)) aNil))) aNil))) aNil))) (sNil)
def b_silent_steps_1 : Sv := sSeq (sSet (gN 4) (eN kLst (aNil))) (sSeq (sFor (iAny (e2 kSub_ (eVar 0) (eVar 2))) (gT [gN 5, gN 6, gN 7]) (b_silent_steps_0)) (sPut kSet_ (eVar 1) (eN kTup (aCons (eVar 2) (aCons (eVar 3) aNil))) (eVar 4)))
def b_silent_steps_2 : Sv := sFor (iRange1 (eN kLen (aCons (eVar 2) aNil))) (gN 3) (b_silent_steps_1)
def k_silent_steps : Sv := sSeq (sSet (gN 1) (eN kDict0 aNil)) (sSeq (sFor (iAny (eVar 0)) (gN 2) (b_silent_steps_2)) (sRet (eVar 1)))
def F_silent_steps : PFn := mkP 1 8 k_silent_steps
/-! fresh: graph, found, place, answer, new, gone, at, name -/
def e_fresh_0 : Ev := eVar 7
def b_fresh_1 : Sv := sIf (tOr (tV (e2 kSub_ (e2 kSub_ (eVar 4) (eVar 6)) (eK (.int 2)))) (tV (e2 kGe (e2 kAdd (eVar 6) (eVar 5)) (eN kLen (aCons (eVar 2) aNil))))) (sPut kSet_ (eVar 1) (eN kTup (aCons (eVar 4) (aCons (eVar 6) aNil))) (eK (.bl true))) (sNil)
def b_fresh_2 : Sv := sFor (iRange1 (eN kLen (aCons (eVar 4) aNil))) (gN 6) (b_fresh_1)
def b_fresh_3 : Sv := sFor (iAny (e2 kSub_ (eVar 0) (eVar 2))) (gT [gN 3, gN 4, gN 5]) (b_fresh_2)
def k_fresh : Sv := sSeq (sSet (gN 1) (eN kDict0 aNil)) (sSeq (sFor (iAny (eVar 0)) (gN 2) (b_fresh_3)) (sRet (eLcF (iAny (eVar 1)) (gN 7) (PyD.tYes) (e_fresh_0) [7])))
def F_fresh : PFn := mkP 1 8 k_fresh
/-! endless: steps, found, going, kept, name, good, one -/
def t_endless_0 : Tv := tV (e2 kIn_ (e2 kSub_ (eVar 6) (eK (.int 1))) (eVar 1))
def e_endless_1 : Ev := eVar 6
def b_endless_2 : Sv := sSeq (sSet (gN 5) (eLcF (iAny (e2 kSub_ (eVar 1) (eVar 4))) (gN 6) (t_endless_0) (e_endless_1) [6])) (sIf (tV (e2 kNe (eVar 5) (eN kLstF (aNil)))) (sPut kSet_ (eVar 3) (eVar 4) (eVar 5)) (sNil))
def w_endless_3 : Tv := tV (eVar 2)
def b_endless_4 : Sv := sSeq (sSet (gN 3) (eN kDict0 aNil)) (sSeq (sFor (iAny (eVar 1)) (gN 4) (b_endless_2)) (sSeq (sSet (gN 2) (e2 kNeM (eVar 3) (eVar 1))) (sSet (gN 1) (eVar 3))))
def e_endless_5 : Ev := eVar 4
def e_endless_6 : Ev := eN kListOfF (aCons (e2 kSub_ (eVar 0) (eVar 4)) aNil)
def k_endless : Sv := sSeq (sSet (gT [gN 1, gN 2]) (eN kTup (aCons (eDcF (iAny (eVar 0)) (gN 4) (PyD.tYes) (e_endless_5) (e_endless_6) [4]) (aCons (eK (.bl true)) aNil)))) (sSeq (sWhile (w_endless_3) (b_endless_4)) (sRet (eVar 1)))
def F_endless : PFn := mkP 1 7 k_endless
/-! need_silence: setting, rule, range_of -/
def k_need_silence : Sv := sSeq (sExpr (eN (ePure F_need_both) (aCons (eVar 0) (aCons (eVar 1) aNil)))) (sExpr (eN (ePure F_need_range) (aCons (eVar 2) aNil)))
def F_need_silence : PFn := mkP 3 3 k_need_silence
/-! greatest_silence: setting, rule, range_of, graph, steps, here, many, later, name, answer, new -/
def e_greatest_silence_0 : Ev := eVar 8
def b_greatest_silence_1 : Sv := sPut kSet_ (eVar 7) (eVar 10) (eK (.bl true))
def b_greatest_silence_2 : Sv := sFor (iAny (e2 kSub_ (eVar 4) (eVar 8))) (gT [gN 9, gN 10]) (b_greatest_silence_1)
def w_greatest_silence_3 : Tv := tV (e2 kNe (eVar 5) (eN kLstF (aNil)))
def b_greatest_silence_4 : Sv := sSeq (sSet (gN 7) (eN kDict0 aNil)) (sSeq (sFor (iAny (eVar 5)) (gN 8) (b_greatest_silence_2)) (sSeq (sSet (gN 5) (eLcF (iAny (eVar 7)) (gN 8) (PyD.tYes) (e_greatest_silence_0) [8])) (sAug 6 kAddI (eK (.int 1)))))
def k_greatest_silence : Sv := sSeq (sExpr (eN (ePure F_need_silence) (aCons (eVar 0) (aCons (eVar 1) (aCons (eVar 2) aNil))))) (sSeq (sSet (gN 3) (eN (ePure F_graph_of) (aCons (eVar 0) (aCons (eVar 1) (aCons (eVar 2) aNil))))) (sSeq (sSet (gN 4) (eN (ePure F_silent_steps) (aCons (eVar 3) aNil))) (sSeq (sIf (tV (e2 kNeM (eN (ePure F_endless) (aCons (eVar 4) aNil)) (eN kDict0F aNil))) (sRet (eK .non)) (sNil)) (sSeq (sSet (gT [gN 5, gN 6]) (eN kTup (aCons (eN (ePure F_fresh) (aCons (eVar 3) aNil)) (aCons (eNeg (eK (.int 1))) aNil)))) (sSeq (sWhile (w_greatest_silence_3) (b_greatest_silence_4)) (sRet (eVar 6)))))))
def F_greatest_silence : PFn := mkP 3 11 k_greatest_silence
/-! forgetting_row: setting, rule, range_of, graph, firsts, steps, plain, row, place, name, seen, answer, new, gone -/
def w_forgetting_row_0 : Tv := tV (e2 kNotIn_ (eVar 9) (eVar 10))
def b_forgetting_row_1 : Sv := sSeq (sPut kSet_ (eVar 10) (eVar 9) (eN kLen (aCons (eVar 7) aNil))) (sSeq (sSet (gT [gN 11, gN 9]) (e2 kSub_ (e2 kSub_ (eVar 5) (eVar 9)) (eK (.int 0)))) (sSet (gN 7) (e2 kAdd (eVar 7) (eN kLstF (aCons (eVar 11) aNil)))))
def e_forgetting_row_2 : Ev := e2 kSub_ (eVar 9) (eK (.int 0))
def e_forgetting_row_3 : Ev := eK (.bl true)
def e_forgetting_row_4 : Ev := eN kTup (aCons (eVar 11) (aCons (eVar 12) (aCons (eK (.int 0)) aNil)))
def e_forgetting_row_5 : Ev := eVar 8
def e_forgetting_row_6 : Ev := eLcF (iAny (e2 kSub_ (eVar 3) (eVar 8))) (gT [gN 11, gN 12, gN 13]) (PyD.tYes) (e_forgetting_row_4) [11, 12, 13]
def t_forgetting_row_7 : Tv := tV (e2 kEq (e2 kSub_ (eVar 9) (eK (.int 1))) (eK (.int 0)))
def e_forgetting_row_8 : Ev := eVar 9
def e_forgetting_row_9 : Ev := eVar 5
def k_forgetting_row : Sv := sSeq (sExpr (eN (ePure F_need_silence) (aCons (eVar 0) (aCons (eVar 1) (aCons (eVar 2) aNil))))) (sSeq (sSet (gN 3) (eN (ePure F_graph_of) (aCons (eVar 0) (aCons (eVar 1) (aCons (eVar 2) aNil))))) (sSeq (sSet (gN 4) (eDcF (PyD.iItems (eN (ePure F_silent_steps) (aCons (eVar 3) aNil))) (gT [gN 9, gN 5]) (t_forgetting_row_7) (e_forgetting_row_8) (e_forgetting_row_9) [9, 5])) (sSeq (sSet (gN 5) (eN (ePure F_endless) (aCons (eVar 4) aNil))) (sSeq (sIf (tV (e2 kEqM (eVar 5) (eN kDict0F aNil))) (sRet (eK .non)) (sNil)) (sSeq (sSet (gN 6) (eDcF (iAny (eVar 3)) (gN 8) (PyD.tYes) (e_forgetting_row_5) (e_forgetting_row_6) [8])) (sSeq (sSet (gT [gN 7, gN 8]) (eN (ePure F_way_into) (aCons (eVar 6) (aCons (eN (ePure F_begun) (aNil)) (aCons (eDcF (iAny (eVar 5)) (gN 9) (PyD.tYes) (e_forgetting_row_2) (e_forgetting_row_3) [9]) aNil))))) (sSeq (sSet (gT [gN 9, gN 10]) (eN kTup (aCons (eN kTup (aCons (eVar 8) (aCons (eK (.int 0)) aNil))) (aCons (eN kDict0 aNil) aNil)))) (sSeq (sWhile (w_forgetting_row_0) (b_forgetting_row_1)) (sRet (eN kTup (aCons (eSlice (eVar 7) (oNo) (oE (e2 kSub_ (eVar 10) (eVar 9)))) (aCons (eSlice (eVar 7) (oE (e2 kSub_ (eVar 10) (eVar 9))) (oNo)) aNil))))))))))))
def F_forgetting_row : PFn := mkP 3 14 k_forgetting_row
/-! law_silence: law_setting_here, law_rule_here, law_value, law_many, law_left, law_seen, law_here, law_state, law_answer, law_later, law_name, law_gone, law_new, law_note, law_at, law_thing -/
def b_law_silence_0 : Sv := sSeq (sSet (gT [gN 12, gN 13]) (eN (ePure F_law_tick) (aCons (eVar 0) (aCons (eVar 1) (aCons (e2 kSub_ (eVar 6) (eVar 10)) (aCons (eVar 8) aNil)))))) (sSeq (sSet (gN 14) (e2 kSub (e2 kSub_ (eVar 10) (eK (.int 1))) (eIf (tV (e2 kEq (eVar 8) (eK (.int 2)))) (eK (.int 1)) (eK (.int 0))))) (sIf (tAnd (tV (e2 kGe (eVar 14) (eK (.int 0)))) (tNot (tAnd (tV (e2 kGt (e2 kSub_ (e2 kSub_ (eVar 12) (eVar 14)) (eK (.int 1))) (eK (.int 0)))) (tV (e2 kEq (e2 kSub_ (e2 kSub_ (eVar 12) (eVar 14)) (eK (.int 2))) (eK (.int 0))))))) (sPut kSet_ (eVar 9) (eN kTup (aCons (eN (ePure F_law_key) (aCons (eVar 1) (aCons (eVar 12) aNil))) (aCons (eVar 14) aNil))) (eVar 12)) (sNil)))
def b_law_silence_1 : Sv := sFor (iRange1 (e2 kAdd (eVar 2) (eK (.int 1)))) (gN 8) (b_law_silence_0)
def w_law_silence_2 : Tv := tV (e2 kNeM (eVar 6) (eN kDict0F aNil))
def b_law_silence_3 : Sv := sSeq (sIf (tV (e2 kGt (eVar 3) (eK (.int 30)))) (sRet (eK .non)) (sNil)) (sSeq (sSet (gN 9) (eN kDict0 aNil)) (sSeq (sFor (iAny (eVar 6)) (gN 10) (b_law_silence_1)) (sSeq (sSet (gN 6) (eVar 9)) (sAug 3 kAddI (eK (.int 1))))))
def b_law_silence_4 : Sv := sIf (tOr (tAnd (tV (e2 kGt (e2 kSub_ (eVar 15) (eK (.int 1))) (eK (.int 0)))) (tV (e2 kEq (e2 kSub_ (eVar 15) (eK (.int 2))) (eK (.int 0))))) (tV (e2 kGe (e2 kAdd (eVar 14) (eVar 11)) (eN kLen (aCons (eVar 7) aNil))))) (sPut kSet_ (eVar 6) (eN kTup (aCons (eN (ePure F_law_key) (aCons (eVar 1) (aCons (eVar 12) aNil))) (aCons (eVar 14) aNil))) (eVar 12)) (sNil)
def b_law_silence_5 : Sv := sSeq (sSet (gT [gN 12, gN 13]) (eN (ePure F_law_tick) (aCons (eVar 0) (aCons (eVar 1) (aCons (eVar 7) (aCons (eVar 8) aNil)))))) (sSeq (sExpr (eM mAppend (eVar 4) (aCons (eVar 12) aNil))) (sSeq (sSet (gN 11) (eIf (tAnd (tV (e2 kEq (eVar 8) (eK (.int 2)))) (tV (e2 kNe (eVar 7) (eN kLstF (aNil))))) (eK (.int 1)) (eK (.int 0)))) (sFor (PyD.iEnum (eVar 12)) (gT [gN 14, gN 15]) (b_law_silence_4))))
def w_law_silence_6 : Tv := tV (e2 kNe (eVar 4) (eN kLstF (aNil)))
def b_law_silence_7 : Sv := sSeq (sSet (gN 7) (eM mPop (eVar 4) aNil)) (sSeq (sIf (tV (e2 kIn_ (eN (ePure F_law_key) (aCons (eVar 1) (aCons (eVar 7) aNil))) (eVar 5))) (sCont) (sNil)) (sSeq (sPut kSet_ (eVar 5) (eN (ePure F_law_key) (aCons (eVar 1) (aCons (eVar 7) aNil))) (eK (.bl true))) (sFor (iRange1 (e2 kAdd (eVar 2) (eK (.int 1)))) (gN 8) (b_law_silence_5))))
def k_law_silence : Sv := sSeq (sSet (gT [gN 4, gN 5, gN 6]) (eN kTup (aCons (eN kLst (aCons (eN kLstF (aNil)) aNil)) (aCons (eN kDict0 aNil) (aCons (eN kDict0 aNil) aNil))))) (sSeq (sWhile (w_law_silence_6) (b_law_silence_7)) (sSeq (sSet (gN 3) (eK (.int 0))) (sSeq (sWhile (w_law_silence_2) (b_law_silence_3)) (sRet (e2 kSub (eVar 3) (eK (.int 1)))))))
def F_law_silence : PFn := mkP 3 16 k_law_silence
/-! law: law_script, law_town, law_value, law_setting_here, law_rule_here -/
def k_law_k05 : Sv := sSeq (sSet (gN 1) (eN kLst (aCons (eK (.int 0)) (aCons (eK (.int 0)) aNil)))) (sSeq (sSet (gT [gN 3, gN 4]) (eN kTup (aCons (eN (F_law_setting) (aCons (eVar 0) (aCons (eVar 1) aNil))) (aCons (eN (F_law_rule) (aCons (eVar 0) (aCons (eVar 1) aNil))) aNil)))) (sSeq (sSet (gN 2) (e2 kAdd (eK (.int 1)) (eN (F_law_draw) (aCons (eVar 0) (aCons (eVar 1) (aCons (eK (.int 3)) aNil)))))) (sRet (e2 kEq (eN (ePure F_greatest_silence) (aCons (eVar 3) (aCons (eVar 4) (aCons (eVar 2) aNil)))) (eN (ePure F_law_silence) (aCons (eVar 3) (aCons (eVar 4) (aCons (eVar 2) aNil))))))))
def F_law_k05 : Fn := mkFn 1 5 k_law_k05
/-! law: law_script, law_town, law_number, law_due, law_word, law_quiet, law_setting_here, law_value -/
def b_law_k06_0 : Sv := sIf (tV (e2 kNe (eN (ePure F_greatest_silence) (aCons (eVar 6) (aCons (eN kTup (aCons (eVar 4) (aCons (eVar 2) aNil))) (aCons (eVar 7) aNil)))) (eVar 3))) (sRet (eK (.bl false))) (sNil)
def k_law_k06 : Sv := sSeq (sSet (gN 1) (eN kLst (aCons (eK (.int 0)) (aCons (eK (.int 0)) aNil)))) (sSeq (sSet (gT [gN 6, gN 7]) (eN kTup (aCons (eN (F_law_setting) (aCons (eVar 0) (aCons (eVar 1) aNil))) (aCons (e2 kAdd (eK (.int 1)) (eN (F_law_draw) (aCons (eVar 0) (aCons (eVar 1) (aCons (eK (.int 3)) aNil))))) aNil)))) (sSeq (sSet (gN 2) (e2 kAdd (eK (.int 1)) (eN (F_law_draw) (aCons (eVar 0) (aCons (eVar 1) (aCons (eK (.int 4)) aNil)))))) (sSeq (sSet (gN 3) (eIf (tV (e2 kEq (eVar 7) (eK (.int 3)))) (eN kMax2 (aCons (e2 kSub (eVar 2) (eK (.int 1))) (aCons (e2 kSub_ (eVar 6) (eK (.int 1))) aNil))) (e2 kSub (eVar 2) (eK (.int 1))))) (sSeq (sFor (iAny (eN kTup (aCons (eK (.str "every")) (aCons (eK (.str "sooner")) (aCons (eK (.str "slower")) aNil))))) (gN 4) (b_law_k06_0)) (sSeq (sIf (tV (e2 kNotN (eN (ePure F_greatest_silence) (aCons (eVar 6) (aCons (eN kTup (aCons (eK (.str "times")) (aCons (eVar 2) (aCons (e2 kAdd (eK (.int 1)) (eN (F_law_draw) (aCons (eVar 0) (aCons (eVar 1) (aCons (eK (.int 3)) aNil))))) aNil)))) (aCons (eVar 7) aNil)))) (eK .non))) (sRet (eK (.bl false))) (sNil)) (sSeq (sSet (gN 5) (eN (ePure F_greatest_silence) (aCons (eVar 6) (aCons (eN kTup (aCons (eK (.str "quiet")) (aCons (eVar 2) aNil))) (aCons (eVar 7) aNil))))) (sSeq (sIf (tV (e2 kEq (e2 kSub_ (eVar 6) (eK (.int 0))) (eK (.int 1)))) (sRet (e2 kEq (eVar 5) (eIf (tV (e2 kEq (eVar 7) (eK (.int 3)))) (eVar 2) (e2 kSub (eVar 2) (eK (.int 1)))))) (sNil)) (sRet (e2 kEq (eVar 5) (e2 kSub_ (eN kLstF (aCons (e2 kSub (e2 kMul (eK (.int 2)) (eVar 2)) (eK (.int 1))) (aCons (e2 kSub (e2 kMul (eK (.int 3)) (eVar 2)) (eK (.int 1))) (aCons (e2 kMul (eK (.int 3)) (eVar 2)) aNil)))) (e2 kSub (eVar 7) (eK (.int 1)))))))))))))
def F_law_k06 : Fn := mkFn 1 8 k_law_k06
/-! law: law_script, law_town, law_value, law_told, law_answer, law_since, law_turn, law_setting_here, law_rule_here, law_row, law_loop, law_state, law_notes, law_found, law_note -/
def b_law_k07_0 : Sv := sSeq (sSet (gT [gN 11, gN 14]) (eN (ePure F_law_tick) (aCons (eVar 7) (aCons (eVar 8) (aCons (eVar 11) (aCons (eVar 4) aNil)))))) (sExpr (eM mAppend (eVar 13) (aCons (eVar 14) aNil)))
def b_law_k07_1 : Sv := sSeq (sSet (gN 13) (eN kLst (aNil))) (sSeq (sFor (iAny (eVar 10)) (gN 4) (b_law_k07_0)) (sExpr (eM mAppend (eVar 12) (aCons (eVar 13) aNil))))
def b_law_k07_2 : Sv := sSet (gT [gN 11, gN 14]) (eN (ePure F_law_tick) (aCons (eVar 7) (aCons (eVar 8) (aCons (eVar 11) (aCons (eVar 4) aNil)))))
def e_law_k07_3 : Ev := eChain kLe kLe (eK (.int 0)) (eVar 4) (eVar 2)
def k_law_k07 : Sv := sSeq (sSet (gN 1) (eN kLst (aCons (eK (.int 0)) (aCons (eK (.int 0)) aNil)))) (sSeq (sSet (gT [gN 7, gN 8]) (eN kTup (aCons (eN (F_law_setting) (aCons (eVar 0) (aCons (eVar 1) aNil))) (aCons (eN (F_law_rule) (aCons (eVar 0) (aCons (eVar 1) aNil))) aNil)))) (sSeq (sSet (gN 2) (e2 kAdd (eK (.int 1)) (eN (F_law_draw) (aCons (eVar 0) (aCons (eVar 1) (aCons (eK (.int 3)) aNil)))))) (sSeq (sSet (gN 3) (eN (ePure F_forgetting_row) (aCons (eVar 7) (aCons (eVar 8) (aCons (eVar 2) aNil))))) (sSeq (sIf (tV (e2 kNe (e2 kIsN (eVar 3) (eK .non)) (e2 kNe (e2 kSub_ (eVar 8) (eK (.int 0))) (eK (.str "times"))))) (sRet (eK (.bl false))) (sNil)) (sSeq (sIf (tV (e2 kNe (e2 kIsN (eVar 3) (eK .non)) (e2 kNotN (eN (ePure F_greatest_silence) (aCons (eVar 7) (aCons (eVar 8) (aCons (eVar 2) aNil)))) (eK .non)))) (sRet (eK (.bl false))) (sNil)) (sSeq (sIf (tV (e2 kIsN (eVar 3) (eK .non))) (sRet (eK (.bl true))) (sNil)) (sSeq (sSet (gT [gN 9, gN 10]) (eVar 3)) (sSeq (sIf (tOr (tV (e2 kEq (eVar 10) (eN kLstF (aNil)))) (tNot (tV (eN kAll (aCons (eLcF (iAny (e2 kAdd (eVar 9) (eVar 10))) (gN 4) (PyD.tYes) (e_law_k07_3) [4]) aNil))))) (sRet (eK (.bl false))) (sNil)) (sSeq (sSet (gT [gN 11, gN 12]) (eN kTup (aCons (eN kLstF (aNil)) (aCons (eN kLst (aNil)) aNil)))) (sSeq (sFor (iAny (eVar 9)) (gN 4) (b_law_k07_2)) (sSeq (sIf (tOr (tV (e2 kEq (eVar 11) (eN kLstF (aNil)))) (tV (e2 kIn_ (eK (.int 2)) (eVar 10)))) (sRet (eK (.bl false))) (sNil)) (sSeq (sSet (gN 5) (e2 kSub_ (e2 kSub_ (eVar 11) (eK (.int 0))) (eK (.int 1)))) (sSeq (sFor (iRange1 (eK (.int 6))) (gN 6) (b_law_k07_1)) (sRet (eAnd (e2 kEq (eVar 12) (e2 kMul (eN kLstF (aCons (e2 kSub_ (eVar 12) (eK (.int 0))) aNil)) (eK (.int 6)))) (e2 kEq (e2 kSub_ (e2 kSub_ (eVar 11) (eK (.int 0))) (eK (.int 1))) (eVar 5)))))))))))))))))
def F_law_k07 : Fn := mkFn 1 15 k_law_k07
/-! parted: setting, one, other, value, pair, level, seen, later, row, places, answer, here, note, there, other_note -/
def b_parted_0 : Sv := sSeq (sSet (gT [gN 11, gN 12]) (eN (ePure F_step) (aCons (eVar 0) (aCons (eVar 1) (aCons (e2 kSub_ (eVar 9) (eK (.int 0))) (aCons (eVar 10) aNil)))))) (sSeq (sSet (gT [gN 13, gN 14]) (eN (ePure F_step) (aCons (eVar 0) (aCons (eVar 2) (aCons (e2 kSub_ (eVar 9) (eK (.int 1))) (aCons (eVar 10) aNil)))))) (sSeq (sIf (tV (e2 kNe (eVar 12) (eVar 14))) (sRet (e2 kAdd (eVar 8) (eN kLstF (aCons (eVar 10) aNil)))) (sNil)) (sIf (tV (e2 kNotIn_ (eN kTup (aCons (eVar 11) (aCons (eVar 13) aNil))) (eVar 6))) (sSeq (sPut kSet_ (eVar 6) (eN kTup (aCons (eVar 11) (aCons (eVar 13) aNil))) (eK (.bl true))) (sExpr (eM mAppend (eVar 7) (aCons (eN kTup (aCons (e2 kAdd (eVar 8) (eN kLstF (aCons (eVar 10) aNil))) (aCons (eN kTup (aCons (eVar 11) (aCons (eVar 13) aNil))) aNil))) aNil)))) (sNil))))
def b_parted_1 : Sv := sFor (iAny (eN (ePure F_answers_of) (aCons (eVar 3) aNil))) (gN 10) (b_parted_0)
def w_parted_2 : Tv := tV (e2 kNe (eVar 5) (eN kLstF (aNil)))
def b_parted_3 : Sv := sSeq (sSet (gN 7) (eN kLst (aNil))) (sSeq (sFor (iAny (eVar 5)) (gT [gN 8, gN 9]) (b_parted_1)) (sSet (gN 5) (eVar 7)))
def k_parted : Sv := sSeq (sSet (gT [gN 5, gN 6]) (eN kTup (aCons (eN kLstF (aCons (eN kTup (aCons (eN kLstF (aNil)) (aCons (eVar 4) aNil))) aNil)) (aCons (eN kDict1 (aCons (eVar 4) (aCons (eK (.bl true)) aNil))) aNil)))) (sSeq (sWhile (w_parted_2) (b_parted_3)) (sRet (eK .non)))
def F_parted : PFn := mkP 5 15 k_parted
/-! parts_behind: setting, lot, answer, groups, rule, place, new, note -/
def e_parts_behind_0 : Ev := e2 kSub_ (eVar 3) (eVar 7)
def b_parts_behind_1 : Sv := sSeq (sSet (gT [gN 6, gN 7]) (eN (ePure F_step) (aCons (eVar 0) (aCons (eVar 4) (aCons (eVar 5) (aCons (eVar 2) aNil)))))) (sPut kSet_ (eVar 3) (eVar 7) (e2 kAdd (eMD mGet (eVar 3) (aCons (eVar 7) (aCons (eN kTup (aNil)) aNil))) (eN kTup (aCons (eN kTup (aCons (eVar 4) (aCons (eVar 6) aNil))) aNil))))
def k_parts_behind : Sv := sSeq (sSet (gN 3) (eN kDict0 aNil)) (sSeq (sFor (iAny (eVar 1)) (gT [gN 4, gN 5]) (b_parts_behind_1)) (sRet (eLcF (iAny (eVar 3)) (gN 7) (PyD.tYes) (e_parts_behind_0) [7])))
def F_parts_behind : PFn := mkP 3 8 k_parts_behind
/-! need_rules: value, one, other -/
def e_need_rules_0 : Ev := e2 kLtD (eVar 1) (eVar 2)
def e_need_rules_1 : Ev := eN (ePure F_is_rule) (aCons (eVar 1) aNil)
def k_need_rules : Sv := sSeq (sIf (tOr (tNot (tV (e1 (kIsT "tuple") (eVar 0)))) (tOr (tNot (tV (eChain kLe kLe (eK (.int 1)) (eN kLen (aCons (eVar 0) aNil)) (eK (.int 3))))) (tNot (tV (eN kAll (aCons (eLcF (iAny (eVar 0)) (gN 1) (PyD.tYes) (e_need_rules_1) [1]) aNil)))))) (sNever) (sNil)) (sIf (tNot (tV (eN kAll (aCons (eLcF (PyD.iZip (eVar 0) (eSlice (eVar 0) (oE (eK (.int 1))) (oNo))) (gT [gN 1, gN 2]) (PyD.tYes) (e_need_rules_0) [1, 2]) aNil)))) (sNever) (sNil))
def F_need_rules : PFn := mkP 1 3 k_need_rules
/-! Finding_is_found: self, lot, good, rule, place, one, own -/
def b_Finding_is_found_0 : Sv := sSet (gN 2) (eAnd (eVar 2) (e2 kIsN (eN (ePure F_parted) (aCons (eFld "Finding" "setting" (eVar 0)) (aCons (eVar 3) (aCons (eVar 5) (aCons (eK (.int 3)) (aCons (eN kTup (aCons (eVar 4) (aCons (eVar 6) aNil))) aNil)))))) (eK .non)))
def k_Finding_is_found : Sv := sSeq (sIf (tV (e2 kNotIn_ (eVar 1) (eFld "Finding" "same" (eVar 0)))) (sSeq (sSet (gT [gN 3, gN 4]) (e2 kSub_ (eVar 1) (eK (.int 0)))) (sSeq (sSet (gN 2) (eK (.bl true))) (sSeq (sFor (iAny (eSlice (eVar 1) (oE (eK (.int 1))) (oNo))) (gT [gN 5, gN 6]) (b_Finding_is_found_0)) (sPut kSet_ (eFld "Finding" "same" (eVar 0)) (eVar 1) (eVar 2))))) (sNil)) (sRet (e2 kSub_ (eFld "Finding" "same" (eVar 0)) (eVar 1)))
def F_Finding_is_found : Fn := mkFn 2 7 k_Finding_is_found
/-! Finding__init_: self, setting -/
def k_Finding__init_ : Sv := sSeq (sFldS "Finding" "setting" (eVar 0) (eVar 1)) (sSeq (sFldS "Finding" "known" (eVar 0) (eN kDict0 aNil)) (sFldS "Finding" "same" (eVar 0) (eN kDict0 aNil)))
def F_Finding__init_ : Fn := mkFn 2 2 k_Finding__init_
/-! law_parted: law_setting_here, law_one, law_other, law_some, law_pair, law_layer, law_seen, law_later, law_row, law_states, law_name, law_answer, law_first, law_second, law_here, law_there -/
def b_law_parted_0 : Sv := sSeq (sSet (gN 14) (eN (ePure F_law_tick) (aCons (eVar 0) (aCons (eVar 1) (aCons (eVar 12) (aCons (eVar 11) aNil)))))) (sSeq (sSet (gN 15) (eN (ePure F_law_tick) (aCons (eVar 0) (aCons (eVar 2) (aCons (eVar 13) (aCons (eVar 11) aNil)))))) (sSeq (sIf (tV (e2 kNe (e2 kSub_ (eVar 14) (eK (.int 1))) (e2 kSub_ (eVar 15) (eK (.int 1))))) (sRet (e2 kAdd (eVar 8) (eN kLstF (aCons (eVar 11) aNil)))) (sNil)) (sExpr (eM mAppend (eVar 7) (aCons (eN kTup (aCons (e2 kAdd (eVar 8) (eN kLstF (aCons (eVar 11) aNil))) (aCons (eN kTup (aCons (e2 kSub_ (eVar 14) (eK (.int 0))) (aCons (e2 kSub_ (eVar 15) (eK (.int 0))) aNil))) aNil))) aNil)))))
def b_law_parted_1 : Sv := sSeq (sSet (gT [gN 12, gN 13]) (eVar 9)) (sSeq (sSet (gN 10) (eN kTup (aCons (eN (ePure F_law_key) (aCons (eVar 1) (aCons (eVar 12) aNil))) (aCons (eN (ePure F_law_key) (aCons (eVar 2) (aCons (eVar 13) aNil))) aNil)))) (sSeq (sIf (tV (e2 kIn_ (eVar 10) (eVar 6))) (sCont) (sNil)) (sSeq (sPut kSet_ (eVar 6) (eVar 10) (eK (.bl true))) (sFor (iAny (eVar 3)) (gN 11) (b_law_parted_0)))))
def w_law_parted_2 : Tv := tV (e2 kNe (eVar 5) (eN kLstF (aNil)))
def b_law_parted_3 : Sv := sSeq (sSet (gN 7) (eN kLst (aNil))) (sSeq (sFor (iAny (eVar 5)) (gT [gN 8, gN 9]) (b_law_parted_1)) (sSet (gN 5) (eVar 7)))
def k_law_parted : Sv := sSeq (sSet (gT [gN 5, gN 6]) (eN kTup (aCons (eN kLstF (aCons (eN kTup (aCons (eN kLstF (aNil)) (aCons (eVar 4) aNil))) aNil)) (aCons (eN kDict0 aNil) aNil)))) (sSeq (sWhile (w_law_parted_2) (b_law_parted_3)) (sRet (eK .non)))
def F_law_parted : PFn := mkP 5 16 k_law_parted
/-! law_split: law_setting_here, law_lot, law_answer, law_found, law_rule_here, law_state, law_new, law_note -/
def e_law_split_0 : Ev := e2 kSub_ (eVar 3) (eVar 7)
def b_law_split_1 : Sv := sSeq (sSet (gN 6) (eN (ePure F_law_tick) (aCons (eVar 0) (aCons (eVar 4) (aCons (eVar 5) (aCons (eVar 2) aNil)))))) (sPut kSet_ (eVar 3) (e2 kSub_ (eVar 6) (eK (.int 1))) (e2 kAdd (eMD mGet (eVar 3) (aCons (e2 kSub_ (eVar 6) (eK (.int 1))) (aCons (eN kLstF (aNil)) aNil))) (eN kLstF (aCons (eN kTup (aCons (eVar 4) (aCons (e2 kSub_ (eVar 6) (eK (.int 0))) aNil))) aNil))))
def k_law_split : Sv := sSeq (sSet (gN 3) (eN kDict0 aNil)) (sSeq (sFor (iAny (eVar 1)) (gT [gN 4, gN 5]) (b_law_split_1)) (sRet (eLcF (iAny (eVar 3)) (gN 7) (PyD.tYes) (e_law_split_0) [7])))
def F_law_split : PFn := mkP 3 8 k_law_split
/-! need_notes: value, one -/
def e_need_notes_0 : Ev := eN (ePure F_is_int) (aCons (eVar 1) (aCons (eK (.int 0)) (aCons (eK (.int 2)) aNil)))
def k_need_notes : Sv := sIf (tOr (tNot (tV (e1 (kIsT "list") (eVar 0)))) (tOr (tV (e2 kGt (eN kLen (aCons (eVar 0) aNil)) (eK (.int 40)))) (tNot (tV (eN kAll (aCons (eLcF (iAny (eVar 0)) (gN 1) (PyD.tYes) (e_need_notes_0) [1]) aNil)))))) (sNever) (sNil)
def F_need_notes : PFn := mkP 1 2 k_need_notes
/-! parting_answers: setting, one, other, range_of -/
def k_parting_answers : Sv := sSeq (sExpr (eN (ePure F_need_two) (aCons (eVar 0) (aCons (eVar 1) (aCons (eVar 2) aNil))))) (sSeq (sExpr (eN (ePure F_need_range) (aCons (eVar 3) aNil))) (sRet (eN (ePure F_parted) (aCons (eVar 0) (aCons (eVar 1) (aCons (eVar 2) (aCons (eVar 3) (aCons (eN kTup (aCons (eN (ePure F_begun) (aNil)) (aCons (eN (ePure F_begun) (aNil)) aNil))) aNil))))))))
def F_parting_answers : PFn := mkP 4 4 k_parting_answers
/-! alike_lists: setting, range_of, lists, rule, own, row -/
def t_alike_lists_0 : Tv := tV (e2 kIsN (eN (ePure F_parted) (aCons (eVar 0) (aCons (e2 kSub_ (eVar 5) (eK (.int 0))) (aCons (eVar 3) (aCons (eVar 1) (aCons (eN kTup (aCons (eN (ePure F_begun) (aNil)) (aCons (eN (ePure F_begun) (aNil)) aNil))) aNil)))))) (eK .non))
def e_alike_lists_1 : Ev := eVar 5
def b_alike_lists_2 : Sv := sSeq (sSet (gN 4) (eLcF (iAny (eVar 2)) (gN 5) (t_alike_lists_0) (e_alike_lists_1) [5])) (sIf (tV (e2 kEq (eVar 4) (eN kLstF (aNil)))) (sExpr (eM mAppend (eVar 2) (aCons (eN kLst (aCons (eVar 3) aNil)) aNil))) (sExpr (eM mAppend (e2 kSub_ (eVar 4) (eK (.int 0))) (aCons (eVar 3) aNil))))
def k_alike_lists : Sv := sSeq (sExpr (eN (ePure F_need_setting) (aCons (eVar 0) aNil))) (sSeq (sExpr (eN (ePure F_need_range) (aCons (eVar 1) aNil))) (sSeq (sSet (gN 2) (eN kLst (aNil))) (sSeq (sFor (iAny (eN (ePure F_family) (aNil))) (gN 3) (b_alike_lists_2)) (sRet (eVar 2)))))
def F_alike_lists : PFn := mkP 2 6 k_alike_lists
/-! could_be: setting, answers, notes, rule -/
def t_could_be_0 : Tv := tV (e2 kEq (eN (ePure F_notes_of) (aCons (eVar 0) (aCons (eVar 3) (aCons (eVar 1) aNil)))) (eVar 2))
def e_could_be_1 : Ev := eVar 3
def k_could_be : Sv := sSeq (sExpr (eN (ePure F_need_setting) (aCons (eVar 0) aNil))) (sSeq (sExpr (eN (ePure F_need_answers) (aCons (eVar 1) aNil))) (sSeq (sExpr (eN (ePure F_need_notes) (aCons (eVar 2) aNil))) (sRet (eLcF (iAny (eN (ePure F_family) (aNil))) (gN 3) (t_could_be_0) (e_could_be_1) [3]))))
def F_could_be : PFn := mkP 3 4 k_could_be
/-! layers_of: setting, rule, notes, layers, told, later, place, answer, new, note -/
def b_layers_of_0 : Sv := sSeq (sSet (gT [gN 8, gN 9]) (eN (ePure F_step) (aCons (eVar 0) (aCons (eVar 1) (aCons (eVar 6) (aCons (eVar 7) aNil)))))) (sIf (tV (e2 kEq (eVar 9) (eVar 4))) (sPut kSet_ (eVar 5) (eVar 8) (e2 kAdd (eMD mGet (eVar 5) (aCons (eVar 8) (aCons (eK (.int 0)) aNil))) (e2 kSub_ (e2 kSub_ (eVar 3) (eNeg (eK (.int 1)))) (eVar 6)))) (sNil))
def b_layers_of_1 : Sv := sFor (iAny (eN kTup (aCons (eK (.int 0)) (aCons (eK (.int 1)) (aCons (eK (.int 2)) (aCons (eK (.int 3)) aNil)))))) (gN 7) (b_layers_of_0)
def b_layers_of_2 : Sv := sSeq (sSet (gN 5) (eN kDict0 aNil)) (sSeq (sFor (iAny (e2 kSub_ (eVar 3) (eNeg (eK (.int 1))))) (gN 6) (b_layers_of_1)) (sExpr (eM mAppend (eVar 3) (aCons (eVar 5) aNil))))
def k_layers_of : Sv := sSeq (sSet (gN 3) (eN kLst (aCons (eN kDict1F (aCons (eN (ePure F_begun) (aNil)) (aCons (eK (.int 1)) aNil))) aNil))) (sSeq (sFor (iAny (eVar 2)) (gN 4) (b_layers_of_2)) (sRet (eVar 3)))
def F_layers_of : PFn := mkP 3 10 k_layers_of
/-! count_of: setting, rule, notes, last, place -/
def e_count_of_0 : Ev := e2 kSub_ (eVar 3) (eVar 4)
def k_count_of : Sv := sSeq (sSet (gN 3) (e2 kSub_ (eN (ePure F_layers_of) (aCons (eVar 0) (aCons (eVar 1) (aCons (eVar 2) aNil)))) (eNeg (eK (.int 1))))) (sRet (eN kSum (aCons (eLcF (iAny (eVar 3)) (gN 4) (PyD.tYes) (e_count_of_0) [4]) aNil)))
def F_count_of : PFn := mkP 3 5 k_count_of
/-! could_ring: setting, notes, rule -/
def t_could_ring_0 : Tv := tV (e2 kGt (eN (ePure F_count_of) (aCons (eVar 0) (aCons (eVar 2) (aCons (eVar 1) aNil)))) (eK (.int 0)))
def e_could_ring_1 : Ev := eVar 2
def k_could_ring : Sv := sSeq (sExpr (eN (ePure F_need_setting) (aCons (eVar 0) aNil))) (sSeq (sExpr (eN (ePure F_need_notes) (aCons (eVar 1) aNil))) (sRet (eLcF (iAny (eN (ePure F_family) (aNil))) (gN 2) (t_could_ring_0) (e_could_ring_1) [2])))
def F_could_ring : PFn := mkP 2 3 k_could_ring
/-! count_answers: setting, rule, notes -/
def k_count_answers : Sv := sSeq (sExpr (eN (ePure F_need_both) (aCons (eVar 0) (aCons (eVar 1) aNil)))) (sSeq (sExpr (eN (ePure F_need_notes) (aCons (eVar 2) aNil))) (sRet (eN (ePure F_count_of) (aCons (eVar 0) (aCons (eVar 1) (aCons (eVar 2) aNil))))))
def F_count_answers : PFn := mkP 3 3 k_count_answers
/-! step_into: setting, rule, place, told, ends, answer, new, note -/
def b_step_into_0 : Sv := sSeq (sSet (gT [gN 6, gN 7]) (eN (ePure F_step) (aCons (eVar 0) (aCons (eVar 1) (aCons (eVar 2) (aCons (eVar 5) aNil)))))) (sIf (tAnd (tV (e2 kEq (eVar 7) (eVar 3))) (tV (e2 kIn_ (eVar 6) (eVar 4)))) (sRet (eN kTup (aCons (eVar 5) (aCons (eVar 6) aNil)))) (sNil))
def k_step_into : Sv := sSeq (sFor (iAny (eN kTup (aCons (eK (.int 0)) (aCons (eK (.int 1)) (aCons (eK (.int 2)) (aCons (eK (.int 3)) aNil)))))) (gN 5) (b_step_into_0)) (sRet (eK .non))
def F_step_into : PFn := mkP 5 8 k_step_into
/-! first_answers: setting, rule, notes, layers, ends, layer, told, place, found, later, answer -/
def b_first_answers_0 : Sv := sSeq (sSet (gT [gN 10, gN 7]) (eN (ePure F_step_into) (aCons (eVar 0) (aCons (eVar 1) (aCons (eVar 7) (aCons (eVar 6) (aCons (eVar 9) aNil))))))) (sExpr (eM mAppend (eVar 8) (aCons (eVar 10) aNil)))
def t_first_answers_1 : Tv := tV (e2 kNotN (eN (ePure F_step_into) (aCons (eVar 0) (aCons (eVar 1) (aCons (eVar 7) (aCons (eVar 6) (aCons (e2 kSub_ (eVar 4) (eNeg (eK (.int 1)))) aNil)))))) (eK .non))
def e_first_answers_2 : Ev := eVar 7
def e_first_answers_3 : Ev := eK (.bl true)
def b_first_answers_4 : Sv := sExpr (eM mAppend (eVar 4) (aCons (eDcF (iAny (eVar 5)) (gN 7) (t_first_answers_1) (e_first_answers_2) (e_first_answers_3) [7]) aNil))
def k_first_answers : Sv := sSeq (sExpr (eN (ePure F_need_both) (aCons (eVar 0) (aCons (eVar 1) aNil)))) (sSeq (sExpr (eN (ePure F_need_notes) (aCons (eVar 2) aNil))) (sSeq (sSet (gN 3) (eN (ePure F_layers_of) (aCons (eVar 0) (aCons (eVar 1) (aCons (eVar 2) aNil))))) (sSeq (sIf (tV (e2 kEqM (e2 kSub_ (eVar 3) (eNeg (eK (.int 1)))) (eN kDict0F aNil))) (sRet (eK .non)) (sNil)) (sSeq (sSet (gN 4) (eN kLst (aCons (e2 kSub_ (eVar 3) (eNeg (eK (.int 1)))) aNil))) (sSeq (sFor (iAny (eRev (eN kLZip (aCons (eSlice (eVar 3) (oNo) (oE (eNeg (eK (.int 1))))) (aCons (eVar 2) aNil))))) (gT [gN 5, gN 6]) (b_first_answers_4)) (sSeq (sSet (gT [gN 7, gN 8]) (eN kTup (aCons (eN (ePure F_begun) (aNil)) (aCons (eN kLst (aNil)) aNil)))) (sSeq (sFor (PyD.iZip (eVar 2) (eSlice (eRev (eVar 4)) (oE (eK (.int 1))) (oNo))) (gT [gN 6, gN 9]) (b_first_answers_0)) (sRet (eVar 8)))))))))
def F_first_answers : PFn := mkP 3 11 k_first_answers
/-! law: law_script, law_town, law_some, law_told, law_due, law_setting_here, law_rule_here, law_other, law_value, law_row, law_many, law_answers_here, law_alike, law_first, law_second, law_answer -/
def e_law_k12_0 : Ev := eIf (tV (e2 kIn_ (eVar 15) (eVar 2))) (eVar 15) (eK (.int 0))
def k_law_k12 : Sv := sSeq (sSet (gN 1) (eN kLst (aCons (eK (.int 0)) (aCons (eK (.int 0)) aNil)))) (sSeq (sSet (gT [gN 5, gN 6]) (eN kTup (aCons (eN (F_law_setting) (aCons (eVar 0) (aCons (eVar 1) aNil))) (aCons (eN (F_law_rule) (aCons (eVar 0) (aCons (eVar 1) aNil))) aNil)))) (sSeq (sSet (gT [gN 7, gN 8]) (eN kTup (aCons (eN (F_law_rule) (aCons (eVar 0) (aCons (eVar 1) aNil))) (aCons (e2 kAdd (eK (.int 1)) (eN (F_law_draw) (aCons (eVar 0) (aCons (eVar 1) (aCons (eK (.int 3)) aNil))))) aNil)))) (sSeq (sSet (gN 2) (eLstRg 0 (e2 kAdd (eVar 8) (eK (.int 1))))) (sSeq (sSet (gN 3) (eN (ePure F_parting_answers) (aCons (eVar 5) (aCons (eVar 6) (aCons (eVar 7) (aCons (eVar 8) aNil)))))) (sSeq (sIf (tV (e2 kNe (eVar 3) (eN (ePure F_law_parted) (aCons (eVar 5) (aCons (eVar 6) (aCons (eVar 7) (aCons (eVar 2) (aCons (eN kTup (aCons (eN kLstF (aNil)) (aCons (eN kLstF (aNil)) aNil))) aNil)))))))) (sRet (eK (.bl false))) (sNil)) (sSeq (sIf (tV (e2 kNe (eVar 3) (eN (ePure F_parting_answers) (aCons (eVar 5) (aCons (eVar 7) (aCons (eVar 6) (aCons (eVar 8) aNil))))))) (sRet (eK (.bl false))) (sNil)) (sSeq (sSet (gT [gN 9, gN 10]) (eN kTup (aCons (eN (ePure F_parting_answers) (aCons (eVar 5) (aCons (eVar 6) (aCons (eVar 7) (aCons (eK (.int 3)) aNil))))) (aCons (eN (F_law_draw) (aCons (eVar 0) (aCons (eVar 1) (aCons (eK (.int 5)) aNil)))) aNil)))) (sSeq (sSet (gN 4) (eIf (tAnd (tV (e2 kNotN (eVar 9) (eK .non))) (tV (e2 kLe (eN kLen (aCons (eVar 9) aNil)) (eVar 10)))) (eVar 9) (eK .non))) (sSeq (sIf (tV (e2 kNe (eN (ePure F_naive_parting) (aCons (eVar 5) (aCons (eVar 6) (aCons (eVar 7) (aCons (eVar 10) aNil))))) (eVar 4))) (sRet (eK (.bl false))) (sNil)) (sSeq (sIf (tOr (tV (e2 kIsN (eVar 3) (eK .non))) (tV (e2 kGt (eN kLen (aCons (eVar 3) aNil)) (eK (.int 40))))) (sSeq (sSet (gN 11) (eLcF (iAny (eN (F_law_answers) (aCons (eVar 0) (aCons (eVar 1) (aCons (eK (.int 40)) aNil))))) (gN 15) (PyD.tYes) (e_law_k12_0) [15])) (sSeq (sSet (gN 12) (e2 kEq (eN (ePure F_notes_along) (aCons (eVar 5) (aCons (eVar 6) (aCons (eVar 11) aNil)))) (eN (ePure F_notes_along) (aCons (eVar 5) (aCons (eVar 7) (aCons (eVar 11) aNil)))))) (sRet (eOr (e2 kNotN (eVar 3) (eK .non)) (eVar 12))))) (sNil)) (sSeq (sSet (gT [gN 13, gN 14]) (eN kTup (aCons (eN (ePure F_notes_along) (aCons (eVar 5) (aCons (eVar 6) (aCons (eVar 3) aNil)))) (aCons (eN (ePure F_notes_along) (aCons (eVar 5) (aCons (eVar 7) (aCons (eVar 3) aNil)))) aNil)))) (sRet (eAnd (e2 kEq (eSlice (eVar 13) (oNo) (oE (eNeg (eK (.int 1))))) (eSlice (eVar 14) (oNo) (oE (eNeg (eK (.int 1)))))) (e2 kNe (e2 kSub_ (eVar 13) (eNeg (eK (.int 1)))) (e2 kSub_ (eVar 14) (eNeg (eK (.int 1))))))))))))))))))
def F_law_k12 : Fn := mkFn 1 16 k_law_k12
/-! law: law_script, law_town, law_due, law_rule_here, law_lists, law_answers_here, law_some, law_setting_here, law_value, law_answer -/
def b_law_k13_0 : Sv := sSeq (sIf (tV (e2 kNe (eN (ePure F_notes_along) (aCons (eVar 7) (aCons (eVar 3) (aCons (eVar 5) aNil)))) (eN (ePure F_notes_along) (aCons (eVar 7) (aCons (e2 kSub_ (eVar 6) (eK (.int 0))) (aCons (eVar 5) aNil)))))) (sRet (eK (.bl false))) (sNil)) (sIf (tV (e2 kNotN (eN (ePure F_parting_answers) (aCons (eVar 7) (aCons (eVar 3) (aCons (e2 kSub_ (eVar 6) (eK (.int 0))) (aCons (eVar 8) aNil))))) (eK .non))) (sRet (eK (.bl false))) (sNil))
def b_law_k13_1 : Sv := sFor (iAny (eSlice (eVar 6) (oE (eK (.int 1))) (oNo))) (gN 3) (b_law_k13_0)
def e_law_k13_2 : Ev := eN kMin2 (aCons (eVar 8) (aCons (eVar 9) aNil))
def e_law_k13_3 : Ev := eIf (tV (e2 kEq (eVar 6) (eN kLstF (aCons (eN kTup (aCons (eK (.str "every")) (aCons (e2 kSub_ (eVar 3) (eK (.int 1))) aNil))) aNil)))) (e2 kAdd (eVar 6) (eN kLstF (aCons (eVar 3) aNil))) (eVar 6)
def b_law_k13_4 : Sv := sIf (tAnd (tV (e2 kEq (e2 kSub_ (eVar 3) (eK (.int 0))) (eK (.str "quiet")))) (tAnd (tV (e2 kEq (e2 kSub_ (eVar 7) (eK (.int 0))) (eK (.int 1)))) (tOr (tV (e2 kLt (eVar 8) (eK (.int 3)))) (tV (e2 kEq (e2 kSub_ (eVar 7) (eK (.int 1))) (e2 kSub_ (eVar 3) (eK (.int 1)))))))) (sSet (gN 2) (eLc (iAny (eVar 2)) (gN 6) (PyD.tYes) (e_law_k13_3) [6])) (sExpr (eM mAppend (eVar 2) (aCons (eN kLstF (aCons (eVar 3) aNil)) aNil)))
def k_law_k13 : Sv := sSeq (sSet (gN 1) (eN kLst (aCons (eK (.int 0)) (aCons (eK (.int 0)) aNil)))) (sSeq (sSet (gT [gN 7, gN 8]) (eN kTup (aCons (eN (F_law_setting) (aCons (eVar 0) (aCons (eVar 1) aNil))) (aCons (e2 kAdd (eK (.int 1)) (eN (F_law_draw) (aCons (eVar 0) (aCons (eVar 1) (aCons (eK (.int 3)) aNil))))) aNil)))) (sSeq (sSet (gN 2) (eN kLst (aNil))) (sSeq (sFor (iAny (eN (ePure F_family) (aNil))) (gN 3) (b_law_k13_4)) (sSeq (sSet (gN 4) (eN (ePure F_alike_lists) (aCons (eVar 7) (aCons (eVar 8) aNil)))) (sSeq (sIf (tV (e2 kNe (eVar 4) (eVar 2))) (sRet (eK (.bl false))) (sNil)) (sSeq (sSet (gN 5) (eLcF (iAny (eN (F_law_answers) (aCons (eVar 0) (aCons (eVar 1) (aCons (eK (.int 40)) aNil))))) (gN 9) (PyD.tYes) (e_law_k13_2) [9])) (sSeq (sFor (iAny (eVar 4)) (gN 6) (b_law_k13_1)) (sRet (eK (.bl true))))))))))
def F_law_k13 : Fn := mkFn 1 10 k_law_k13
/-! law: law_script, law_town, law_answers_here, law_notes, law_turn, law_setting_here, law_hidden, law_due, law_rule_here, law_known, law_at, law_bent, law_one -/
def t_law_k14_0 : Tv := tV (e2 kNotIn_ (eVar 8) (eVar 9))
def e_law_k14_1 : Ev := eVar 8
def e_law_k14_2 : Ev := e2 kSub_ (eVar 12) (eK (.int 1))
def b_law_k14_3 : Sv := sIf (tV (e2 kEq (eLcF (iAny (eN (ePure F_law_play) (aCons (eVar 5) (aCons (eVar 8) (aCons (eVar 2) aNil))))) (gN 12) (PyD.tYes) (e_law_k14_2) [12]) (eVar 3))) (sExpr (eM mAppend (eVar 7) (aCons (eVar 8) aNil))) (sNil)
def b_law_k14_4 : Sv := sSeq (sSet (gN 7) (eN kLst (aNil))) (sSeq (sFor (iAny (eN (ePure F_family) (aNil))) (gN 8) (b_law_k14_3)) (sSeq (sIf (tV (e2 kNe (eN (ePure F_could_be) (aCons (eVar 5) (aCons (eVar 2) (aCons (eVar 3) aNil)))) (eVar 7))) (sRet (eK (.bl false))) (sNil)) (sSeq (sSet (gN 9) (eIf (tAnd (tV (e2 kEq (eVar 4) (eK (.int 0)))) (tV (e2 kLt (eN kLen (aCons (eVar 3) aNil)) (eK (.int 8))))) (eN (ePure F_could_ring) (aCons (eVar 5) (aCons (eVar 3) aNil))) (eVar 7))) (sSeq (sIf (tV (e2 kNe (eLcF (iAny (eVar 7)) (gN 8) (t_law_k14_0) (e_law_k14_1) [8]) (eN kLstF (aNil)))) (sRet (eK (.bl false))) (sNil)) (sSeq (sIf (tV (e2 kEq (eVar 3) (eN kLstF (aNil)))) (sRet (eAnd (e2 kEq (eN (ePure F_could_be) (aCons (eVar 5) (aCons (eN kLstF (aNil)) (aCons (eN kLstF (aNil)) aNil)))) (eN (ePure F_family) (aNil))) (e2 kEq (eN (ePure F_could_ring) (aCons (eVar 5) (aCons (eN kLstF (aNil)) aNil))) (eN (ePure F_family) (aNil))))) (sNil)) (sSeq (sSet (gN 10) (eN (F_law_draw) (aCons (eVar 0) (aCons (eVar 1) (aCons (eN kLen (aCons (eVar 3) aNil)) aNil))))) (sSeq (sSet (gN 11) (eN (F_law_pick) (aCons (eVar 0) (aCons (eVar 1) (aCons (eN kLstF (aCons (eK (.int 0)) (aCons (eK (.int 1)) (aCons (eK (.int 2)) aNil)))) aNil))))) (sSet (gN 3) (eIf (tV (e2 kEq (eVar 4) (eK (.int 0)))) (e2 kAdd (e2 kAdd (eSlice (eVar 3) (oNo) (oE (eVar 10))) (eN kLstF (aCons (eVar 11) aNil))) (eSlice (eVar 3) (oE (e2 kAdd (eVar 10) (eK (.int 1)))) (oNo))) (eSlice (eVar 3) (oNo) (oE (eVar 10))))))))))))
def k_law_k14 : Sv := sSeq (sSet (gN 1) (eN kLst (aCons (eK (.int 0)) (aCons (eK (.int 0)) aNil)))) (sSeq (sSet (gT [gN 5, gN 6]) (eN kTup (aCons (eN (F_law_setting) (aCons (eVar 0) (aCons (eVar 1) aNil))) (aCons (eN (F_law_pick) (aCons (eVar 0) (aCons (eVar 1) (aCons (eN (ePure F_family) (aNil)) aNil)))) aNil)))) (sSeq (sSet (gN 2) (eN (F_law_answers) (aCons (eVar 0) (aCons (eVar 1) (aCons (eK (.int 20)) aNil))))) (sSeq (sSet (gN 3) (eN (ePure F_notes_along) (aCons (eVar 5) (aCons (eVar 6) (aCons (eVar 2) aNil))))) (sSeq (sIf (tV (e2 kNotIn_ (eVar 6) (eN (ePure F_could_be) (aCons (eVar 5) (aCons (eVar 2) (aCons (eVar 3) aNil)))))) (sRet (eK (.bl false))) (sNil)) (sSeq (sFor (iRange1 (eK (.int 3))) (gN 4) (b_law_k14_4)) (sRet (eK (.bl true))))))))
def F_law_k14 : Fn := mkFn 1 13 k_law_k14
/-! law: law_script, law_town, law_rows, law_turn, law_row, law_notes, law_other, law_setting_here, law_rule_here, law_longer, law_groups, law_total, law_told, law_first, law_one, law_answer -/
def e_law_k15_0 : Ev := eN (F_law_pick) (aCons (eVar 0) (aCons (eVar 1) (aCons (eN kLstF (aCons (eK (.int 0)) (aCons (eK (.int 1)) (aCons (eK (.int 2)) aNil)))) aNil)))
def b_law_k15_1 : Sv := sSeq (sSet (gT [gN 12, gN 13]) (eN kTup (aCons (eN (ePure F_count_answers) (aCons (eVar 7) (aCons (eVar 8) (aCons (eN kListOfF (aCons (eVar 5) aNil)) aNil)))) (aCons (eN (ePure F_first_answers) (aCons (eVar 7) (aCons (eVar 8) (aCons (eN kListOfF (aCons (eVar 5) aNil)) aNil)))) aNil)))) (sSeq (sAug 11 kAddI (eVar 12)) (sIf (tOr (tV (e2 kNe (eVar 12) (eN kLen (aCons (e2 kSub_ (eVar 10) (eVar 5)) aNil)))) (tV (e2 kNe (eVar 13) (eN kMinD (aCons (e2 kSub_ (eVar 10) (eVar 5)) aNil))))) (sRet (eK (.bl false))) (sNil)))
def e_law_k15_2 : Ev := e2 kSub_ (eVar 14) (eK (.int 1))
def b_law_k15_3 : Sv := sSeq (sSet (gN 5) (eN kTupleOf (aCons (eLcF (iAny (eN (ePure F_law_play) (aCons (eVar 7) (aCons (eVar 8) (aCons (eVar 4) aNil))))) (gN 14) (PyD.tYes) (e_law_k15_2) [14]) aNil))) (sPut kSet_ (eVar 10) (eVar 5) (e2 kAdd (eMD mGet (eVar 10) (aCons (eVar 5) (aCons (eN kLstF (aNil)) aNil))) (eN kLstF (aCons (eVar 4) aNil))))
def e_law_k15_4 : Ev := e2 kAdd (eVar 4) (eN kLstF (aCons (eVar 15) aNil))
def b_law_k15_5 : Sv := sExpr (eM mExtend (eVar 9) (aCons (eLcF (iAny (eN kTup (aCons (eK (.int 0)) (aCons (eK (.int 1)) (aCons (eK (.int 2)) (aCons (eK (.int 3)) aNil)))))) (gN 15) (PyD.tYes) (e_law_k15_4) [15]) aNil))
def b_law_k15_6 : Sv := sSeq (sSet (gN 9) (eN kLst (aNil))) (sSeq (sFor (iAny (eVar 2)) (gN 4) (b_law_k15_5)) (sSet (gN 2) (eVar 9)))
def k_law_k15 : Sv := sSeq (sSet (gN 1) (eN kLst (aCons (eK (.int 0)) (aCons (eK (.int 0)) aNil)))) (sSeq (sSet (gT [gN 7, gN 8]) (eN kTup (aCons (eN (F_law_setting) (aCons (eVar 0) (aCons (eVar 1) aNil))) (aCons (eN (F_law_rule) (aCons (eVar 0) (aCons (eVar 1) aNil))) aNil)))) (sSeq (sSet (gN 2) (eN kLstF (aCons (eN kLstF (aNil)) aNil))) (sSeq (sFor (iRange1 (eN (F_law_draw) (aCons (eVar 0) (aCons (eVar 1) (aCons (eK (.int 5)) aNil))))) (gN 3) (b_law_k15_6)) (sSeq (sSet (gT [gN 10, gN 11]) (eN kTup (aCons (eN kDict0 aNil) (aCons (eK (.int 0)) aNil)))) (sSeq (sFor (iAny (eVar 2)) (gN 4) (b_law_k15_3)) (sSeq (sFor (iAny (eVar 10)) (gN 5) (b_law_k15_1)) (sSeq (sIf (tV (e2 kNe (eVar 11) (eN kLen (aCons (eVar 2) aNil)))) (sRet (eK (.bl false))) (sNil)) (sSeq (sSet (gN 6) (eN kTupleOf (aCons (eLcF (iAny (e2 kSub_ (eVar 2) (eK (.int 0)))) (gN 14) (PyD.tYes) (e_law_k15_0) [14]) aNil))) (sSeq (sIf (tV (e2 kIn_ (eVar 6) (eVar 10))) (sRet (eK (.bl true))) (sNil)) (sSeq (sIf (tV (e2 kNe (eN (ePure F_count_answers) (aCons (eVar 7) (aCons (eVar 8) (aCons (eN kListOfF (aCons (eVar 6) aNil)) aNil)))) (eK (.int 0)))) (sRet (eK (.bl false))) (sNil)) (sRet (e2 kIsN (eN (ePure F_first_answers) (aCons (eVar 7) (aCons (eVar 8) (aCons (eN kListOfF (aCons (eVar 6) aNil)) aNil)))) (eK .non)))))))))))))
def F_law_k15 : Fn := mkFn 1 16 k_law_k15
/-! law: law_script, law_town, law_answers_here, law_notes, law_first, law_at, law_bent, law_due, law_setting_here, law_rule_here, law_few, law_more, law_own -/
def t_law_k16_0 : Tv := tV (e2 kNotIn_ (eVar 12) (eVar 11))
def e_law_k16_1 : Ev := eVar 12
def t_law_k16_2 : Tv := tV (e2 kGtD (eN (ePure F_count_answers) (aCons (eVar 8) (aCons (eVar 12) (aCons (eVar 6) aNil)))) (eK (.int 0)))
def e_law_k16_3 : Ev := eVar 12
def k_law_k16 : Sv := sSeq (sSet (gN 1) (eN kLst (aCons (eK (.int 0)) (aCons (eK (.int 0)) aNil)))) (sSeq (sSet (gT [gN 8, gN 9]) (eN kTup (aCons (eN (F_law_setting) (aCons (eVar 0) (aCons (eVar 1) aNil))) (aCons (eN (F_law_rule) (aCons (eVar 0) (aCons (eVar 1) aNil))) aNil)))) (sSeq (sSet (gN 2) (eN (F_law_answers) (aCons (eVar 0) (aCons (eVar 1) (aCons (eK (.int 20)) aNil))))) (sSeq (sSet (gN 3) (eN (ePure F_notes_along) (aCons (eVar 8) (aCons (eVar 9) (aCons (eVar 2) aNil))))) (sSeq (sSet (gN 4) (eN (ePure F_first_answers) (aCons (eVar 8) (aCons (eVar 9) (aCons (eVar 3) aNil))))) (sSeq (sIf (tOr (tV (e2 kIsN (eVar 4) (eK .non))) (tOr (tV (e2 kGtD (eVar 4) (eVar 2))) (tV (e2 kNe (eN (ePure F_notes_along) (aCons (eVar 8) (aCons (eVar 9) (aCons (eVar 4) aNil)))) (eVar 3))))) (sRet (eK (.bl false))) (sNil)) (sSeq (sSet (gN 5) (eN (F_law_draw) (aCons (eVar 0) (aCons (eVar 1) (aCons (e2 kAdd (eN kLen (aCons (eVar 3) aNil)) (eK (.int 1))) aNil))))) (sSeq (sIf (tOr (tV (e2 kGtD (eN (ePure F_first_answers) (aCons (eVar 8) (aCons (eVar 9) (aCons (eSlice (eVar 3) (oNo) (oE (eVar 5))) aNil)))) (eSlice (eVar 4) (oNo) (oE (eVar 5))))) (tV (e2 kLtD (eN (ePure F_count_answers) (aCons (eVar 8) (aCons (eVar 9) (aCons (eVar 3) aNil)))) (eK (.int 1))))) (sRet (eK (.bl false))) (sNil)) (sSeq (sSet (gN 6) (e2 kAdd (eSlice (eVar 3) (oNo) (oE (eK (.int 6)))) (eN kLstF (aCons (eN (F_law_draw) (aCons (eVar 0) (aCons (eVar 1) (aCons (eK (.int 3)) aNil)))) aNil)))) (sSeq (sSet (gN 7) (eLcF (iAny (eN (ePure F_family) (aNil))) (gN 12) (t_law_k16_2) (e_law_k16_3) [12])) (sSeq (sIf (tV (e2 kNe (eN (ePure F_could_ring) (aCons (eVar 8) (aCons (eVar 6) aNil))) (eVar 7))) (sRet (eK (.bl false))) (sNil)) (sSeq (sSet (gT [gN 10, gN 11]) (eN kTup (aCons (eN (ePure F_could_be) (aCons (eVar 8) (aCons (eVar 2) (aCons (eVar 3) aNil)))) (aCons (eN (ePure F_could_be) (aCons (eVar 8) (aCons (eSlice (eVar 2) (oNo) (oE (eVar 5))) (aCons (eSlice (eVar 3) (oNo) (oE (eVar 5))) aNil)))) aNil)))) (sSeq (sIf (tV (e2 kNe (eLcF (iAny (eVar 10)) (gN 12) (t_law_k16_0) (e_law_k16_1) [12]) (eN kLstF (aNil)))) (sRet (eK (.bl false))) (sNil)) (sRet (e2 kEq (eN (ePure F_could_be) (aCons (eVar 8) (aCons (eVar 2) (aCons (e2 kAdd (eVar 3) (eN kLstF (aCons (eK (.int 0)) aNil))) aNil)))) (eN kLstF (aNil))))))))))))))))
def F_law_k16 : Fn := mkFn 1 13 k_law_k16
/-! law_graph: law_setting_here, law_rule_here, law_value, law_steps, law_left, law_seen, law_state, law_name, law_answer, law_new, law_note -/
def b_law_graph_0 : Sv := sSeq (sSet (gT [gN 9, gN 10]) (eN (ePure F_law_tick) (aCons (eVar 0) (aCons (eVar 1) (aCons (eVar 6) (aCons (eVar 8) aNil)))))) (sSeq (sExpr (eM mAppend (eVar 3) (aCons (eN kTup (aCons (eVar 7) (aCons (eN (ePure F_law_key) (aCons (eVar 1) (aCons (eVar 9) aNil))) (aCons (eVar 10) aNil)))) aNil))) (sExpr (eM mAppend (eVar 4) (aCons (eVar 9) aNil))))
def w_law_graph_1 : Tv := tV (e2 kNe (eVar 4) (eN kLstF (aNil)))
def b_law_graph_2 : Sv := sSeq (sSet (gN 6) (eM mPop (eVar 4) aNil)) (sSeq (sSet (gN 7) (eN (ePure F_law_key) (aCons (eVar 1) (aCons (eVar 6) aNil)))) (sSeq (sIf (tV (e2 kIn_ (eVar 7) (eVar 5))) (sCont) (sNil)) (sSeq (sPut kSet_ (eVar 5) (eVar 7) (eK (.bl true))) (sFor (iRange1 (e2 kAdd (eVar 2) (eK (.int 1)))) (gN 8) (b_law_graph_0)))))
def k_law_graph : Sv := sSeq (sSet (gT [gN 3, gN 4, gN 5]) (eN kTup (aCons (eN kLst (aNil)) (aCons (eN kLst (aCons (eN kLstF (aNil)) aNil)) (aCons (eN kDict0 aNil) aNil))))) (sSeq (sWhile (w_law_graph_1) (b_law_graph_2)) (sRet (eVar 3)))
def F_law_graph : PFn := mkP 3 11 k_law_graph
/-! law_rises: law_steps, law_mean, law_high, law_turn, law_old, law_new, law_worth, law_changed, law_value -/
def b_law_rises_0 : Sv := sSeq (sSet (gN 8) (e2 kSub (e2 kAdd (e2 kSub_ (eVar 2) (eVar 4)) (e2 kMul (eVar 6) (e2 kSub_ (eVar 1) (eK (.int 1))))) (e2 kSub_ (eVar 1) (eK (.int 0))))) (sIf (tV (e2 kGt (eVar 8) (e2 kSub_ (eVar 2) (eVar 5)))) (sSeq (sPut kSet_ (eVar 2) (eVar 5) (eVar 8)) (sSet (gN 7) (eK (.bl true)))) (sNil))
def b_law_rises_1 : Sv := sSeq (sSet (gN 7) (eK (.bl false))) (sSeq (sFor (iAny (eVar 0)) (gT [gN 4, gN 5, gN 6]) (b_law_rises_0)) (sIf (tNot (tV (eVar 7))) (sRet (eK (.bl true))) (sNil)))
def b_law_rises_2 : Sv := sPut2 kSet_ (eN kTup (aCons (eK (.int 0)) (aCons (eK (.int 0)) aNil))) (eVar 2) (eVar 4) (eVar 2) (eVar 5)
def k_law_rises : Sv := sSeq (sSet (gN 2) (eN kDict0 aNil)) (sSeq (sFor (iAny (eVar 0)) (gT [gN 4, gN 5, gN 6]) (b_law_rises_2)) (sSeq (sFor (iRange1 (e2 kAdd (eN kLenM (aCons (eVar 2) aNil)) (eK (.int 1)))) (gN 3) (b_law_rises_1)) (sRet (eK (.bl false)))))
def F_law_rises : PFn := mkP 2 9 k_law_rises
/-! law_loop: law_setting_here, law_rule_here, law_told, law_found, law_turn, law_row, law_loop_here, law_size, law_rows, law_state, law_note -/
def b_law_loop_0 : Sv := sExpr (eM mAppend (eVar 8) (aCons (eSlice (eVar 3) (oE (e2 kMul (eVar 4) (eVar 7))) (oE (e2 kAdd (e2 kMul (eVar 4) (eVar 7)) (eVar 7)))) aNil))
def e_law_loop_1 : Ev := eVar 10
def k_law_loop : Sv := sSeq (sSet (gT [gN 5, gN 6]) (eVar 2)) (sSeq (sIf (tV (e2 kEq (eVar 6) (eN kLstF (aNil)))) (sRet (eK .non)) (sNil)) (sSeq (sSet (gN 3) (eSlice (eLcF (iAny (eN (ePure F_law_play) (aCons (eVar 0) (aCons (eVar 1) (aCons (e2 kAdd (eVar 5) (e2 kMul (eVar 6) (eK (.int 9)))) aNil))))) (gT [gN 9, gN 10]) (PyD.tYes) (e_law_loop_1) [9, 10]) (oE (eN kLen (aCons (eVar 5) aNil))) (oNo))) (sSeq (sSet (gT [gN 7, gN 8]) (eN kTup (aCons (eN kLen (aCons (eVar 6) aNil)) (aCons (eN kLst (aNil)) aNil)))) (sSeq (sFor (iRange1 (eK (.int 9))) (gN 4) (b_law_loop_0)) (sRet (eIf (tV (e2 kEq (eVar 8) (e2 kMul (eN kLstF (aCons (e2 kSub_ (eVar 8) (eK (.int 0))) aNil)) (eK (.int 9))))) (e2 kSub_ (eVar 8) (eK (.int 0))) (eK .non)))))))
def F_law_loop : PFn := mkP 3 11 k_law_loop
/-! law: law_script, law_town, law_value, law_notes, law_setting_here, law_rule_here, law_mean, law_row, law_one, law_two -/
def w_law_k17_0 : Tv := tV (e2 kGt (eVar 9) (eK (.int 0)))
def b_law_k17_1 : Sv := sSet (gT [gN 8, gN 9]) (eN kTup (aCons (eVar 9) (aCons (e2 kMod (eVar 8) (eVar 9)) aNil)))
def k_law_k17 : Sv := sSeq (sSet (gN 1) (eN kLst (aCons (eK (.int 0)) (aCons (eK (.int 0)) aNil)))) (sSeq (sSet (gT [gN 4, gN 5]) (eN kTup (aCons (eN (F_law_setting) (aCons (eVar 0) (aCons (eVar 1) aNil))) (aCons (eN (F_law_rule) (aCons (eVar 0) (aCons (eVar 1) aNil))) aNil)))) (sSeq (sSet (gN 2) (e2 kAdd (eK (.int 1)) (eN (F_law_draw) (aCons (eVar 0) (aCons (eVar 1) (aCons (eK (.int 3)) aNil)))))) (sSeq (sSet (gT [gN 6, gN 7]) (eN kTup (aCons (eN (ePure F_greatest_rate) (aCons (eVar 4) (aCons (eVar 5) (aCons (eVar 2) aNil)))) (aCons (eN (ePure F_loudest_row) (aCons (eVar 4) (aCons (eVar 5) (aCons (eVar 2) aNil)))) aNil)))) (sSeq (sSet (gN 3) (eN (ePure F_law_loop) (aCons (eVar 4) (aCons (eVar 5) (aCons (eVar 7) aNil))))) (sSeq (sIf (tOr (tV (e2 kIsN (eVar 3) (eK .non))) (tOr (tV (e2 kNe (e2 kMul (eN kSum (aCons (eVar 3) aNil)) (e2 kSub_ (eVar 6) (eK (.int 1)))) (e2 kMul (e2 kSub_ (eVar 6) (eK (.int 0))) (eN kLen (aCons (eVar 3) aNil))))) (tV (e2 kGt (eN kMaxL (aCons (e2 kAdd (e2 kSub_ (eVar 7) (eK (.int 0))) (e2 kSub_ (eVar 7) (eK (.int 1)))) aNil)) (eVar 2))))) (sRet (eK (.bl false))) (sNil)) (sSeq (sSet (gT [gN 8, gN 9]) (eVar 6)) (sSeq (sWhile (w_law_k17_0) (b_law_k17_1)) (sRet (eAnd (e2 kEq (eVar 8) (eK (.int 1))) (eN (ePure F_law_rises) (aCons (eN (ePure F_law_graph) (aCons (eVar 4) (aCons (eVar 5) (aCons (eVar 2) aNil)))) (aCons (eVar 6) aNil))))))))))))
def F_law_k17 : Fn := mkFn 1 10 k_law_k17
/-! law: law_script, law_town, law_word, law_rule_here, law_mean, law_setting_here, law_number, law_room, law_most -/
def b_law_k18_0 : Sv := sSeq (sSet (gN 4) (eN (ePure F_greatest_rate) (aCons (eVar 5) (aCons (eN kTup (aCons (eVar 2) (aCons (eVar 6) aNil))) (aCons (eK (.int 1)) aNil))))) (sIf (tOr (tV (e2 kNe (e2 kMul (e2 kSub_ (eVar 4) (eK (.int 0))) (eVar 6)) (e2 kMul (eVar 7) (e2 kSub_ (eVar 4) (eK (.int 1)))))) (tV (e2 kNe (eN (ePure F_left_alone) (aCons (eVar 5) (aCons (eN kTup (aCons (eVar 2) (aCons (eVar 6) aNil))) aNil))) (eN kTup (aCons (eK (.int 1)) (aCons (eVar 6) aNil)))))) (sRet (eK (.bl false))) (sNil))
def k_law_k18 : Sv := sSeq (sSet (gN 1) (eN kLst (aCons (eK (.int 0)) (aCons (eK (.int 0)) aNil)))) (sSeq (sSet (gT [gN 5, gN 6]) (eN kTup (aCons (eN (F_law_setting) (aCons (eVar 0) (aCons (eVar 1) aNil))) (aCons (e2 kAdd (eK (.int 1)) (eN (F_law_draw) (aCons (eVar 0) (aCons (eVar 1) (aCons (eK (.int 4)) aNil))))) aNil)))) (sSeq (sSet (gT [gN 7, gN 8]) (eN kTup (aCons (e2 kSub_ (eVar 5) (eK (.int 0))) (aCons (e2 kAdd (eK (.int 1)) (eN (F_law_draw) (aCons (eVar 0) (aCons (eVar 1) (aCons (eK (.int 3)) aNil))))) aNil)))) (sSeq (sFor (iAny (eN kTup (aCons (eK (.str "every")) (aCons (eK (.str "slower")) (aCons (eK (.str "quiet")) aNil))))) (gN 2) (b_law_k18_0)) (sSeq (sIf (tV (e2 kNe (eN (ePure F_greatest_rate) (aCons (eVar 5) (aCons (eN kTup (aCons (eK (.str "sooner")) (aCons (eVar 6) aNil))) (aCons (eK (.int 1)) aNil)))) (eN kTup (aCons (eVar 7) (aCons (eK (.int 1)) aNil))))) (sRet (eK (.bl false))) (sNil)) (sSeq (sIf (tV (e2 kNe (eN (ePure F_left_alone) (aCons (eVar 5) (aCons (eN kTup (aCons (eK (.str "sooner")) (aCons (eVar 6) aNil))) aNil))) (eN kTup (aCons (eK (.int 1)) (aCons (eK (.int 1)) aNil))))) (sRet (eK (.bl false))) (sNil)) (sSeq (sSet (gN 3) (eN kTup (aCons (eK (.str "times")) (aCons (eVar 6) (aCons (eVar 8) aNil))))) (sSeq (sIf (tOr (tV (e2 kNe (eN (ePure F_greatest_rate) (aCons (eVar 5) (aCons (eVar 3) (aCons (eK (.int 1)) aNil)))) (eN kTup (aCons (eK (.int 0)) (aCons (eK (.int 1)) aNil))))) (tV (e2 kNe (eN (ePure F_left_alone) (aCons (eVar 5) (aCons (eVar 3) aNil))) (eN kTup (aCons (eK (.int 0)) (aCons (eK (.int 1)) aNil)))))) (sRet (eK (.bl false))) (sNil)) (sSeq (sSet (gN 4) (eN (ePure F_greatest_rate) (aCons (eVar 5) (aCons (eN kTup (aCons (eK (.str "quiet")) (aCons (eVar 6) aNil))) (aCons (eK (.int 3)) aNil))))) (sRet (e2 kEq (e2 kMul (e2 kSub_ (eVar 4) (eK (.int 0))) (eVar 6)) (e2 kMul (eVar 7) (e2 kSub_ (eVar 4) (eK (.int 1))))))))))))))
def F_law_k18 : Fn := mkFn 1 9 k_law_k18
/-! law: law_script, law_town, law_rates, law_room, law_put, law_rule_here, law_row, law_one, law_two, law_few, law_many, law_value -/
def b_law_k19_0 : Sv := sIf (tOr (tV (e2 kGt (e2 kMul (e2 kSub_ (eVar 7) (eK (.int 0))) (e2 kSub_ (eVar 8) (eK (.int 1)))) (e2 kMul (e2 kSub_ (eVar 8) (eK (.int 0))) (e2 kSub_ (eVar 7) (eK (.int 1)))))) (tV (e2 kGt (e2 kMul (e2 kSub_ (eVar 8) (eK (.int 0))) (e2 kSub_ (eVar 7) (eK (.int 1)))) (e2 kMul (e2 kMul (eK (.int 2)) (e2 kSub_ (eVar 7) (eK (.int 0)))) (e2 kSub_ (eVar 8) (eK (.int 1))))))) (sRet (eK (.bl false))) (sNil)
def b_law_k19_1 : Sv := sIf (tV (e2 kGt (e2 kMul (e2 kSub_ (eVar 9) (eK (.int 0))) (e2 kSub_ (eVar 10) (eK (.int 1)))) (e2 kMul (e2 kSub_ (eVar 10) (eK (.int 0))) (e2 kSub_ (eVar 9) (eK (.int 1)))))) (sRet (eK (.bl false))) (sNil)
def e_law_k19_2 : Ev := eN (ePure F_greatest_rate) (aCons (eN kTup (aCons (eVar 3) (aCons (eVar 4) aNil))) (aCons (eVar 5) (aCons (eVar 11) aNil)))
def b_law_k19_3 : Sv := sSeq (sSet (gN 6) (eLcF (iAny (eN kTup (aCons (eK (.int 1)) (aCons (eK (.int 2)) (aCons (eK (.int 3)) aNil))))) (gN 11) (PyD.tYes) (e_law_k19_2) [11])) (sSeq (sFor (PyD.iZip (eVar 6) (eSlice (eVar 6) (oE (eK (.int 1))) (oNo))) (gT [gN 9, gN 10]) (b_law_k19_1)) (sSeq (sIf (tV (e2 kGt (e2 kSub_ (e2 kSub_ (eVar 6) (eK (.int 2))) (eK (.int 0))) (e2 kMul (eVar 3) (e2 kSub_ (e2 kSub_ (eVar 6) (eK (.int 2))) (eK (.int 1)))))) (sRet (eK (.bl false))) (sNil)) (sExpr (eM mAppend (eVar 2) (aCons (eVar 6) aNil)))))
def k_law_k19 : Sv := sSeq (sSet (gN 1) (eN kLst (aCons (eK (.int 0)) (aCons (eK (.int 0)) aNil)))) (sSeq (sSet (gT [gN 4, gN 5]) (eN kTup (aCons (e2 kAdd (eK (.int 1)) (eN (F_law_draw) (aCons (eVar 0) (aCons (eVar 1) (aCons (eK (.int 3)) aNil))))) (aCons (eN (F_law_rule) (aCons (eVar 0) (aCons (eVar 1) aNil))) aNil)))) (sSeq (sSet (gN 2) (eN kLst (aNil))) (sSeq (sFor (iAny (eN kTup (aCons (eK (.int 1)) (aCons (eK (.int 2)) aNil)))) (gN 3) (b_law_k19_3)) (sSeq (sFor (PyD.iZip (e2 kSub_ (eVar 2) (eK (.int 0))) (e2 kSub_ (eVar 2) (eK (.int 1)))) (gT [gN 7, gN 8]) (b_law_k19_0)) (sRet (eK (.bl true)))))))
def F_law_k19 : Fn := mkFn 1 12 k_law_k19
/-! law: law_script, law_town, law_tail, law_setting_here, law_rule_here, law_mean, law_notes -/
def k_law_k20 : Sv := sSeq (sSet (gN 1) (eN kLst (aCons (eK (.int 0)) (aCons (eK (.int 0)) aNil)))) (sSeq (sSet (gT [gN 3, gN 4]) (eN kTup (aCons (eN (F_law_setting) (aCons (eVar 0) (aCons (eVar 1) aNil))) (aCons (eN (F_law_rule) (aCons (eVar 0) (aCons (eVar 1) aNil))) aNil)))) (sSeq (sSet (gT [gN 5, gN 6]) (eN kTup (aCons (eN (ePure F_left_alone) (aCons (eVar 3) (aCons (eVar 4) aNil))) (aCons (eN (ePure F_notes_along) (aCons (eVar 3) (aCons (eVar 4) (aCons (e2 kAdd (eN kLstF (aCons (eK (.int 1)) aNil)) (e2 kMul (eN kLstF (aCons (eK (.int 0)) aNil)) (eK (.int 39)))) aNil)))) aNil)))) (sSeq (sIf (tOr (tV (e2 kGt (e2 kSub_ (eVar 5) (eK (.int 0))) (e2 kSub_ (eVar 5) (eK (.int 1))))) (tOr (tV (e2 kLt (e2 kSub_ (eVar 5) (eK (.int 1))) (eK (.int 1)))) (tV (e2 kGt (eN kMaxL (aCons (eVar 6) aNil)) (eK (.int 1)))))) (sRet (eK (.bl false))) (sNil)) (sSeq (sSet (gN 2) (eSlice (eVar 6) (oE (eK (.int 16))) (oE (eK (.int 40))))) (sRet (e2 kEq (e2 kMul (eN kSum (aCons (eVar 2) aNil)) (e2 kSub_ (eVar 5) (eK (.int 1)))) (e2 kMul (e2 kSub_ (eVar 5) (eK (.int 0))) (eK (.int 24)))))))))
def F_law_k20 : Fn := mkFn 1 7 k_law_k20
/-! law: law_script, law_town, law_times, law_gap, law_many, law_answers_here, law_lefts, law_setting_here, law_rule_here, law_begin, law_number, law_gaps, law_due, law_at -/
def b_law_k21_0 : Sv := sSeq (sAug 13 kAddI (eVar 3)) (sIf (tV (e2 kLt (eVar 13) (eK (.int 40)))) (sPut kSet_ (eVar 12) (eVar 13) (eK (.int 1))) (sNil))
def b_law_k21_1 : Sv := sSeq (sSet (gN 3) (eVar 10)) (sSeq (sIf (tV (e2 kEq (e2 kSub_ (eVar 8) (eK (.int 0))) (eK (.str "sooner")))) (sSet (gN 3) (eN kMax2 (aCons (eK (.int 1)) (aCons (e2 kSub (eVar 10) (eVar 2)) aNil)))) (sNil)) (sSeq (sIf (tV (e2 kEq (e2 kSub_ (eVar 8) (eK (.int 0))) (eK (.str "slower")))) (sSet (gN 3) (eN kMin2 (aCons (eVar 10) (aCons (e2 kAdd (eVar 2) (eK (.int 1))) aNil)))) (sNil)) (sExpr (eM mAppend (eVar 11) (aCons (eVar 3) aNil)))))
def k_law_k21 : Sv := sSeq (sSet (gN 1) (eN kLst (aCons (eK (.int 0)) (aCons (eK (.int 0)) aNil)))) (sSeq (sSet (gT [gN 7, gN 8]) (eN kTup (aCons (eN (F_law_setting) (aCons (eVar 0) (aCons (eVar 1) aNil))) (aCons (eN (F_law_rule) (aCons (eVar 0) (aCons (eVar 1) aNil))) aNil)))) (sSeq (sSet (gT [gN 9, gN 10, gN 11]) (eN kTup (aCons (eN (F_law_draw) (aCons (eVar 0) (aCons (eVar 1) (aCons (eK (.int 9)) aNil)))) (aCons (e2 kSub_ (eVar 8) (eK (.int 1))) (aCons (eN kLst (aNil)) aNil))))) (sSeq (sFor (iRange1 (eK (.int 12))) (gN 2) (b_law_k21_1)) (sSeq (sIf (tV (e2 kEq (e2 kSub_ (eVar 8) (eK (.int 0))) (eK (.str "times")))) (sSet (gN 11) (eSlice (eVar 11) (oNo) (oE (e2 kSub_ (eVar 8) (eK (.int 2)))))) (sNil)) (sSeq (sSet (gT [gN 12, gN 13]) (eN kTup (aCons (e2 kMulT (eN kLstF (aCons (eK (.int 0)) aNil)) (eK (.int 40))) (aCons (eVar 9) aNil)))) (sSeq (sFor (iAny (eVar 11)) (gN 3) (b_law_k21_0)) (sSeq (sSet (gN 4) (eIf (tV (e2 kLt (eN kLen (aCons (eVar 11) aNil)) (eK (.int 12)))) (eK (.int 40)) (eN kMin2 (aCons (eK (.int 40)) (aCons (e2 kAdd (eVar 13) (eK (.int 1))) aNil))))) (sSeq (sSet (gN 5) (e2 kAdd (e2 kAdd (e2 kMul (eN kLstF (aCons (eK (.int 0)) aNil)) (eVar 9)) (eN kLstF (aCons (eK (.int 1)) aNil))) (e2 kMul (eN kLstF (aCons (eK (.int 0)) aNil)) (e2 kSub (eK (.int 39)) (eVar 9))))) (sSeq (sIf (tV (e2 kNe (eN (ePure F_notes_along) (aCons (eVar 7) (aCons (eVar 8) (aCons (eSlice (eVar 5) (oNo) (oE (eVar 4))) aNil)))) (eSlice (eVar 12) (oNo) (oE (eVar 4))))) (sRet (eK (.bl false))) (sNil)) (sSeq (sSet (gN 6) (eN (ePure F_lefts_along) (aCons (eVar 7) (aCons (eVar 8) (aCons (eVar 5) aNil))))) (sRet (eAnd (e2 kEq (eSlice (eVar 6) (oNo) (oE (eVar 9))) (e2 kMul (eN kLstF (aCons (eN kTup (aNil)) aNil)) (eVar 9))) (e2 kEq (e2 kEq (e2 kSub_ (eVar 8) (eK (.int 0))) (eK (.str "times"))) (e2 kEq (e2 kSub_ (eVar 6) (eNeg (eK (.int 1)))) (eN kTup (aCons (eK .non) aNil))))))))))))))))
def F_law_k21 : Fn := mkFn 1 14 k_law_k21
/-! law: law_script, law_town, law_first, law_answers_here, law_put, law_notes, law_idle, law_late, law_plain, law_gap, law_alike, law_setting_here, law_rule_here -/
def k_law_k22 : Sv := sSeq (sSet (gN 1) (eN kLst (aCons (eK (.int 0)) (aCons (eK (.int 0)) aNil)))) (sSeq (sSet (gT [gN 11, gN 12]) (eN kTup (aCons (eN (F_law_setting) (aCons (eVar 0) (aCons (eVar 1) aNil))) (aCons (eN (F_law_rule) (aCons (eVar 0) (aCons (eVar 1) aNil))) aNil)))) (sSeq (sSet (gN 2) (eIf (tV (e2 kEq (e2 kSub_ (eVar 12) (eK (.int 0))) (eK (.str "slower")))) (eK (.int 1)) (e2 kSub_ (eVar 12) (eK (.int 1))))) (sSeq (sSet (gN 3) (e2 kAdd (e2 kAdd (e2 kAdd (eN kLstF (aCons (eK (.int 1)) aNil)) (e2 kMul (eN kLstF (aCons (eK (.int 0)) aNil)) (eVar 2))) (eN kLstF (aCons (eK (.int 3)) aNil))) (e2 kMul (eN kLstF (aCons (eK (.int 0)) aNil)) (eK (.int 12))))) (sSeq (sSet (gN 4) (eIf (tV (e2 kEq (e2 kSub_ (eVar 12) (eK (.int 0))) (eK (.str "quiet")))) (e2 kSub_ (eVar 12) (eK (.int 1))) (e2 kSub_ (eVar 11) (eK (.int 1))))) (sSeq (sSet (gN 5) (eN (ePure F_notes_along) (aCons (eVar 11) (aCons (eVar 12) (aCons (eVar 3) aNil))))) (sSeq (sIf (tV (e2 kNe (eSlice (eVar 5) (oNo) (oE (e2 kAdd (e2 kAdd (eVar 2) (eVar 4)) (eK (.int 2))))) (e2 kAdd (e2 kAdd (e2 kAdd (e2 kMul (eN kLstF (aCons (eK (.int 0)) aNil)) (eVar 2)) (eN kLstF (aCons (eK (.int 1)) aNil))) (e2 kMul (eN kLstF (aCons (eK (.int 0)) aNil)) (eVar 4))) (eN kLstF (aCons (eK (.int 1)) aNil))))) (sRet (eK (.bl false))) (sNil)) (sSeq (sIf (tV (e2 kNe (e2 kSub_ (eN (ePure F_lefts_along) (aCons (eVar 11) (aCons (eVar 12) (aCons (eVar 3) aNil)))) (e2 kAdd (eVar 2) (eK (.int 1)))) (eN kTup (aCons (eVar 4) aNil)))) (sRet (eK (.bl false))) (sNil)) (sSeq (sSet (gN 6) (e2 kAdd (e2 kAdd (eN kLstF (aCons (eK (.int 1)) aNil)) (e2 kMul (eN kLstF (aCons (eK (.int 3)) aNil)) (e2 kSub (eVar 2) (eK (.int 1))))) (eN kLstF (aCons (eK (.int 0)) aNil)))) (sSeq (sIf (tV (e2 kNe (eN (ePure F_notes_along) (aCons (eVar 11) (aCons (eVar 12) (aCons (eVar 6) aNil)))) (e2 kAdd (e2 kMul (eN kLstF (aCons (eK (.int 0)) aNil)) (eVar 2)) (eN kLstF (aCons (eK (.int 1)) aNil))))) (sRet (eK (.bl false))) (sNil)) (sSeq (sSet (gN 7) (e2 kAdd (e2 kAdd (eN kLstF (aCons (eK (.int 1)) aNil)) (e2 kMul (eN kLstF (aCons (eK (.int 0)) aNil)) (e2 kAdd (eVar 2) (eK (.int 1))))) (eN kLstF (aCons (eK (.int 3)) aNil)))) (sSeq (sSet (gN 8) (e2 kAdd (eN kLstF (aCons (eK (.int 1)) aNil)) (e2 kMul (eN kLstF (aCons (eK (.int 0)) aNil)) (e2 kAdd (eVar 2) (eK (.int 2)))))) (sSeq (sSet (gN 9) (eIf (tOr (tAnd (tV (e2 kEq (e2 kSub_ (eVar 12) (eK (.int 0))) (eK (.str "sooner")))) (tV (e2 kLt (e2 kSub_ (eVar 12) (eK (.int 1))) (eK (.int 3))))) (tV (e2 kEq (e2 kSub_ (eVar 12) (eK (.int 1))) (eK (.int 1))))) (eK (.int 1)) (eK (.int 2)))) (sSeq (sSet (gN 10) (e2 kEq (eN (ePure F_notes_along) (aCons (eVar 11) (aCons (eVar 12) (aCons (eVar 7) aNil)))) (eN (ePure F_notes_along) (aCons (eVar 11) (aCons (eVar 12) (aCons (eVar 8) aNil)))))) (sRet (eOr (e2 kEq (eVar 9) (eK (.int 1))) (eVar 10))))))))))))))))
def F_law_k22 : Fn := mkFn 1 13 k_law_k22
/-! law: law_script, law_town, law_two, law_alone, law_at, law_idle, law_put, law_rule_here, law_gap, law_wait, law_setting_here, law_first, law_second -/
def k_law_k23 : Sv := sSeq (sSet (gN 1) (eN kLst (aCons (eK (.int 0)) (aCons (eK (.int 0)) aNil)))) (sSeq (sSet (gT [gN 6, gN 7, gN 8]) (eN kTup (aCons (e2 kAdd (eK (.int 1)) (eN (F_law_draw) (aCons (eVar 0) (aCons (eVar 1) (aCons (eK (.int 3)) aNil))))) (aCons (eN (F_law_rule) (aCons (eVar 0) (aCons (eVar 1) aNil))) (aCons (e2 kAdd (eK (.int 1)) (eN (F_law_draw) (aCons (eVar 0) (aCons (eVar 1) (aCons (eK (.int 6)) aNil))))) aNil))))) (sSeq (sIf (tV (e2 kEq (e2 kSub_ (eVar 7) (eK (.int 0))) (eK (.str "quiet")))) (sSet (gN 7) (eN kTup (aCons (eK (.str "every")) (aCons (e2 kSub_ (eVar 7) (eK (.int 1))) aNil)))) (sNil)) (sSeq (sSet (gT [gN 9, gN 10]) (eN kTup (aCons (e2 kAdd (eK (.int 1)) (eN (F_law_draw) (aCons (eVar 0) (aCons (eVar 1) (aCons (eK (.int 6)) aNil))))) (aCons (eN kTup (aCons (eK (.int 2)) (aCons (eVar 6) aNil))) aNil)))) (sSeq (sSet (gN 2) (e2 kAdd (e2 kAdd (e2 kAdd (e2 kAdd (e2 kAdd (eN kLstF (aCons (eK (.int 1)) aNil)) (e2 kMul (eN kLstF (aCons (eK (.int 0)) aNil)) (e2 kSub (eVar 8) (eK (.int 1))))) (eN kLstF (aCons (eK (.int 1)) aNil))) (e2 kMul (eN kLstF (aCons (eK (.int 0)) aNil)) (e2 kSub (eVar 9) (eK (.int 1))))) (eN kLstF (aCons (eK (.int 2)) aNil))) (e2 kMul (eN kLstF (aCons (eK (.int 0)) aNil)) (eK (.int 15))))) (sSeq (sSet (gN 3) (e2 kAdd (e2 kAdd (e2 kAdd (e2 kAdd (e2 kMul (eN kLstF (aCons (eK (.int 0)) aNil)) (eVar 8)) (eN kLstF (aCons (eK (.int 1)) aNil))) (e2 kMul (eN kLstF (aCons (eK (.int 0)) aNil)) (e2 kSub (eVar 9) (eK (.int 1))))) (eN kLstF (aCons (eK (.int 0)) aNil))) (e2 kMul (eN kLstF (aCons (eK (.int 0)) aNil)) (eK (.int 15))))) (sSeq (sSet (gT [gN 11, gN 12]) (eN kTup (aCons (eN (ePure F_notes_along) (aCons (eVar 10) (aCons (eVar 7) (aCons (eVar 2) aNil)))) (aCons (eN (ePure F_notes_along) (aCons (eVar 10) (aCons (eVar 7) (aCons (eVar 3) aNil)))) aNil)))) (sSeq (sSet (gN 4) (e2 kAdd (eVar 8) (eVar 9))) (sSeq (sIf (tV (e2 kNe (eSlice (eVar 11) (oE (eVar 4)) (oNo)) (eSlice (eVar 12) (oE (eVar 4)) (oNo)))) (sRet (eK (.bl false))) (sNil)) (sSeq (sIf (tV (e2 kNe (eSlice (eN (ePure F_lefts_along) (aCons (eVar 10) (aCons (eVar 7) (aCons (eVar 2) aNil)))) (oE (eVar 4)) (oNo)) (eSlice (eN (ePure F_lefts_along) (aCons (eVar 10) (aCons (eVar 7) (aCons (eVar 3) aNil)))) (oE (eVar 4)) (oNo)))) (sRet (eK (.bl false))) (sNil)) (sSeq (sSet (gN 5) (e2 kAdd (e2 kMul (eN kLstF (aCons (eK (.int 2)) aNil)) (eK (.int 9))) (eVar 3))) (sRet (e2 kEq (eN (ePure F_notes_along) (aCons (eVar 10) (aCons (eVar 7) (aCons (eVar 5) aNil)))) (e2 kAdd (e2 kMul (eN kLstF (aCons (eK (.int 0)) aNil)) (eK (.int 9))) (eVar 12))))))))))))))
def F_law_k23 : Fn := mkFn 1 13 k_law_k23
/-! law: law_script, law_town, law_answers_here, law_places, law_due, law_at, law_setting_here, law_rule_here, law_alone, law_answer, law_one, law_other -/
def e_law_k24_0 : Ev := e2 kAdd (eVar 10) (eVar 11)
def b_law_k24_1 : Sv := sSeq (sSet (gN 8) (eN (ePure F_notes_along) (aCons (eVar 6) (aCons (eVar 7) (aCons (e2 kAdd (e2 kAdd (e2 kMul (eN kLstF (aCons (eK (.int 0)) aNil)) (eVar 5)) (eN kLstF (aCons (eK (.int 1)) aNil))) (e2 kMul (eN kLstF (aCons (eK (.int 0)) aNil)) (e2 kSub (e2 kSub (eN kLen (aCons (eVar 2) aNil)) (eVar 5)) (eK (.int 1))))) aNil))))) (sSet (gN 4) (eLcF (PyD.iZip (eVar 4) (eVar 8)) (gT [gN 10, gN 11]) (PyD.tYes) (e_law_k24_0) [10, 11]))
def t_law_k24_2 : Tv := tV (e2 kEq (eVar 9) (eK (.int 1)))
def e_law_k24_3 : Ev := eVar 5
def e_law_k24_4 : Ev := eN kMin2 (aCons (eK (.int 1)) (aCons (eVar 9) aNil))
def k_law_k24 : Sv := sSeq (sSet (gN 1) (eN kLst (aCons (eK (.int 0)) (aCons (eK (.int 0)) aNil)))) (sSeq (sSet (gT [gN 6, gN 7]) (eN kTup (aCons (eN kTup (aCons (eK (.int 2)) (aCons (e2 kAdd (eK (.int 1)) (eN (F_law_draw) (aCons (eVar 0) (aCons (eVar 1) (aCons (eK (.int 3)) aNil))))) aNil))) (aCons (eN (F_law_rule) (aCons (eVar 0) (aCons (eVar 1) aNil))) aNil)))) (sSeq (sIf (tV (e2 kEq (e2 kSub_ (eVar 7) (eK (.int 0))) (eK (.str "quiet")))) (sSet (gN 7) (eN kTup (aCons (eK (.str "slower")) (aCons (e2 kSub_ (eVar 7) (eK (.int 1))) aNil)))) (sNil)) (sSeq (sSet (gN 2) (eLcF (iAny (eN (F_law_answers) (aCons (eVar 0) (aCons (eVar 1) (aCons (eK (.int 40)) aNil))))) (gN 9) (PyD.tYes) (e_law_k24_4) [9])) (sSeq (sSet (gN 3) (eSlice (eLcF (PyD.iEnum (eVar 2)) (gT [gN 5, gN 9]) (t_law_k24_2) (e_law_k24_3) [5, 9]) (oNo) (oE (eK (.int 2))))) (sSeq (sSet (gN 4) (e2 kMul (eN kLstF (aCons (eK (.int 0)) aNil)) (eN kLen (aCons (eVar 2) aNil)))) (sSeq (sFor (iAny (eVar 3)) (gN 5) (b_law_k24_1)) (sRet (e2 kEq (eN (ePure F_notes_along) (aCons (eVar 6) (aCons (eVar 7) (aCons (eVar 2) aNil)))) (eVar 4)))))))))
def F_law_k24 : Fn := mkFn 1 12 k_law_k24
/-! law: law_script, law_town, law_answers_here, law_setting_here, law_number, law_opens, law_before, law_last, law_at, law_note, law_changed, law_due, law_answer -/
def b_law_k25_0 : Sv := sSeq (sSet (gN 10) (e2 kNe (e2 kSub_ (eVar 5) (eVar 8)) (eVar 6))) (sSeq (sSet (gN 7) (eIf (tV (eVar 10)) (eK (.int 0)) (e2 kAdd (eVar 7) (eK (.int 1))))) (sSeq (sSet (gN 11) (eIf (tAnd (tV (e2 kGt (eVar 7) (eK (.int 0)))) (tV (e2 kEq (e2 kMod (eVar 7) (eVar 4)) (eK (.int 0))))) (e2 kSub_ (eVar 5) (eVar 8)) (eK (.int 0)))) (sSeq (sIf (tV (e2 kNe (eVar 9) (eVar 11))) (sRet (eK (.bl false))) (sNil)) (sSet (gN 6) (e2 kSub_ (eVar 5) (eVar 8))))))
def e_law_k25_1 : Ev := eN kMin2 (aCons (eK (.int 2)) (aCons (eVar 12) aNil))
def k_law_k25 : Sv := sSeq (sSet (gN 1) (eN kLst (aCons (eK (.int 0)) (aCons (eK (.int 0)) aNil)))) (sSeq (sSet (gT [gN 3, gN 4]) (eN kTup (aCons (eN (F_law_setting) (aCons (eVar 0) (aCons (eVar 1) aNil))) (aCons (e2 kAdd (eK (.int 1)) (eN (F_law_draw) (aCons (eVar 0) (aCons (eVar 1) (aCons (eK (.int 4)) aNil))))) aNil)))) (sSeq (sSet (gN 2) (eLcF (iAny (eN (F_law_answers) (aCons (eVar 0) (aCons (eVar 1) (aCons (eK (.int 40)) aNil))))) (gN 12) (PyD.tYes) (e_law_k25_1) [12])) (sSeq (sSet (gT [gN 5, gN 6, gN 7]) (eN kTup (aCons (eN (ePure F_opens_along) (aCons (eVar 3) (aCons (eN kTup (aCons (eK (.str "quiet")) (aCons (eVar 4) aNil))) (aCons (eVar 2) aNil)))) (aCons (eK (.int 0)) (aCons (eK (.int 0)) aNil))))) (sSeq (sFor (PyD.iEnum (eN (ePure F_notes_along) (aCons (eVar 3) (aCons (eN kTup (aCons (eK (.str "quiet")) (aCons (eVar 4) aNil))) (aCons (eVar 2) aNil))))) (gT [gN 8, gN 9]) (b_law_k25_0)) (sRet (eK (.bl true)))))))
def F_law_k25 : Fn := mkFn 1 13 k_law_k25
/-! wall: k -/
def w_wall_0 : Tv := tV (eK (.bl true))
def b_wall_1 : Sv := sNil
def k_wall : Sv := sWhile (w_wall_0) (b_wall_1)
def F_wall : PFn := mkP 1 1 k_wall
/-! Desk__init_: self, setting, rule -/
def k_Desk__init_ : Sv := sSeq (sExpr (eN (ePure F_need_both) (aCons (eVar 1) (aCons (eVar 2) aNil)))) (sSeq (sFldS "Desk" "setting" (eVar 0) (eVar 1)) (sSeq (sFldS "Desk" "rule" (eVar 0) (eVar 2)) (sSeq (sFldS "Desk" "past" (eVar 0) (eN kLst (aNil))) (sFldS "Desk" "undone" (eVar 0) (eN kLst (aNil))))))
def F_Desk__init_ : Fn := mkFn 3 3 k_Desk__init_
/-! Desk__len_: self -/
def k_Desk__len_ : Sv := sRet (eN kLen (aCons (eFld "Desk" "past" (eVar 0)) aNil))
def F_Desk__len_ : Fn := mkZ 1 1 k_Desk__len_
/-! run_Z: setting, rule, answers, answer, place, found, note -/
def b_run_Z_0 : Sv := sSeq (sSet (gT [gN 4, gN 6]) (eN (ePure F_tick) (aCons (eVar 0) (aCons (eVar 1) (aCons (eVar 4) (aCons (eVar 3) aNil)))))) (sExpr (eM mAppend (eVar 5) (aCons (eN kTup (aCons (eVar 4) (aCons (eVar 6) aNil))) aNil)))
def k_run_Z : Sv := sSeq (sSet (gT [gN 4, gN 5]) (eN kTup (aCons (eN (ePure F_begun) (aNil)) (aCons (eN kLst (aNil)) aNil)))) (sSeq (sFor (iAny (eVar 2)) (gN 3) (b_run_Z_0)) (sRet (eVar 5)))
def F_run_Z : Fn := mkZ 3 7 k_run_Z
/-! notes_of_Z: setting, rule, answers, place, note -/
def e_notes_of_Z_0 : Ev := eVar 4
def k_notes_of_Z : Sv := sRet (eLcF (iAny (eN (F_run_Z) (aCons (eVar 0) (aCons (eVar 1) (aCons (eVar 2) aNil))))) (gT [gN 3, gN 4]) (PyD.tYes) (e_notes_of_Z_0) [3, 4])
def F_notes_of_Z : Fn := mkZ 3 5 k_notes_of_Z
/-! Desk_notes: self -/
def k_Desk_notes : Sv := sRet (eN (F_notes_of_Z) (aCons (eFld "Desk" "setting" (eVar 0)) (aCons (eFld "Desk" "rule" (eVar 0)) (aCons (eFld "Desk" "past" (eVar 0)) aNil))))
def F_Desk_notes : Fn := mkZ 1 1 k_Desk_notes
/-! Desk_rings: self -/
def k_Desk_rings : Sv := sRet (eN kSum (aCons (eMeth "Desk" "notes" (F_Desk_notes) (eVar 0) (aNil)) aNil))
def F_Desk_rings : Fn := mkZ 1 1 k_Desk_rings
/-! Desk_answers: self -/
def k_Desk_answers : Sv := sRet (eN kListOfF (aCons (eFld "Desk" "past" (eVar 0)) aNil))
def F_Desk_answers : Fn := mkZ 1 1 k_Desk_answers
/-! Desk_open_things: self, found -/
def k_Desk_open_things : Sv := sSeq (sSet (gN 1) (eN (F_run_Z) (aCons (eFld "Desk" "setting" (eVar 0)) (aCons (eFld "Desk" "rule" (eVar 0)) (aCons (eFld "Desk" "past" (eVar 0)) aNil))))) (sRet (eN kLen (aCons (eIf (tV (e2 kNe (eVar 1) (eN kLstF (aNil)))) (e2 kSub_ (e2 kSub_ (eVar 1) (eNeg (eK (.int 1)))) (eK (.int 0))) (eN (ePure F_begun) (aNil))) aNil)))
def F_Desk_open_things : Fn := mkZ 1 2 k_Desk_open_things
/-! Desk_answers_R: self -/
def k_Desk_answers_R : Sv := sRet (eN kListOf (aCons (eFld "Desk" "past" (eVar 0)) aNil))
def F_Desk_answers_R : Fn := mkFn 1 1 k_Desk_answers_R
/-! notes_of_R: setting, rule, answers, place, note -/
def e_notes_of_R_0 : Ev := eVar 4
def k_notes_of_R : Sv := sRet (eLc (iAny (eN (F_run_Z) (aCons (eVar 0) (aCons (eVar 1) (aCons (eVar 2) aNil))))) (gT [gN 3, gN 4]) (PyD.tYes) (e_notes_of_R_0) [3, 4])
def F_notes_of_R : Fn := mkFn 3 5 k_notes_of_R
/-! Desk_notes_R: self -/
def k_Desk_notes_R : Sv := sRet (eN (F_notes_of_R) (aCons (eFld "Desk" "setting" (eVar 0)) (aCons (eFld "Desk" "rule" (eVar 0)) (aCons (eFld "Desk" "past" (eVar 0)) aNil))))
def F_Desk_notes_R : Fn := mkFn 1 1 k_Desk_notes_R
/-! Desk_tick: self, answer -/
def k_Desk_tick : Sv := sSeq (sIf (tNot (tV (eN (ePure F_is_int) (aCons (eVar 1) (aCons (eK (.int 0)) (aCons (eK (.int 3)) aNil)))))) (sNever) (sNil)) (sSeq (sIf (tV (e2 kEq (eN kLen (aCons (eFld "Desk" "past" (eVar 0)) aNil)) (eK (.int 40)))) (sNever) (sNil)) (sSeq (sExpr (eM mAppend (eFld "Desk" "past" (eVar 0)) (aCons (eVar 1) aNil))) (sSeq (sFldS "Desk" "undone" (eVar 0) (eN kLst (aNil))) (sRet (e2 kSub_ (eMeth "Desk" "notes" (F_Desk_notes) (eVar 0) (aNil)) (eNeg (eK (.int 1))))))))
def F_Desk_tick : Fn := mkFn 2 2 k_Desk_tick
/-! law: law_script, law_town, law_setting_here, law_rule_here, law_answers_here, law_desk, law_notes, law_opens, law_at, law_answer -/
def b_law_k26_0 : Sv := sIf (tOr (tV (e2 kNe (eMeth "Desk" "tick" (F_Desk_tick) (eVar 5) (aCons (eVar 9) aNil)) (e2 kSub_ (eVar 6) (eVar 8)))) (tV (e2 kNe (eMeth "Desk" "open_things" (F_Desk_open_things) (eVar 5) (aNil)) (e2 kSub_ (eVar 7) (eVar 8))))) (sRet (eK (.bl false))) (sNil)
def k_law_k26 : Sv := sSeq (sSet (gN 1) (eN kLst (aCons (eK (.int 0)) (aCons (eK (.int 0)) aNil)))) (sSeq (sSet (gT [gN 2, gN 3]) (eN kTup (aCons (eN (F_law_setting) (aCons (eVar 0) (aCons (eVar 1) aNil))) (aCons (eN (F_law_rule) (aCons (eVar 0) (aCons (eVar 1) aNil))) aNil)))) (sSeq (sSet (gT [gN 4, gN 5]) (eN kTup (aCons (eN (F_law_answers) (aCons (eVar 0) (aCons (eVar 1) (aCons (eK (.int 40)) aNil)))) (aCons (eMake "Desk" (F_Desk__init_) (aCons (eVar 2) (aCons (eVar 3) aNil))) aNil)))) (sSeq (sIf (tOr (tV (e2 kNe (eLenO "Desk" (F_Desk__len_) (eVar 5)) (eK (.int 0)))) (tOr (tV (e2 kNe (eMeth "Desk" "answers" (F_Desk_answers) (eVar 5) (aNil)) (eN kLstF (aNil)))) (tOr (tV (e2 kNe (eMeth "Desk" "notes" (F_Desk_notes) (eVar 5) (aNil)) (eN kLstF (aNil)))) (tV (e2 kNe (eMeth "Desk" "open_things" (F_Desk_open_things) (eVar 5) (aNil)) (eK (.int 0))))))) (sRet (eK (.bl false))) (sNil)) (sSeq (sIf (tV (e2 kNe (eMeth "Desk" "rings" (F_Desk_rings) (eVar 5) (aNil)) (eK (.int 0)))) (sRet (eK (.bl false))) (sNil)) (sSeq (sSet (gT [gN 6, gN 7]) (eN kTup (aCons (eN (ePure F_notes_along) (aCons (eVar 2) (aCons (eVar 3) (aCons (eVar 4) aNil)))) (aCons (eN (ePure F_opens_along) (aCons (eVar 2) (aCons (eVar 3) (aCons (eVar 4) aNil)))) aNil)))) (sSeq (sFor (PyD.iEnum (eVar 4)) (gT [gN 8, gN 9]) (b_law_k26_0)) (sSeq (sExpr (eM mAppend (eMeth "Desk" "answers" (F_Desk_answers_R) (eVar 5) (aNil)) (aCons (eK (.int 9)) aNil))) (sSeq (sExpr (eM mAppend (eMeth "Desk" "notes" (F_Desk_notes_R) (eVar 5) (aNil)) (aCons (eK (.int 9)) aNil))) (sSeq (sIf (tOr (tV (e2 kNe (eMeth "Desk" "answers" (F_Desk_answers) (eVar 5) (aNil)) (eVar 4))) (tOr (tV (e2 kNe (eMeth "Desk" "notes" (F_Desk_notes) (eVar 5) (aNil)) (eVar 6))) (tV (e2 kNe (eLenO "Desk" (F_Desk__len_) (eVar 5)) (eN kLen (aCons (eVar 4) aNil)))))) (sRet (eK (.bl false))) (sNil)) (sRet (e2 kEq (eMeth "Desk" "rings" (F_Desk_rings) (eVar 5) (aNil)) (eN kSum (aCons (eVar 6) aNil)))))))))))))
def F_law_k26 : Fn := mkFn 1 10 k_law_k26
/-! Desk_undo: self -/
def k_Desk_undo : Sv := sSeq (sIf (tV (e2 kEq (eFld "Desk" "past" (eVar 0)) (eN kLstF (aNil)))) (sNever) (sNil)) (sSeq (sExpr (eM mAppend (eFld "Desk" "undone" (eVar 0)) (aCons (eM mPop (eFld "Desk" "past" (eVar 0)) aNil) aNil))) (sRet (e2 kSub_ (eFld "Desk" "undone" (eVar 0)) (eNeg (eK (.int 1))))))
def F_Desk_undo : Fn := mkFn 1 1 k_Desk_undo
/-! Desk_redo: self -/
def k_Desk_redo : Sv := sSeq (sIf (tV (e2 kEq (eFld "Desk" "undone" (eVar 0)) (eN kLstF (aNil)))) (sNever) (sNil)) (sSeq (sExpr (eM mAppend (eFld "Desk" "past" (eVar 0)) (aCons (eM mPop (eFld "Desk" "undone" (eVar 0)) aNil) aNil))) (sRet (e2 kSub_ (eFld "Desk" "past" (eVar 0)) (eNeg (eK (.int 1))))))
def F_Desk_redo : Fn := mkFn 1 1 k_Desk_redo
/-! Desk_copy: self, other -/
def k_Desk_copy : Sv := sSeq (sSet (gN 1) (eMake "Desk" (F_Desk__init_) (aCons (eFld "Desk" "setting" (eVar 0)) (aCons (eFld "Desk" "rule" (eVar 0)) aNil)))) (sSeq (sFldS "Desk" "past" (eVar 1) (eN kListOf (aCons (eFld "Desk" "past" (eVar 0)) aNil))) (sSeq (sFldS "Desk" "undone" (eVar 1) (eN kListOf (aCons (eFld "Desk" "undone" (eVar 0)) aNil))) (sRet (eVar 1))))
def F_Desk_copy : Fn := mkFn 1 2 k_Desk_copy
/-! law: law_script, law_town, law_many, law_layer, law_turn, law_told, law_last, law_setting_here, law_rule_here, law_best, law_state, law_total, law_answer, law_old, law_name, law_new, law_note -/
def e_law_k30_0 : Ev := eVar 11
def e_law_k30_1 : Ev := e2 kSub_ (eVar 9) (eVar 14)
def b_law_k30_2 : Sv := sSeq (sSet (gT [gN 15, gN 16]) (eN (ePure F_law_tick) (aCons (eVar 7) (aCons (eVar 8) (aCons (eVar 10) (aCons (eVar 12) aNil)))))) (sSeq (sSet (gN 13) (eMD mGet (eVar 9) (aCons (eN (ePure F_law_key) (aCons (eVar 8) (aCons (eVar 15) aNil))) (aCons (eN kTup (aCons (eVar 15) (aCons (eNeg (eK (.int 1))) aNil))) aNil)))) (sPut kSet_ (eVar 9) (eN (ePure F_law_key) (aCons (eVar 8) (aCons (eVar 15) aNil))) (eN kTup (aCons (eVar 15) (aCons (eN kMax2 (aCons (e2 kSub_ (eVar 13) (eK (.int 1))) (aCons (e2 kAdd (eVar 11) (eVar 16)) aNil))) aNil)))))
def b_law_k30_3 : Sv := sFor (iAny (eN kTup (aCons (eK (.int 0)) (aCons (eK (.int 1)) (aCons (eK (.int 2)) (aCons (eK (.int 3)) aNil)))))) (gN 12) (b_law_k30_2)
def b_law_k30_4 : Sv := sSeq (sSet (gN 9) (eN kDict0 aNil)) (sSeq (sFor (iAny (eVar 3)) (gT [gN 10, gN 11]) (b_law_k30_3)) (sSet (gN 3) (eLcF (iAny (eVar 9)) (gN 14) (PyD.tYes) (e_law_k30_1) [14])))
def k_law_k30 : Sv := sSeq (sSet (gN 1) (eN kLst (aCons (eK (.int 0)) (aCons (eK (.int 0)) aNil)))) (sSeq (sSet (gT [gN 7, gN 8]) (eN kTup (aCons (eN (F_law_setting) (aCons (eVar 0) (aCons (eVar 1) aNil))) (aCons (eN (F_law_rule) (aCons (eVar 0) (aCons (eVar 1) aNil))) aNil)))) (sSeq (sSet (gN 2) (eN (F_law_draw) (aCons (eVar 0) (aCons (eVar 1) (aCons (eK (.int 6)) aNil))))) (sSeq (sSet (gN 3) (eN kLstF (aCons (eN kTup (aCons (eN kLstF (aNil)) (aCons (eK (.int 0)) aNil))) aNil))) (sSeq (sFor (iRange1 (eVar 2)) (gN 4) (b_law_k30_4)) (sSeq (sSet (gN 5) (eN (ePure F_naive_rings) (aCons (eVar 7) (aCons (eVar 8) (aCons (eVar 2) aNil))))) (sSeq (sIf (tV (e2 kNe (eVar 5) (eN kMaxL (aCons (eLcF (iAny (eVar 3)) (gT [gN 10, gN 11]) (PyD.tYes) (e_law_k30_0) [10, 11]) aNil)))) (sRet (eK (.bl false))) (sNil)) (sSeq (sSet (gN 6) (eN (ePure F_naive_rings) (aCons (eVar 7) (aCons (eVar 8) (aCons (eN kMax2 (aCons (eK (.int 0)) (aCons (e2 kSub (eVar 2) (eK (.int 1))) aNil))) aNil))))) (sRet (eChain kLe kLe (eVar 6) (eVar 5) (e2 kAdd (eVar 6) (e2 kSub_ (eVar 7) (eK (.int 0)))))))))))))
def F_law_k30 : Fn := mkFn 1 17 k_law_k30
/-! law: law_script, law_town, law_answers_here, law_lefts, law_turn, law_setting_here, law_rule_here, law_notes, law_opens, law_at -/
def b_law_k31_0 : Sv := sSeq (sSet (gN 9) (eN (F_law_draw) (aCons (eVar 0) (aCons (eVar 1) (aCons (e2 kAdd (eN kLen (aCons (eVar 2) aNil)) (eK (.int 1))) aNil))))) (sSeq (sIf (tV (e2 kNe (eN (ePure F_notes_along) (aCons (eVar 5) (aCons (eVar 6) (aCons (eSlice (eVar 2) (oNo) (oE (eVar 9))) aNil)))) (eSlice (eVar 7) (oNo) (oE (eVar 9))))) (sRet (eK (.bl false))) (sNil)) (sSeq (sIf (tV (e2 kNe (eN (ePure F_opens_along) (aCons (eVar 5) (aCons (eVar 6) (aCons (eSlice (eVar 2) (oNo) (oE (eVar 9))) aNil)))) (eSlice (eVar 8) (oNo) (oE (eVar 9))))) (sRet (eK (.bl false))) (sNil)) (sIf (tV (e2 kNe (eN (ePure F_lefts_along) (aCons (eVar 5) (aCons (eVar 6) (aCons (eSlice (eVar 2) (oNo) (oE (eVar 9))) aNil)))) (eSlice (eVar 3) (oNo) (oE (eVar 9))))) (sRet (eK (.bl false))) (sNil))))
def k_law_k31 : Sv := sSeq (sSet (gN 1) (eN kLst (aCons (eK (.int 0)) (aCons (eK (.int 0)) aNil)))) (sSeq (sSet (gT [gN 5, gN 6]) (eN kTup (aCons (eN (F_law_setting) (aCons (eVar 0) (aCons (eVar 1) aNil))) (aCons (eN (F_law_rule) (aCons (eVar 0) (aCons (eVar 1) aNil))) aNil)))) (sSeq (sSet (gN 2) (eN (F_law_answers) (aCons (eVar 0) (aCons (eVar 1) (aCons (eK (.int 40)) aNil))))) (sSeq (sSet (gT [gN 7, gN 8]) (eN kTup (aCons (eN (ePure F_notes_along) (aCons (eVar 5) (aCons (eVar 6) (aCons (eVar 2) aNil)))) (aCons (eN (ePure F_opens_along) (aCons (eVar 5) (aCons (eVar 6) (aCons (eVar 2) aNil)))) aNil)))) (sSeq (sSet (gN 3) (eN (ePure F_lefts_along) (aCons (eVar 5) (aCons (eVar 6) (aCons (eVar 2) aNil))))) (sSeq (sFor (iRange1 (eK (.int 4))) (gN 4) (b_law_k31_0)) (sRet (e2 kEq (eN kLen (aCons (eVar 7) aNil)) (eN kLen (aCons (eVar 2) aNil)))))))))
def F_law_k31 : Fn := mkFn 1 10 k_law_k31
/-! law: law_script, law_town, law_answers_here, law_at, law_setting_here, law_hidden, law_notes, law_last, law_told, law_rule_here -/
def t_law_k32_0 : Tv := tV (e2 kNotIn_ (eVar 9) (eVar 7))
def e_law_k32_1 : Ev := eVar 9
def b_law_k32_2 : Sv := sSeq (sSet (gN 8) (eN (ePure F_could_be) (aCons (eVar 4) (aCons (eSlice (eVar 2) (oNo) (oE (eVar 3))) (aCons (eSlice (eVar 6) (oNo) (oE (eVar 3))) aNil))))) (sSeq (sIf (tOr (tV (e2 kNotIn_ (eVar 5) (eVar 8))) (tV (e2 kNe (eLcF (iAny (eVar 8)) (gN 9) (t_law_k32_0) (e_law_k32_1) [9]) (eN kLstF (aNil))))) (sRet (eK (.bl false))) (sNil)) (sSeq (sIf (tV (e2 kNe (eVar 8) (eN kSortF (aCons (eVar 8) aNil)))) (sRet (eK (.bl false))) (sNil)) (sSet (gN 7) (eVar 8))))
def k_law_k32 : Sv := sSeq (sSet (gN 1) (eN kLst (aCons (eK (.int 0)) (aCons (eK (.int 0)) aNil)))) (sSeq (sSet (gT [gN 4, gN 5]) (eN kTup (aCons (eN (F_law_setting) (aCons (eVar 0) (aCons (eVar 1) aNil))) (aCons (eN (F_law_pick) (aCons (eVar 0) (aCons (eVar 1) (aCons (eN (ePure F_family) (aNil)) aNil)))) aNil)))) (sSeq (sSet (gN 2) (eN (F_law_answers) (aCons (eVar 0) (aCons (eVar 1) (aCons (eK (.int 25)) aNil))))) (sSeq (sSet (gT [gN 6, gN 7]) (eN kTup (aCons (eN (ePure F_notes_along) (aCons (eVar 4) (aCons (eVar 5) (aCons (eVar 2) aNil)))) (aCons (eN (ePure F_family) (aNil)) aNil)))) (sSeq (sFor (iRange1 (e2 kAdd (eN kLen (aCons (eVar 2) aNil)) (eK (.int 1)))) (gN 3) (b_law_k32_2)) (sRet (e2 kEq (eN (ePure F_could_be) (aCons (eVar 4) (aCons (eVar 2) (aCons (e2 kAdd (eVar 6) (eN kLstF (aCons (eK (.int 0)) aNil))) aNil)))) (eN kLstF (aNil))))))))
def F_law_k32 : Fn := mkFn 1 10 k_law_k32
/-! law: law_script, law_town, law_both, law_due, law_rule_here, law_setting_here, law_hidden, law_one, law_other, law_first, law_second -/
def t_law_k33_0 : Tv := tV (e2 kNotIn_ (eVar 4) (eN (ePure F_could_ring) (aCons (eVar 5) (aCons (eVar 9) aNil))))
def e_law_k33_1 : Ev := eVar 4
def b_law_k33_2 : Sv := sIf (tAnd (tV (e2 kEq (eN (ePure F_notes_along) (aCons (eVar 5) (aCons (eVar 4) (aCons (eVar 7) aNil)))) (eVar 9))) (tV (e2 kEq (eN (ePure F_notes_along) (aCons (eVar 5) (aCons (eVar 4) (aCons (eVar 8) aNil)))) (eVar 10)))) (sExpr (eM mAppend (eVar 3) (aCons (eVar 4) aNil))) (sNil)
def t_law_k33_3 : Tv := tV (e2 kIn_ (eVar 4) (eN (ePure F_could_be) (aCons (eVar 5) (aCons (eVar 8) (aCons (eVar 10) aNil)))))
def e_law_k33_4 : Ev := eVar 4
def k_law_k33 : Sv := sSeq (sSet (gN 1) (eN kLst (aCons (eK (.int 0)) (aCons (eK (.int 0)) aNil)))) (sSeq (sSet (gT [gN 5, gN 6]) (eN kTup (aCons (eN (F_law_setting) (aCons (eVar 0) (aCons (eVar 1) aNil))) (aCons (eN (F_law_pick) (aCons (eVar 0) (aCons (eVar 1) (aCons (eN (ePure F_family) (aNil)) aNil)))) aNil)))) (sSeq (sSet (gT [gN 7, gN 8]) (eN kTup (aCons (eN (F_law_answers) (aCons (eVar 0) (aCons (eVar 1) (aCons (eK (.int 7)) aNil)))) (aCons (eN (F_law_answers) (aCons (eVar 0) (aCons (eVar 1) (aCons (eK (.int 7)) aNil)))) aNil)))) (sSeq (sSet (gT [gN 9, gN 10]) (eN kTup (aCons (eN (ePure F_notes_along) (aCons (eVar 5) (aCons (eVar 6) (aCons (eVar 7) aNil)))) (aCons (eN (ePure F_notes_along) (aCons (eVar 5) (aCons (eVar 6) (aCons (eVar 8) aNil)))) aNil)))) (sSeq (sSet (gN 2) (eLcF (iAny (eN (ePure F_could_be) (aCons (eVar 5) (aCons (eVar 7) (aCons (eVar 9) aNil))))) (gN 4) (t_law_k33_3) (e_law_k33_4) [4])) (sSeq (sSet (gN 3) (eN kLst (aNil))) (sSeq (sFor (iAny (eN (ePure F_family) (aNil))) (gN 4) (b_law_k33_2)) (sSeq (sIf (tOr (tV (e2 kNe (eVar 2) (eVar 3))) (tV (e2 kNotIn_ (eVar 6) (eVar 2)))) (sRet (eK (.bl false))) (sNil)) (sRet (e2 kEq (eLcF (iAny (eN (ePure F_could_be) (aCons (eVar 5) (aCons (eVar 7) (aCons (eVar 9) aNil))))) (gN 4) (t_law_k33_0) (e_law_k33_1) [4]) (eN kLstF (aNil)))))))))))
def F_law_k33 : Fn := mkFn 1 11 k_law_k33
/-! law: law_script, law_town, law_value, law_mean, law_desk, law_answer, law_turn, law_setting_here, law_rule_here, law_row, law_loop, law_before -/
def b_law_k34_0 : Sv := sExpr (eMeth "Desk" "tick" (F_Desk_tick) (eVar 4) (aCons (eVar 5) aNil))
def b_law_k34_1 : Sv := sSeq (sSet (gN 11) (eMeth "Desk" "rings" (F_Desk_rings) (eVar 4) (aNil))) (sSeq (sFor (iAny (eVar 10)) (gN 5) (b_law_k34_0)) (sIf (tV (e2 kNe (e2 kMul (e2 kSub (eMeth "Desk" "rings" (F_Desk_rings) (eVar 4) (aNil)) (eVar 11)) (e2 kSub_ (eVar 3) (eK (.int 1)))) (e2 kMul (e2 kSub_ (eVar 3) (eK (.int 0))) (eN kLen (aCons (eVar 10) aNil))))) (sRet (eK (.bl false))) (sNil)))
def b_law_k34_2 : Sv := sExpr (eMeth "Desk" "tick" (F_Desk_tick) (eVar 4) (aCons (eVar 5) aNil))
def k_law_k34 : Sv := sSeq (sSet (gN 1) (eN kLst (aCons (eK (.int 0)) (aCons (eK (.int 0)) aNil)))) (sSeq (sSet (gT [gN 7, gN 8]) (eN kTup (aCons (eN (F_law_setting) (aCons (eVar 0) (aCons (eVar 1) aNil))) (aCons (eN (F_law_rule) (aCons (eVar 0) (aCons (eVar 1) aNil))) aNil)))) (sSeq (sSet (gN 2) (e2 kAdd (eK (.int 1)) (eN (F_law_draw) (aCons (eVar 0) (aCons (eVar 1) (aCons (eK (.int 3)) aNil)))))) (sSeq (sSet (gT [gN 9, gN 10]) (eN (ePure F_loudest_row) (aCons (eVar 7) (aCons (eVar 8) (aCons (eVar 2) aNil))))) (sSeq (sSet (gN 3) (eN (ePure F_greatest_rate) (aCons (eVar 7) (aCons (eVar 8) (aCons (eVar 2) aNil))))) (sSeq (sIf (tOr (tV (e2 kEq (eVar 10) (eN kLstF (aNil)))) (tV (e2 kGt (e2 kAdd (eN kLen (aCons (eVar 9) aNil)) (eN kLen (aCons (eVar 10) aNil))) (eK (.int 40))))) (sRet (e2 kNe (eVar 10) (eN kLstF (aNil)))) (sNil)) (sSeq (sSet (gN 4) (eMake "Desk" (F_Desk__init_) (aCons (eVar 7) (aCons (eVar 8) aNil)))) (sSeq (sFor (iAny (eVar 9)) (gN 5) (b_law_k34_2)) (sSeq (sFor (iRange1 (e2 kDiv (e2 kSub (eK (.int 40)) (eN kLen (aCons (eVar 9) aNil))) (eN kLen (aCons (eVar 10) aNil)))) (gN 6) (b_law_k34_1)) (sRet (eK (.bl true)))))))))))
def F_law_k34 : Fn := mkFn 1 12 k_law_k34
/-! law: law_script, law_town, law_loop, law_setting_here, law_rule_here, law_state, law_seen, law_ticks, law_rings, law_answer, law_begin, law_mean, law_turn, law_note -/
def b_law_k35_0 : Sv := sSeq (sSet (gT [gN 5, gN 13]) (eN (ePure F_law_tick) (aCons (eVar 3) (aCons (eVar 4) (aCons (eVar 5) (aCons (eVar 9) aNil)))))) (sAug 8 kAddI (eVar 13))
def w_law_k35_1 : Tv := tV (e2 kNotIn_ (eN (ePure F_law_key) (aCons (eVar 4) (aCons (eVar 5) aNil))) (eVar 6))
def b_law_k35_2 : Sv := sSeq (sPut kSet_ (eVar 6) (eN (ePure F_law_key) (aCons (eVar 4) (aCons (eVar 5) aNil))) (eN kTup (aCons (eVar 7) (aCons (eVar 8) aNil)))) (sSeq (sFor (iAny (eVar 2)) (gN 9) (b_law_k35_0)) (sAug 7 kAddI (eN kLen (aCons (eVar 2) aNil))))
def e_law_k35_3 : Ev := eN (F_law_draw) (aCons (eVar 0) (aCons (eVar 1) (aCons (eK (.int 4)) aNil)))
def k_law_k35 : Sv := sSeq (sSet (gN 1) (eN kLst (aCons (eK (.int 0)) (aCons (eK (.int 0)) aNil)))) (sSeq (sSet (gT [gN 3, gN 4]) (eN kTup (aCons (eN (F_law_setting) (aCons (eVar 0) (aCons (eVar 1) aNil))) (aCons (eN (F_law_rule) (aCons (eVar 0) (aCons (eVar 1) aNil))) aNil)))) (sSeq (sSet (gN 2) (eLcF (iRange1 (e2 kAdd (eK (.int 1)) (eN (F_law_draw) (aCons (eVar 0) (aCons (eVar 1) (aCons (eK (.int 6)) aNil)))))) (gN 12) (PyD.tYes) (e_law_k35_3) [12])) (sSeq (sSet (gT [gN 5, gN 6, gN 7, gN 8]) (eN kTup (aCons (eN kLstF (aNil)) (aCons (eN kDict0 aNil) (aCons (eK (.int 0)) (aCons (eK (.int 0)) aNil)))))) (sSeq (sWhile (w_law_k35_1) (b_law_k35_2)) (sSeq (sSet (gT [gN 10, gN 11]) (eN kTup (aCons (e2 kSub_ (eVar 6) (eN (ePure F_law_key) (aCons (eVar 4) (aCons (eVar 5) aNil)))) (aCons (eN (ePure F_greatest_rate) (aCons (eVar 3) (aCons (eVar 4) (aCons (eK (.int 3)) aNil)))) aNil)))) (sRet (e2 kLe (e2 kMul (e2 kSub (eVar 8) (e2 kSub_ (eVar 10) (eK (.int 1)))) (e2 kSub_ (eVar 11) (eK (.int 1)))) (e2 kMul (e2 kSub_ (eVar 11) (eK (.int 0))) (e2 kSub (eVar 7) (e2 kSub_ (eVar 10) (eK (.int 0))))))))))))
def F_law_k35 : Fn := mkFn 1 14 k_law_k35
/-! law: law_script, law_town, law_bound, law_state, law_setting_here, law_rule_here, law_note, law_left, law_times, law_since -/
def b_law_k36_0 : Sv := sIf (tAnd (tV (e2 kNotN (eVar 2) (eK .non))) (tV (e2 kGt (eVar 9) (eVar 2)))) (sRet (eK (.bl false))) (sNil)
def b_law_k36_1 : Sv := sFor (iAny (eVar 3)) (gT [gN 7, gN 8, gN 9]) (b_law_k36_0)
def k_law_k36 : Sv := sSeq (sSet (gN 1) (eN kLst (aCons (eK (.int 0)) (aCons (eK (.int 0)) aNil)))) (sSeq (sSet (gT [gN 4, gN 5]) (eN kTup (aCons (eN (F_law_setting) (aCons (eVar 0) (aCons (eVar 1) aNil))) (aCons (eN (F_law_rule) (aCons (eVar 0) (aCons (eVar 1) aNil))) aNil)))) (sSeq (sSet (gN 2) (eN (ePure F_greatest_silence) (aCons (eVar 4) (aCons (eVar 5) (aCons (eK (.int 3)) aNil))))) (sSeq (sFor (iAny (eN (ePure F_law_play) (aCons (eVar 4) (aCons (eVar 5) (aCons (eN (F_law_answers) (aCons (eVar 0) (aCons (eVar 1) (aCons (eK (.int 40)) aNil)))) aNil))))) (gT [gN 3, gN 6]) (b_law_k36_1)) (sSeq (sIf (tV (e2 kNotN (eVar 2) (eK .non))) (sRet (e2 kNe (e2 kSub_ (eVar 5) (eK (.int 0))) (eK (.str "times")))) (sNil)) (sSeq (sSet (gN 3) (e2 kSub_ (e2 kSub_ (eN (ePure F_law_play) (aCons (eVar 4) (aCons (eVar 5) (aCons (e2 kAdd (eN kLstF (aCons (eK (.int 1)) aNil)) (e2 kMul (eN kLstF (aCons (eK (.int 0)) aNil)) (eK (.int 39)))) aNil)))) (eNeg (eK (.int 1)))) (eK (.int 0)))) (sRet (eAnd (e2 kEq (e2 kSub_ (e2 kSub_ (eVar 3) (eK (.int 0))) (eK (.int 0))) (eK (.int 0))) (e2 kGt (e2 kSub_ (e2 kSub_ (eVar 3) (eK (.int 0))) (eK (.int 2))) (eK (.int 20))))))))))
def F_law_k36 : Fn := mkFn 1 10 k_law_k36
/-! law: law_script, law_town, law_pairs, law_setting_here, law_number, law_value, law_own, law_one, law_other -/
def b_law_k38_0 : Sv := sSeq (sIf (tV (e2 kNotN (eN (ePure F_parting_answers) (aCons (eVar 6) (aCons (eVar 7) (aCons (eVar 8) (aCons (eVar 5) aNil))))) (eK .non))) (sRet (eK (.bl false))) (sNil)) (sSeq (sIf (tV (e2 kNe (eN (ePure F_greatest_silence) (aCons (eVar 6) (aCons (eVar 7) (aCons (eVar 5) aNil)))) (eN (ePure F_greatest_silence) (aCons (eVar 6) (aCons (eVar 8) (aCons (eVar 5) aNil)))))) (sRet (eK (.bl false))) (sNil)) (sSeq (sIf (tV (e2 kNe (eN (ePure F_greatest_rate) (aCons (eVar 6) (aCons (eVar 7) (aCons (eVar 5) aNil)))) (eN (ePure F_greatest_rate) (aCons (eVar 6) (aCons (eVar 8) (aCons (eVar 5) aNil)))))) (sRet (eK (.bl false))) (sNil)) (sIf (tV (e2 kNe (eN (ePure F_left_alone) (aCons (eVar 6) (aCons (eVar 7) aNil))) (eN (ePure F_left_alone) (aCons (eVar 6) (aCons (eVar 8) aNil))))) (sRet (eK (.bl false))) (sNil))))
def k_law_k38 : Sv := sSeq (sSet (gN 1) (eN kLst (aCons (eK (.int 0)) (aCons (eK (.int 0)) aNil)))) (sSeq (sSet (gT [gN 4, gN 5]) (eN kTup (aCons (e2 kAdd (eK (.int 1)) (eN (F_law_draw) (aCons (eVar 0) (aCons (eVar 1) (aCons (eK (.int 4)) aNil))))) (aCons (e2 kAdd (eK (.int 1)) (eN (F_law_draw) (aCons (eVar 0) (aCons (eVar 1) (aCons (eK (.int 3)) aNil))))) aNil)))) (sSeq (sSet (gN 2) (eIf (tV (e2 kLt (eVar 4) (eK (.int 4)))) (eN kLst (aCons (eN kTup (aCons (eN kTup (aCons (eK (.int 1)) (aCons (eVar 4) aNil))) (aCons (eN kTup (aCons (eK (.str "every")) (aCons (eVar 4) aNil))) (aCons (eN kTup (aCons (eK (.str "quiet")) (aCons (eVar 4) aNil))) aNil)))) aNil)) (eN kLst (aNil)))) (sSeq (sSet (gN 3) (eN (F_law_setting) (aCons (eVar 0) (aCons (eVar 1) aNil)))) (sSeq (sExpr (eM mExtend (eVar 2) (aCons (eN kLstF (aCons (eN kTup (aCons (eVar 3) (aCons (eN kTup (aCons (eK (.str "every")) (aCons (eK (.int 1)) aNil))) (aCons (eN kTup (aCons (eK (.str "sooner")) (aCons (eK (.int 1)) aNil))) aNil)))) (aCons (eN kTup (aCons (eVar 3) (aCons (eN kTup (aCons (eK (.str "slower")) (aCons (eK (.int 1)) aNil))) (aCons (eN kTup (aCons (eK (.str "every")) (aCons (eK (.int 1)) aNil))) aNil)))) aNil))) aNil))) (sSeq (sFor (iAny (eVar 2)) (gT [gN 6, gN 7, gN 8]) (b_law_k38_0)) (sRet (eK (.bl true))))))))
def F_law_k38 : Fn := mkFn 1 9 k_law_k38
/-! law: law_script, law_town, law_fewer, law_setting_here, law_rule_here, law_answers_here, law_before, law_rang, law_notes, law_opens, law_at, law_answer, law_idle -/
def b_law_k42_0 : Sv := sSeq (sSet (gN 12) (eOr (eAnd (e2 kEq (eVar 11) (eK (.int 2))) (e2 kEq (eVar 6) (eK (.int 0)))) (eOr (eAnd (e2 kEq (eVar 11) (eK (.int 1))) (e2 kEq (eVar 6) (e2 kSub_ (eVar 3) (eK (.int 0))))) (eAnd (e2 kEq (eVar 11) (eK (.int 3))) (e2 kEq (eVar 7) (eK (.int 0))))))) (sSeq (sExpr (eM mAppend (eVar 2) (aCons (eIf (tV (eVar 12)) (eK (.int 0)) (eVar 11)) aNil))) (sSet (gT [gN 6, gN 7]) (eN kTup (aCons (e2 kSub_ (eVar 9) (eVar 10)) (aCons (e2 kSub_ (eVar 8) (eVar 10)) aNil)))))
def k_law_k42 : Sv := sSeq (sSet (gN 1) (eN kLst (aCons (eK (.int 0)) (aCons (eK (.int 0)) aNil)))) (sSeq (sSet (gT [gN 3, gN 4]) (eN kTup (aCons (eN (F_law_setting) (aCons (eVar 0) (aCons (eVar 1) aNil))) (aCons (eN (F_law_rule) (aCons (eVar 0) (aCons (eVar 1) aNil))) aNil)))) (sSeq (sSet (gT [gN 5, gN 6, gN 7]) (eN kTup (aCons (eN (F_law_answers) (aCons (eVar 0) (aCons (eVar 1) (aCons (eK (.int 40)) aNil)))) (aCons (eK (.int 0)) (aCons (eK (.int 0)) aNil))))) (sSeq (sSet (gT [gN 8, gN 9]) (eN kTup (aCons (eN (ePure F_notes_along) (aCons (eVar 3) (aCons (eVar 4) (aCons (eVar 5) aNil)))) (aCons (eN (ePure F_opens_along) (aCons (eVar 3) (aCons (eVar 4) (aCons (eVar 5) aNil)))) aNil)))) (sSeq (sSet (gN 2) (eN kLst (aNil))) (sSeq (sFor (PyD.iEnum (eVar 5)) (gT [gN 10, gN 11]) (b_law_k42_0)) (sSeq (sIf (tOr (tFrz (tV (e2 kNe (eN (ePure F_notes_along) (aCons (eVar 3) (aCons (eVar 4) (aCons (eVar 2) aNil)))) (eVar 8)))) (tFrz (tV (e2 kNe (eN (ePure F_opens_along) (aCons (eVar 3) (aCons (eVar 4) (aCons (eVar 2) aNil)))) (eVar 9))))) (sRet (eK (.bl false))) (sNil)) (sRet (eFrz (e2 kEq (eN (ePure F_lefts_along) (aCons (eVar 3) (aCons (eVar 4) (aCons (eVar 2) aNil)))) (eN (ePure F_lefts_along) (aCons (eVar 3) (aCons (eVar 4) (aCons (eVar 5) aNil)))))))))))))
def F_law_k42 : Fn := mkFn 1 13 k_law_k42
/-! law: law_script, law_town, law_many, law_gap, law_row, law_setting_here, law_rule_here -/
def k_law_k43 : Sv := sSeq (sSet (gN 1) (eN kLst (aCons (eK (.int 0)) (aCons (eK (.int 0)) aNil)))) (sSeq (sSet (gT [gN 5, gN 6]) (eN kTup (aCons (eN (F_law_setting) (aCons (eVar 0) (aCons (eVar 1) aNil))) (aCons (eN (F_law_rule) (aCons (eVar 0) (aCons (eVar 1) aNil))) aNil)))) (sSeq (sSet (gN 2) (eN (F_law_draw) (aCons (eVar 0) (aCons (eVar 1) (aCons (eK (.int 12)) aNil))))) (sSeq (sIf (tOr (tV (e2 kNe (eN (ePure F_count_answers) (aCons (eVar 5) (aCons (eVar 6) (aCons (eN kLstF (aCons (eK (.int 0)) aNil)) aNil)))) (eK (.int 4)))) (tV (e2 kNe (eN (ePure F_count_answers) (aCons (eVar 5) (aCons (eVar 6) (aCons (eN kLstF (aCons (eK (.int 1)) aNil)) aNil)))) (eK (.int 0))))) (sRet (eK (.bl false))) (sNil)) (sSeq (sIf (tOr (tV (e2 kNe (eN (ePure F_could_ring) (aCons (eVar 5) (aCons (eN kLstF (aCons (eK (.int 1)) aNil)) aNil))) (eN kLstF (aNil)))) (tV (e2 kNe (eN kLen (aCons (eN (ePure F_could_ring) (aCons (eVar 5) (aCons (e2 kMul (eN kLstF (aCons (eK (.int 0)) aNil)) (eVar 2)) aNil))) aNil)) (eK (.int 17))))) (sRet (eK (.bl false))) (sNil)) (sSeq (sIf (tV (e2 kNe (eN (ePure F_first_answers) (aCons (eVar 5) (aCons (eVar 6) (aCons (e2 kMul (eN kLstF (aCons (eK (.int 0)) aNil)) (eVar 2)) aNil)))) (e2 kMul (eN kLstF (aCons (eK (.int 0)) aNil)) (eVar 2)))) (sRet (eK (.bl false))) (sNil)) (sSeq (sIf (tV (e2 kNotN (eN (ePure F_first_answers) (aCons (eVar 5) (aCons (eVar 6) (aCons (eN kLstF (aCons (eK (.int 1)) aNil)) aNil)))) (eK .non))) (sRet (eK (.bl false))) (sNil)) (sSeq (sSet (gN 3) (eIf (tV (e2 kEq (e2 kSub_ (eVar 6) (eK (.int 0))) (eK (.str "slower")))) (eK (.int 1)) (e2 kSub_ (eVar 6) (eK (.int 1))))) (sSeq (sSet (gN 4) (e2 kAdd (e2 kMul (eN kLstF (aCons (eK (.int 0)) aNil)) (e2 kAdd (eVar 2) (eVar 3))) (eN kLstF (aCons (eK (.int 1)) aNil)))) (sSeq (sIf (tV (e2 kNe (eN (ePure F_first_answers) (aCons (eVar 5) (aCons (eVar 6) (aCons (eVar 4) aNil)))) (e2 kAdd (e2 kAdd (e2 kMul (eN kLstF (aCons (eK (.int 0)) aNil)) (eVar 2)) (eN kLstF (aCons (eK (.int 1)) aNil))) (e2 kMul (eN kLstF (aCons (eK (.int 0)) aNil)) (eVar 3))))) (sRet (eK (.bl false))) (sNil)) (sRet (e2 kEq (eN (ePure F_count_answers) (aCons (eVar 5) (aCons (eVar 6) (aCons (e2 kAdd (e2 kMul (eN kLstF (aCons (eK (.int 0)) aNil)) (eVar 3)) (eN kLstF (aCons (eK (.int 2)) aNil))) aNil)))) (eK (.int 0)))))))))))))
def F_law_k43 : Fn := mkFn 1 7 k_law_k43
/-! law: law_script, law_town, law_room, law_rule_here, law_answers_here, law_one, law_other, law_at, law_answer -/
def b_law_k44_0 : Sv := sSeq (sIf (tV (e2 kNe (e2 kSub_ (eVar 5) (eVar 7)) (e2 kSub_ (eVar 6) (eVar 7)))) (sRet (eK (.bl false))) (sNil)) (sIf (tAnd (tV (e2 kLt (e2 kAdd (eVar 7) (eK (.int 1))) (eN kLen (aCons (eVar 4) aNil)))) (tAnd (tV (e2 kEq (e2 kSub_ (eVar 4) (e2 kAdd (eVar 7) (eK (.int 1)))) (eK (.int 3)))) (tV (e2 kGt (e2 kSub_ (eVar 5) (eVar 7)) (eK (.int 0)))))) (sRet (e2 kEq (eSlice (eVar 5) (oNo) (oE (e2 kAdd (eVar 7) (eK (.int 1))))) (eSlice (eVar 6) (oNo) (oE (e2 kAdd (eVar 7) (eK (.int 1))))))) (sNil))
def k_law_k44 : Sv := sSeq (sSet (gN 1) (eN kLst (aCons (eK (.int 0)) (aCons (eK (.int 0)) aNil)))) (sSeq (sSet (gT [gN 2, gN 3, gN 4]) (eN kTup (aCons (e2 kAdd (eK (.int 1)) (eN (F_law_draw) (aCons (eVar 0) (aCons (eVar 1) (aCons (eK (.int 2)) aNil))))) (aCons (eN (F_law_rule) (aCons (eVar 0) (aCons (eVar 1) aNil))) (aCons (eN (F_law_answers) (aCons (eVar 0) (aCons (eVar 1) (aCons (eK (.int 40)) aNil)))) aNil))))) (sSeq (sSet (gT [gN 5, gN 6]) (eN kTup (aCons (eN (ePure F_notes_along) (aCons (eN kTup (aCons (eVar 2) (aCons (eK (.int 1)) aNil))) (aCons (eVar 3) (aCons (eVar 4) aNil)))) (aCons (eN (ePure F_notes_along) (aCons (eN kTup (aCons (eVar 2) (aCons (eK (.int 3)) aNil))) (aCons (eVar 3) (aCons (eVar 4) aNil)))) aNil)))) (sSeq (sIf (tV (e2 kEq (e2 kSub_ (eVar 3) (eK (.int 0))) (eK (.str "quiet")))) (sRet (e2 kEq (eVar 5) (eVar 6))) (sNil)) (sSeq (sFor (PyD.iEnum (eVar 4)) (gT [gN 7, gN 8]) (b_law_k44_0)) (sRet (eK (.bl true)))))))
def F_law_k44 : Fn := mkFn 1 9 k_law_k44
/-! law: law_script, law_town, law_answers_here, law_lefts, law_notes, law_known, law_least, law_setting_here, law_rule_here, law_left -/
def t_law_k45_0 : Tv := tV (e2 kNotN (eVar 9) (eK .non))
def e_law_k45_1 : Ev := eVar 9
def k_law_k45 : Sv := sSeq (sSet (gN 1) (eN kLst (aCons (eK (.int 0)) (aCons (eK (.int 0)) aNil)))) (sSeq (sSet (gT [gN 7, gN 8]) (eN kTup (aCons (eN (F_law_setting) (aCons (eVar 0) (aCons (eVar 1) aNil))) (aCons (eN (F_law_rule) (aCons (eVar 0) (aCons (eVar 1) aNil))) aNil)))) (sSeq (sSet (gN 2) (e2 kAdd (eN (F_law_answers) (aCons (eVar 0) (aCons (eVar 1) (aCons (eK (.int 30)) aNil)))) (eN kLstF (aCons (eK (.int 1)) aNil)))) (sSeq (sSet (gN 3) (e2 kSub_ (eN (ePure F_lefts_along) (aCons (eVar 7) (aCons (eVar 8) (aCons (eVar 2) aNil)))) (eNeg (eK (.int 1))))) (sSeq (sSet (gN 4) (eSlice (eN (ePure F_notes_along) (aCons (eVar 7) (aCons (eVar 8) (aCons (e2 kAdd (eVar 2) (e2 kMul (eN kLstF (aCons (eK (.int 0)) aNil)) (eK (.int 6)))) aNil)))) (oE (eN kLen (aCons (eVar 2) aNil))) (oNo))) (sSeq (sSet (gN 5) (eLcF (iAny (eVar 3)) (gN 9) (t_law_k45_0) (e_law_k45_1) [9])) (sSeq (sIf (tV (e2 kEq (eVar 5) (eN kLstF (aNil)))) (sRet (e2 kEq (eVar 4) (e2 kMul (eN kLstF (aCons (eK (.int 0)) aNil)) (eK (.int 6))))) (sNil)) (sSeq (sSet (gN 6) (eN kMinL (aCons (eVar 5) aNil))) (sRet (e2 kEq (eSlice (eVar 4) (oNo) (oE (eVar 6))) (e2 kAdd (e2 kMul (eN kLstF (aCons (eK (.int 0)) aNil)) (e2 kSub (eVar 6) (eK (.int 1)))) (eN kLstF (aCons (eM mCount (eVar 5) (aCons (eVar 6) aNil)) aNil))))))))))))
def F_law_k45 : Fn := mkFn 1 10 k_law_k45
/-! law: law_script, law_town, law_due, law_ticks, law_setting_here, law_number, law_room, law_most, law_one, law_two -/
def k_law_k46 : Sv := sSeq (sSet (gN 1) (eN kLst (aCons (eK (.int 0)) (aCons (eK (.int 0)) aNil)))) (sSeq (sSet (gT [gN 4, gN 5]) (eN kTup (aCons (eN (F_law_setting) (aCons (eVar 0) (aCons (eVar 1) aNil))) (aCons (e2 kAdd (eK (.int 1)) (eN (F_law_draw) (aCons (eVar 0) (aCons (eVar 1) (aCons (eK (.int 4)) aNil))))) aNil)))) (sSeq (sSet (gT [gN 6, gN 7]) (eN kTup (aCons (e2 kSub_ (eVar 4) (eK (.int 0))) (aCons (e2 kAdd (eK (.int 1)) (eN (F_law_draw) (aCons (eVar 0) (aCons (eVar 1) (aCons (eK (.int 3)) aNil))))) aNil)))) (sSeq (sSet (gT [gN 8, gN 9]) (eN kTup (aCons (eN (ePure F_greatest_rate) (aCons (eVar 4) (aCons (eN kTup (aCons (eK (.str "slower")) (aCons (eVar 5) aNil))) (aCons (eK (.int 2)) aNil)))) (aCons (eN (ePure F_greatest_rate) (aCons (eVar 4) (aCons (eN kTup (aCons (eK (.str "times")) (aCons (eVar 5) (aCons (eVar 7) aNil)))) (aCons (eK (.int 2)) aNil)))) aNil)))) (sSeq (sSet (gN 2) (e2 kSub_ (eN kLstF (aCons (eN kTup (aCons (eK (.int 1)) (aCons (eK (.int 1)) aNil))) (aCons (eN kTup (aCons (eK (.int 1)) (aCons (eK (.int 2)) aNil))) (aCons (eN kTup (aCons (eK (.int 2)) (aCons (eK (.int 5)) aNil))) (aCons (eN kTup (aCons (eK (.int 2)) (aCons (eK (.int 5)) aNil))) aNil))))) (e2 kSub (eVar 5) (eK (.int 1))))) (sSeq (sIf (tV (e2 kNe (e2 kMul (e2 kSub_ (eVar 8) (eK (.int 0))) (e2 kSub_ (eVar 2) (eK (.int 1)))) (e2 kMul (e2 kMul (eVar 6) (e2 kSub_ (eVar 2) (eK (.int 0)))) (e2 kSub_ (eVar 8) (eK (.int 1)))))) (sRet (eK (.bl false))) (sNil)) (sSeq (sSet (gN 3) (eN kMax2 (aCons (e2 kMul (eK (.int 2)) (eVar 6)) (aCons (e2 kAdd (e2 kMul (eVar 7) (eVar 5)) (eK (.int 2))) aNil)))) (sRet (e2 kEq (e2 kMul (e2 kSub_ (eVar 9) (eK (.int 0))) (eVar 3)) (e2 kMul (e2 kMul (eVar 6) (eVar 7)) (e2 kSub_ (eVar 9) (eK (.int 1))))))))))))
def F_law_k46 : Fn := mkFn 1 10 k_law_k46
/-! law: law_script, law_town, law_setting_here, law_number, law_room, law_least, law_one, law_other -/
def k_law_k47 : Sv := sSeq (sSet (gN 1) (eN kLst (aCons (eK (.int 0)) (aCons (eK (.int 0)) aNil)))) (sSeq (sSet (gT [gN 2, gN 3]) (eN kTup (aCons (eN (F_law_setting) (aCons (eVar 0) (aCons (eVar 1) aNil))) (aCons (e2 kAdd (eK (.int 1)) (eN (F_law_draw) (aCons (eVar 0) (aCons (eVar 1) (aCons (eK (.int 4)) aNil))))) aNil)))) (sSeq (sSet (gT [gN 4, gN 5]) (eN kTup (aCons (e2 kSub_ (eVar 2) (eK (.int 0))) (aCons (eN kMin2 (aCons (eVar 3) (aCons (e2 kAdd (e2 kSub_ (eVar 2) (eK (.int 1))) (eK (.int 1))) aNil))) aNil)))) (sSeq (sSet (gT [gN 6, gN 7]) (eN kTup (aCons (eN (ePure F_greatest_rate) (aCons (eVar 2) (aCons (eN kTup (aCons (eK (.str "every")) (aCons (eVar 3) aNil))) (aCons (eK (.int 3)) aNil)))) (aCons (eN (ePure F_greatest_rate) (aCons (eVar 2) (aCons (eN kTup (aCons (eK (.str "quiet")) (aCons (eVar 3) aNil))) (aCons (eK (.int 3)) aNil)))) aNil)))) (sSeq (sIf (tOr (tV (e2 kLt (e2 kMul (e2 kSub_ (eVar 6) (eK (.int 0))) (eVar 5)) (e2 kMul (eVar 4) (e2 kSub_ (eVar 6) (eK (.int 1)))))) (tV (e2 kGt (e2 kSub_ (eVar 6) (eK (.int 0))) (e2 kMul (eVar 4) (e2 kSub_ (eVar 6) (eK (.int 1))))))) (sRet (eK (.bl false))) (sNil)) (sSeq (sIf (tAnd (tV (e2 kEq (eVar 4) (eK (.int 1)))) (tV (e2 kNe (e2 kMul (e2 kSub_ (eVar 6) (eK (.int 0))) (eVar 5)) (e2 kSub_ (eVar 6) (eK (.int 1)))))) (sRet (eK (.bl false))) (sNil)) (sRet (e2 kEq (e2 kMul (e2 kSub_ (eVar 7) (eK (.int 0))) (eVar 3)) (e2 kMul (eVar 4) (e2 kSub_ (eVar 7) (eK (.int 1)))))))))))
def F_law_k47 : Fn := mkFn 1 8 k_law_k47
/-! law: law_script, law_town, law_rule_here, law_notes, law_told, law_setting_here, law_number, law_most, law_value -/
def k_law_k48 : Sv := sSeq (sSet (gN 1) (eN kLst (aCons (eK (.int 0)) (aCons (eK (.int 0)) aNil)))) (sSeq (sSet (gT [gN 5, gN 6]) (eN kTup (aCons (eN (F_law_setting) (aCons (eVar 0) (aCons (eVar 1) aNil))) (aCons (e2 kAdd (eK (.int 1)) (eN (F_law_draw) (aCons (eVar 0) (aCons (eVar 1) (aCons (eK (.int 4)) aNil))))) aNil)))) (sSeq (sSet (gT [gN 7, gN 8]) (eN kTup (aCons (e2 kAdd (eK (.int 1)) (eN (F_law_draw) (aCons (eVar 0) (aCons (eVar 1) (aCons (eK (.int 3)) aNil))))) (aCons (e2 kAdd (eK (.int 1)) (eN (F_law_draw) (aCons (eVar 0) (aCons (eVar 1) (aCons (eK (.int 3)) aNil))))) aNil)))) (sSeq (sSet (gN 2) (eN kTup (aCons (eK (.str "times")) (aCons (eVar 6) (aCons (eVar 7) aNil))))) (sSeq (sSet (gN 3) (eN (ePure F_notes_along) (aCons (eVar 5) (aCons (eVar 2) (aCons (e2 kAdd (eN kLstF (aCons (eK (.int 1)) aNil)) (e2 kMul (eN kLstF (aCons (eK (.int 0)) aNil)) (eK (.int 39)))) aNil))))) (sSeq (sIf (tOr (tV (e2 kNe (eN kSum (aCons (eVar 3) aNil)) (eVar 7))) (tV (e2 kIn_ (eK (.int 1)) (eSlice (eVar 3) (oE (e2 kAdd (e2 kMul (eVar 6) (eVar 7)) (eK (.int 1)))) (oNo))))) (sRet (eK (.bl false))) (sNil)) (sSeq (sSet (gN 4) (eN (ePure F_forgetting_row) (aCons (eVar 5) (aCons (eVar 2) (aCons (eVar 8) aNil))))) (sSeq (sIf (tOr (tV (e2 kIsN (eVar 4) (eK .non))) (tOr (tV (e2 kEq (e2 kSub_ (eVar 4) (eK (.int 1))) (eN kLstF (aNil)))) (tV (e2 kNotN (eN (ePure F_greatest_silence) (aCons (eVar 5) (aCons (eVar 2) (aCons (eVar 8) aNil)))) (eK .non))))) (sRet (eK (.bl false))) (sNil)) (sRet (eAnd (e2 kLe (eN kMaxL (aCons (e2 kAdd (e2 kSub_ (eVar 4) (eK (.int 0))) (e2 kSub_ (eVar 4) (eK (.int 1)))) aNil)) (eVar 8)) (e2 kIsN (eN (ePure F_forgetting_row) (aCons (eVar 5) (aCons (eN kTup (aCons (eK (.str "every")) (aCons (eVar 6) aNil))) (aCons (eVar 8) aNil)))) (eK .non)))))))))))
def F_law_k48 : Fn := mkFn 1 9 k_law_k48
/-! law: law_script, law_town, law_other, law_rows, law_bounds, law_setting_here, law_rule_here, law_few, law_many, law_value -/
def e_law_k49_0 : Ev := eN (ePure F_greatest_silence) (aCons (eVar 5) (aCons (eVar 6) (aCons (eVar 9) aNil)))
def b_law_k49_1 : Sv := sSeq (sIf (tAnd (tV (e2 kNotN (eVar 7) (eK .non))) (tOr (tV (e2 kIsN (eVar 8) (eK .non))) (tV (e2 kGtD (eN kLen (aCons (eVar 8) aNil)) (eN kLen (aCons (eVar 7) aNil)))))) (sRet (eK (.bl false))) (sNil)) (sIf (tAnd (tV (e2 kNotN (eVar 7) (eK .non))) (tAnd (tV (e2 kEq (eN kLen (aCons (eVar 8) aNil)) (eN kLen (aCons (eVar 7) aNil)))) (tV (e2 kGtD (eVar 8) (eVar 7))))) (sRet (eK (.bl false))) (sNil))
def e_law_k49_2 : Ev := eN (ePure F_parting_answers) (aCons (eVar 5) (aCons (eVar 6) (aCons (eVar 2) (aCons (eVar 9) aNil))))
def k_law_k49 : Sv := sSeq (sSet (gN 1) (eN kLst (aCons (eK (.int 0)) (aCons (eK (.int 0)) aNil)))) (sSeq (sSet (gT [gN 5, gN 6]) (eN kTup (aCons (eN (F_law_setting) (aCons (eVar 0) (aCons (eVar 1) aNil))) (aCons (eN (F_law_rule) (aCons (eVar 0) (aCons (eVar 1) aNil))) aNil)))) (sSeq (sSet (gN 2) (eN (F_law_rule) (aCons (eVar 0) (aCons (eVar 1) aNil)))) (sSeq (sSet (gN 3) (eLcF (iAny (eN kTup (aCons (eK (.int 1)) (aCons (eK (.int 2)) (aCons (eK (.int 3)) aNil))))) (gN 9) (PyD.tYes) (e_law_k49_2) [9])) (sSeq (sFor (PyD.iZip (eVar 3) (eSlice (eVar 3) (oE (eK (.int 1))) (oNo))) (gT [gN 7, gN 8]) (b_law_k49_1)) (sSeq (sSet (gN 4) (eLcF (iAny (eN kTup (aCons (eK (.int 1)) (aCons (eK (.int 2)) (aCons (eK (.int 3)) aNil))))) (gN 9) (PyD.tYes) (e_law_k49_0) [9])) (sSeq (sIf (tV (e2 kIn_ (eK .non) (eVar 4))) (sRet (e2 kEq (eVar 4) (e2 kMul (eN kLstF (aCons (eK .non) aNil)) (eK (.int 3))))) (sNil)) (sRet (e2 kEq (eVar 4) (eN kSortF (aCons (eVar 4) aNil))))))))))
def F_law_k49 : Fn := mkFn 1 10 k_law_k49
/-! law: law_script, law_town, law_many, law_fresh_notes, law_notes, law_setting_here, law_rule_here -/
def k_law_k50 : Sv := sSeq (sSet (gN 1) (eN kLst (aCons (eK (.int 0)) (aCons (eK (.int 0)) aNil)))) (sSeq (sSet (gT [gN 5, gN 6]) (eN kTup (aCons (eN (F_law_setting) (aCons (eVar 0) (aCons (eVar 1) aNil))) (aCons (eN (F_law_rule) (aCons (eVar 0) (aCons (eVar 1) aNil))) aNil)))) (sSeq (sIf (tV (e2 kEq (e2 kSub_ (eVar 6) (eK (.int 0))) (eK (.str "quiet")))) (sSet (gN 6) (eN kTup (aCons (eK (.str "sooner")) (aCons (e2 kSub_ (eVar 6) (eK (.int 1))) aNil)))) (sNil)) (sSeq (sSet (gN 2) (e2 kAdd (eK (.int 1)) (eN (F_law_draw) (aCons (eVar 0) (aCons (eVar 1) (aCons (eK (.int 14)) aNil)))))) (sSeq (sSet (gN 3) (eN (ePure F_notes_along) (aCons (eVar 5) (aCons (eVar 6) (aCons (e2 kAdd (eN kLstF (aCons (eK (.int 1)) aNil)) (e2 kMul (eN kLstF (aCons (eK (.int 0)) aNil)) (eK (.int 15)))) aNil))))) (sSeq (sSet (gN 4) (eN (ePure F_notes_along) (aCons (eVar 5) (aCons (eVar 6) (aCons (e2 kAdd (e2 kAdd (e2 kAdd (eN kLstF (aCons (eK (.int 1)) aNil)) (e2 kMul (eN kLstF (aCons (eK (.int 0)) aNil)) (eVar 2))) (eN kLstF (aCons (eK (.int 2)) (aCons (eK (.int 1)) aNil)))) (e2 kMul (eN kLstF (aCons (eK (.int 0)) aNil)) (eK (.int 15)))) aNil))))) (sRet (e2 kEq (eSlice (eVar 4) (oE (e2 kAdd (eVar 2) (eK (.int 2)))) (oNo)) (eVar 3))))))))
def F_law_k50 : Fn := mkFn 1 7 k_law_k50
end PyD
set_option Elab.async false
set_option linter.all false
set_option maxRecDepth 100000
set_option maxHeartbeats 4000000
/-! PyE: how the evaluator runs, as rules for simp. -/
namespace PyD
open PySem (Str NestedKey PyData)

section
variable {f g e : Ev} {tf tg : Tv} {av : Av} {sf sg : Sv} {σ : Sg} {h : MH}
@[simp ↓] theorem eVar_ (i : Nat) : eVar i σ h = match σ[i]? with
    | some (some d) => some (d, h)
    | _ => none := by
  unfold eVar
  cases σ[i]? with
  | none => rfl
  | some o => cases o <;> rfl
@[simp ↓] theorem eK_ (d : D) : eK d σ h = some (d, h) := rfl
@[simp ↓] theorem e1_ (k : D → MH → Option (D × MH)) : e1 k f σ h = match f σ h with
    | none => none
    | some (x, h1) => k x h1 := by unfold e1; cases f σ h <;> rfl
@[simp ↓] theorem e2_ (k : Op2) : e2 k f g σ h = match f σ h with
    | none => none
    | some (x, h1) => match g σ h1 with
      | none => none
      | some (y, h2) => k x y h2 := by
  unfold e2
  cases f σ h with
  | none => rfl
  | some p => obtain ⟨x, h1⟩ := p; show (g σ h1).bind _ = _; dsimp only; cases g σ h1 <;> rfl
@[simp ↓] theorem aNil_ : aNil σ h = some ([], h) := rfl
@[simp ↓] theorem aCons_ : aCons f av σ h = match f σ h with
    | none => none
    | some (x, h1) => match av σ h1 with
      | none => none
      | some (ys, h2) => some (x :: ys, h2) := by
  unfold aCons
  cases f σ h with
  | none => rfl
  | some p => obtain ⟨x, h1⟩ := p; show (av σ h1).bind _ = _; dsimp only; cases av σ h1 <;> rfl
@[simp ↓] theorem eN_ (k : OpN) : eN k av σ h = match av σ h with
    | none => none
    | some (xs, h1) => k xs h1 := by unfold eN; cases av σ h <;> rfl
@[simp ↓] theorem tV_ : tV f σ h = match f σ h with
    | some (.bl b, h1) => some (b, h1)
    | _ => none := by
  unfold tV
  cases f σ h with
  | none => rfl
  | some p => obtain ⟨x, h1⟩ := p; cases x <;> rfl
@[simp ↓] theorem tAnd_ : tAnd tf tg σ h = match tf σ h with
    | none => none
    | some (b, h1) => if b = true then tg σ h1 else some (false, h1) := by unfold tAnd; cases tf σ h <;> rfl
@[simp ↓] theorem tOr_ : tOr tf tg σ h = match tf σ h with
    | none => none
    | some (b, h1) => if b = true then some (true, h1) else tg σ h1 := by unfold tOr; cases tf σ h <;> rfl
@[simp ↓] theorem tNot_ : tNot tf σ h = match tf σ h with
    | none => none
    | some (b, h1) => some (!b, h1) := by unfold tNot; cases tf σ h <;> rfl
@[simp ↓] theorem tYes_ : PyD.tYes σ h = some (true, h) := rfl
@[simp ↓] theorem eIf_ : eIf tf f g σ h = match tf σ h with
    | none => none
    | some (b, h1) => if b = true then f σ h1 else g σ h1 := by unfold eIf; cases tf σ h <;> rfl
@[simp ↓] theorem eAnd_ : eAnd f g σ h = match f σ h with
    | some (.bl b, h1) => if b = true then g σ h1 else some (.bl false, h1)
    | _ => none := by
  unfold eAnd
  cases f σ h with
  | none => rfl
  | some p => obtain ⟨x, h1⟩ := p; cases x <;> rfl
@[simp ↓] theorem eOr_ : eOr f g σ h = match f σ h with
    | some (.bl b, h1) => if b = true then some (.bl true, h1) else g σ h1
    | _ => none := by
  unfold eOr
  cases f σ h with
  | none => rfl
  | some p => obtain ⟨x, h1⟩ := p; cases x <;> rfl
@[simp ↓] theorem eNot_ : eNot f σ h = match f σ h with
    | some (.bl b, h1) => some (.bl (!b), h1)
    | _ => none := by
  unfold eNot
  cases f σ h with
  | none => rfl
  | some p => obtain ⟨x, h1⟩ := p; cases x <;> rfl
@[simp ↓] theorem eNeg_ : eNeg f σ h = match f σ h with
    | some (.int b, h1) => some (.int (-b), h1)
    | _ => none := by
  unfold eNeg
  cases f σ h with
  | none => rfl
  | some p => obtain ⟨x, h1⟩ := p; cases x <;> rfl
@[simp ↓] theorem eChain_ (k k' : Op2) : eChain k k' f g e σ h = match f σ h with
    | none => none
    | some (x, h1) => match g σ h1 with
      | none => none
      | some (y, h2) => match k x y h2 with
        | some (.bl b, h3) => if b = true then (match e σ h3 with
            | none => none
            | some (z, h4) => k' y z h4) else some (.bl false, h3)
        | _ => none := by
  unfold eChain
  cases f σ h with
  | none => rfl
  | some p =>
    obtain ⟨x, h1⟩ := p
    show (g σ h1).bind _ = _
    dsimp only
    cases g σ h1 with
    | none => rfl
    | some q =>
      obtain ⟨y, h2⟩ := q
      show (k x y h2).bind _ = _
      dsimp only
      cases k x y h2 with
      | none => rfl
      | some r =>
        obtain ⟨z, h3⟩ := r
        cases z <;> try rfl
        rename_i b
        cases b
        · rfl
        · show (e σ h3).bind _ = _
          dsimp only
          cases e σ h3 <;> rfl
@[simp ↓] theorem sSeq_ : sSeq sf sg σ h = match sf σ h with
    | none => none
    | some (.nx, σ1, h1) => sg σ1 h1
    | some (.bk, σ1, h1) => some (.bk, σ1, h1)
    | some (.ct, σ1, h1) => some (.ct, σ1, h1)
    | some (.rt d, σ1, h1) => some (.rt d, σ1, h1) := by
  unfold sSeq
  cases sf σ h with
  | none => rfl
  | some p => obtain ⟨fl, s1, h1⟩ := p; cases fl <;> rfl
@[simp ↓] theorem sNil_ : sNil σ h = some (.nx, σ, h) := rfl
@[simp ↓] theorem sCont_ : sCont σ h = some (.ct, σ, h) := rfl
@[simp ↓] theorem sRet_ : sRet f σ h = match f σ h with
    | none => none
    | some (d, h1) => some (.rt d, σ, h1) := by unfold sRet; cases f σ h <;> rfl
@[simp ↓] theorem sIf_ : sIf tf sf sg σ h = match tf σ h with
    | none => none
    | some (b, h1) => if b = true then sf σ h1 else sg σ h1 := by unfold sIf; cases tf σ h <;> rfl
@[simp ↓] theorem sExpr_ : sExpr f σ h = match f σ h with
    | none => none
    | some (d, h1) => some (.nx, σ, h1) := by unfold sExpr; cases f σ h <;> rfl
@[simp ↓] theorem sSet_ (t : Tg) : sSet t f σ h = match f σ h with
    | none => none
    | some (d, h1) => match t d σ with
      | none => none
      | some σ1 => some (.nx, σ1, h1) := by
  unfold sSet
  cases f σ h with
  | none => rfl
  | some p => obtain ⟨x, h1⟩ := p; show (t x σ).bind _ = _; dsimp only; cases t x σ <;> rfl
@[simp ↓] theorem gN_ (i : Nat) (d : D) : gN i d σ = if i < σ.length then some (σ.set i (some d)) else none := rfl
@[simp ↓] theorem gT_ (gs : List Tg) (xs : List D) : gT gs (.tup xs) σ = gAll gs xs σ := rfl
@[simp ↓] theorem gT_lst (gs : List Tg) (xs : List D) : gT gs (.lst xs) σ = gAll gs xs σ := rfl
@[simp ↓] theorem gAll_nil : gAll [] [] σ = some σ := rfl
@[simp ↓] theorem gAll_cons (t : Tg) (gs : List Tg) (d : D) (ds : List D) : gAll (t :: gs) (d :: ds) σ = match t d σ with
    | none => none
    | some σ1 => gAll gs ds σ1 := by
  rw [gAll]
  cases t d σ <;> rfl
@[simp ↓] theorem sAug_ (i : Nat) (k : Op2) : sAug i k f σ h = match eVar i σ h with
    | none => none
    | some (x, h1) => match f σ h1 with
      | none => none
      | some (y, h2) => match k x y h2 with
        | none => none
        | some (z, h3) => match gN i z σ with
          | none => none
          | some σ1 => some (.nx, σ1, h3) := by
  unfold sAug
  cases eVar i σ h with
  | none => rfl
  | some p =>
    obtain ⟨x, h1⟩ := p
    show (f σ h1).bind _ = _
    dsimp only
    cases f σ h1 with
    | none => rfl
    | some q =>
      obtain ⟨y, h2⟩ := q
      show (k x y h2).bind _ = _
      dsimp only
      cases k x y h2 with
      | none => rfl
      | some r =>
        obtain ⟨z, h3⟩ := r
        show (gN i z σ).bind _ = _
        dsimp only
        cases gN i z σ <;> rfl
@[simp ↓] theorem sPut_ (k : Op3) (o i : Ev) : sPut k o i f σ h = match f σ h with
    | none => none
    | some (v, h1) => match o σ h1 with
      | none => none
      | some (x, h2) => match i σ h2 with
        | none => none
        | some (y, h3) => match k x y v h3 with
          | none => none
          | some h4 => some (.nx, σ, h4) := by
  unfold sPut
  cases f σ h with
  | none => rfl
  | some p =>
    obtain ⟨x, h1⟩ := p
    show (o σ h1).bind _ = _
    dsimp only
    cases o σ h1 with
    | none => rfl
    | some q =>
      obtain ⟨y, h2⟩ := q
      show (i σ h2).bind _ = _
      dsimp only
      cases i σ h2 with
      | none => rfl
      | some r =>
        obtain ⟨z, h3⟩ := r
        show (k y z x h3).bind _ = _
        dsimp only
        cases k y z x h3 <;> rfl
@[simp ↓] theorem sAugS_ (k : Op2) (o i : Ev) : sAugS k o i f σ h = match o σ h with
    | none => none
    | some (x, h1) => match i σ h1 with
      | none => none
      | some (y, h2) => match kIxA x y h2 with
        | none => none
        | some (w, h3) => match f σ h3 with
          | none => none
          | some (v, h4) => match k w v h4 with
            | none => none
            | some (z, h5) => match kSetL x y z h5 with
              | none => none
              | some h6 => some (.nx, σ, h6) := by
  unfold sAugS
  cases o σ h with
  | none => rfl
  | some p =>
    obtain ⟨x, h1⟩ := p
    show (i σ h1).bind _ = _
    dsimp only
    cases i σ h1 with
    | none => rfl
    | some q =>
      obtain ⟨y, h2⟩ := q
      show (kIxA x y h2).bind _ = _
      dsimp only
      cases kIxA x y h2 with
      | none => rfl
      | some r =>
        obtain ⟨w, h3⟩ := r
        show (f σ h3).bind _ = _
        dsimp only
        cases f σ h3 with
        | none => rfl
        | some r =>
          obtain ⟨v, h4⟩ := r
          show (k w v h4).bind _ = _
          dsimp only
          cases k w v h4 with
          | none => rfl
          | some r =>
            obtain ⟨z, h5⟩ := r
            show (kSetL x y z h5).bind _ = _
            dsimp only
            cases kSetL x y z h5 <;> rfl
@[simp ↓] theorem sFor_ (it : Iv) (t : Tg) : sFor it t sf σ h = match it σ h with
    | none => none
    | some (xs, c, h1) => forD c t sf xs σ h1 := by unfold sFor; cases it σ h <;> rfl
@[simp ↓] theorem forD_nil (c : MH → Bool) (t : Tg) : forD c t sf [] σ h = if c h = true then some (.nx, σ, h) else none := rfl
theorem forD_cons_ (c : MH → Bool) (t : Tg) (x : D) (xs : List D) : forD c t sf (x :: xs) σ h = if c h = true then (match t x σ with
    | none => none
    | some σ1 => match sf σ1 h with
      | none => none
      | some (.nx, σ2, h2) => forD c t sf xs σ2 h2
      | some (.ct, σ2, h2) => forD c t sf xs σ2 h2
      | some (.bk, σ2, h2) => some (.nx, σ2, h2)
      | some (.rt d, σ2, h2) => some (.rt d, σ2, h2)) else none := by
  rw [forD]
  split
  · cases t x σ with
    | none => rfl
    | some σ1 =>
      show (sf σ1 h).bind _ = _
      dsimp only
      cases sf σ1 h with
      | none => rfl
      | some r => obtain ⟨fl, s2, h2⟩ := r; cases fl <;> rfl
  · rfl
@[simp ↓] theorem iAny_ : iAny f σ h = match f σ h with
    | none => none
    | some (d, h1) => match anyOf h1 d with
      | none => none
      | some (xs, c) => some (xs, c, h1) := by
  unfold iAny
  cases f σ h with
  | none => rfl
  | some p => obtain ⟨x, h1⟩ := p; show (anyOf h1 x).map _ = _; dsimp only; cases anyOf h1 x <;> rfl
@[simp ↓] theorem eLcK_ (k : OpN) (it : Iv) (t : Tg) (vs : List Nat) : eLcK k it t tf e vs σ h = match it σ h with
    | none => none
    | some (xs, c, h1) => match lcD c t tf e (wipeD σ vs) xs h1 with
      | none => none
      | some (ys, h2) => k ys h2 := by
  unfold eLcK
  cases it σ h with
  | none => rfl
  | some p => obtain ⟨xs, c, h1⟩ := p; show (lcD c t tf e _ xs h1).bind _ = _; dsimp only; cases lcD c t tf e _ xs h1 <;> rfl
@[simp ↓] theorem eLcF_ (it : Iv) (t : Tg) (vs : List Nat) : eLcF it t tf e vs σ h = eLcK kLstF it t tf e vs σ h := rfl
@[simp ↓] theorem eLc_ (it : Iv) (t : Tg) (vs : List Nat) : eLc it t tf e vs σ h = eLcK kLst it t tf e vs σ h := rfl
@[simp ↓] theorem lcD_nil (c : MH → Bool) (t : Tg) : lcD c t tf e σ [] h = if c h = true then some ([], h) else none := rfl
theorem lcD_cons_ (c : MH → Bool) (t : Tg) (x : D) (xs : List D) : lcD c t tf e σ (x :: xs) h = if c h = true then (match t x σ with
    | none => none
    | some σ1 => match tf σ1 h with
      | none => none
      | some (b, h1) => if b = true then (match e σ1 h1 with
          | none => none
          | some (y, h2) => match lcD c t tf e σ xs h2 with
            | none => none
            | some (ys, h3) => some (y :: ys, h3)) else lcD c t tf e σ xs h1) else none := by
  rw [lcD]
  split
  · cases t x σ with
    | none => rfl
    | some σ1 =>
      show (tf σ1 h).bind _ = _
      dsimp only
      cases tf σ1 h with
      | none => rfl
      | some r =>
        obtain ⟨b, h1⟩ := r
        cases b with
        | false => rfl
        | true =>
          show (e σ1 h1).bind _ = _
          simp only [if_true]
          cases e σ1 h1 with
          | none => rfl
          | some q => obtain ⟨y, h2⟩ := q; show (lcD c t tf e σ xs h2).bind _ = _; dsimp only; cases lcD c t tf e σ xs h2 <;> rfl
  · rfl
@[simp ↓] theorem wipeD_nil : wipeD σ [] = σ := rfl
@[simp ↓] theorem wipeD_cons (v : Nat) (vs : List Nat) : wipeD σ (v :: vs) = (wipeD σ vs).set v none := rfl
@[simp ↓] theorem eSlice_ (lo hi : Ov) : eSlice f lo hi σ h = match f σ h with
    | none => none
    | some (x, h1) => match lo σ h1 with
      | none => none
      | some (a, h2) => match hi σ h2 with
        | none => none
        | some (b, h3) => match cutOf h3 a b x with
          | none => none
          | some d => some (d, h3) := by
  unfold eSlice
  cases f σ h with
  | none => rfl
  | some p =>
    obtain ⟨x, h1⟩ := p
    show (lo σ h1).bind _ = _
    dsimp only
    cases lo σ h1 with
    | none => rfl
    | some q =>
      obtain ⟨a, h2⟩ := q
      show (hi σ h2).bind _ = _
      dsimp only
      cases hi σ h2 with
      | none => rfl
      | some r =>
        obtain ⟨b, h3⟩ := r
        unfold cutOf
        cases x <;> first
          | rfl
          | (simp only [Option.bind_some]; cases asL h3 _ <;> rfl)
@[simp ↓] theorem oNo_ : oNo σ h = some (none, h) := rfl
@[simp ↓] theorem oE_ : oE f σ h = match f σ h with
    | some (.int i, h1) => some (some i, h1)
    | _ => none := by
  unfold oE
  cases f σ h with
  | none => rfl
  | some p => obtain ⟨x, h1⟩ := p; cases x <;> rfl
@[simp ↓] theorem eM_ (k : OpM) : eM k f av σ h = match f σ h with
    | none => none
    | some (x, h1) => if (asL h1 x).isSome = true then (match av σ h1 with
      | none => none
      | some (ys, h2) => k x ys h2) else none := by
  unfold eM
  cases f σ h with
  | none => rfl
  | some p =>
    obtain ⟨x, h1⟩ := p
    simp only [Option.bind_some]
    split
    · cases av σ h1 <;> rfl
    · rfl
end

/-! ### operations on what is known -/
section
variable {h : MH}
@[simp ↓, simp] theorem kAdd_int (i j : Int) : kAdd (.int i) (.int j) h = some (.int (i + j), h) := rfl
@[simp ↓, simp] theorem kAdd_tup (a b : List D) : kAdd (.tup a) (.tup b) h = if a.length + b.length ≤ 16777216 then some (.tup (a ++ b), h) else none := rfl
@[simp ↓, simp] theorem kAdd_lst (a b : List D) : kAdd (.lst a) (.lst b) h = if a.length + b.length ≤ 16777216 then some (.lst (a ++ b), h) else none := rfl
@[simp ↓, simp] theorem kAddI_int (i j : Int) : kAddI (.int i) (.int j) h = some (.int (i + j), h) := rfl
@[simp ↓, simp] theorem kSub_int (i j : Int) : kSub (.int i) (.int j) h = some (.int (i - j), h) := rfl
@[simp ↓, simp] theorem kMul_lst (a : List D) (k : Int) : kMul (.lst a) (.int k) h = if k.natAbs < 2 ^ 62 ∧ a.length * k.toNat ≤ 16777216 then some (.lst (List.replicate k.toNat a).flatten, h) else none := rfl
@[simp ↓, simp] theorem kDiv_int (i j : Int) : kDiv (.int i) (.int j) h = if 0 < j ∧ j.natAbs < 1073741824 then some (.int (i / j), h) else none := rfl
@[simp ↓, simp] theorem kMod_int (i j : Int) : kMod (.int i) (.int j) h = if 0 < j then some (.int (i % j), h) else none := rfl
@[simp ↓, simp] theorem kLt_int (i j : Int) : kLt (.int i) (.int j) h = some (.bl (decide (i < j)), h) := rfl
@[simp ↓, simp] theorem kLe_int (i j : Int) : kLe (.int i) (.int j) h = some (.bl (decide (i ≤ j)), h) := rfl
@[simp ↓, simp] theorem kGt_int (i j : Int) : kGt (.int i) (.int j) h = some (.bl (decide (j < i)), h) := rfl
@[simp ↓, simp] theorem kGe_int (i j : Int) : kGe (.int i) (.int j) h = some (.bl (decide (j ≤ i)), h) := rfl
@[simp ↓, simp] theorem kEq_ (x y : D) : kEq x y h = match dEq h x y with
    | none => none
    | some b => some (.bl b, h) := by unfold kEq; cases dEq h x y <;> rfl
@[simp ↓, simp] theorem kNe_ (x y : D) : kNe x y h = match dEq h x y with
    | none => none
    | some b => some (.bl (!b), h) := by unfold kNe; cases dEq h x y <;> rfl
@[simp ↓, simp] theorem dEq_int (i j : Int) : dEq h (.int i) (.int j) = some (decide (i = j)) := rfl
@[simp ↓, simp] theorem dEq_str (i j : Str) : dEq h (.str i) (.str j) = some (decide (i = j)) := rfl
@[simp ↓, simp] theorem dEq_bl (i j : Bool) : dEq h (.bl i) (.bl j) = some (decide (i = j)) := rfl
@[simp ↓, simp] theorem dEq_non_int (j : Int) : dEq h .non (.int j) = some false := rfl
@[simp ↓, simp] theorem kIsN_non (x : D) : kIsN x .non h = some (.bl (decide (x = .non)), h) := rfl
@[simp ↓, simp] theorem kNotN_non (x : D) : kNotN x .non h = some (.bl (!decide (x = .non)), h) := rfl
@[simp ↓, simp] theorem kIsN_bl (x y : Bool) : kIsN (.bl x) (.bl y) h = some (.bl (decide (x = y)), h) := rfl
@[simp ↓, simp] theorem kNotN_bl (x y : Bool) : kNotN (.bl x) (.bl y) h = some (.bl (!decide (x = y)), h) := rfl
theorem atI_nat_ {α : Type} (xs : List α) (n : Nat) : L2.atI xs (n : Int) = xs[n]? := by
  unfold L2.atI L2.ixN
  rw [if_pos (by omega)]
  by_cases h : n < xs.length
  · rw [if_pos (by omega)]; rfl
  · rw [if_neg (by omega), List.getElem?_eq_none (by omega)]; rfl
@[simp ↓, simp] theorem kSub_tup (xs : List D) (i : Int) : kSub_ (.tup xs) (.int i) h = match L2.atI xs i with
    | none => none
    | some v => some (v, h) := by
  show (L2.atI xs i).map _ = _
  cases L2.atI xs i <;> rfl
@[simp ↓, simp] theorem kSub_lst (xs : List D) (i : Int) : kSub_ (.lst xs) (.int i) h = match L2.atI xs i with
    | none => none
    | some v => some (v, h) := by
  show (L2.atI xs i).map _ = _
  cases L2.atI xs i <;> rfl
@[simp ↓, simp] theorem atI_0 {α : Type} (x : α) (xs : List α) : L2.atI (x :: xs) 0 = some x := atI_nat_ (x :: xs) 0
@[simp ↓, simp] theorem atI_1 {α : Type} (x y : α) (xs : List α) : L2.atI (x :: y :: xs) 1 = some y := atI_nat_ (x :: y :: xs) 1
@[simp ↓, simp] theorem atI_2 {α : Type} (x y z : α) (xs : List α) : L2.atI (x :: y :: z :: xs) 2 = some z := atI_nat_ (x :: y :: z :: xs) 2
@[simp ↓, simp] theorem kTup_ (xs : List D) : kTup xs h = if xs.length ≤ 16777216 then some (.tup xs, h) else none := rfl
@[simp ↓, simp] theorem kLstF_ (xs : List D) : kLstF xs h = if xs.length ≤ 16777216 then some (.lst xs, h) else none := rfl
@[simp ↓, simp] theorem kLst_ (xs : List D) : kLst xs h = if xs.length ≤ 16777216 then some (.ref h.length, h ++ [.lst xs]) else none := rfl
@[simp ↓, simp] theorem kMax2_ (i j : Int) : kMax2 [.int i, .int j] h = some (.int (if j > i then j else i), h) := rfl
@[simp ↓, simp] theorem kMin2_ (i j : Int) : kMin2 [.int i, .int j] h = some (.int (if j < i then j else i), h) := rfl
@[simp ↓, simp] theorem kAbs_ (i : Int) : kAbs [.int i] h = some (.int (if i < 0 then -i else i), h) := rfl
@[simp ↓, simp] theorem kLen_tup (xs : List D) : kLen [.tup xs] h = some (.int xs.length, h) := rfl
@[simp ↓, simp] theorem kLen_lst (xs : List D) : kLen [.lst xs] h = some (.int xs.length, h) := rfl
@[simp ↓, simp] theorem kLen_scr (xs : List Int) : kLen [.scr xs] h = some (.int xs.length, h) := by
  show some (D.int ((xs.map D.int).length : Nat), h) = _
  rw [List.length_map]
@[simp ↓, simp] theorem kTupleOf_tup (xs : List D) : kTupleOf [.tup xs] h = some (.tup xs, h) := rfl
@[simp ↓, simp] theorem kTupleOf_lst (xs : List D) : kTupleOf [.lst xs] h = some (.tup xs, h) := rfl
@[simp ↓, simp] theorem anyOf_tup (xs : List D) : anyOf h (.tup xs) = some (xs, yes) := rfl
@[simp ↓, simp] theorem anyOf_lst (xs : List D) : anyOf h (.lst xs) = some (xs, yes) := rfl
@[simp ↓, simp] theorem anyOf_dct (kvs : List (D × D)) : anyOf h (.dct kvs) = some (kvs.map (·.1), yes) := rfl
@[simp ↓, simp] theorem yes_ : yes h = true := rfl
@[simp ↓, simp] theorem cutOf_tup (lo hi : Option Int) (xs : List D) : cutOf h lo hi (.tup xs) = some (.tup (cutD xs lo hi)) := rfl
@[simp ↓, simp] theorem cutOf_lst (lo hi : Option Int) (xs : List D) : cutOf h lo hi (.lst xs) = some (.lst (cutD xs lo hi)) := rfl
@[simp ↓, simp] theorem kAny_lst (xs : List D) : kAny [.lst xs] h = match bls xs with
    | none => none
    | some bs => some (.bl (bs.any id), h) := by
  show (bls xs).map _ = _
  cases bls xs <;> rfl
@[simp ↓, simp] theorem kAll_lst (xs : List D) : kAll [.lst xs] h = match bls xs with
    | none => none
    | some bs => some (.bl (bs.all id), h) := by
  show (bls xs).map _ = _
  cases bls xs <;> rfl
@[simp ↓, simp] theorem bls_nil : bls [] = some [] := rfl
@[simp ↓, simp] theorem bls_cons (b : Bool) (r : List D) : bls (.bl b :: r) = match bls r with
    | none => none
    | some bs => some (b :: bs) := by rw [bls]; cases bls r <;> rfl
@[simp] theorem bls_map (l : List Bool) : bls (l.map D.bl) = some l := by
  induction l with
  | nil => rfl
  | cons b r ih => simp [ih]
@[simp] theorem dInts_map (l : List Int) : dInts (l.map D.int) = some l := by
  induction l with
  | nil => rfl
  | cons b r ih => rw [List.map_cons, dInts, ih]; rfl
@[simp ↓, simp] theorem retOf_nx : retOf .nx = some .non := rfl
@[simp ↓, simp] theorem retOf_rt (d : D) : retOf (.rt d) = some d := rfl
end
theorem mkFn_ {np ns : Nat} {b : Sv} {ds : List D} {h : MH} (hl : ds.length = np) {fl : Fl} {σ : Sg} {h' : MH} {d : D} (e : b (ds.map some ++ List.replicate (ns - np) none) h = some (fl, σ, h')) (er : retOf fl = some d) : mkFn np ns b ds h = some (d, h') := by
  unfold mkFn
  rw [if_pos hl, e]
  show (retOf fl).map _ = _
  rw [er]; rfl
theorem mkP_ {np ns : Nat} {b : Sv} {ds : List D} (hl : ds.length = np) (hc : D.cls ds = true) {fl : Fl} {σ : Sg} {h' : MH} {d d' : D} (e : b (ds.map some ++ List.replicate (ns - np) none) [] = some (fl, σ, h')) (er : retOf fl = some d) (ef : frzN 0 8 h' d = some d') :
    mkP np ns b ds = some d' := by
  unfold mkP
  rw [if_pos hc, mkFn_ hl e er]
  exact ef
theorem ePure_ {F : PFn} {ds : List D} {h : MH} {d : D} (hc : D.cls ds = true) (e : F ds = some d) : ePure F ds h = some (d, h) := by
  unfold ePure
  rw [if_pos hc, e]; rfl
theorem frz_cl {lo n : Nat} {h : MH} {d : D} (hc : D.cl d = true) (ht : ∀ xs, d ≠ .tup xs) : frzN lo (n + 1) h d = some d := by
  cases d with
  | tup xs => exact absurd rfl (ht _)
  | lst xs =>
    rw [D.cl] at hc
    show (if D.cls xs = true then some (D.lst xs) else (mapO (frzN lo n h) xs).map .lst) = _
    rw [if_pos hc]
  | ref n => simp [D.cl] at hc
  | non => rfl
  | bl b => rfl
  | int i => rfl
  | str x => rfl
  | scr x => rfl
  | dct kvs => exact if_pos hc
end PyD
set_option Elab.async false
set_option linter.all false
set_option maxRecDepth 100000
set_option maxHeartbeats 4000000
/-! Mir1: settings, rules, things, ticks as plain data, and that the evaluators play them. -/
namespace PyD
open PySem (Str NestedKey PyData)

inductive Wd where | every | sooner | slower | quiet | times
  deriving DecidableEq, Repr
def Wd.str : Wd → Str
  | .every => "every" | .sooner => "sooner" | .slower => "slower" | .quiet => "quiet" | .times => "times"
structure Rule where
  w : Wd
  n : Int
  m : Int
  deriving DecidableEq
def Rule.d (r : Rule) : D := match r.w with
  | .times => .tup [.str "times", .int r.n, .int r.m]
  | w => .tup [.str w.str, .int r.n]
def optD : Option Int → D
  | none => .non
  | some i => .int i
def gapM (r : Rule) (t : Int) : Option Int := match r.w with
  | .sooner => some (if r.n - t > 1 then r.n - t else 1)
  | .slower => some (if t + 1 < r.n then t + 1 else r.n)
  | .times => if r.m ≤ t then none else some r.n
  | _ => some r.n
@[simp ↓, simp] theorem w_every_sooner : (("every" : Str) = ("sooner" : Str)) = False := eq_false (by decide +kernel)
@[simp ↓, simp] theorem w_every_slower : (("every" : Str) = ("slower" : Str)) = False := eq_false (by decide +kernel)
@[simp ↓, simp] theorem w_every_quiet : (("every" : Str) = ("quiet" : Str)) = False := eq_false (by decide +kernel)
@[simp ↓, simp] theorem w_every_times : (("every" : Str) = ("times" : Str)) = False := eq_false (by decide +kernel)
@[simp ↓, simp] theorem w_sooner_every : (("sooner" : Str) = ("every" : Str)) = False := eq_false (by decide +kernel)
@[simp ↓, simp] theorem w_sooner_slower : (("sooner" : Str) = ("slower" : Str)) = False := eq_false (by decide +kernel)
@[simp ↓, simp] theorem w_sooner_quiet : (("sooner" : Str) = ("quiet" : Str)) = False := eq_false (by decide +kernel)
@[simp ↓, simp] theorem w_sooner_times : (("sooner" : Str) = ("times" : Str)) = False := eq_false (by decide +kernel)
@[simp ↓, simp] theorem w_slower_every : (("slower" : Str) = ("every" : Str)) = False := eq_false (by decide +kernel)
@[simp ↓, simp] theorem w_slower_sooner : (("slower" : Str) = ("sooner" : Str)) = False := eq_false (by decide +kernel)
@[simp ↓, simp] theorem w_slower_quiet : (("slower" : Str) = ("quiet" : Str)) = False := eq_false (by decide +kernel)
@[simp ↓, simp] theorem w_slower_times : (("slower" : Str) = ("times" : Str)) = False := eq_false (by decide +kernel)
@[simp ↓, simp] theorem w_quiet_every : (("quiet" : Str) = ("every" : Str)) = False := eq_false (by decide +kernel)
@[simp ↓, simp] theorem w_quiet_sooner : (("quiet" : Str) = ("sooner" : Str)) = False := eq_false (by decide +kernel)
@[simp ↓, simp] theorem w_quiet_slower : (("quiet" : Str) = ("slower" : Str)) = False := eq_false (by decide +kernel)
@[simp ↓, simp] theorem w_quiet_times : (("quiet" : Str) = ("times" : Str)) = False := eq_false (by decide +kernel)
@[simp ↓, simp] theorem w_times_every : (("times" : Str) = ("every" : Str)) = False := eq_false (by decide +kernel)
@[simp ↓, simp] theorem w_times_sooner : (("times" : Str) = ("sooner" : Str)) = False := eq_false (by decide +kernel)
@[simp ↓, simp] theorem w_times_slower : (("times" : Str) = ("slower" : Str)) = False := eq_false (by decide +kernel)
@[simp ↓, simp] theorem w_times_quiet : (("times" : Str) = ("quiet" : Str)) = False := eq_false (by decide +kernel)

def Rule.ok (r : Rule) : Prop := 1 ≤ r.n ∧ r.n ≤ 4 ∧ 1 ≤ r.m ∧ r.m ≤ 3
theorem optD_cl (o : Option Int) : D.cl (optD o) = true := by cases o <;> rfl
theorem Rule.cl (r : Rule) : D.cl r.d = true := by
  obtain ⟨w, n, m⟩ := r; cases w <;> rfl
theorem Rule.d0 (r : Rule) (h : MH) : kSub_ r.d (.int 0) h = some (.str r.w.str, h) := by
  obtain ⟨w, n, m⟩ := r; cases w <;> simp [Rule.d, Wd.str]
theorem Rule.d1 (r : Rule) (h : MH) : kSub_ r.d (.int 1) h = some (.int r.n, h) := by
  obtain ⟨w, n, m⟩ := r; cases w <;> simp [Rule.d]
@[simp] theorem optD_ne_non (o : Option Int) : (optD o = D.non) = (o = none) := by cases o <;> simp [optD]
theorem gap_of_run (r : Rule) (t : Int) : ∃ σ, k_gap_of [some r.d, some (.int t), none, none] [] = some (.rt (optD (gapM r t)), σ, []) := by
  obtain ⟨w, n, m⟩ := r
  cases w <;> simp [k_gap_of, gapM, Rule.d, Wd.str, optD]
  by_cases h : m ≤ t <;> simp [h]
theorem frz_opt (h : MH) (lo n : Nat) (o : Option Int) : frzN lo (n + 1) h (optD o) = some (optD o) := by cases o <;> rfl
@[simp ↓, simp] theorem gap_of_ (r : Rule) (t : Int) : F_gap_of [r.d, .int t] = some (optD (gapM r t)) := by
  obtain ⟨σ, e⟩ := gap_of_run r t
  exact mkP_ rfl (by simp [D.cls, D.cl, Rule.cl]) e rfl (frz_opt ..)
@[simp ↓, simp] theorem gap_of_p (r : Rule) (t : Int) (h : MH) : ePure F_gap_of [r.d, .int t] h = some (optD (gapM r t), h) :=
  ePure_ (by simp [D.cls, D.cl, Rule.cl]) (gap_of_ r t)

structure Th where
  l : Option Int
  t : Int
  r : Bool
  deriving DecidableEq
def Th.d (x : Th) : D := .tup [optD x.l, .int x.t, .bl x.r]
def plD (p : List Th) : D := .tup (p.map Th.d)
structure Setg where
  o : Int
  k : Int
  deriving DecidableEq
def Setg.d (s : Setg) : D := .tup [.int s.o, .int s.k]
def Setg.ok (s : Setg) : Prop := 1 ≤ s.o ∧ s.o ≤ 2 ∧ 1 ≤ s.k ∧ s.k ≤ 3
theorem Setg.cl (s : Setg) : D.cl s.d = true := rfl
theorem Setg.d0 (s : Setg) (h : MH) : kSub_ s.d (.int 0) h = some (.int s.o, h) := by simp [Setg.d]
theorem Setg.d1 (s : Setg) (h : MH) : kSub_ s.d (.int 1) h = some (.int s.k, h) := by simp [Setg.d]
theorem Th.cl (x : Th) : D.cl x.d = true := by simp [Th.d, D.cl, D.cls, optD_cl]
theorem cls_map {α : Type} (f : α → D) (hf : ∀ x, D.cl (f x) = true) (l : List α) : D.cls (l.map f) = true := by
  induction l with
  | nil => rfl
  | cons x r ih => simp [D.cls, hf, ih]
theorem plD_cl (p : List Th) : D.cl (plD p) = true := by rw [plD, D.cl]; exact cls_map _ Th.cl p
theorem cls_cons (x : D) (r : List D) : D.cls (x :: r) = (D.cl x && D.cls r) := by rw [D.cls]
theorem cls_nil : D.cls [] = true := rfl
theorem cl_int (i : Int) : D.cl (.int i) = true := rfl
theorem cl_bl (i : Bool) : D.cl (.bl i) = true := rfl
theorem cl_str (i : Str) : D.cl (.str i) = true := rfl
theorem cl_tup (xs : List D) : D.cl (.tup xs) = D.cls xs := by rw [D.cl]
theorem cl_lst (xs : List D) : D.cl (.lst xs) = D.cls xs := by rw [D.cl]
/-- freezing what is closed changes nothing, tuples deep enough -/
def D.dep : D → Nat
  | .tup xs => D.depL xs + 1
  | _ => 0
where D.depL : List D → Nat
  | [] => 0
  | x :: r => max (D.dep x) (D.depL r)
end PyD
set_option Elab.async false
set_option linter.all false
set_option maxRecDepth 100000
set_option maxHeartbeats 4000000
/-! Mir2: ticks. -/
namespace PyD
open PySem (Str NestedKey PyData)
theorem mapO_map {α β γ : Type} {f : β → Option γ} {g : α → β} {k : α → γ} {l : List α} (H : ∀ x ∈ l, f (g x) = some (k x)) : mapO f (l.map g) = some (l.map k) := by
  induction l with
  | nil => rfl
  | cons x r ih =>
    rw [List.map_cons, mapO, H x (.head _), ih fun y hy => H y (.tail _ hy)]; rfl
theorem frz_tup {lo n : Nat} {h : MH} {xs ys : List D} (e : mapO (frzN lo n h) xs = some ys) : frzN lo (n + 1) h (.tup xs) = some (.tup ys) := by
  show (mapO (frzN lo n h) xs).map D.tup = _
  rw [e]; rfl
theorem frz_lst {lo n : Nat} {h : MH} {xs : List D} (e : D.cls xs = true) : frzN lo (n + 1) h (.lst xs) = some (.lst xs) := by
  show (if D.cls xs = true then some (D.lst xs) else (mapO (frzN lo n h) xs).map .lst) = _
  rw [if_pos e]
theorem frz_lst' {lo n : Nat} {h : MH} {xs ys : List D} (e : D.cls xs = false) (e2 : mapO (frzN lo n h) xs = some ys) : frzN lo (n + 1) h (.lst xs) = some (.lst ys) := by
  show (if D.cls xs = true then some (D.lst xs) else (mapO (frzN lo n h) xs).map .lst) = _
  rw [if_neg (by rw [e]; decide), e2]; rfl
theorem frz_ref {lo n m : Nat} {h : MH} {xs ys : List D} (hl : lo ≤ m) (hm : h[m]? = some (.lst xs)) (e : mapO (frzN lo n h) xs = some ys) : frzN lo (n + 1) h (.ref m) = some (.lst ys) := by
  show (if lo ≤ m then _ else none) = _
  rw [if_pos hl, hm]
  show (mapO (frzN lo n h) xs).map D.lst = _
  rw [e]; rfl
theorem frz_int (lo n : Nat) (h : MH) (i : Int) : frzN lo (n + 1) h (.int i) = some (.int i) := rfl
theorem frz_bl (lo n : Nat) (h : MH) (i : Bool) : frzN lo (n + 1) h (.bl i) = some (.bl i) := rfl
theorem frz_non (lo n : Nat) (h : MH) : frzN lo (n + 1) h .non = some .non := rfl
theorem frz_str (lo n : Nat) (h : MH) (i : Str) : frzN lo (n + 1) h (.str i) = some (.str i) := rfl
theorem frz_th (lo n : Nat) (h : MH) (x : Th) : frzN lo (n + 2) h x.d = some x.d := by
  apply frz_tup
  rw [mapO, frz_opt, mapO, frz_int, mapO, frz_bl, mapO]; rfl
theorem frz_pl (lo n : Nat) (h : MH) (p : List Th) : frzN lo (n + 3) h (plD p) = some (plD p) :=
  frz_tup (mapO_map fun x _ => frz_th lo n h x)
theorem lcD_map {α : Type} {t : Tg} {e : Ev} {σ : Sg} {h : MH} {enc f : α → D} {σf : α → Sg} {l : List α}
    (H1 : ∀ x ∈ l, t (enc x) σ = some (σf x)) (H2 : ∀ x ∈ l, e (σf x) h = some (f x, h)) : lcD yes t PyD.tYes e σ (l.map enc) h = some (l.map f, h) := by
  induction l with
  | nil => rfl
  | cons x r ih =>
    rw [List.map_cons, lcD_cons_]
    simp only [yes_, if_true, H1 x (.head _), tYes_, H2 x (.head _), ih (fun y hy => H1 y (.tail _ hy)) fun y hy => H2 y (.tail _ hy)]
    rfl

def gap0 (r : Rule) : Int := (gapM r 0).getD 0
theorem gap0_ok {r : Rule} (hr : r.ok) : gapM r 0 = some (gap0 r) := by
  obtain ⟨w, n, m⟩ := r
  obtain ⟨h1, h2, h3, h4⟩ := hr
  dsimp only at h3
  cases w <;> simp [gap0, gapM]
  rw [if_neg (by omega)]
  exact ⟨by omega, rfl⟩
def isQ (r : Rule) : Bool := decide (r.w = .quiet)
def wakeM (r : Rule) (x : Th) : Th := ⟨some (r.n + 1), x.t, x.r⟩
def putM (s : Setg) (x : Th) : Th := ⟨if x.r = true then some (s.k + 1) else x.l, x.t, x.r⟩
/-- the place behind an answer, and whether the list changed -/
def ansM (s : Setg) (r : Rule) (p : List Th) (a : Int) : List Th × Bool :=
  if a = 2 then (p.drop 1, decide (p ≠ []))
  else if a = 3 then (p.map (putM s), p.any (·.r))
  else if a = 1 ∧ (p.length : Int) < s.o then (p ++ [⟨some (gap0 r + 1), 0, false⟩], true)
  else (p, false)
def answeredM (s : Setg) (r : Rule) (p : List Th) (a : Int) : List Th :=
  if (isQ r && (ansM s r p a).2) = true then (ansM s r p a).1.map (wakeM r) else (ansM s r p a).1
theorem quiet_eq (w : Wd) : decide (w.str = ("quiet" : Str)) = decide (w = .quiet) := by cases w <;> simp [Wd.str]
theorem lc_wake {a c d e f g j : Option D} {r : Rule} {p : List Th} {h : MH} :
    lcD yes (gT [gN 5, gN 6, gN 7]) PyD.tYes e_answered_0 [a, some r.d, c, d, e, f, g, j] (p.map Th.d) h = some ((p.map (wakeM r)).map Th.d, h) := by
  rw [lcD_map (f := fun x => (wakeM r x).d) (σf := fun x => [a, some r.d, c, d, e, some (optD x.l), some (.int x.t), some (.bl x.r)]), List.map_map]; rfl
  · intro x _; simp [Th.d]
  · intro x _; simp [e_answered_0, Rule.d1, Th.d, wakeM, optD]
theorem lc_put {b c d e f g j : Option D} {s : Setg} {p : List Th} {h : MH} :
    lcD yes (gT [gN 5, gN 6, gN 7]) PyD.tYes e_answered_1 [some s.d, b, c, d, e, f, g, j] (p.map Th.d) h = some ((p.map (putM s)).map Th.d, h) := by
  rw [lcD_map (f := fun x => (putM s x).d) (σf := fun x => [some s.d, b, c, d, e, some (optD x.l), some (.int x.t), some (.bl x.r)]), List.map_map]; rfl
  · intro x _; simp [Th.d]
  · intro x _; cases hx : x.r <;> simp [e_answered_1, Setg.d1, Th.d, putM, optD, hx]
theorem lc_rang {a b c d e f g j : Option D} {p : List Th} {h : MH} :
    lcD yes (gT [gN 5, gN 6, gN 7]) PyD.tYes e_answered_2 [a, b, c, d, e, f, g, j] (p.map Th.d) h = some ((p.map (·.r)).map D.bl, h) := by
  rw [lcD_map (f := fun x => D.bl x.r) (σf := fun x => [a, b, c, d, e, some (optD x.l), some (.int x.t), some (.bl x.r)]), List.map_map]; rfl
  · intro x _; simp [Th.d]
  · intro x _; simp [e_answered_2]
theorem dEq_tup_nil (h : MH) (p : List Th) (hp : p.length ≤ 2) : dEq h (plD p) (.tup []) = some (decide (p = [])) := by
  rcases p with _ | ⟨⟨l1, t1, r1⟩, _ | ⟨⟨l2, t2, r2⟩, _ | ⟨y, q⟩⟩⟩
  · rfl
  · cases l1 <;> rfl
  · cases l1 <;> cases l2 <;> rfl
  · simp at hp
theorem sIx_nat (n d k : Nat) : HT.sIx n d (some (k : Int)) = min k n := by
  exact HT.sIx_nat n d k
theorem cut_drop (xs : List D) (k : Nat) : cutD xs (some (k : Int)) none = xs.drop k := by
  unfold cutD
  rw [sIx_nat]
  show (xs.drop (min k xs.length)).take (xs.length - min k xs.length) = _
  rcases Nat.le_total k xs.length with hk | hk
  · rw [Nat.min_eq_left hk, List.take_of_length_le (by simp)]
  · rw [Nat.min_eq_right hk, List.drop_of_length_le hk, List.drop_of_length_le (Nat.le_refl _)]; simp
theorem cut_take (xs : List D) (k : Nat) : cutD xs none (some (k : Int)) = xs.take k := by
  unfold cutD
  rw [sIx_nat]
  show (xs.drop 0).take (min k xs.length - 0) = _
  rcases Nat.le_total k xs.length with hk | hk
  · rw [Nat.min_eq_left hk]; simp
  · rw [Nat.min_eq_right hk, List.take_of_length_le hk]; simp
theorem cut_1 (xs : List D) : cutD xs (some 1) none = xs.drop 1 := cut_drop xs 1
theorem anyOf_pl (h : MH) (p : List Th) : anyOf h (plD p) = some (p.map Th.d, yes) := rfl
theorem cut_pl (h : MH) (p : List Th) : cutOf h (some 1) none (plD p) = some (plD (p.drop 1)) := by
  show some (D.tup (cutD (p.map Th.d) (some 1) none)) = _
  rw [cut_1, plD, List.map_drop]
theorem kLen_pl (h : MH) (p : List Th) : kLen [plD p] h = some (.int p.length, h) := by
  rw [plD, kLen_tup, List.length_map]
theorem kAdd_pl (h : MH) (p : List Th) (hp : p.length ≤ 2) (l : Int) : kAdd (plD p) (.tup [.tup [.int l, .int 0, .bl false]]) h = some (plD (p ++ [⟨some l, 0, false⟩]), h) := by
  rw [plD, kAdd_tup, if_pos (by simp; omega), plD, List.map_append]; rfl
theorem tup_pl (p : List Th) : D.tup (p.map Th.d) = plD p := rfl
theorem answered_run (s : Setg) (r : Rule) (p : List Th) (a : Int) (hr : r.ok) (hp : p.length ≤ 2) :
    ∃ σ, k_answered [some s.d, some r.d, some (plD p), some (.int a), none, none, none, none] [] = some (.rt (plD (answeredM s r p a)), σ, []) := by
  have hl : ∀ f : Th → Th, (p.map f).length ≤ 16777216 := fun f => by rw [List.length_map]; omega
  have hl1 : p.length ≤ 16777216 := by omega
  have hl2 : p.length - 1 ≤ 16777216 := by omega
  have hl3 : p.length + 1 ≤ 16777216 := by omega
  by_cases h2 : a = 2
  · subst h2
    have hn : dEq [] (plD []) (.tup []) = some true := rfl
    by_cases hq : r.w = .quiet <;> by_cases hp0 : p = [] <;>
      simp [hn, k_answered, -List.map_map, -List.map_tail, -List.drop_one, -List.map_drop, -List.map_append, -List.map_cons, dEq_tup_nil _ _ hp, Rule.d0, Rule.d1, Setg.d0, Setg.d1, cut_pl, anyOf_pl, kLen_pl, quiet_eq, hq, hp0, lc_wake, lc_put, lc_rang, tup_pl, answeredM, ansM, isQ, hl, hl1, hl2, hl3]
  · by_cases h3 : a = 3
    · subst h3
      by_cases hq : r.w = .quiet <;> by_cases hp0 : ∃ x ∈ p, x.r = true <;>
        simp [k_answered, -List.map_map, -List.map_tail, -List.drop_one, -List.map_drop, -List.map_append, -List.map_cons, dEq_tup_nil _ _ hp, Rule.d0, Rule.d1, Setg.d0, Setg.d1, cut_pl, anyOf_pl, kLen_pl, quiet_eq, hq, hp0, lc_wake, lc_put, lc_rang, tup_pl, answeredM, ansM, isQ, hl, hl1, hl2, hl3]
    · by_cases h1 : a = 1
      · subst h1
        by_cases hq : r.w = .quiet <;> by_cases hp0 : (p.length : Int) < s.o <;>
          simp [k_answered, -List.map_map, -List.map_tail, -List.drop_one, -List.map_drop, -List.map_append, -List.map_cons, dEq_tup_nil _ _ hp, Rule.d0, Rule.d1, Setg.d0, Setg.d1, cut_pl, anyOf_pl, kLen_pl, quiet_eq, hq, hp0, lc_wake, lc_put, lc_rang, tup_pl, answeredM, ansM, isQ, gap0_ok hr, optD, kAdd_pl _ _ hp, hl, hl1, hl2, hl3]
      · by_cases hq : r.w = .quiet <;>
          simp [k_answered, -List.map_map, -List.map_tail, -List.drop_one, -List.map_drop, -List.map_append, -List.map_cons, dEq_tup_nil _ _ hp, Rule.d0, Rule.d1, Setg.d0, Setg.d1, cut_pl, anyOf_pl, kLen_pl, quiet_eq, hq, h1, h2, h3, lc_wake, lc_put, lc_rang, tup_pl, answeredM, ansM, isQ]
theorem answered_ (s : Setg) (r : Rule) (p : List Th) (a : Int) (hr : r.ok) (hp : p.length ≤ 2) (h : MH) : ePure F_answered [s.d, r.d, plD p, .int a] h = some (plD (answeredM s r p a), h) := by
  have hc : D.cls [s.d, r.d, plD p, .int a] = true := by simp [cls_cons, cls_nil, cl_int, Setg.cl, Rule.cl, plD_cl]
  obtain ⟨σ, e⟩ := answered_run s r p a hr hp
  exact ePure_ hc (mkP_ rfl hc e rfl (frz_pl ..))
/-- a thing's tick -/
def thM (r : Rule) (x : Th) : Th :=
  match x.l with
  | none => ⟨none, x.t, false⟩
  | some l => if l - 1 = 0 then ⟨gapM r (if x.t + 1 < 4 then x.t + 1 else 4), if x.t + 1 < 4 then x.t + 1 else 4, true⟩ else ⟨some (l - 1), x.t, false⟩
def ringsM (p : List Th) : Int := p.foldr (fun x i => (if x.r = true then 1 else 0) + i) 0
def tickM (s : Setg) (r : Rule) (p : List Th) (a : Int) : List Th × Int :=
  ((answeredM s r p a).map (thM r), ringsM ((answeredM s r p a).map (thM r)))
theorem tick_body (s : Setg) (r : Rule) (x : Th) (c d : Option D) (n : Int) (acc : List D) (ha : acc.length < 16777216) :
    b_tick_0 [some s.d, some r.d, c, d, some (.ref 0), some (.int n), some (optD x.l), some (.int x.t), some (.bl x.r)] [.lst acc] =
      some (.nx, [some s.d, some r.d, c, d, some (.ref 0), some (.int (n + if (thM r x).r = true then 1 else 0)), some (optD (thM r x).l), some (.int (thM r x).t), some (.bl (thM r x).r)], [.lst (acc ++ [(thM r x).d])]) := by
  obtain ⟨l, t, rg⟩ := x
  cases l with
  | none => simp [b_tick_0, optD, thM, asL, mAppend, ha, Th.d]
  | some l =>
    by_cases h0 : l - 1 = 0
    · simp [b_tick_0, optD, thM, asL, mAppend, ha, Th.d, h0]
    · simp [b_tick_0, optD, thM, asL, mAppend, ha, Th.d, h0]
theorem tick_for (s : Setg) (r : Rule) (p : List Th) (c d : Option D) (n : Int) (acc : List D) (ha : acc.length + p.length ≤ 16777216) (u v w : Option D) :
    ∃ σ, forD yes (gT [gN 6, gN 7, gN 8]) b_tick_0 (p.map Th.d) [some s.d, some r.d, c, d, some (.ref 0), some (.int n), u, v, w] [.lst acc] =
      some (.nx, [some s.d, some r.d, c, d, some (.ref 0), some (.int (n + ringsM (p.map (thM r))))] ++ σ, [.lst (acc ++ (p.map (thM r)).map Th.d)]) := by
  induction p generalizing n acc u v w with
  | nil => exact ⟨[u, v, w], by simp [ringsM]⟩
  | cons x q ih =>
    rw [List.length_cons] at ha
    have hb := tick_body s r x c d n acc (by omega)
    obtain ⟨σ, e⟩ := ih (n + if (thM r x).r = true then 1 else 0) (acc ++ [(thM r x).d]) (by simp; omega) (some (optD (thM r x).l)) (some (.int (thM r x).t)) (some (.bl (thM r x).r))
    refine ⟨σ, ?_⟩
    rw [List.map_cons, forD_cons_]
    have hg : gT [gN 6, gN 7, gN 8] x.d [some s.d, some r.d, c, d, some (.ref 0), some (.int n), u, v, w] = some [some s.d, some r.d, c, d, some (.ref 0), some (.int n), some (optD x.l), some (.int x.t), some (.bl x.r)] := by
      simp [Th.d]
    simp only [yes_, if_true, hg, hb, e]
    simp [ringsM, Int.add_assoc]
theorem tick_run (s : Setg) (r : Rule) (p : List Th) (a : Int) (hr : r.ok) (hp : p.length ≤ 2) (hq : (answeredM s r p a).length ≤ 2) :
    ∃ σ h, k_tick [some s.d, some r.d, some (plD p), some (.int a), none, none, none, none, none] [] = some (.rt (.tup [plD (tickM s r p a).1, .int (tickM s r p a).2]), σ, h) := by
  obtain ⟨σ, e⟩ := tick_for s r (answeredM s r p a) (some (plD p)) (some (.int a)) 0 [] (by simp; omega) none none none
  simp [k_tick, answered_ s r p a hr hp, anyOf_pl, -List.map_map, e, kTupleOf, asL, tup_pl, tickM]
theorem frz_tick (lo n : Nat) (h : MH) (p : List Th) (i : Int) : frzN lo (n + 4) h (.tup [plD p, .int i]) = some (.tup [plD p, .int i]) := by
  apply frz_tup
  rw [mapO, frz_pl, mapO, frz_int, mapO]; rfl
end PyD
set_option Elab.async false
set_option linter.all false
set_option maxRecDepth 100000
set_option maxHeartbeats 4000000
/-! Mir3: rows of ticks. -/
namespace PyD
open PySem (Str NestedKey PyData)
theorem ans_len (s : Setg) (r : Rule) (p : List Th) (a : Int) (hs : s.ok) (hp : p.length ≤ 2) : (answeredM s r p a).length ≤ 2 := by
  have h1 : (ansM s r p a).1.length ≤ 2 := by
    have := hs.2.1
    unfold ansM
    split
    · simp; omega
    · split
      · simpa using hp
      · split
        · simp; omega
        · exact hp
  unfold answeredM
  split
  · simpa using h1
  · exact h1
theorem tick_len (s : Setg) (r : Rule) (p : List Th) (a : Int) (hs : s.ok) (hp : p.length ≤ 2) : (tickM s r p a).1.length ≤ 2 := by
  unfold tickM; simpa using ans_len s r p a hs hp
theorem tick_ (s : Setg) (r : Rule) (p : List Th) (a : Int) (hs : s.ok) (hr : r.ok) (hp : p.length ≤ 2) :
    F_tick [s.d, r.d, plD p, .int a] = some (.tup [plD (tickM s r p a).1, .int (tickM s r p a).2]) := by
  obtain ⟨σ, h, e⟩ := tick_run s r p a hr hp (ans_len s r p a hs hp)
  exact mkP_ rfl (by simp [cls_cons, cls_nil, cl_int, Setg.cl, Rule.cl, plD_cl]) e rfl (frz_tick ..)
theorem tick_p (s : Setg) (r : Rule) (p : List Th) (a : Int) (hs : s.ok) (hr : r.ok) (hp : p.length ≤ 2) (h : MH) :
    ePure F_tick [s.d, r.d, plD p, .int a] h = some (.tup [plD (tickM s r p a).1, .int (tickM s r p a).2], h) :=
  ePure_ (by simp [cls_cons, cls_nil, cl_int, Setg.cl, Rule.cl, plD_cl]) (tick_ s r p a hs hr hp)
/-- the ticks of a row -/
def runM (s : Setg) (r : Rule) : List Th → List Int → List (List Th × Int)
  | _, [] => []
  | p, a :: t => tickM s r p a :: runM s r (tickM s r p a).1 t
def endM (s : Setg) (r : Rule) : List Th → List Int → List Th
  | p, [] => p
  | p, a :: t => endM s r (tickM s r p a).1 t
def pnD (x : List Th × Int) : D := .tup [plD x.1, .int x.2]
def rowD (as : List Int) : D := .lst (as.map D.int)
theorem run_len (s : Setg) (r : Rule) (p : List Th) (as : List Int) : (runM s r p as).length = as.length := by
  induction as generalizing p with
  | nil => rfl
  | cons a t ih => simp [runM, ih]
theorem forD_inv {α : Type} {enc : α → D} {t : Tg} {b : Sv} {I : List α → Sg → MH → Prop}
    (H : ∀ x rest σ h, I (x :: rest) σ h → ∃ σ1 σ2 h2, t (enc x) σ = some σ1 ∧ (b σ1 h = some (.nx, σ2, h2) ∨ b σ1 h = some (.ct, σ2, h2)) ∧ I rest σ2 h2) :
    ∀ (l : List α) (σ : Sg) (h : MH), I l σ h → ∃ σ' h', forD yes t b (l.map enc) σ h = some (.nx, σ', h') ∧ I [] σ' h' := by
  intro l
  induction l with
  | nil => intro σ h hi; exact ⟨σ, h, rfl, hi⟩
  | cons x r ih =>
    intro σ h hi
    obtain ⟨σ1, σ2, h2, e1, e2, e3⟩ := H x r σ h hi
    obtain ⟨σ', h', e4, e5⟩ := ih σ2 h2 e3
    refine ⟨σ', h', ?_, e5⟩
    rw [List.map_cons, forD_cons_]
    rcases e2 with e2 | e2 <;> simp only [yes_, if_true, e1, e2, e4]
theorem anyOf_row (h : MH) (as : List Int) : anyOf h (rowD as) = some (as.map D.int, yes) := rfl
theorem row_fold (as : List Int) : D.lst (as.map D.int) = rowD as := rfl
theorem run_run (s : Setg) (r : Rule) (as : List Int) (hs : s.ok) (hr : r.ok) (ha : as.length ≤ 16777216) :
    ∃ σ h, k_run [some s.d, some r.d, some (rowD as), none, none, none, none] [] = some (.rt (.ref 0), σ, h) ∧ h[0]? = some (.lst ((runM s r [] as).map pnD)) := by
  obtain ⟨σ, h, e, p, acc, u, v, e1, e2, e3, e4, e5⟩ := forD_inv (enc := D.int) (t := gN 3) (b := b_run_0)
    (I := fun rest σ h => ∃ p acc u v, σ = [some s.d, some r.d, some (rowD as), u, some (plD p), some (.ref 0), v] ∧ h = [.lst (acc.map pnD)] ∧ p.length ≤ 2 ∧ acc.length + rest.length = as.length ∧ acc ++ runM s r p rest = runM s r [] as)
    (by
      rintro x rest σ h ⟨p, acc, u, v, rfl, rfl, e3, e4, e5⟩
      rw [List.length_cons] at e4
      refine ⟨_, [some s.d, some r.d, some (rowD as), some (.int x), some (plD (tickM s r p x).1), some (.ref 0), some (.int (tickM s r p x).2)], [.lst ((acc ++ [tickM s r p x]).map pnD)], rfl, .inl ?_, ?_⟩
      · have hl : acc.length < 16777216 := by omega
        simp [b_run_0, tick_p s r p x hs hr e3, mAppend, asL, pnD, hl]
      · refine ⟨_, _, _, _, rfl, rfl, tick_len s r p x hs e3, by simp; omega, ?_⟩
        rw [← e5, runM]; simp)
    as [some s.d, some r.d, some (rowD as), none, some (plD []), some (.ref 0), none] [.lst []] ⟨[], [], none, none, rfl, rfl, by simp, by simp, by simp⟩
  have hb : ∀ h, ePure F_begun [] h = some (plD [], h) := fun h => rfl
  rw [runM, List.append_nil] at e5
  simp [k_run, hb, anyOf_row, e, e1, e2, e5]
  exact ⟨_, _, ⟨rfl, rfl⟩, rfl⟩
theorem frz_run (n : Nat) (h : MH) (l : List (List Th × Int)) (e : h[0]? = some (.lst (l.map pnD))) : frzN 0 (n + 5) h (.ref 0) = some (.lst (l.map pnD)) :=
  frz_ref (Nat.le_refl _) e (mapO_map fun x _ => frz_tick ..)
theorem row_cl (as : List Int) : D.cl (rowD as) = true := by rw [rowD, cl_lst]; exact cls_map _ cl_int as
theorem run_p (s : Setg) (r : Rule) (as : List Int) (hs : s.ok) (hr : r.ok) (ha : as.length ≤ 16777216) (h : MH) : ePure F_run [s.d, r.d, rowD as] h = some (.lst ((runM s r [] as).map pnD), h) := by
  have hc : D.cls [s.d, r.d, rowD as] = true := by simp [cls_cons, cls_nil, Setg.cl, Rule.cl, row_cl]
  obtain ⟨σ, h', e, e2⟩ := run_run s r as hs hr ha
  exact ePure_ hc (mkP_ rfl hc e rfl (frz_run _ _ _ e2))
theorem lc_note {a b c : Option D} {d e : Option D} {l : List (List Th × Int)} {h : MH} :
    lcD yes (gT [gN 3, gN 4]) PyD.tYes e_notes_of_0 [a, b, c, d, e] (l.map pnD) h = some ((l.map (·.2)).map D.int, h) := by
  rw [lcD_map (f := fun x => D.int x.2) (σf := fun x => [a, b, c, some (plD x.1), some (.int x.2)]), List.map_map]; rfl
  · intro x _; simp [pnD]
  · intro x _; simp [e_notes_of_0]
def notesM (s : Setg) (r : Rule) (as : List Int) : List Int := (runM s r [] as).map (·.2)
theorem notes_len (s : Setg) (r : Rule) (as : List Int) : (notesM s r as).length = as.length := by rw [notesM, List.length_map, run_len]
theorem notes_of_p (s : Setg) (r : Rule) (as : List Int) (hs : s.ok) (hr : r.ok) (ha : as.length ≤ 16777216) (h : MH) : ePure F_notes_of [s.d, r.d, rowD as] h = some (rowD (notesM s r as), h) := by
  have hc : D.cls [s.d, r.d, rowD as] = true := by simp [cls_cons, cls_nil, Setg.cl, Rule.cl, row_cl]
  have e : ∃ σ, k_notes_of [some s.d, some r.d, some (rowD as), none, none] [] = some (.rt (rowD (notesM s r as)), σ, []) := by
    simp [k_notes_of, run_p s r as hs hr ha, lc_note, -List.map_map, run_len, ha, row_fold, notesM]
  obtain ⟨σ, e⟩ := e
  exact ePure_ hc (mkP_ rfl hc e rfl (by rw [rowD]; exact frz_lst (cls_map _ cl_int _)))
end PyD
set_option Elab.async false
set_option linter.all false
set_option maxRecDepth 100000
set_option maxHeartbeats 4000000
/-! Mir4: what is valid; the rows. -/
namespace PyD
open PySem (Str NestedKey PyData)
@[simp ↓] theorem isT_int_int (i : Int) (h : MH) : kIsT "int" (.int i) h = some (.bl true, h) := rfl
@[simp ↓] theorem isT_bool_int (i : Int) (h : MH) : kIsT "bool" (.int i) h = some (.bl false, h) := rfl
@[simp ↓] theorem isT_tup_tup (i : List D) (h : MH) : kIsT "tuple" (.tup i) h = some (.bl true, h) := rfl
@[simp ↓] theorem isT_lst_lst (i : List D) (h : MH) : kIsT "list" (.lst i) h = some (.bl true, h) := rfl
@[simp ↓] theorem isT_str_str (i : Str) (h : MH) : kIsT "str" (.str i) h = some (.bl true, h) := rfl
theorem is_int_p (i a b : Int) (h : MH) : ePure F_is_int [.int i, .int a, .int b] h = some (.bl (decide (a ≤ i ∧ i ≤ b)), h) := by
  have hc : D.cls [.int i, .int a, .int b] = true := rfl
  have e : ∃ σ, k_is_int [some (.int i), some (.int a), some (.int b)] [] = some (.rt (.bl (decide (a ≤ i ∧ i ≤ b))), σ, []) := by
    by_cases h1 : a ≤ i <;> simp [k_is_int, h1]
  obtain ⟨σ, e⟩ := e
  exact ePure_ hc (mkP_ rfl hc e rfl rfl)
theorem is_setting_p (s : Setg) (hs : s.ok) (h : MH) : ePure F_is_setting [s.d] h = some (.bl true, h) := by
  obtain ⟨h1, h2, h3, h4⟩ := hs
  have e : ∃ σ, k_is_setting [some s.d] [] = some (.rt (.bl true), σ, []) := by
    simp [k_is_setting, Setg.d, is_int_p, h1, h2, h3, h4]
  obtain ⟨σ, e⟩ := e
  exact ePure_ rfl (mkP_ rfl rfl e rfl rfl)
theorem need_setting_p (s : Setg) (hs : s.ok) (h : MH) : ePure F_need_setting [s.d] h = some (.non, h) := by
  have e : ∃ σ, k_need_setting [some s.d] [] = some (.nx, σ, []) := by
    simp [k_need_setting, is_setting_p s hs]
  obtain ⟨σ, e⟩ := e
  exact ePure_ rfl (mkP_ rfl rfl e rfl rfl)
theorem plain_in (w : Wd) (h : MH) : kIn_ (.str w.str) (.tup ((["every", "quiet", "slower", "sooner"] : List Str).map D.str)) h = some (.bl (decide (w ≠ .times)), h) := by
  cases w <;> rfl
theorem is_rule_p (r : Rule) (hr : r.ok) (h : MH) : ePure F_is_rule [r.d] h = some (.bl true, h) := by
  have hc : D.cls [r.d] = true := by simp [cls_cons, cls_nil, Rule.cl]
  have e : ∃ σ, k_is_rule [some r.d] [] = some (.rt (.bl true), σ, []) := by
    obtain ⟨w, n, m⟩ := r
    obtain ⟨h1, h2, h3, h4⟩ := hr
    have h5 := plain_in w []
    dsimp only at h1 h2 h3 h4
    cases w <;> simp [-List.map_cons, Wd.str] at h5 <;> simp [-List.map_cons, k_is_rule, Rule.d, Wd.str, is_int_p, h1, h2, h3, h4, h5]
  obtain ⟨σ, e⟩ := e
  exact ePure_ hc (mkP_ rfl hc e rfl rfl)
theorem need_rule_p (r : Rule) (hr : r.ok) (h : MH) : ePure F_need_rule [r.d] h = some (.non, h) := by
  have hc : D.cls [r.d] = true := by simp [cls_cons, cls_nil, Rule.cl]
  have e : ∃ σ, k_need_rule [some r.d] [] = some (.nx, σ, []) := by
    simp [k_need_rule, is_rule_p r hr]
  obtain ⟨σ, e⟩ := e
  exact ePure_ hc (mkP_ rfl hc e rfl rfl)
theorem need_both_p (s : Setg) (r : Rule) (hs : s.ok) (hr : r.ok) (h : MH) : ePure F_need_both [s.d, r.d] h = some (.non, h) := by
  have hc : D.cls [s.d, r.d] = true := by simp [cls_cons, cls_nil, Setg.cl, Rule.cl]
  have e : ∃ σ, k_need_both [some s.d, some r.d] [] = some (.nx, σ, []) := by
    simp [k_need_both, need_rule_p r hr, need_setting_p s hs]
  obtain ⟨σ, e⟩ := e
  exact ePure_ hc (mkP_ rfl hc e rfl rfl)
def okRow (as : List Int) : Prop := as.length ≤ 40 ∧ ∀ a ∈ as, 0 ≤ a ∧ a ≤ 3
theorem okRow.len {as : List Int} (h : okRow as) : as.length ≤ 16777216 := by have := h.1; omega
theorem kLen_row (h : MH) (as : List Int) : kLen [rowD as] h = some (.int as.length, h) := by
  rw [rowD, kLen_lst, List.length_map]
theorem lc_okrow {a b : Option D} {as : List Int} (ha : ∀ a ∈ as, 0 ≤ a ∧ a ≤ 3) {h : MH} :
    lcD yes (gN 1) PyD.tYes e_are_answers_0 [a, b] (as.map D.int) h = some ((as.map fun _ => true).map D.bl, h) := by
  rw [lcD_map (f := fun x => D.bl true) (σf := fun x => [a, some (.int x)]), List.map_map]; rfl
  · intro x _; simp
  · intro x hx; simp [e_are_answers_0, is_int_p, (ha x hx).1, (ha x hx).2]
theorem are_answers_p (as : List Int) (ha : okRow as) (h : MH) : ePure F_are_answers [rowD as] h = some (.bl true, h) := by
  have hc : D.cls [rowD as] = true := by simp [cls_cons, cls_nil, row_cl]
  have hi : ∀ h, kIsT "list" (rowD as) h = some (.bl true, h) := fun h => rfl
  have h1 : ¬ (40 : Int) < as.length := by have := ha.1; omega
  have h2 := ha.len
  have e : ∃ σ, k_are_answers [some (rowD as), none] [] = some (.rt (.bl true), σ, []) := by
    simp [k_are_answers, hi, kLen_row, h1, anyOf_row, lc_okrow ha.2, -List.map_map, -List.map_const, h2]
  obtain ⟨σ, e⟩ := e
  exact ePure_ hc (mkP_ rfl hc e rfl rfl)
theorem need_answers_p (as : List Int) (ha : okRow as) (h : MH) : ePure F_need_answers [rowD as] h = some (.non, h) := by
  have hc : D.cls [rowD as] = true := by simp [cls_cons, cls_nil, row_cl]
  have e : ∃ σ, k_need_answers [some (rowD as)] [] = some (.nx, σ, []) := by
    simp [k_need_answers, are_answers_p as ha]
  obtain ⟨σ, e⟩ := e
  exact ePure_ hc (mkP_ rfl hc e rfl rfl)
theorem need_run_p (s : Setg) (r : Rule) (as : List Int) (hs : s.ok) (hr : r.ok) (ha : okRow as) (h : MH) : ePure F_need_run [s.d, r.d, rowD as] h = some (.non, h) := by
  have hc : D.cls [s.d, r.d, rowD as] = true := by simp [cls_cons, cls_nil, Setg.cl, Rule.cl, row_cl]
  have e : ∃ σ, k_need_run [some s.d, some r.d, some (rowD as)] [] = some (.nx, σ, []) := by
    simp [k_need_run, need_both_p s r hs hr, need_answers_p as ha]
  obtain ⟨σ, e⟩ := e
  exact ePure_ hc (mkP_ rfl hc e rfl rfl)
theorem notes_along_p (s : Setg) (r : Rule) (as : List Int) (hs : s.ok) (hr : r.ok) (ha : okRow as) (h : MH) : ePure F_notes_along [s.d, r.d, rowD as] h = some (rowD (notesM s r as), h) := by
  have hc : D.cls [s.d, r.d, rowD as] = true := by simp [cls_cons, cls_nil, Setg.cl, Rule.cl, row_cl]
  have e : ∃ σ, k_notes_along [some s.d, some r.d, some (rowD as)] [] = some (.rt (rowD (notesM s r as)), σ, []) := by
    simp [k_notes_along, need_run_p s r as hs hr ha, notes_of_p s r as hs hr ha.len]
  obtain ⟨σ, e⟩ := e
  exact ePure_ hc (mkP_ rfl hc e rfl (by rw [rowD]; exact frz_lst (cls_map _ cl_int _)))
def opensM (s : Setg) (r : Rule) (as : List Int) : List Int := (runM s r [] as).map fun x => (x.1.length : Int)
theorem opens_along_p (s : Setg) (r : Rule) (as : List Int) (hs : s.ok) (hr : r.ok) (ha : okRow as) (h : MH) : ePure F_opens_along [s.d, r.d, rowD as] h = some (rowD (opensM s r as), h) := by
  have hc : D.cls [s.d, r.d, rowD as] = true := by simp [cls_cons, cls_nil, Setg.cl, Rule.cl, row_cl]
  have hl : ∀ {a b c d e : Option D} {l : List (List Th × Int)} {h : MH},
    lcD yes (gT [gN 3, gN 4]) PyD.tYes e_opens_along_0 [a, b, c, d, e] (l.map pnD) h = some ((l.map fun x => (x.1.length : Int)).map D.int, h) := by
    intro a b c d e l h
    rw [lcD_map (f := fun x => D.int x.1.length) (σf := fun x => [a, b, c, some (plD x.1), some (.int x.2)]), List.map_map]; rfl
    · intro x _; simp [pnD]
    · intro x _; simp [e_opens_along_0, kLen_pl]
  have e : ∃ σ, k_opens_along [some s.d, some r.d, some (rowD as), none, none] [] = some (.rt (rowD (opensM s r as)), σ, []) := by
    simp [k_opens_along, need_run_p s r as hs hr ha, run_p s r as hs hr ha.len, hl, -List.map_map, run_len, ha.len, row_fold, opensM]
  obtain ⟨σ, e⟩ := e
  exact ePure_ hc (mkP_ rfl hc e rfl (by rw [rowD]; exact frz_lst (cls_map _ cl_int _)))
def leftD (p : List Th) : D := .tup ((p.map (·.l)).map optD)
def leftsM (s : Setg) (r : Rule) (as : List Int) : List (List Th) := (runM s r [] as).map (·.1)
def leftsD (l : List (List Th)) : D := .lst (l.map leftD)
theorem leftD_cl (p : List Th) : D.cl (leftD p) = true := by rw [leftD, cl_tup]; exact cls_map _ optD_cl _
theorem run_le (s : Setg) (r : Rule) (p : List Th) (as : List Int) (hs : s.ok) (hp : p.length ≤ 2) : ∀ x ∈ runM s r p as, x.1.length ≤ 2 := by
  induction as generalizing p with
  | nil => simp [runM]
  | cons a t ih =>
    intro x hx
    rw [runM, List.mem_cons] at hx
    rcases hx with rfl | hx
    · exact tick_len s r p a hs hp
    · exact ih _ (tick_len s r p a hs hp) x hx
theorem lc_left {a b c d e : Option D} {f g i : Option D} {p : List Th} {h : MH} :
    lcD yes (gT [gN 5, gN 6, gN 7]) PyD.tYes e_lefts_along_0 [a, b, c, d, e, f, g, i] (p.map Th.d) h = some ((p.map (·.l)).map optD, h) := by
  rw [lcD_map (f := fun x => optD x.l) (σf := fun x => [a, b, c, d, e, some (optD x.l), some (.int x.t), some (.bl x.r)]), List.map_map]; rfl
  · intro x _; simp [Th.d]
  · intro x _; simp [e_lefts_along_0]
theorem lefts_along_p (s : Setg) (r : Rule) (as : List Int) (hs : s.ok) (hr : r.ok) (ha : okRow as) (h : MH) : ePure F_lefts_along [s.d, r.d, rowD as] h = some (leftsD (leftsM s r as), h) := by
  have hc : D.cls [s.d, r.d, rowD as] = true := by simp [cls_cons, cls_nil, Setg.cl, Rule.cl, row_cl]
  have hl : ∀ {a b c d e f g i : Option D} {h : MH},
    lcD yes (gT [gN 3, gN 4]) PyD.tYes e_lefts_along_1 [a, b, c, d, e, f, g, i] ((runM s r [] as).map pnD) h = some ((leftsM s r as).map leftD, h) := by
    intro a b c d e f g i h
    rw [lcD_map (f := fun x => leftD x.1) (σf := fun x => [a, b, c, some (plD x.1), some (.int x.2), f, g, i]), leftsM, List.map_map]; rfl
    · intro x _; simp [pnD]
    · intro x hx
      have h1 := run_le s r [] as hs (by simp) x hx
      have h2 : x.1.length ≤ 16777216 := by omega
      simp [e_lefts_along_1, anyOf_pl, lc_left, -List.map_map, leftD, h2]
  have e : ∃ σ, k_lefts_along [some s.d, some r.d, some (rowD as), none, none, none, none, none] [] = some (.rt (leftsD (leftsM s r as)), σ, []) := by
    have h3 : (leftsM s r as).length ≤ 16777216 := by rw [leftsM, List.length_map, run_len]; exact ha.len
    simp [k_lefts_along, need_run_p s r as hs hr ha, run_p s r as hs hr ha.len, hl, -List.map_map, h3, leftsD]
  obtain ⟨σ, e⟩ := e
  exact ePure_ hc (mkP_ rfl hc e rfl (by rw [leftsD]; exact frz_lst (cls_map _ leftD_cl _)))
end PyD
set_option Elab.async false
set_option linter.all false
set_option maxRecDepth 100000
set_option maxHeartbeats 4000000
/-! Mir5: when what is laid out is equal; drawing from a script. -/
namespace PyD
open PySem (Str NestedKey PyData)
/-- a way to lay things out by which equal means equal -/
structure Eqt {α : Type} [DecidableEq α] (enc : α → D) (n : Nat) where
  pd : α → PyData
  data : ∀ x, D.data (enc x) = some (pd x)
  lay : ∀ x, PyData.canLay0 (pd x) = true
  dep : ∀ x, PyData.depth (pd x) ≤ n
  eqv : ∀ x y, PyData.eqv (pd x) (pd y) = decide (x = y)
  cl : ∀ x, D.cl (enc x) = true
theorem Eqt.flat {α : Type} [DecidableEq α] {enc : α → D} {n : Nat} (e : Eqt enc n) (h : MH) (x : α) : PyD.flat h (enc x) = enc x := by
  unfold PyD.flat
  rw [if_pos (e.cl x)]
theorem Eqt.sh {α : Type} [DecidableEq α] {enc : α → D} {n : Nat} (e : Eqt enc n) (hn : n ≤ 64) (x : α) : PySem.SeqAt.shaped (e.pd x) = true := by
  have h := e.dep x
  unfold PySem.SeqAt.shaped
  rw [e.lay, decide_eq_true (by omega)]; rfl
theorem Eqt.eqG {α : Type} [DecidableEq α] {enc : α → D} {n : Nat} (e : Eqt enc n) (hn : n ≤ 64) (h : MH) (x y : α) : dEqG h (enc x) (enc y) = some (decide (x = y)) := by
  unfold dEqG
  rw [e.flat, e.flat, e.data, e.data]
  simp only [Option.bind_some, e.sh hn, Bool.and_self, if_true, e.eqv]
theorem dEq_of_G (h : MH) (x y : D) (hx : ∀ i, x ≠ .int i) (hs : ∀ i, x ≠ .str i) (hb : ∀ i, x ≠ .bl i) : dEq h x y = dEqG h x y := by
  cases x <;> first
    | rfl
    | exact absurd rfl (hx _)
    | exact absurd rfl (hs _)
    | exact absurd rfl (hb _)
def Eqt.int : Eqt D.int 0 where
  pd := PyData.int
  data _ := rfl
  lay _ := rfl
  dep _ := Nat.le_refl _
  eqv x y := by simp [PyData.eqv]; rfl
  cl _ := rfl
def Eqt.bl : Eqt D.bl 0 where
  pd := PyData.bool
  data _ := rfl
  lay _ := rfl
  dep _ := Nat.le_refl _
  eqv x y := by cases x <;> cases y <;> rfl
  cl _ := rfl
def Eqt.opt : Eqt optD 0 where
  pd := fun | none => .none | some i => .int i
  data x := by cases x <;> rfl
  lay x := by cases x <;> rfl
  dep x := by cases x <;> exact Nat.le_refl _
  eqv x y := by cases x <;> cases y <;> simp [PyData.eqv] <;> rfl
  cl x := by cases x <;> rfl
theorem datas_map {α : Type} {enc : α → D} {pd : α → PyData} (hd : ∀ x, D.data (enc x) = some (pd x)) (l : List α) : D.datas (l.map enc) = some (l.map pd) := by
  induction l with
  | nil => rfl
  | cons x r ih => rw [List.map_cons, D.datas, hd, ih]; rfl
theorem lays_map {α : Type} {pd : α → PyData} (hd : ∀ x, PyData.canLay0 (pd x) = true) (l : List α) : PyData.canLayAll0 (l.map pd) = true := by
  induction l with
  | nil => rfl
  | cons x r ih => rw [List.map_cons, PyData.canLayAll0, hd, ih]; rfl
theorem deps_map {α : Type} {pd : α → PyData} {n : Nat} (hd : ∀ x, PyData.depth (pd x) ≤ n) (l : List α) : PyData.depthAll (l.map pd) ≤ n := by
  induction l with
  | nil => exact Nat.zero_le _
  | cons x r ih => rw [List.map_cons, PyData.depthAll]; exact Nat.max_le.mpr ⟨hd x, ih⟩
theorem eqvs_map {α : Type} [DecidableEq α] {pd : α → PyData} (hd : ∀ x y, PyData.eqv (pd x) (pd y) = decide (x = y)) (l m : List α) : PyData.eqvAll (l.map pd) (m.map pd) = decide (l = m) := by
  induction l generalizing m with
  | nil => cases m <;> simp [PyData.eqvAll]
  | cons x r ih =>
    cases m with
    | nil => simp [PyData.eqvAll]
    | cons y t =>
      rw [List.map_cons, List.map_cons, PyData.eqvAll, hd, ih]
      by_cases h1 : x = y <;> by_cases h2 : r = t <;> simp [h1, h2]
def Eqt.lst {α : Type} [DecidableEq α] {enc : α → D} {n : Nat} (e : Eqt enc n) : Eqt (fun l : List α => .lst (l.map enc)) (n + 1) where
  pd l := .list (l.map e.pd)
  data l := by simp [D.data, datas_map e.data]
  lay l := by simp [PyData.canLay0, lays_map e.lay]
  dep l := by simp [PyData.depth]; exact deps_map e.dep l
  eqv l m := by simp only [PyData.eqv]; exact eqvs_map e.eqv l m
  cl l := by rw [cl_lst]; exact cls_map _ e.cl l
def Eqt.tup {α : Type} [DecidableEq α] {enc : α → D} {n : Nat} (e : Eqt enc n) : Eqt (fun l : List α => .tup (l.map enc)) (n + 1) where
  pd l := .tuple (l.map e.pd)
  data l := by simp [D.data, datas_map e.data]
  lay l := by simp [PyData.canLay0, lays_map e.lay]
  dep l := by simp [PyData.depth]; exact deps_map e.dep l
  eqv l m := by simp only [PyData.eqv]; exact eqvs_map e.eqv l m
  cl l := by rw [cl_tup]; exact cls_map _ e.cl l
theorem row_eq (h : MH) (a b : List Int) : dEq h (rowD a) (rowD b) = some (decide (a = b)) := Eqt.eqG (Eqt.lst Eqt.int) (by decide) h a b
def lftD (l : List (List (Option Int))) : D := .lst (l.map fun p => .tup (p.map optD))
theorem lft_eq (h : MH) (a b : List (List (Option Int))) : dEq h (lftD a) (lftD b) = some (decide (a = b)) := Eqt.eqG (Eqt.lst (Eqt.tup Eqt.opt)) (by decide) h a b
theorem scr_nil (h : MH) (ns : List Int) : dEq h (.scr ns) (.lst []) = some (decide (ns = [])) := by
  have e := Eqt.lst Eqt.int
  have h1 := ((Eqt.lst Eqt.int).sh (by decide) ns)
  have h2 := (Eqt.lst Eqt.int).eqv ns []
  show ((some (PyData.list (ns.map .int))).bind fun a => (some (PyData.list [])).bind fun b => if PySem.SeqAt.shaped a && PySem.SeqAt.shaped b then some (PyData.eqv a b) else none) = _
  simp only [Option.bind_some]
  rw [if_pos]
  · exact congrArg some h2
  · rw [Bool.and_eq_true]; exact ⟨h1, rfl⟩

/-! ### drawing -/
theorem mkH_ {np ns : Nat} {b : Sv} {ds : List D} {h : MH} (hl : ds.length = np) {fl : Fl} {σ : Sg} {h' : MH} {d d' : D} (e : b (ds.map some ++ List.replicate (ns - np) none) h = some (fl, σ, h')) (er : retOf fl = some d)
    (ef : frzN h.length 8 h' d = some d') (hc : (h'.take h.length).all clO = true) (hn : h.length ≤ h'.length) : mkH np ns b ds h = some (d', h'.take h.length) := by
  unfold mkH
  rw [mkFn_ hl e er]
  show (frzN h.length 8 h' d).bind _ = _
  rw [ef]
  show (if _ then _ else none) = _
  rw [if_pos]
  rw [hc, decide_eq_true hn]; rfl
section
variable {h : MH} {t : Nat} {xs : List D}
theorem asM_lst (ht : h[t]? = some (.lst xs)) : asM h (.ref t) = none := by show (match h[t]? with | some (.dct kvs) => some kvs | _ => none) = none; rw [ht]
theorem asL_lst (ht : h[t]? = some (.lst xs)) : asL h (.ref t) = some xs := by show (match h[t]? with | some (.lst xs) => some xs | _ => none) = _; rw [ht]
theorem kSub_ref (ht : h[t]? = some (.lst xs)) (i : Int) : kSub_ (.ref t) (.int i) h = match L2.atI xs i with
    | none => none
    | some v => some (v, h) := by
  unfold kSub_ isDct
  rw [asM_lst ht]
  show (match h[t]? with | some (.lst xs) => some xs | _ => none).bind _ = _
  rw [ht]
  show (L2.atI xs i).map _ = _
  cases L2.atI xs i <;> rfl
theorem kSet_ref (ht : h[t]? = some (.lst xs)) (i : Int) (v : D) : kSet_ (.ref t) (.int i) v h = (L2.ixN xs.length i).map fun j => h.set t (.lst (xs.set j v)) := by
  unfold kSet_ isDct
  rw [asM_lst ht]
  show (match h[t]? with | some (.lst xs) => (L2.ixN xs.length i).map fun j => h.set t (.lst (xs.set j v)) | _ => none) = _
  rw [ht]
theorem kSetL_ref (ht : h[t]? = some (.lst xs)) (i : Int) (v : D) : kSetL (.ref t) (.int i) v h = (L2.ixN xs.length i).map fun j => h.set t (.lst (xs.set j v)) := by
  show (match h[t]? with | some (.lst xs) => (L2.ixN xs.length i).map fun j => h.set t (.lst (xs.set j v)) | _ => none) = _
  rw [ht]
theorem kIxA_ref (ht : h[t]? = some (.lst xs)) (i : Nat) (hi : i < 1000000) : kIxA (.ref t) (.int i) h = (xs[i]?).map fun v => (v, h) := by
  unfold kIxA
  dsimp only
  rw [if_pos ⟨by omega, by omega⟩, asL_lst ht, Int.toNat_natCast]
  rfl
end
theorem kSub_scr (h : MH) (ns : List Int) (i : Nat) (v : Int) (hv : ns[i]? = some v) : kSub_ (.scr ns) (.int i) h = some (.int v, h) := by
  show ((L2.atI (ns.map D.int) (i : Int)).map fun v => (v, h)) = _
  rw [atI_nat_, List.getElem?_map, hv]; rfl
/-- the heap h holds at t where a script is read -/
def Tw (h : MH) (t : Nat) : Prop := ∃ (a : Nat) (b : Int), h[t]? = some (.lst [.int a, .int b]) ∧ h.all clO = true
def twO (a : Nat) (b : Int) : MO := .lst [.int a, .int b]
theorem all_set {α : Type} {p : α → Bool} {l : List α} {i : Nat} {x : α} (h : l.all p = true) (hx : p x = true) : (l.set i x).all p = true := by
  rw [List.all_eq_true] at h ⊢
  intro y hy
  rcases List.mem_or_eq_of_mem_set hy with h' | h'
  · exact h y h'
  · rw [h']; exact hx
theorem Tw.set {h : MH} {t : Nat} (w : Tw h t) (a : Nat) (b : Int) : Tw (h.set t (twO a b)) t := by
  obtain ⟨a', b', e, e'⟩ := w
  refine ⟨a, b, ?_, all_set e' rfl⟩
  rw [List.getElem?_set_self]; rfl
  exact (List.getElem?_eq_some_iff.mp e).1
theorem pow18 (h : MH) : kPow (.int 10) (.int 18) h = some (.int 1000000000000000000, h) := rfl
theorem pow60 (h : MH) : kPow (.int 10) (.int 60) h = some (.int 1000000000000000000000000000000000000000000000000000000000000, h) := rfl
theorem mul60 (h : MH) : kMul (.int 1000000000000000000000000000000000000000000000000000000000000) (.int 1000000000000000000000000000000000000000000000000000000000000) h = some (.int 1000000000000000000000000000000000000000000000000000000000000000000000000000000000000000000000000000000000000000000000000, h) := by
  unfold kMul
  dsimp only
  rw [if_pos (.inr (.inr ⟨by decide +kernel, by decide +kernel⟩))]
  rfl
theorem mulc (i j : Int) (h : MH) (hj : -(2 ^ 64) < j ∧ j < 2 ^ 64) : kMul (.int i) (.int j) h = some (.int (i * j), h) := by
  unfold kMul
  dsimp only
  rw [if_pos (.inr (.inl (by omega)))]
theorem mulc' (i j : Int) (h : MH) (hj : -(2 ^ 64) < i ∧ i < 2 ^ 64) : kMul (.int i) (.int j) h = some (.int (i * j), h) := by
  unfold kMul
  dsimp only
  rw [if_pos (.inl (by omega))]
theorem mulA (i : Int) (h : MH) : kMul (.int i) (.int 1103515245) h = some (.int (i * 1103515245), h) := mulc _ _ _ (by decide)
theorem mulB (i : Int) (h : MH) : kMul (.int 7919) (.int i) h = some (.int (7919 * i), h) := mulc' _ _ _ (by decide)
theorem pow5 (i : Int) (h : MH) : kPow (.int (i % 2147483647)) (.int 5) h = some (.int ((i % 2147483647) ^ 5), h) := by
  unfold kPow
  dsimp only
  have h1 : 0 ≤ i % 2147483647 := Int.emod_nonneg _ (by omega)
  have h2 : i % 2147483647 < 2147483647 := Int.emod_lt_of_pos _ (by omega)
  rw [if_pos ⟨by omega, by omega, by omega⟩]; rfl
theorem draw_run (ns : List Int) (m : Int) (h : MH) (t : Nat) (hw : Tw h t) (hm : 0 < m) (hm2 : m < 1073741824) :
    ∃ (v : Int) (a' : Nat) (b' : Int), 0 ≤ v ∧ v < m ∧ ∃ σ, k_law_draw [some (.scr ns), some (.ref t), some (.int m), none, none, none] h = some (.rt (.int v), σ, h.set t (twO a' b')) := by
  obtain ⟨a, b, e, hc⟩ := hw
  have hlt : t < h.length := (List.getElem?_eq_some_iff.mp e).1
  have e2 : ∀ x, (h.set t x)[t]? = some x := fun x => List.getElem?_set_self hlt
  have hx : ∀ i : Int, 0 ≤ i % m ∧ i % m < m := fun i => ⟨Int.emod_nonneg _ (by omega), Int.emod_lt_of_pos _ hm⟩
  have hm3 : m.natAbs < 1073741824 := by omega
  have i0 : L2.ixN 2 0 = some 0 := rfl
  have i1 : L2.ixN 2 1 = some 1 := rfl
  have h0 := kIxA_ref e 0 (by omega)
  have h1 : ∀ (v : D) (i : Int), kSet_ (.ref t) (.int i) v (h.set t (.lst [.int (a + 1), .int b])) = (L2.ixN 2 i).map fun j => h.set t (.lst ([D.int (a + 1), .int b].set j v)) := by
    intro v i
    rw [kSet_ref (e2 _)]; simp
  by_cases hb : 0 < b
  · refine ⟨b % m, a, b / m, (hx _).1, (hx _).2, ?_⟩
    simp [k_law_draw, kSub_ref e, kSet_ref e, hb, hm, hm3, i1, twO]
  · by_cases hn : ns = []
    · subst hn
      refine ⟨(a : Int) % m, a + 1, b, (hx _).1, (hx _).2, ?_⟩
      simp [k_law_draw, kSub_ref e, kSetL_ref e, hb, hm, hm3, i0, i1, twO, scr_nil] at h0 ⊢
      simp [h0, kSetL_ref e, i0, scr_nil, hm]
    · have hl : 0 < ns.length := List.length_pos_iff.mpr hn
      have hml : ((a : Int) % (ns.length : Int)) = ((a % ns.length : Nat) : Int) := by simp
      have hlt2 : a % ns.length < ns.length := Nat.mod_lt _ hl
      have hg2 : ns[a % ns.length]? = some ns[a % ns.length] := List.getElem?_eq_getElem hlt2
      have hx5 : ∀ i : Int, 0 ≤ i % 2147483647 ∧ i % 2147483647 < 2147483647 := fun i => ⟨Int.emod_nonneg _ (by omega), Int.emod_lt_of_pos _ (by omega)⟩
      have hlp : (0 : Int) < (ns.length : Int) := by omega
      have hS : ∀ h', kSub_ (.scr ns) (.int ((a : Int) % (ns.length : Int))) h' = some (.int ns[a % ns.length], h') := fun h' => by rw [hml]; exact kSub_scr h' ns _ _ hg2
      by_cases hbig : ∃ v, ns[a]? = some v ∧ v ≥ 1000000000000000000
      · obtain ⟨v, hv, hv2⟩ := hbig
        have hal : (a : Int) < (ns.length : Int) := by have := (List.getElem?_eq_some_iff.mp hv).1; omega
        refine ⟨v % m, a + 1, v / m % (1000000000000000000000000000000000000000000000000000000000000000000000000000000000000000000000000000000000000000000000000), (hx _).1, (hx _).2, ?_⟩
        simp [k_law_draw, kSub_ref e, kSetL_ref e, hb, hm, hm3, i0, i1, twO, scr_nil] at h0 ⊢
        simp [h0, kSetL_ref e, i0, scr_nil, hm, hn, hal, kSub_scr _ _ _ _ hv, pow18, pow60, mul60, hv2, hm3, h1, i1]
      · have hbig2 : ∀ v, ns[a]? = some v → ¬ (v ≥ 1000000000000000000) := fun v hv hv2 => hbig ⟨v, hv, hv2⟩
        have hp5 : ∀ i : Int, (i % 2147483647).natAbs < 2 ^ 64 := fun i => by have := hx5 i; omega
        by_cases hal : a < ns.length
        · have hv := List.getElem?_eq_getElem hal
          have hv2 := hbig2 _ hv
          have hal' : (a : Int) < (ns.length : Int) := by omega
          refine ⟨((ns[a % ns.length] * 1103515245 + 7919 * (a : Int) + 12345) % 2147483647) ^ 5 % 2147483647 % 999983 % m, a + 1, b, (hx _).1, (hx _).2, ?_⟩
          simp [k_law_draw, kSub_ref e, kSetL_ref e, hb, hm, hm3, i0, i1, twO, scr_nil] at h0 ⊢
          simp [h0, kSetL_ref e, i0, scr_nil, hm, hn, hal', kSub_scr _ _ _ _ hv, pow18, hv2, mulA, mulB, pow5, hlp, hl, hS]
        · have hal' : ¬ (a : Int) < (ns.length : Int) := by omega
          refine ⟨((ns[a % ns.length] * 1103515245 + 7919 * (a : Int) + 12345) % 2147483647) ^ 5 % 2147483647 % 999983 % m, a + 1, b, (hx _).1, (hx _).2, ?_⟩
          simp [k_law_draw, kSub_ref e, kSetL_ref e, hb, hm, hm3, i0, i1, twO, scr_nil] at h0 ⊢
          simp [h0, kSetL_ref e, i0, scr_nil, hm, hn, hal', pow18, mulA, mulB, pow5, hlp, hl, hS]
/-- the heap h' is h, read on in the script -/
def Dr (h : MH) (t : Nat) (h' : MH) : Prop := ∃ (a : Nat) (b : Int), h' = h.set t (twO a b)
theorem Dr.tw {h h' : MH} {t : Nat} (d : Dr h t h') (w : Tw h t) : Tw h' t := by
  obtain ⟨a, b, rfl⟩ := d; exact w.set a b
theorem Dr.trans {h h' h'' : MH} {t : Nat} (d : Dr h t h') (d' : Dr h' t h'') : Dr h t h'' := by
  obtain ⟨a, b, rfl⟩ := d; obtain ⟨a', b', rfl⟩ := d'; exact ⟨a', b', by simp⟩
theorem Dr.len {h h' : MH} {t : Nat} (d : Dr h t h') : h'.length = h.length := by
  obtain ⟨a, b, rfl⟩ := d; simp
theorem Dr.get {h h' : MH} {t n : Nat} (d : Dr h t h') (hn : t ≠ n) : h'[n]? = h[n]? := by
  obtain ⟨a, b, rfl⟩ := d; exact List.getElem?_set_ne hn
theorem Tw.cl {h : MH} {t : Nat} (w : Tw h t) : h.all clO = true := by obtain ⟨_, _, _, e⟩ := w; exact e
theorem Dr.mkH {np ns : Nat} {b : Sv} {ds : List D} {h h' : MH} {t : Nat} (d : Dr h t h') (w : Tw h t) (hl : ds.length = np) {fl : Fl} {σ : Sg} {r r' : D} (e : b (ds.map some ++ List.replicate (ns - np) none) h = some (fl, σ, h')) (er : retOf fl = some r)
    (ef : frzN h.length 8 h' r = some r') : mkH np ns b ds h = some (r', h') := by
  have e1 := mkH_ hl e er ef (by rw [← d.len, List.take_length]; exact (d.tw w).cl) (by rw [d.len]; exact Nat.le_refl _)
  rw [← d.len, List.take_length] at e1
  exact e1
theorem draw_ (ns : List Int) (m : Int) (h : MH) (t : Nat) (hw : Tw h t) (hm : 0 < m) (hm2 : m < 1073741824) :
    ∃ v h', 0 ≤ v ∧ v < m ∧ Dr h t h' ∧ F_law_draw [.scr ns, .ref t, .int m] h = some (.int v, h') := by
  obtain ⟨v, a, b, h1, h2, σ, e⟩ := draw_run ns m h t hw hm hm2
  exact ⟨v, _, h1, h2, ⟨a, b, rfl⟩, Dr.mkH ⟨a, b, rfl⟩ hw rfl e rfl rfl⟩
theorem setting_ (ns : List Int) (h : MH) (t : Nat) (hw : Tw h t) :
    ∃ s h', Setg.ok s ∧ Dr h t h' ∧ F_law_setting [.scr ns, .ref t] h = some (s.d, h') := by
  obtain ⟨v1, h1, p1, p2, d1, e1⟩ := draw_ ns 2 h t hw (by decide) (by decide)
  obtain ⟨v2, h2, p3, p4, d2, e2⟩ := draw_ ns 3 h1 t (d1.tw hw) (by decide) (by decide)
  have e : ∃ σ, k_law_setting [some (.scr ns), some (.ref t)] h = some (.rt (.tup [.int (1 + v1), .int (1 + v2)]), σ, h2) := by
    simp [k_law_setting, e1, e2]
  obtain ⟨σ, e⟩ := e
  refine ⟨⟨1 + v1, 1 + v2⟩, h2, ⟨?_, ?_, ?_, ?_⟩, d1.trans d2, Dr.mkH (d1.trans d2) hw rfl e rfl rfl⟩ <;> dsimp only <;> omega
def wdOf : Int → Wd := fun i => if i = 0 then .every else if i = 1 then .sooner else if i = 2 then .slower else if i = 3 then .quiet else .times
theorem rule_ (ns : List Int) (h : MH) (t : Nat) (hw : Tw h t) :
    ∃ r h', Rule.ok r ∧ Dr h t h' ∧ F_law_rule [.scr ns, .ref t] h = some (r.d, h') := by
  obtain ⟨v1, h1, p1, p2, d1, e1⟩ := draw_ ns 5 h t hw (by decide) (by decide)
  obtain ⟨v2, h2, p3, p4, d2, e2⟩ := draw_ ns 4 h1 t (d1.tw hw) (by decide) (by decide)
  obtain ⟨v3, h3, p5, p6, d3, e3⟩ := draw_ ns 3 h2 t (d2.tw (d1.tw hw)) (by decide) (by decide)
  have ep : ∃ w : Wd, F_law_pick [.scr ns, .ref t, .lst [.str "every", .str "sooner", .str "slower", .str "quiet", .str "times"]] h = some (.str w.str, h1) := by
    have e : ∃ σ, k_law_pick [some (.scr ns), some (.ref t), some (.lst [.str "every", .str "sooner", .str "slower", .str "quiet", .str "times"])] h = some (.rt (.str (wdOf v1).str), σ, h1) := by
      have h5 : v1 = 0 ∨ v1 = 1 ∨ v1 = 2 ∨ v1 = 3 ∨ v1 = 4 := by omega
      rcases h5 with rfl | rfl | rfl | rfl | rfl <;> simp [k_law_pick, e1, wdOf, Wd.str]
      · exact ⟨_, rfl⟩
      · exact ⟨_, rfl⟩
    obtain ⟨σ, e⟩ := e
    exact ⟨_, Dr.mkH d1 hw rfl e rfl rfl⟩
  obtain ⟨w, ep⟩ := ep
  have d12 := d1.trans d2
  by_cases hwt : w = .times
  · subst hwt
    have e : ∃ σ, k_law_rule [some (.scr ns), some (.ref t), none, none] h = some (.rt (Rule.d ⟨.times, 1 + v2, 1 + v3⟩), σ, h3) := by
      simp [k_law_rule, ep, Wd.str] at ep ⊢
      simp [ep, e2, e3, Rule.d]
    obtain ⟨σ, e⟩ := e
    refine ⟨⟨.times, 1 + v2, 1 + v3⟩, h3, ⟨?_, ?_, ?_, ?_⟩, d12.trans d3, Dr.mkH (d12.trans d3) hw rfl e rfl rfl⟩ <;> dsimp only <;> omega
  · have e : ∃ σ, k_law_rule [some (.scr ns), some (.ref t), none, none] h = some (.rt (Rule.d ⟨w, 1 + v2, 1⟩), σ, h2) := by
      have hs : decide (w.str = ("times" : Str)) = false := by cases w <;> simp [Wd.str] at hwt ⊢
      simp [k_law_rule, ep, e2, hs]
      cases w <;> first | exact absurd rfl hwt | (simp [Rule.d, Wd.str]; done)
    obtain ⟨σ, e⟩ := e
    refine ⟨⟨w, 1 + v2, 1⟩, h2, ⟨?_, ?_, ?_, ?_⟩, d12, Dr.mkH d12 hw rfl e rfl ?_⟩ <;> first | (dsimp only; omega) | (cases w <;> rfl)
end PyD
set_option Elab.async false
set_option linter.all false
set_option maxRecDepth 100000
set_option maxHeartbeats 4000000
/-! Mir6: answers drawn. -/
namespace PyD
open PySem (Str NestedKey PyData)
theorem Tw.app {h : MH} {t : Nat} (w : Tw h t) {c : MO} (hc : clO c = true) : Tw (h ++ [c]) t := by
  obtain ⟨a, b, e, e'⟩ := w
  have hlt := (List.getElem?_eq_some_iff.mp e).1
  refine ⟨a, b, by rw [List.getElem?_append_left hlt]; exact e, ?_⟩
  rw [List.all_append, e']; simp [hc]
theorem Dr.app {h h' : MH} {t : Nat} {c : MO} (w : Tw h t) (d : Dr (h ++ [c]) t h') : ∃ h2, h' = h2 ++ [c] ∧ Dr h t h2 := by
  obtain ⟨a, b, rfl⟩ := d
  obtain ⟨_, _, e, _⟩ := w
  have hlt := (List.getElem?_eq_some_iff.mp e).1
  exact ⟨h.set t (twO a b), by rw [List.set_append_left _ _ hlt], a, b, rfl⟩
theorem draw_app (ns : List Int) (m : Int) (h : MH) (t : Nat) (c : MO) (hc : clO c = true) (hw : Tw h t) (hm : 0 < m) (hm2 : m < 1073741824) :
    ∃ v h', 0 ≤ v ∧ v < m ∧ Dr h t h' ∧ F_law_draw [.scr ns, .ref t, .int m] (h ++ [c]) = some (.int v, h' ++ [c]) := by
  obtain ⟨v, h', p1, p2, d, e⟩ := draw_ ns m (h ++ [c]) t (hw.app hc) hm hm2
  obtain ⟨h2, rfl, d2⟩ := d.app hw
  exact ⟨v, h2, p1, p2, d2, e⟩
theorem clO_ints (l : List Int) : clO (.lst (l.map .int)) = true := cls_map _ cl_int l
theorem Dr.refl {h : MH} {t : Nat} (w : Tw h t) : Dr h t h := by
  obtain ⟨a, b, e, _⟩ := w
  obtain ⟨hl, e⟩ := List.getElem?_eq_some_iff.mp e
  refine ⟨a, b, ?_⟩
  rw [twO, ← e]; simp
theorem answers_body (ns : List Int) (most : Int) (h0 h1 : MH) (t : Nat) (u v : Option D) (q : Int) (acc : List Int) (n : Nat) (hn : n = h1.length) (hw : Tw h1 t) (ha : acc.length < 100) (hb : ∀ x ∈ acc, 0 ≤ x ∧ x ≤ 3) :
    ∃ (x y : Int) (h2 : MH), 0 ≤ x ∧ x ≤ 3 ∧ Dr h1 t h2 ∧
      b_law_answers_0 [some (.scr ns), some (.ref t), some (.int most), u, some (.int q), some (.ref n), v] (h1 ++ [.lst (acc.map .int)]) =
        some (.nx, [some (.scr ns), some (.ref t), some (.int most), u, some (.int q), some (.ref n), some (.int y)], h2 ++ [.lst ((acc ++ [x]).map .int)]) := by
  obtain ⟨y, h2, p1, p2, d1, e1⟩ := draw_app ns 4 h1 t (.lst (acc.map .int)) (clO_ints acc) hw (by decide) (by decide)
  have w2 := d1.tw hw
  obtain ⟨z, h3, p3, p4, d2, e2⟩ := draw_app ns 2 h2 t (.lst (acc.map .int)) (clO_ints acc) w2 (by decide) (by decide)
  have g2 : (h2 ++ [MO.lst (acc.map .int)])[n]? = some (.lst (acc.map .int)) := by rw [hn, ← d1.len]; simp
  have g3 : (h3 ++ [MO.lst (acc.map .int)])[n]? = some (.lst (acc.map .int)) := by rw [hn, ← d1.len, ← d2.len]; simp
  have s2 : ∀ o, (h2 ++ [MO.lst (acc.map .int)]).set n o = h2 ++ [o] := fun o => by rw [hn, ← d1.len]; simp
  have s3 : ∀ o, (h3 ++ [MO.lst (acc.map .int)]).set n o = h3 ++ [o] := fun o => by rw [hn, ← d1.len, ← d2.len]; simp
  have hl : acc.length < 16777216 := by omega
  by_cases hq : q < 1
  · refine ⟨y, y, h2, p1, by omega, d1, ?_⟩
    simp [b_law_answers_0, e1, asL, g2, hq, mAppend, hl, s2]
  · by_cases hz : z = 0
    · refine ⟨y, y, h3, p1, by omega, d1.trans d2, ?_⟩
      simp [b_law_answers_0, e1, e2, asL, g2, g3, hq, hz, mAppend, hl, s3]
    · refine ⟨if y % 3 < 1 then y % 3 else 1, y, h3, by split <;> omega, by split <;> omega, d1.trans d2, ?_⟩
      simp [b_law_answers_0, e1, e2, asL, g2, g3, hq, hz, mAppend, hl, s3]
theorem answers_ (ns : List Int) (most : Int) (h : MH) (t : Nat) (hw : Tw h t) (hm : 0 ≤ most) (hm2 : most ≤ 40) :
    ∃ (l : List Int) (h' : MH), okRow l ∧ (l.length : Int) ≤ most ∧ Dr h t h' ∧ F_law_answers [.scr ns, .ref t, .int most] h = some (rowD l, h') := by
  obtain ⟨q, h1, p1, p2, d1, e1⟩ := draw_ ns 3 h t hw (by decide) (by decide)
  have w1 := d1.tw hw
  obtain ⟨k, h2, p3, p4, d2, e2⟩ := draw_app ns (most + 1) h1 t (.lst []) rfl w1 (by omega) (by omega)
  have w2 := d2.tw w1
  have d12 := d1.trans d2
  obtain ⟨σ, hh, e, acc, h3, u, v, f1, f2, f3, f4, f5⟩ := forD_inv (enc := fun i : Nat => D.int (0 + (i : Int))) (t := gN 3) (b := b_law_answers_0)
    (I := fun rest σ hh => ∃ (acc : List Int) (h3 : MH) (u v : Option D), σ = [some (.scr ns), some (.ref t), some (.int most), u, some (.int q), some (.ref h.length), v] ∧ hh = h3 ++ [.lst (acc.map .int)] ∧ Dr h t h3 ∧ acc.length + rest.length = k.toNat ∧ ∀ x ∈ acc, 0 ≤ x ∧ x ≤ 3)
    (by
      rintro i rest σ hh ⟨acc, h3, u, v, rfl, rfl, f3, f4, f5⟩
      rw [List.length_cons] at f4
      obtain ⟨x, y, h4, q1, q2, q3, q4⟩ := answers_body ns most h h3 t (some (.int (0 + (i : Int)))) v q acc h.length f3.len.symm (f3.tw hw) (by omega) f5
      refine ⟨_, _, _, rfl, .inl q4, acc ++ [x], h4, _, _, rfl, rfl, f3.trans q3, by simp; omega, ?_⟩
      intro z hz
      rcases List.mem_append.mp hz with hz | hz
      · exact f5 z hz
      · simp at hz; rw [hz]; exact ⟨q1, q2⟩)
    (List.range k.toNat) [some (.scr ns), some (.ref t), some (.int most), none, some (.int q), some (.ref h.length), none] (h2 ++ [.lst []]) ⟨[], h2, none, none, rfl, rfl, d12, by simp, by simp⟩
  subst f1 f2
  simp only [List.length_nil, Nat.add_zero] at f4
  have er : ∃ σ, k_law_answers [some (.scr ns), some (.ref t), some (.int most), none, none, none, none] h = some (.rt (.ref h.length), σ, h3 ++ [.lst (acc.map .int)]) := by
    have hk : k.natAbs < 4611686018427387904 := by omega
    simp [k_law_answers, e1, d1.len, e2, iRange1, hk]
    unfold rngD
    rw [e]
    simp
  obtain ⟨σ, er⟩ := er
  have hfr : frzN h.length 8 (h3 ++ [.lst (acc.map .int)]) (.ref h.length) = some (rowD acc) := by
    refine frz_ref (Nat.le_refl _) (by rw [← f3.len]; simp; rfl) ?_
    exact mapO_map fun x _ => rfl
  have ht : (h3 ++ [MO.lst (acc.map .int)]).take h.length = h3 := by rw [← f3.len]; simp
  refine ⟨acc, h3, ⟨by omega, f5⟩, by omega, f3, ?_⟩
  have := mkH_ (np := 3) (ns := 7) (b := k_law_answers) (ds := [.scr ns, .ref t, .int most]) rfl er rfl hfr (by rw [ht]; exact (f3.tw hw).cl) (by simp [f3.len])
  rw [ht] at this
  exact this
end PyD
set_option Elab.async false
set_option linter.all false
set_option maxRecDepth 100000
set_option maxHeartbeats 4000000
/-! MirA: rows cut and put together; loops that may hand back. -/
namespace PyD
open PySem (Str NestedKey PyData)
theorem row_add (h : MH) (a b : List Int) (hl : a.length + b.length ≤ 16777216) : kAdd (rowD a) (rowD b) h = some (rowD (a ++ b), h) := by
  rw [rowD, rowD, kAdd_lst, if_pos (by simpa using hl), rowD, List.map_append]
theorem rep_flat {α : Type} (x : α) (n : Nat) : (List.replicate n [x]).flatten = List.replicate n x := by
  induction n with
  | zero => rfl
  | succ n ih => rw [List.replicate_succ, List.flatten_cons, ih]; rfl
theorem row_rep (h : MH) (x k : Int) (hk : k ≤ 1000) (hk2 : 0 ≤ k) : kMul (.lst [.int x]) (.int k) h = some (rowD (List.replicate k.toNat x), h) := by
  rw [kMul_lst, if_pos ⟨by omega, by simp; omega⟩, rep_flat, rowD, List.map_replicate]
theorem row_cut (h : MH) (a : List Int) (i : Int) (hi : 0 ≤ i) : cutOf h (some i) none (rowD a) = some (rowD (a.drop i.toNat)) := by
  obtain ⟨k, rfl⟩ := Int.eq_ofNat_of_zero_le hi
  show some (D.lst (cutD (a.map D.int) (some (k : Int)) none)) = _
  rw [cut_drop, rowD, List.map_drop]; rfl
theorem row_take (h : MH) (a : List Int) (i : Int) (hi : 0 ≤ i) : cutOf h none (some i) (rowD a) = some (rowD (a.take i.toNat)) := by
  obtain ⟨k, rfl⟩ := Int.eq_ofNat_of_zero_le hi
  show some (D.lst (cutD (a.map D.int) none (some (k : Int)))) = _
  rw [cut_take, rowD, List.map_take]; rfl
theorem lft_cut (h : MH) (a : List (List (Option Int))) (i : Int) (hi : 0 ≤ i) : cutOf h (some i) none (lftD a) = some (lftD (a.drop i.toNat)) := by
  obtain ⟨k, rfl⟩ := Int.eq_ofNat_of_zero_le hi
  show some (D.lst (cutD (a.map _) (some (k : Int)) none)) = _
  rw [cut_drop, lftD, List.map_drop]; rfl
theorem lft_take (h : MH) (a : List (List (Option Int))) (i : Int) (hi : 0 ≤ i) : cutOf h none (some i) (lftD a) = some (lftD (a.take i.toNat)) := by
  obtain ⟨k, rfl⟩ := Int.eq_ofNat_of_zero_le hi
  show some (D.lst (cutD (a.map _) none (some (k : Int)))) = _
  rw [cut_take, lftD, List.map_take]; rfl
def lefM (s : Setg) (r : Rule) (as : List Int) : List (List (Option Int)) := (runM s r [] as).map fun x => x.1.map (·.l)
theorem lefts_p (s : Setg) (r : Rule) (as : List Int) (hs : s.ok) (hr : r.ok) (ha : okRow as) (h : MH) : ePure F_lefts_along [s.d, r.d, rowD as] h = some (lftD (lefM s r as), h) := by
  rw [lefts_along_p s r as hs hr ha]
  have : leftsD (leftsM s r as) = lftD (lefM s r as) := by
    simp [leftsD, leftsM, lftD, lefM, leftD, List.map_map, Function.comp_def]
  rw [this]
theorem run_app (s : Setg) (r : Rule) (p : List Th) (a b : List Int) : runM s r p (a ++ b) = runM s r p a ++ runM s r (endM s r p a) b := by
  induction a generalizing p with
  | nil => rfl
  | cons x t ih => simp [runM, endM, ih]
theorem end_app (s : Setg) (r : Rule) (p : List Th) (a b : List Int) : endM s r p (a ++ b) = endM s r (endM s r p a) b := by
  induction a generalizing p with
  | nil => rfl
  | cons x t ih => simp [endM, ih]
theorem run_take (s : Setg) (r : Rule) (p : List Th) (a : List Int) (k : Nat) : runM s r p (a.take k) = (runM s r p a).take k := by
  induction a generalizing p k with
  | nil => simp [runM]
  | cons x t ih => cases k <;> simp [runM, ih]
theorem notes_app (s : Setg) (r : Rule) (a b : List Int) : notesM s r (a ++ b) = notesM s r a ++ (runM s r (endM s r [] a) b).map (·.2) := by
  rw [notesM, run_app, List.map_append]; rfl
theorem tick_length (s : Setg) (r : Rule) (p : List Th) (a : Int) : (tickM s r p a).1.length = (ansM s r p a).1.length := by
  unfold tickM answeredM
  split <;> simp
theorem end_zeros (s : Setg) (r : Rule) (p : List Th) (n : Nat) : (endM s r p (List.replicate n 0)).length = p.length := by
  induction n generalizing p with
  | zero => rfl
  | succ n ih =>
    rw [List.replicate_succ, endM, ih, tick_length]
    simp [ansM]
theorem tw0 : Tw [.lst [.int 0, .int 0]] 0 := ⟨0, 0, rfl, rfl⟩
theorem law_of {nsl : Nat} {b : Sv} {ns : List Int} {σ : Sg} {h : MH} (e : b ([some (.scr ns)] ++ List.replicate (nsl - 1) none) [] = some (.rt (.bl true), σ, h)) : ∃ h, mkFn 1 nsl b [.scr ns] [] = some (.bl true, h) :=
  ⟨h, mkFn_ rfl e rfl⟩
def ixD (i : Nat) : D := .int (0 + (i : Int))
theorem range1_ {f : Ev} {σ : Sg} {h h1 : MH} (n : Int) (e : f σ h = some (.int n, h1)) (hn : n.natAbs < 1000000) : iRange1 f σ h = some ((List.range n.toNat).map ixD, yes, h1) := by
  unfold iRange1
  rw [e]
  show (if n.natAbs < 2 ^ 62 then some (rngD 0 n.toNat, yes, h1) else none) = _
  rw [if_pos (by omega)]; rfl
theorem okRow.take {as : List Int} (h : okRow as) (k : Nat) : okRow (as.take k) := ⟨by have := h.1; simp; omega, fun a ha => h.2 a (List.mem_of_mem_take ha)⟩
end PyD
set_option Elab.async false
set_option linter.all false
set_option maxRecDepth 100000
set_option maxHeartbeats 4000000
/-! MirB: loops told by the index. -/
namespace PyD
open PySem (Str NestedKey PyData)
theorem forD_idx {t : Tg} {b : Sv} {I : Nat → Sg → MH → Prop} {xs : List D}
    (H : ∀ i x σ h, xs[i]? = some x → I i σ h → ∃ σ1 σ2 h2, t x σ = some σ1 ∧ (b σ1 h = some (.nx, σ2, h2) ∨ b σ1 h = some (.ct, σ2, h2)) ∧ I (i + 1) σ2 h2) :
    ∀ (k : Nat) (σ : Sg) (h : MH), I k σ h → k ≤ xs.length → ∃ σ' h', forD yes t b (xs.drop k) σ h = some (.nx, σ', h') ∧ I xs.length σ' h' := by
  have key : ∀ m k σ h, xs.length - k = m → I k σ h → k ≤ xs.length → ∃ σ' h', forD yes t b (xs.drop k) σ h = some (.nx, σ', h') ∧ I xs.length σ' h' := by
    intro m
    induction m with
    | zero =>
      intro k σ h hm hi hk
      have : k = xs.length := by omega
      subst this
      rw [List.drop_length]
      exact ⟨σ, h, rfl, hi⟩
    | succ m ih =>
      intro k σ h hm hi hk
      have hk' : k < xs.length := by omega
      have hx := List.getElem?_eq_getElem hk'
      obtain ⟨σ1, σ2, h2, e1, e2, e3⟩ := H k _ σ h hx hi
      obtain ⟨σ', h', e4, e5⟩ := ih (k + 1) σ2 h2 (by omega) e3 (by omega)
      refine ⟨σ', h', ?_, e5⟩
      rw [List.drop_eq_getElem_cons hk', forD_cons_]
      rcases e2 with e2 | e2 <;> simp only [yes_, if_true, e1, e2, e4]
  intro k σ h hi hk
  exact key _ k σ h rfl hi hk
/-- .. where the loop may hand back -/
theorem forD_idxR {t : Tg} {b : Sv} {I : Nat → Sg → MH → Prop} {Q : D → Prop} {xs : List D}
    (H : ∀ i x σ h, xs[i]? = some x → I i σ h → ∃ σ1 σ2 h2, t x σ = some σ1 ∧ (((b σ1 h = some (.nx, σ2, h2) ∨ b σ1 h = some (.ct, σ2, h2)) ∧ I (i + 1) σ2 h2) ∨ ∃ d, b σ1 h = some (.rt d, σ2, h2) ∧ Q d)) :
    ∀ (k : Nat) (σ : Sg) (h : MH), I k σ h → k ≤ xs.length → ∃ σ' h', (forD yes t b (xs.drop k) σ h = some (.nx, σ', h') ∧ I xs.length σ' h') ∨ ∃ d, forD yes t b (xs.drop k) σ h = some (.rt d, σ', h') ∧ Q d := by
  have key : ∀ m k σ h, xs.length - k = m → I k σ h → k ≤ xs.length → ∃ σ' h', (forD yes t b (xs.drop k) σ h = some (.nx, σ', h') ∧ I xs.length σ' h') ∨ ∃ d, forD yes t b (xs.drop k) σ h = some (.rt d, σ', h') ∧ Q d := by
    intro m
    induction m with
    | zero =>
      intro k σ h hm hi hk
      have : k = xs.length := by omega
      subst this
      rw [List.drop_length]
      exact ⟨σ, h, .inl ⟨rfl, hi⟩⟩
    | succ m ih =>
      intro k σ h hm hi hk
      have hk' : k < xs.length := by omega
      have hx := List.getElem?_eq_getElem hk'
      obtain ⟨σ1, σ2, h2, e1, e2⟩ := H k _ σ h hx hi
      rcases e2 with ⟨e2, e3⟩ | ⟨d, e2, e3⟩
      · obtain ⟨σ', h', e4⟩ := ih (k + 1) σ2 h2 (by omega) e3 (by omega)
        refine ⟨σ', h', ?_⟩
        rw [List.drop_eq_getElem_cons hk', forD_cons_]
        rcases e4 with ⟨e4, e5⟩ | ⟨d, e4, e5⟩
        · left; refine ⟨?_, e5⟩
          rcases e2 with e2 | e2 <;> simp only [yes_, if_true, e1, e2, e4]
        · right; refine ⟨d, ?_, e5⟩
          rcases e2 with e2 | e2 <;> simp only [yes_, if_true, e1, e2, e4]
      · refine ⟨σ2, h2, .inr ⟨d, ?_, e3⟩⟩
        rw [List.drop_eq_getElem_cons hk', forD_cons_]
        simp only [yes_, if_true, e1, e2]
  intro k σ h hi hk
  exact key _ k σ h rfl hi hk
def enumD (l : List Int) : List D := (l.map D.int).zipIdx.map fun x => .tup [.int x.2, x.1]
theorem enum_len (l : List Int) : (enumD l).length = l.length := by simp [enumD]
theorem enum_get (l : List Int) (i : Nat) (x : D) (h : (enumD l)[i]? = some x) : ∃ v, l[i]? = some v ∧ x = .tup [.int i, .int v] := by
  simp [enumD, List.getElem?_zipIdx] at h
  obtain ⟨a, h1, h2⟩ := h
  exact ⟨a, h1, h2.symm⟩
theorem enum_ {f : Ev} {σ : Sg} {h h1 : MH} (l : List Int) (e : f σ h = some (rowD l, h1)) : PyD.iEnum f σ h = some (enumD l, yes, h1) := by
  unfold PyD.iEnum
  rw [e]; rfl
theorem row_get (h : MH) (l : List Int) (i : Nat) (v : Int) (e : l[i]? = some v) : kSub_ (rowD l) (.int i) h = some (.int v, h) := by
  rw [rowD, kSub_lst, atI_nat_, List.getElem?_map, e]; rfl
theorem run_get (s : Setg) (r : Rule) (p : List Th) (l : List Int) (i : Nat) (a : Int) (e : l[i]? = some a) : (runM s r p l)[i]? = some (tickM s r (endM s r p (l.take i)) a) := by
  induction l generalizing p i with
  | nil => simp at e
  | cons x t ih =>
    cases i with
    | zero => simp at e; subst e; simp [runM, endM]
    | succ i => simp at e; simpa [runM, endM] using ih _ i e
theorem end_succ (s : Setg) (r : Rule) (p : List Th) (l : List Int) (i : Nat) (a : Int) (e : l[i]? = some a) : endM s r p (l.take (i + 1)) = (tickM s r (endM s r p (l.take i)) a).1 := by
  rw [List.take_add_one, e, end_app]; rfl
theorem notes_get (s : Setg) (r : Rule) (l : List Int) (i : Nat) (a : Int) (e : l[i]? = some a) : (notesM s r l)[i]? = some (tickM s r (endM s r [] (l.take i)) a).2 := by
  rw [notesM, List.getElem?_map, run_get s r [] l i a e]; rfl
theorem opens_get (s : Setg) (r : Rule) (l : List Int) (i : Nat) (a : Int) (e : l[i]? = some a) : (opensM s r l)[i]? = some ((tickM s r (endM s r [] (l.take i)) a).1.length : Int) := by
  rw [opensM, List.getElem?_map, run_get s r [] l i a e]; rfl
theorem lef_get (s : Setg) (r : Rule) (l : List Int) (i : Nat) (a : Int) (e : l[i]? = some a) : (lefM s r l)[i]? = some ((tickM s r (endM s r [] (l.take i)) a).1.map (·.l)) := by
  rw [lefM, List.getElem?_map, run_get s r [] l i a e]; rfl
end PyD
set_option Elab.async false
set_option linter.all false
set_option maxRecDepth 100000
set_option maxHeartbeats 4000000
/-! MirC: the law's own tick. -/
namespace PyD
open PySem (Str NestedKey PyData)
theorem wq (w : Wd) : (w.str = ("quiet" : Str)) = (w = .quiet) := by cases w <;> simp [Wd.str]
def lgap (r : Rule) (t : Int) : Int := match r.w with
  | .sooner => if t < r.n then r.n - t else 1
  | .slower => if t < r.n then t + 1 else r.n
  | .times => if r.m ≤ t then 0 else r.n
  | _ => r.n
theorem lgap_ (r : Rule) (t : Int) : F_law_gap [r.d, .int t] = some (.int (lgap r t)) := by
  have e : ∃ σ, k_law_gap [some r.d, some (.int t), none, none] [] = some (.rt (.int (lgap r t)), σ, []) := by
    obtain ⟨w, n, m⟩ := r
    by_cases h1 : t < n <;> by_cases h2 : m ≤ t <;> cases w <;> simp [k_law_gap, lgap, Rule.d, Wd.str, h1, h2]
  obtain ⟨σ, e⟩ := e
  exact mkP_ rfl (by simp [D.cls, D.cl, Rule.cl]) e rfl rfl
theorem lgap_p (r : Rule) (t : Int) (h : MH) : ePure F_law_gap [r.d, .int t] h = some (.int (lgap r t), h) :=
  ePure_ (by simp [D.cls, D.cl, Rule.cl]) (lgap_ r t)
structure LT where
  a : Int
  t : Int
  z : Int
  deriving DecidableEq
def LT.cs (x : LT) : List D := [.int x.a, .int x.t, .int x.z]
def LT.o (x : LT) : MO := .lst x.cs
def LT.d (x : LT) : D := .lst x.cs
def lcond (x : LT) : Bool := decide (0 < x.t) && decide (x.z = 0)
def lput (s : Setg) (x : LT) : LT := if lcond x = true then ⟨s.k + 1, x.t, x.z⟩ else x
def lwake (r : Rule) (x : LT) : LT := ⟨r.n + 1, x.t, x.z⟩
def lth (r : Rule) (x : LT) : LT := if x.a = 1 then ⟨lgap r (x.t + 1), x.t + 1, 0⟩ else if 1 < x.a then ⟨x.a - 1, x.t, x.z + 1⟩ else ⟨x.a, x.t, x.z + 1⟩
def lring (x : LT) : Int := if x.a = 1 then 1 else 0
theorem set_same {h : MH} {k : Nat} {o : MO} (e : h[k]? = some o) : h.set k o = h := by
  obtain ⟨hl, rfl⟩ := List.getElem?_eq_some_iff.mp e
  simp
section
variable {h : MH} {k : Nat} {x : LT}
theorem lt_put (s : Setg) (r1 st an : Option D) (mn th : Option D) (ch : Bool) (e : h[k]? = some x.o) :
    b_law_tick_1 [some s.d, r1, st, an, mn, some (.ref k), th, some (.bl ch)] h = some (.nx, [some s.d, r1, st, an, mn, some (.ref k), th, some (.bl (ch || lcond x))], h.set k (lput s x).o) := by
  have e' : h[k]? = some (.lst [.int x.a, .int x.t, .int x.z]) := e
  have i0 : L2.ixN 3 0 = some 0 := rfl
  by_cases h1 : 0 < x.t
  · by_cases h2 : x.z = 0
    · simp [b_law_tick_1, kSub_ref e', kSet_ref e', h1, h2, i0, Setg.d1, lput, lcond, LT.o, LT.cs]
    · have := set_same e
      simp [b_law_tick_1, kSub_ref e', h1, h2, lput, lcond, this]
  · have := set_same e
    simp [b_law_tick_1, kSub_ref e', h1, lput, lcond, this]
theorem lt_tick (r : Rule) (s0 st an : Option D) (mn : Int) (th : Option D) (ch : Bool) (e : h[k]? = some x.o) (y : LT) (hy : y = if (ch && isQ r) = true then lwake r x else x) :
    b_law_tick_0 [s0, some r.d, st, an, some (.int mn), some (.ref k), th, some (.bl ch)] h = some (.nx, [s0, some r.d, st, an, some (.int (mn + lring y)), some (.ref k), th, some (.bl ch)], h.set k (lth r y).o) := by
  have hlt : k < h.length := (List.getElem?_eq_some_iff.mp e).1
  have g : ∀ o, (h.set k o)[k]? = some o := fun o => List.getElem?_set_self hlt
  have i0 : L2.ixN 3 0 = some 0 := rfl
  have i1 : L2.ixN 3 1 = some 1 := rfl
  have i2 : L2.ixN 3 2 = some 2 := rfl
  have main : ∀ (h' : MH), h'[k]? = some y.o →
      sSeq (sAugS kAddI (eVar 5) (eK (.int 2)) (eK (.int 1))) (sIf (tV (e2 kEq (e2 kSub_ (eVar 5) (eK (.int 0))) (eK (.int 1)))) (sSeq (sAugS kAddI (eVar 5) (eK (.int 1)) (eK (.int 1))) (sSeq (sPut kSet_ (eVar 5) (eK (.int 0)) (eN (ePure F_law_gap) (aCons (eVar 1) (aCons (e2 kSub_ (eVar 5) (eK (.int 1))) aNil)))) (sSeq (sPut kSet_ (eVar 5) (eK (.int 2)) (eK (.int 0))) (sAug 4 kAddI (eK (.int 1)))))) (sIf (tV (e2 kGt (e2 kSub_ (eVar 5) (eK (.int 0))) (eK (.int 1)))) (sAugS kSub (eVar 5) (eK (.int 0)) (eK (.int 1))) (sNil)))
        [s0, some r.d, st, an, some (.int mn), some (.ref k), th, some (.bl ch)] h' = some (.nx, [s0, some r.d, st, an, some (.int (mn + lring y)), some (.ref k), th, some (.bl ch)], h'.set k (lth r y).o) := by
    intro h' e1
    have e1' : h'[k]? = some (.lst [.int y.a, .int y.t, .int y.z]) := e1
    have hlt' : k < h'.length := (List.getElem?_eq_some_iff.mp e1).1
    have g' : ∀ o, (h'.set k o)[k]? = some o := fun o => List.getElem?_set_self hlt'
    have q2 := kIxA_ref e1' 2 (by omega)
    have K1 : ∀ (xs : List D) (i : Int), kSub_ (.ref k) (.int i) (h'.set k (.lst xs)) = match L2.atI xs i with | none => none | some v => some (v, h'.set k (.lst xs)) := fun xs i => kSub_ref (g' _) i
    have K2 : ∀ (xs : List D) (i : Int) (v : D), kSet_ (.ref k) (.int i) v (h'.set k (.lst xs)) = (L2.ixN xs.length i).map fun j => h'.set k (.lst (xs.set j v)) := fun xs i v => by rw [kSet_ref (g' _)]; simp
    have K3 : ∀ (xs : List D), kIxA (.ref k) (.int 1) (h'.set k (.lst xs)) = (xs[1]?).map fun v => (v, h'.set k (.lst xs)) := fun xs => kIxA_ref (g' _) 1 (by omega)
    have K5 : ∀ (xs : List D), kIxA (.ref k) (.int 0) (h'.set k (.lst xs)) = (xs[0]?).map fun v => (v, h'.set k (.lst xs)) := fun xs => kIxA_ref (g' _) 0 (by omega)
    have K4 : ∀ (xs : List D) (i : Int) (v : D), kSetL (.ref k) (.int i) v (h'.set k (.lst xs)) = (L2.ixN xs.length i).map fun j => h'.set k (.lst (xs.set j v)) := fun xs i v => by rw [kSetL_ref (g' _)]; simp
    have q2' : kIxA (.ref k) (.int 2) h' = some (.int y.z, h') := q2
    by_cases c1 : y.a = 1
    · simp [q2', kSetL_ref e1', K1, K2, K3, K4, K5, i0, i1, i2, c1, lgap_p, lring, lth, LT.o, LT.cs]
    · by_cases c2 : 1 < y.a
      · simp [q2', kSetL_ref e1', K1, K2, K3, K4, K5, i0, i1, i2, c1, c2, lgap_p, lring, lth, LT.o, LT.cs]
      · simp [q2', kSetL_ref e1', K1, K2, K3, K4, K5, i0, i1, i2, c1, c2, lgap_p, lring, lth, LT.o, LT.cs]
  have e' : h[k]? = some (.lst [.int x.a, .int x.t, .int x.z]) := e
  by_cases hc : (ch && isQ r) = true
  · rw [if_pos hc] at hy
    rw [Bool.and_eq_true] at hc
    have hq : r.w = .quiet := by have := hc.2; simpa [isQ] using this
    have m1 := main (h.set k y.o) (g _)
    rw [List.set_set] at m1
    rw [b_law_tick_0, sSeq_]
    have : sIf (tAnd (tV (eVar 7)) (tV (e2 kEq (e2 kSub_ (eVar 1) (eK (.int 0))) (eK (.str "quiet"))))) (sPut kSet_ (eVar 5) (eK (.int 0)) (e2 kAdd (e2 kSub_ (eVar 1) (eK (.int 1))) (eK (.int 1)))) (sNil) [s0, some r.d, st, an, some (.int mn), some (.ref k), th, some (.bl ch)] h = some (.nx, [s0, some r.d, st, an, some (.int mn), some (.ref k), th, some (.bl ch)], h.set k y.o) := by
      simp [hc.1, Rule.d0, Rule.d1, wq, hq, kSet_ref e', i0, hy, lwake, LT.o, LT.cs]
    rw [this]
    exact m1
  · rw [if_neg hc] at hy
    subst hy
    have m1 := main h e
    rw [b_law_tick_0, sSeq_]
    have : sIf (tAnd (tV (eVar 7)) (tV (e2 kEq (e2 kSub_ (eVar 1) (eK (.int 0))) (eK (.str "quiet"))))) (sPut kSet_ (eVar 5) (eK (.int 0)) (e2 kAdd (e2 kSub_ (eVar 1) (eK (.int 1))) (eK (.int 1)))) (sNil) [s0, some r.d, st, an, some (.int mn), some (.ref k), th, some (.bl ch)] h = some (.nx, [s0, some r.d, st, an, some (.int mn), some (.ref k), th, some (.bl ch)], h) := by
      cases ch with
      | false => simp
      | true =>
        have hq : ¬ r.w = .quiet := by simpa [isQ] using hc
        simp [Rule.d0, wq, hq]
    rw [this]
    exact m1
end
/-- at K the things p are laid -/
inductive Hd (h : MH) : List Nat → List LT → Prop
  | nil : Hd h [] []
  | cons {k : Nat} {x : LT} {K : List Nat} {p : List LT} : h[k]? = some x.o → Hd h K p → Hd h (k :: K) (x :: p)
theorem Hd.mono {h h' : MH} {K : List Nat} {p : List LT} (H : Hd h K p) (e : ∀ m ∈ K, h'[m]? = h[m]?) : Hd h' K p := by
  induction H with
  | nil => exact .nil
  | cons e1 _ ih => exact .cons (by rw [e _ (.head _)]; exact e1) (ih fun m hm => e m (.tail _ hm))
theorem ref_loop {β : Type} (B : Sv) (S : β → Option D → Sg) (f : LT → LT) (g : β → LT → β) (c : MH → Bool)
    (HB : ∀ h k x acc, h[k]? = some x.o → B (S acc (some (.ref k))) h = some (.nx, S (g acc x) (some (.ref k)), h.set k (f x).o))
    (HT : ∀ acc u k, gN 5 (.ref k) (S acc u) = some (S acc (some (.ref k)))) :
    ∀ (K : List Nat) (p : List LT) (h : MH) (acc : β) (u : Option D), K.Nodup → Hd h K p → (∀ h' : MH, h'.length = h.length → (∀ m, m ∉ K → h'[m]? = h[m]?) → c h' = true) →
      ∃ h' u', forD c (gN 5) B (K.map D.ref) (S acc u) h = some (.nx, S (p.foldl g acc) u', h') ∧ Hd h' K (p.map f) ∧ h'.length = h.length ∧ ∀ m, m ∉ K → h'[m]? = h[m]? := by
  intro K
  induction K with
  | nil =>
    intro p h acc u _ H hc
    cases H
    exact ⟨h, u, by rw [List.map_nil, forD_nil, if_pos (hc h rfl fun _ _ => rfl)]; rfl, .nil, rfl, fun _ _ => rfl⟩
  | cons k K ih =>
    intro p h acc u hn H hc
    cases H with
    | @cons _ x _ p' e1 e2 =>
      rw [List.nodup_cons] at hn
      have hk : k < h.length := (List.getElem?_eq_some_iff.mp e1).1
      obtain ⟨h', u', g1, g2, g3, g4⟩ := ih p' (h.set k (f x).o) (g acc x) (some (.ref k)) hn.2 (e2.mono fun m hm => List.getElem?_set_ne fun (e : k = m) => hn.1 (e ▸ hm))
        (fun h' hl hm => hc h' (by rw [hl]; simp) fun m hm' => by
          rw [hm m fun z => hm' (.tail _ z)]
          exact List.getElem?_set_ne fun (e : k = m) => hm' (by rw [e]; exact .head _))
      refine ⟨h', u', ?_, .cons (by rw [g4 k hn.1]; exact List.getElem?_set_self hk) g2, by rw [g3]; simp, fun m hm => ?_⟩
      · rw [List.map_cons, forD_cons_, if_pos (hc h rfl fun _ _ => rfl)]
        simp only [HT, HB h k x acc e1]
        exact g1
      · rw [g4 m fun z => hm (.tail _ z)]
        exact List.getElem?_set_ne fun (e : k = m) => hm (by rw [e]; exact .head _)
theorem frz_cell (lo n : Nat) (h : MH) (k : Nat) (x : LT) (hl : lo ≤ k) (e : h[k]? = some x.o) : frzN lo (n + 2) h (.ref k) = some x.d := by
  refine frz_ref hl e ?_
  rw [LT.cs, mapO, frz_int, mapO, frz_int, mapO, frz_int, mapO]; rfl
theorem frz_cells (n : Nat) (h : MH) (K : List Nat) (p : List LT) (H : Hd h K p) : mapO (frzN 0 (n + 2) h) (K.map D.ref) = some (p.map LT.d) := by
  induction H with
  | nil => rfl
  | cons e1 _ ih => rw [List.map_cons, mapO, frz_cell 0 n h _ _ (Nat.zero_le _) e1, ih]; rfl
def lplD (p : List LT) : D := .lst (p.map LT.d)
theorem LT.cl (x : LT) : D.cl x.d = true := rfl
theorem lplD_cl (p : List LT) : D.cl (lplD p) = true := by rw [lplD, cl_lst]; exact cls_map _ LT.cl p
def lans (s : Setg) (r : Rule) (p : List LT) (a : Int) : List LT × Bool :=
  if a = 1 ∧ (p.length : Int) < s.o then (p ++ [⟨lgap r 0 + 1, 0, -1⟩], true)
  else if a = 2 ∧ p ≠ [] then (p.drop 1, true)
  else if a = 3 then (p.map (lput s), p.any lcond)
  else (p, false)
def lup (r : Rule) (c : Bool) (x : LT) : LT := if (c && isQ r) = true then lwake r x else x
def ltickM (s : Setg) (r : Rule) (p : List LT) (a : Int) : List LT × Int :=
  ((lans s r p a).1.map fun x => lth r (lup r (lans s r p a).2 x), (lans s r p a).1.foldl (fun i x => i + lring (lup r (lans s r p a).2 x)) 0)
/-- the copies of the things -/
theorem copy_lc (c0 c1 c2 c3 c4 c5 c6 c7 : Option D) (p : List LT) (h : MH) :
    lcD yes (gN 5) PyD.tYes e_law_tick_2 [c0, c1, c2, c3, c4, c5, c6, c7] (p.map LT.d) h = some ((List.range p.length).map fun i => D.ref (h.length + i), h ++ p.map LT.o) := by
  induction p generalizing h with
  | nil => simp
  | cons x q ih =>
    rw [List.map_cons, lcD_cons_]
    have e : e_law_tick_2 [c0, c1, c2, c3, c4, some x.d, c6, c7] h = some (.ref h.length, h ++ [x.o]) := by
      simp [e_law_tick_2, kListOf, asQ, LT.d, LT.o]
    have g : gN 5 x.d [c0, c1, c2, c3, c4, c5, c6, c7] = some [c0, c1, c2, c3, c4, some x.d, c6, c7] := by simp
    simp only [yes_, if_true, g, tYes_, e, ih]
    simp [List.range_succ_eq_map, Function.comp_def]
    intro a _
    omega
theorem Hd.range (h : MH) (p : List LT) (t : MH) : Hd (h ++ p.map LT.o ++ t) ((List.range p.length).map fun i => h.length + i) p := by
  induction p generalizing h with
  | nil => exact .nil
  | cons x q ih =>
    have := ih (h ++ [x.o])
    rw [List.length_cons, List.range_succ_eq_map, List.map_cons]
    refine .cons (by simp) ?_
    simp [Function.comp_def] at this ⊢
    have e : (fun x => h.length + (x + 1)) = fun i => h.length + 1 + i := by funext i; omega
    rw [e]
    exact this
theorem range_nodup (b n : Nat) : ((List.range n).map fun i => b + i).Nodup := by
  unfold List.Nodup
  rw [List.pairwise_map]
  exact List.nodup_range.imp fun h e => h (by omega)
/-- what the things' list is -/
inductive Tl (h : MH) (K : List Nat) : D → Prop
  | fz : Tl h K (.lst (K.map D.ref))
  | rf {m : Nat} : m ∉ K → h[m]? = some (.lst (K.map D.ref)) → Tl h K (.ref m)
theorem Tl.any {h : MH} {K : List Nat} {T : D} (t : Tl h K T) : ∃ c, anyOf h T = some (K.map D.ref, c) ∧ ∀ h' : MH, h'.length = h.length → (∀ m, m ∉ K → h'[m]? = h[m]?) → c h' = true := by
  cases t with
  | fz => exact ⟨yes, rfl, fun _ _ _ => rfl⟩
  | @rf m hm e =>
    refine ⟨isL m (K.map D.ref), ?_, fun h' _ g => ?_⟩
    · simp only [anyOf, e]
    · unfold isL; rw [g m hm, e]; simp
theorem Tl.mono {h h' : MH} {K : List Nat} {T : D} (t : Tl h K T) (g : ∀ m, m ∉ K → h'[m]? = h[m]?) : Tl h' K T := by
  cases t with
  | fz => exact .fz
  | rf hm e => exact .rf hm (by rw [g _ hm]; exact e)
theorem cls_refs (K : List Nat) (hk : K ≠ []) : D.cls (K.map D.ref) = false := by
  cases K with
  | nil => exact absurd rfl hk
  | cons k K => rfl
theorem Tl.frz {h : MH} {K : List Nat} {T : D} {p : List LT} (t : Tl h K T) (H : Hd h K p) : frzN 0 7 h T = some (lplD p) := by
  cases t with
  | fz =>
    by_cases hk : K = []
    · subst hk; cases H; rfl
    · exact frz_lst' (cls_refs K hk) (frz_cells 4 h K p H)
  | rf hm e => exact frz_ref (Nat.zero_le _) e (frz_cells 4 h K p H)
theorem lt_tail (s : Setg) (r : Rule) (st an x4 x5 : Option D) (h : MH) (T : D) (K : List Nat) (q : List LT) (ch : Bool) (t : Tl h K T) (H : Hd h K q) (hn : K.Nodup) :
    ∃ σ h', (sSeq (sSet (gN 4) (eK (.int 0))) (sSeq (sFor (iAny (eVar 6)) (gN 5) (b_law_tick_0)) (sRet (eN kTup (aCons (eVar 6) (aCons (eVar 4) aNil)))))) [some s.d, some r.d, st, an, x4, x5, some T, some (.bl ch)] h =
      some (.rt (.tup [T, .int (q.foldl (fun i x => i + lring (lup r ch x)) 0)]), σ, h') ∧ frzN 0 8 h' (.tup [T, .int (q.foldl (fun i x => i + lring (lup r ch x)) 0)]) = some (.tup [lplD (q.map fun x => lth r (lup r ch x)), .int (q.foldl (fun i x => i + lring (lup r ch x)) 0)]) := by
  obtain ⟨c, e1, e2⟩ := t.any
  obtain ⟨h', u', g1, g2, g3, g4⟩ := ref_loop b_law_tick_0 (fun (mn : Int) u => [some s.d, some r.d, st, an, some (.int mn), u, some T, some (.bl ch)]) (fun x => lth r (lup r ch x)) (fun i x => i + lring (lup r ch x)) c
    (fun h k x acc e => lt_tick r (some s.d) st an acc (some T) ch e _ rfl) (fun acc u k => by simp) K q h 0 x5 hn H e2
  have tf := (t.mono g4).frz g2
  refine ⟨[some s.d, some r.d, st, an, some (.int (q.foldl (fun i x => i + lring (lup r ch x)) 0)), u', some T, some (.bl ch)], h', ?_, ?_⟩
  · simp [e1, g1]
  · apply frz_tup
    rw [mapO, tf, mapO, frz_int, mapO]; rfl
def Eqt.lt : Eqt LT.d 1 where
  pd x := .list [.int x.a, .int x.t, .int x.z]
  data _ := rfl
  lay _ := rfl
  dep _ := by simp [PyData.depth, PyData.depthAll]
  eqv x y := by
    obtain ⟨a, t, z⟩ := x
    obtain ⟨a', t', z'⟩ := y
    simp [PyData.eqv, PyData.eqvAll]
    by_cases h1 : a = a' <;> by_cases h2 : t = t' <;> by_cases h3 : z = z' <;> simp [h1, h2, h3]
  cl _ := rfl
theorem dEq_flat {α : Type} [DecidableEq α] {enc : α → D} {n : Nat} (e : Eqt enc n) (hn : n ≤ 64) (h : MH) (x y : α) (d : D) (hf : PyD.flat h d = enc x) : dEqG h d (enc y) = some (decide (x = y)) := by
  unfold dEqG
  rw [hf, e.flat, e.data, e.data]
  simp only [Option.bind_some, e.sh hn, Bool.and_self, if_true, e.eqv]
theorem flat_ref (h : MH) (m : Nat) (d : D) (e : frzN 0 8 h (.ref m) = some d) : PyD.flat h (.ref m) = d := by
  unfold PyD.flat
  rw [if_neg (by simp [D.cl]), e]; rfl
theorem things_nil (h : MH) (m : Nat) (K : List Nat) (p : List LT) (e : h[m]? = some (.lst (K.map D.ref))) (H : Hd h K p) : dEq h (.ref m) (.lst []) = some (decide (p = [])) := by
  have h1 : frzN 0 8 h (.ref m) = some (lplD p) := frz_ref (Nat.zero_le _) e (frz_cells 5 h K p H)
  exact dEq_flat (Eqt.lst Eqt.lt) (by decide) h p [] (.ref m) (flat_ref h m _ h1)
theorem anyOf_lpl (h : MH) (p : List LT) : anyOf h (lplD p) = some (p.map LT.d, yes) := rfl
theorem Hd.drop {h : MH} {K : List Nat} {p : List LT} (H : Hd h K p) (n : Nat) : Hd h (K.drop n) (p.drop n) := by
  induction H generalizing n with
  | nil => simp; exact .nil
  | cons e H ih => cases n with
    | zero => exact .cons e H
    | succ n => exact ih n
theorem Hd.app {h : MH} {K L : List Nat} {p q : List LT} (H : Hd h K p) (G : Hd h L q) : Hd h (K ++ L) (p ++ q) := by
  induction H with
  | nil => exact G
  | cons e _ ih => exact .cons e ih
theorem ltick_run (s : Setg) (r : Rule) (p : List LT) (a : Int) (hp : p.length ≤ 1000) :
    ∃ d σ h, k_law_tick [some s.d, some r.d, some (lplD p), some (.int a), none, none, none, none] [] = some (.rt d, σ, h) ∧ frzN 0 8 h d = some (.tup [lplD (ltickM s r p a).1, .int (ltickM s r p a).2]) := by
  have hlc := copy_lc (some s.d) (some r.d) (some (lplD p)) (some (.int a)) none none none none p []
  have hK0 : ((List.range p.length).map fun i => D.ref (([] : MH).length + i)) = ((List.range p.length).map fun i => 0 + i).map D.ref := by simp
  rw [hK0] at hlc
  have hnd := range_nodup 0 p.length
  have hHd := Hd.range [] p [.lst (((List.range p.length).map fun i => 0 + i).map D.ref)]
  have hkl : ((List.range p.length).map fun i => 0 + i).length = p.length := by simp
  have hkb : ∀ k ∈ (List.range p.length).map fun i => 0 + i, k < p.length := by
    intro k hk; simp at hk; exact hk
  generalize hK : ((List.range p.length).map fun i => 0 + i) = K at *
  simp only [List.nil_append, List.length_nil] at hHd hlc
  generalize hh0 : p.map LT.o ++ [MO.lst (K.map D.ref)] = h0 at *
  have e0 : h0[p.length]? = some (.lst (K.map D.ref)) := by rw [← hh0]; simp
  have hl0 : h0.length = p.length + 1 := by rw [← hh0]; simp
  have hnk : p.length ∉ K := fun hm => by have := hkb _ hm; omega
  have hKl : (K.map D.ref).length ≤ 16777216 := by simp; omega
  have b0 : sSet (gT [gN 6, gN 7]) (eN kTup (aCons (eLc (iAny (eVar 2)) (gN 5) (PyD.tYes) (e_law_tick_2) [5]) (aCons (eK (.bl false)) aNil))) [some s.d, some r.d, some (lplD p), some (.int a), none, none, none, none] [] =
      some (.nx, [some s.d, some r.d, some (lplD p), some (.int a), none, none, some (.ref p.length), some (.bl false)], h0) := by
    have hp16 : p.length ≤ 16777216 := by omega
    simp [anyOf_lpl, hlc, -List.map_map, hkl, hp16, hh0]
  have fin : ∀ (T : D) (K' : List Nat) (q : List LT) (ch : Bool) (x4 x5 : Option D) (h1 : MH), Tl h1 K' T → Hd h1 K' q → K'.Nodup → lans s r p a = (q, ch) →
      sIf (tAnd (tV (e2 kEq (eVar 3) (eK (.int 1)))) (tV (e2 kLt (eN kLen (aCons (eVar 6) aNil)) (e2 kSub_ (eVar 0) (eK (.int 0)))))) (sSeq (sSet (gN 7) (eK (.bl true))) (sExpr (eM mAppend (eVar 6) (aCons (eN kLst (aCons (e2 kAdd (eN (ePure F_law_gap) (aCons (eVar 1) (aCons (eK (.int 0)) aNil))) (eK (.int 1))) (aCons (eK (.int 0)) (aCons (eNeg (eK (.int 1))) aNil)))) aNil)))) (sIf (tAnd (tV (e2 kEq (eVar 3) (eK (.int 2)))) (tV (e2 kNe (eVar 6) (eN kLstF (aNil))))) (sSeq (sSet (gN 7) (eK (.bl true))) (sSet (gN 6) (eSlice (eVar 6) (oE (eK (.int 1))) (oNo)))) (sIf (tV (e2 kEq (eVar 3) (eK (.int 3)))) (sFor (iAny (eVar 6)) (gN 5) (b_law_tick_1)) (sNil)))
        [some s.d, some r.d, some (lplD p), some (.int a), none, none, some (.ref p.length), some (.bl false)] h0 = some (.nx, [some s.d, some r.d, some (lplD p), some (.int a), x4, x5, some T, some (.bl ch)], h1) →
      ∃ d σ h, k_law_tick [some s.d, some r.d, some (lplD p), some (.int a), none, none, none, none] [] = some (.rt d, σ, h) ∧ frzN 0 8 h d = some (.tup [lplD (ltickM s r p a).1, .int (ltickM s r p a).2]) := by
    intro T K' q ch x4 x5 h1 t H hn' hl hb
    obtain ⟨σ, h', g1, g2⟩ := lt_tail s r (some (lplD p)) (some (.int a)) x4 x5 h1 T K' q ch t H hn'
    refine ⟨.tup [T, .int (q.foldl (fun i x => i + lring (lup r ch x)) 0)], σ, h', ?_, ?_⟩
    · unfold k_law_tick
      rw [sSeq_, b0]
      dsimp only
      rw [sSeq_, hb]
      exact g1
    · rw [g2]
      unfold ltickM
      rw [hl]
  have kl : ∀ h, h[p.length]? = some (.lst (K.map D.ref)) → kLen [.ref p.length] h = some (.int p.length, h) := by
    intro h e
    simp [kLen, asQ, e, hkl]
  have hs0 := Setg.d0 s h0
  have hnil := things_nil h0 p.length K p e0 hHd
  by_cases c1 : a = 1 ∧ (p.length : Int) < s.o
  · have hl : lans s r p a = (p ++ [⟨lgap r 0 + 1, 0, -1⟩], true) := if_pos c1
    have e1 : (h0 ++ [LT.o ⟨lgap r 0 + 1, 0, -1⟩])[p.length]? = some (.lst (K.map D.ref)) := by rw [List.getElem?_append_left (by omega)]; exact e0
    refine fin (.ref p.length) (K ++ [p.length + 1]) _ _ none none ((h0 ++ [LT.o ⟨lgap r 0 + 1, 0, -1⟩]).set p.length (.lst ((K ++ [p.length + 1]).map D.ref))) ?_ ?_ ?_ hl ?_
    · exact .rf (by intro hm; rcases List.mem_append.mp hm with hm | hm; exact hnk hm; simp at hm) (List.getElem?_set_self (by simp; omega))
    · refine (hHd.mono fun m hm => ?_).app (.cons ?_ .nil)
      · have := hkb m hm
        rw [List.getElem?_set_ne (by omega), List.getElem?_append_left (by omega)]
      · rw [List.getElem?_set_ne (by omega)]; simp [hl0]
    · rw [List.nodup_append]
      refine ⟨hnd, by simp, ?_⟩
      intro x hx y hy hxy
      simp at hy
      have := hkb x hx
      omega
    · have hn16 : (K.map D.ref).length < 16777216 := by simp; omega
      simp [kl h0 e0, hs0, c1.1, c1.2, lgap_p, hl0, LT.o, LT.cs] at e1 ⊢
      have hp17 : p.length < 16777216 := by omega
      simp [asL, e0, mAppend, e1, hkl, hp17]
      rw [List.set_append_left _ _ (by omega)]
  · by_cases c2 : a = 2 ∧ p ≠ []
    · have hl : lans s r p a = (p.drop 1, true) := by unfold lans; rw [if_neg c1, if_pos c2]
      refine fin (.lst ((K.drop 1).map D.ref)) (K.drop 1) _ _ none none h0 .fz (hHd.drop 1) (hnd.sublist (List.drop_sublist 1 K)) hl ?_
      have hcut : cutOf h0 (some 1) none (.ref p.length) = some (.lst ((K.drop 1).map D.ref)) := by
        show (asL h0 (.ref p.length)).map (fun xs => D.lst (cutD xs (some 1) none)) = _
        rw [asL_lst e0]
        show some (D.lst (cutD (K.map D.ref) (some 1) none)) = _
        rw [cut_1, List.map_drop]
      simp [c2.1, hnil, c2.2, hcut]
    · by_cases c3 : a = 3
      · have hl : lans s r p a = (p.map (lput s), p.any lcond) := by unfold lans; rw [if_neg c1, if_neg c2, if_pos c3]
        obtain ⟨c, f1, f2⟩ := (Tl.rf hnk e0).any
        obtain ⟨h', u', g1, g2, g3, g4⟩ := ref_loop b_law_tick_1 (fun (ch : Bool) u => [some s.d, some r.d, some (lplD p), some (.int a), none, u, some (.ref p.length), some (.bl ch)]) (lput s) (fun ch x => ch || lcond x) c
          (fun h k x acc e => lt_put s (some r.d) (some (lplD p)) (some (.int a)) none (some (.ref p.length)) acc e) (fun acc u k => by simp) K p h0 false none hnd hHd f2
        have hfold : ∀ (b : Bool) (l : List LT), l.foldl (fun ch x => ch || lcond x) b = (b || l.any lcond) := by
          intro b l
          induction l generalizing b with
          | nil => simp
          | cons x l ih => rw [List.foldl_cons, ih, List.any_cons, Bool.or_assoc]
        rw [hfold, Bool.false_or] at g1
        refine fin (.ref p.length) K _ _ none u' h' ((Tl.rf hnk e0).mono g4) g2 hnd hl ?_
        subst c3
        simp [f1, g1]
      · have hl : lans s r p a = (p, false) := by unfold lans; rw [if_neg c1, if_neg c2, if_neg c3]
        refine fin (.ref p.length) K _ _ none none h0 (.rf hnk e0) hHd hnd hl ?_
        by_cases a1 : a = 1
        · have : ¬ (p.length : Int) < s.o := fun h => c1 ⟨a1, h⟩
          simp [a1, kl h0 e0, hs0, this]
        · by_cases a2 : a = 2
          · have : p = [] := by by_cases hp0 : p = []; exact hp0; exact absurd ⟨a2, hp0⟩ c2
            have hn1 : dEq h0 (.ref p.length) (.lst []) = some true := by rw [hnil, decide_eq_true this]
            simp [a2, hn1]
          · simp [a1, a2, c3]
theorem ltick_ (s : Setg) (r : Rule) (p : List LT) (a : Int) (hp : p.length ≤ 1000) (h : MH) : ePure F_law_tick [s.d, r.d, lplD p, .int a] h = some (.tup [lplD (ltickM s r p a).1, .int (ltickM s r p a).2], h) := by
  have hc : D.cls [s.d, r.d, lplD p, .int a] = true := by simp [cls_cons, cls_nil, cl_int, Setg.cl, Rule.cl, lplD_cl]
  obtain ⟨d, σ, h', e1, e2⟩ := ltick_run s r p a hp
  exact ePure_ hc (mkP_ rfl hc e1 rfl e2)
theorem lans_len (s : Setg) (r : Rule) (p : List LT) (a : Int) (hs : s.ok) (hp : p.length ≤ 2) : (lans s r p a).1.length ≤ 2 := by
  have := hs.2.1
  unfold lans
  split
  · simp; omega
  · split
    · simp; omega
    · split
      · simpa using hp
      · exact hp
theorem ltick_len (s : Setg) (r : Rule) (p : List LT) (a : Int) (hs : s.ok) (hp : p.length ≤ 2) : (ltickM s r p a).1.length ≤ 2 := by
  unfold ltickM; simpa using lans_len s r p a hs hp
def lrunM (s : Setg) (r : Rule) : List LT → List Int → List (List LT × Int)
  | _, [] => []
  | p, a :: t => ltickM s r p a :: lrunM s r (ltickM s r p a).1 t
def lpnD (x : List LT × Int) : D := .tup [lplD x.1, .int x.2]
theorem lrun_len (s : Setg) (r : Rule) (p : List LT) (l : List Int) : (lrunM s r p l).length = l.length := by
  induction l generalizing p with
  | nil => rfl
  | cons a t ih => simp [lrunM, ih]
theorem lpn_cl (x : List LT × Int) : D.cl (lpnD x) = true := by rw [lpnD, cl_tup]; simp [cls_cons, cls_nil, lplD_cl, cl_int]
theorem play_run (s : Setg) (r : Rule) (l : List Int) (hs : s.ok) (ha : l.length ≤ 1000) :
    ∃ σ h, k_law_play [some s.d, some r.d, some (rowD l), none, none, none, none] [] = some (.rt (.ref 0), σ, h) ∧ h[0]? = some (.lst ((lrunM s r [] l).map lpnD)) := by
  obtain ⟨σ, h, e, p, acc, u, v, e1, e2, e3, e4, e5⟩ := forD_inv (enc := D.int) (t := gN 3) (b := b_law_play_0)
    (I := fun rest σ h => ∃ p acc u v, σ = [some s.d, some r.d, some (rowD l), u, some (lplD p), some (.ref 0), v] ∧ h = [.lst (acc.map lpnD)] ∧ p.length ≤ 2 ∧ acc.length + rest.length = l.length ∧ acc ++ lrunM s r p rest = lrunM s r [] l)
    (by
      rintro x rest σ h ⟨p, acc, u, v, rfl, rfl, e3, e4, e5⟩
      rw [List.length_cons] at e4
      refine ⟨_, [some s.d, some r.d, some (rowD l), some (.int x), some (lplD (ltickM s r p x).1), some (.ref 0), some (.int (ltickM s r p x).2)], [.lst ((acc ++ [ltickM s r p x]).map lpnD)], rfl, .inl ?_, ?_⟩
      · have hl : acc.length < 16777216 := by omega
        simp [b_law_play_0, ltick_ s r p x (by omega), mAppend, asL, lpnD, hl]
      · refine ⟨_, _, _, _, rfl, rfl, ltick_len s r p x hs e3, by simp; omega, ?_⟩
        rw [← e5, lrunM]; simp)
    l [some s.d, some r.d, some (rowD l), none, some (lplD []), some (.ref 0), none] [.lst []] ⟨[], [], none, none, rfl, rfl, by simp, by simp, by simp⟩
  have hb : D.lst [] = lplD [] := rfl
  rw [lrunM, List.append_nil] at e5
  simp [k_law_play, hb, anyOf_row, e, e1, e2, e5]
  exact ⟨_, _, ⟨rfl, rfl⟩, rfl⟩
theorem play_p (s : Setg) (r : Rule) (l : List Int) (hs : s.ok) (ha : l.length ≤ 1000) (h : MH) : ePure F_law_play [s.d, r.d, rowD l] h = some (.lst ((lrunM s r [] l).map lpnD), h) := by
  have hc : D.cls [s.d, r.d, rowD l] = true := by simp [cls_cons, cls_nil, Setg.cl, Rule.cl, row_cl]
  obtain ⟨σ, h', e, e2⟩ := play_run s r l hs ha
  refine ePure_ hc (mkP_ rfl hc e rfl (frz_ref (Nat.le_refl _) e2 (mapO_map fun x _ => ?_)))
  refine frz_tup ?_
  rw [lplD, mapO, frz_lst (cls_map _ LT.cl _), mapO, frz_int, mapO]; rfl
end PyD
set_option Elab.async false
set_option linter.all false
set_option maxRecDepth 100000
set_option maxHeartbeats 4000000
/-! MirE: the law's tick and the program's are alike. -/
namespace PyD
open PySem (Str NestedKey PyData)
def LI (x : LT) : Prop := 0 ≤ x.t ∧ 0 ≤ x.a ∧ (0 < x.t → 0 ≤ x.z)
def cv (x : LT) : Th := ⟨if x.a = 0 then none else some x.a, if x.t < 4 then x.t else 4, lcond x⟩
def okS : List Setg := [1, 2].flatMap fun o => [1, 2, 3].map fun k => ⟨o, k⟩
def okR : List Rule := [Wd.every, .sooner, .slower, .quiet, .times].flatMap fun w => [1, 2, 3, 4].flatMap fun n => [1, 2, 3].map fun m => ⟨w, n, m⟩
theorem mem_okS (s : Setg) (hs : s.ok) : s ∈ okS := by
  obtain ⟨o, k⟩ := s
  obtain ⟨h1, h2, h3, h4⟩ := hs
  dsimp only at h1 h2 h3 h4
  have ho : o = 1 ∨ o = 2 := by omega
  have hk : k = 1 ∨ k = 2 ∨ k = 3 := by omega
  rcases ho with rfl | rfl <;> rcases hk with rfl | rfl | rfl <;> decide
theorem mem_okR (r : Rule) (hr : r.ok) : r ∈ okR := by
  obtain ⟨w, n, m⟩ := r
  obtain ⟨h1, h2, h3, h4⟩ := hr
  dsimp only at h1 h2 h3 h4
  have hn : n = 1 ∨ n = 2 ∨ n = 3 ∨ n = 4 := by omega
  have hm : m = 1 ∨ m = 2 ∨ m = 3 := by omega
  rcases hn with rfl | rfl | rfl | rfl <;> rcases hm with rfl | rfl | rfl <;> cases w <;> decide
theorem gap_small : (okR.all fun r => [0, 1, 2, 3].all fun t => decide (gapM r t = (if lgap r t = 0 then none else some (lgap r t)) ∧ 0 ≤ lgap r t)) = true := by decide +kernel
theorem lgap_gap {r : Rule} (hr : r.ok) (t : Int) (ht : 0 ≤ t) : gapM r (if t < 4 then t else 4) = (if lgap r t = 0 then none else some (lgap r t)) ∧ 0 ≤ lgap r t := by
  by_cases c4 : t < 4
  · rw [if_pos c4]
    have h := gap_small
    rw [List.all_eq_true] at h
    have h2 := h r (mem_okR r hr)
    rw [List.all_eq_true] at h2
    have ht4 : t = 0 ∨ t = 1 ∨ t = 2 ∨ t = 3 := by omega
    rcases ht4 with rfl | rfl | rfl | rfl <;> exact of_decide_eq_true (h2 _ (by decide))
  · rw [if_neg c4]
    obtain ⟨w, n, m⟩ := r
    obtain ⟨h1, h2, h3, h4⟩ := hr
    dsimp only at h1 h2 h3 h4
    have f1 : ¬ n - 4 > 1 := by omega
    have f2 : ¬ (4 : Int) + 1 < n := by omega
    have f3 : ¬ t < n := by omega
    have f4 : m ≤ 4 := by omega
    have f5 : m ≤ t := by omega
    have f6 : ¬ n = 0 := by omega
    have f7 : 0 ≤ n := by omega
    cases w
    · show some n = (if n = 0 then none else some n) ∧ 0 ≤ n
      rw [if_neg f6]; exact ⟨rfl, f7⟩
    · show some (if n - 4 > 1 then n - 4 else 1) = (if (if t < n then n - t else 1) = 0 then none else some (if t < n then n - t else 1)) ∧ 0 ≤ (if t < n then n - t else 1)
      rw [if_neg f1, if_neg f3, if_neg (by decide)]; exact ⟨rfl, by decide⟩
    · show some (if 4 + 1 < n then 4 + 1 else n) = (if (if t < n then t + 1 else n) = 0 then none else some (if t < n then t + 1 else n)) ∧ 0 ≤ (if t < n then t + 1 else n)
      rw [if_neg f2, if_neg f3, if_neg f6]; exact ⟨rfl, f7⟩
    · show some n = (if n = 0 then none else some n) ∧ 0 ≤ n
      rw [if_neg f6]; exact ⟨rfl, f7⟩
    · show (if m ≤ 4 then none else some n) = (if (if m ≤ t then 0 else n) = 0 then none else some (if m ≤ t then 0 else n)) ∧ 0 ≤ (if m ≤ t then 0 else n)
      rw [if_pos f4, if_pos f5, if_pos rfl]; exact ⟨rfl, by decide⟩
theorem lth_cv {r : Rule} (hr : r.ok) (x : LT) (hx : LI x) : thM r (cv x) = cv (lth r x) ∧ LI (lth r x) ∧ ((thM r (cv x)).r = decide (x.a = 1)) := by
  obtain ⟨a, t, z⟩ := x
  obtain ⟨h1, h2, h3⟩ := hx
  dsimp only at h1 h2 h3
  by_cases c1 : a = 1
  · subst c1
    have hg := lgap_gap hr (t + 1) (by omega)
    have e : (if (if t < 4 then t else 4) + 1 < 4 then (if t < 4 then t else 4) + 1 else 4) = (if t + 1 < 4 then t + 1 else (4 : Int)) := by
      by_cases c : t < 4 <;> simp only [c, if_true, if_false] <;> (repeat' split) <;> omega
    have e2 : thM r (cv ⟨1, t, z⟩) = ⟨gapM r (if t + 1 < 4 then t + 1 else 4), if t + 1 < 4 then t + 1 else 4, true⟩ := by
      simp only [thM, cv]
      rw [if_neg (by decide)]
      dsimp only
      rw [if_pos (by decide), e]
    have e3 : lth r ⟨1, t, z⟩ = ⟨lgap r (t + 1), t + 1, 0⟩ := by simp [lth]
    rw [e2, e3, hg.1]
    refine ⟨?_, ⟨by dsimp only; omega, hg.2, fun _ => Int.le_refl 0⟩, by simp⟩
    have : lcond ⟨lgap r (t + 1), t + 1, 0⟩ = true := by simp [lcond]; omega
    simp [cv, this]
  · have c1' : ¬ a - 1 = 0 := by omega
    have e3 : lth r ⟨a, t, z⟩ = ⟨if 1 < a then a - 1 else a, t, z + 1⟩ := by simp [lth, c1]; split <;> rfl
    have hl : lcond ⟨if 1 < a then a - 1 else a, t, z + 1⟩ = false := by simp [lcond]; omega
    rw [e3]
    by_cases c0 : a = 0
    · subst c0
      refine ⟨?_, ⟨h1, by simp, fun h => by have := h3 h; show 0 ≤ z + 1; omega⟩, by simp [thM, cv]⟩
      have hl' : lcond ⟨0, t, z + 1⟩ = false := by simp [lcond]; omega
      simp [thM, cv, hl']
    · have c2 : 1 < a := by omega
      rw [if_pos c2] at hl ⊢
      refine ⟨?_, ⟨h1, by show 0 ≤ a - 1; omega, fun h => by have := h3 h; show 0 ≤ z + 1; omega⟩, by simp [thM, cv, c0, c1, c1']⟩
      simp [thM, cv, c0, c1', hl]
theorem lup_cv (r : Rule) (hr : r.ok) (c : Bool) (x : LT) (hx : LI x) : cv (lup r c x) = (if (isQ r && c) = true then wakeM r (cv x) else cv x) ∧ LI (lup r c x) := by
  have h1 := hr.1
  unfold lup
  by_cases h : (c && isQ r) = true
  · rw [if_pos h, if_pos (by rw [Bool.and_comm]; exact h)]
    refine ⟨?_, ⟨hx.1, by show 0 ≤ r.n + 1; omega, hx.2.2⟩⟩
    have : ¬ r.n + 1 = 0 := by omega
    show (⟨if r.n + 1 = 0 then none else some (r.n + 1), if x.t < 4 then x.t else 4, lcond x⟩ : Th) = ⟨some (r.n + 1), if x.t < 4 then x.t else 4, lcond x⟩
    rw [if_neg this]
  · rw [if_neg h, if_neg (by rw [Bool.and_comm]; exact h)]
    exact ⟨rfl, hx⟩
theorem lans_cv (s : Setg) (r : Rule) (hs : s.ok) (hr : r.ok) (p : List LT) (a : Int) (hp : ∀ x ∈ p, LI x) :
    ansM s r (p.map cv) a = ((lans s r p a).1.map cv, (lans s r p a).2) ∧ ∀ x ∈ (lans s r p a).1, LI x := by
  unfold ansM lans
  by_cases h2 : a = 2
  · subst h2
    rw [if_pos rfl, if_neg (by omega)]
    by_cases hp0 : p = []
    · subst hp0; simp
    · rw [if_pos ⟨rfl, hp0⟩]
      exact ⟨by simp [hp0], fun x hx => hp x (List.mem_of_mem_drop hx)⟩
  · rw [if_neg h2]
    by_cases h3 : a = 3
    · subst h3
      rw [if_pos rfl, if_neg (by omega), if_neg (by omega), if_pos rfl]
      refine ⟨?_, ?_⟩
      · have : ∀ x ∈ p, putM s (cv x) = cv (lput s x) := by
          intro x hx
          have hk := hs.2.2.1
          have h1 : ¬ s.k + 1 = 0 := by omega
          cases hc : lcond x
          · simp [putM, cv, lput, hc]
          · have hc' : lcond ⟨s.k + 1, x.t, x.z⟩ = true := hc
            simp [putM, cv, lput, hc, h1, hc']
        have e1 : (p.map cv).map (putM s) = (p.map (lput s)).map cv := by
          rw [List.map_map, List.map_map]
          exact List.map_congr_left fun x hx => this x hx
        have e2 : (p.map cv).any (·.r) = p.any lcond := by rw [List.any_map]; rfl
        rw [e1, e2]
      · intro x hx
        obtain ⟨y, hy, rfl⟩ := List.mem_map.mp hx
        have := hp y hy
        unfold lput
        split
        · exact ⟨this.1, by have := hs.2.2.1; show 0 ≤ s.k + 1; omega, this.2.2⟩
        · exact this
    · rw [if_neg h3, List.length_map]
      by_cases h1 : a = 1 ∧ (p.length : Int) < s.o
      · rw [if_pos h1, if_pos h1]
        have hg := lgap_gap hr 0 (Int.le_refl 0)
        rw [if_pos (by decide), gap0_ok hr] at hg
        have hg0 : gap0 r = lgap r 0 := by
          have := hg.1
          split at this
          · cases this
          · injection this
        have hz : ¬ lgap r 0 + 1 = 0 := by have := hg.2; omega
        refine ⟨?_, ?_⟩
        · simp [cv, hz, hg0, lcond]
        · intro x hx
          rcases List.mem_append.mp hx with hx | hx
          · exact hp x hx
          · simp at hx; subst hx
            exact ⟨Int.le_refl 0, by have := hg.2; show 0 ≤ lgap r 0 + 1; omega, fun h => absurd h (Int.lt_irrefl 0)⟩
      · rw [if_neg h1, if_neg h1, if_neg (by omega), if_neg h3]
        exact ⟨rfl, hp⟩
theorem ltick_cv (s : Setg) (r : Rule) (hs : s.ok) (hr : r.ok) (p : List LT) (a : Int) (hp : ∀ x ∈ p, LI x) :
    tickM s r (p.map cv) a = ((ltickM s r p a).1.map cv, (ltickM s r p a).2) ∧ ∀ x ∈ (ltickM s r p a).1, LI x := by
  obtain ⟨h1, h2⟩ := lans_cv s r hs hr p a hp
  have e : answeredM s r (p.map cv) a = ((lans s r p a).1.map (lup r (lans s r p a).2)).map cv := by
    unfold answeredM
    rw [h1]
    dsimp only
    by_cases hc : (isQ r && (lans s r p a).2) = true
    · rw [if_pos hc, List.map_map]
      rw [List.map_map]
      exact List.map_congr_left fun x hx => by
        show wakeM r (cv x) = cv (lup r _ x)
        rw [(lup_cv r hr _ x (h2 x hx)).1, if_pos hc]
    · rw [if_neg hc]
      rw [List.map_map]
      exact List.map_congr_left fun x hx => by
        show cv x = cv (lup r _ x)
        rw [(lup_cv r hr _ x (h2 x hx)).1, if_neg hc]
  unfold tickM ltickM
  rw [e]
  generalize (lans s r p a).2 = c at *
  generalize (lans s r p a).1 = q at *
  have h3 : ∀ x ∈ q, LI (lup r c x) := fun x hx => (lup_cv r hr c x (h2 x hx)).2
  refine ⟨?_, ?_⟩
  · have e1 : ((q.map (lup r c)).map cv).map (thM r) = (q.map fun x => lth r (lup r c x)).map cv := by
      rw [List.map_map, List.map_map, List.map_map]
      exact List.map_congr_left fun x hx => (lth_cv hr _ (h3 x hx)).1
    have e2 : ∀ (l : List LT) (i : Int), (∀ x ∈ l, LI (lup r c x)) → i + ringsM (((l.map (lup r c)).map cv).map (thM r)) = l.foldl (fun i x => i + lring (lup r c x)) i := by
      intro l
      induction l with
      | nil => intro i _; simp [ringsM]
      | cons x l ih =>
        intro i hl
        rw [List.map_cons, List.map_cons, List.map_cons, List.foldl_cons, ← ih _ fun y hy => hl y (.tail _ hy), ringsM, List.foldr_cons]
        have := (lth_cv hr _ (hl x (.head _))).2.2
        rw [this]
        unfold lring ringsM
        by_cases h1 : (lup r c x).a = 1 <;> simp [h1] <;> omega
    have e3 := e2 q 0 h3
    rw [Int.zero_add] at e3
    rw [e3, e1]
  · intro x hx
    obtain ⟨y, hy, rfl⟩ := List.mem_map.mp hx
    exact (lth_cv hr _ (h3 y hy)).2.1
theorem lrun_cv (s : Setg) (r : Rule) (hs : s.ok) (hr : r.ok) (p : List LT) (l : List Int) (hp : ∀ x ∈ p, LI x) :
    runM s r (p.map cv) l = (lrunM s r p l).map fun x => (x.1.map cv, x.2) := by
  induction l generalizing p with
  | nil => rfl
  | cons a t ih =>
    obtain ⟨h1, h2⟩ := ltick_cv s r hs hr p a hp
    rw [runM, lrunM, h1, List.map_cons, ih _ h2]
end PyD
set_option Elab.async false
set_option linter.all false
set_option maxRecDepth 100000
set_option maxHeartbeats 4000000
/-! MirF: rows that simp leaves alone; words. -/
namespace PyD
open PySem (Str NestedKey PyData)
def cat (a b : List Int) : List Int := a ++ b
def zs (x : Int) (n : Int) : List Int := List.replicate n.toNat x
theorem cat_len (a b : List Int) : (cat a b).length = a.length + b.length := List.length_append
theorem zs_len (x n : Int) : (zs x n).length = n.toNat := List.length_replicate
theorem zs_row (x n : Int) (h1 : 0 ≤ n) (h2 : n ≤ 1000) : ∀ h, kMul (rowD [x]) (.int n) h = some (rowD (zs x n), h) := fun h => row_rep h x n h2 h1
theorem cat_row (a b : List Int) (hl : a.length + b.length ≤ 1000) : ∀ h, kAdd (rowD a) (rowD b) h = some (rowD (cat a b), h) := fun h => row_add h a b (by omega)
theorem one_row (x : Int) : D.lst [.int x] = rowD [x] := rfl
theorem cat_all (P : Int → Prop) (a b : List Int) (ha : ∀ x ∈ a, P x) (hb : ∀ x ∈ b, P x) : ∀ x ∈ cat a b, P x := fun x hx => (List.mem_append.mp hx).elim (ha x) (hb x)
theorem zs_all (P : Int → Prop) (x n : Int) (h : P x) : ∀ y ∈ zs x n, P y := fun y hy => by rw [List.eq_of_mem_replicate hy]; exact h
theorem one_all (P : Int → Prop) (x : Int) (h : P x) : ∀ y ∈ [x], P y := fun y hy => by rw [List.mem_singleton.mp hy]; exact h
theorem wd_slower (w : Wd) : (w.str = ("slower" : Str)) = (w = .slower) := by cases w <;> simp [Wd.str]
theorem wd_quiet (w : Wd) : (w.str = ("quiet" : Str)) = (w = .quiet) := by cases w <;> simp [Wd.str]
theorem wd_sooner (w : Wd) : (w.str = ("sooner" : Str)) = (w = .sooner) := by cases w <;> simp [Wd.str]
theorem wd_times (w : Wd) : (w.str = ("times" : Str)) = (w = .times) := by cases w <;> simp [Wd.str]
theorem wd_every (w : Wd) : (w.str = ("every" : Str)) = (w = .every) := by cases w <;> simp [Wd.str]
end PyD
set_option Elab.async false
set_option linter.all false
set_option maxRecDepth 100000
set_option maxHeartbeats 4000000
/-! MirG: what holds of the things of a place; small words on rows. -/
namespace PyD
open PySem (Str NestedKey PyData)
theorem w2_slower (w : Wd) : (w.str = ("slower" : Str)) = (w = .slower) := by cases w <;> simp [Wd.str]
def Gd (x : Th) : Prop := 0 ≤ x.t ∧ ∀ l, x.l = some l → 1 ≤ l ∧ l ≤ 5
theorem gap_bd {r : Rule} (hr : r.ok) (t g : Int) (ht : 0 ≤ t) (h : gapM r t = some g) : 1 ≤ g ∧ g ≤ 4 := by
  obtain ⟨w, n, m⟩ := r
  obtain ⟨h1, h2, h3, h4⟩ := hr
  dsimp only at h1 h2 h3 h4
  cases w <;> simp [gapM] at h
  · omega
  · split at h <;> omega
  · split at h <;> omega
  · omega
  · obtain ⟨_, rfl⟩ := h; omega
theorem gap0_bd {r : Rule} (hr : r.ok) : 1 ≤ gap0 r ∧ gap0 r ≤ 4 := gap_bd hr 0 _ (Int.le_refl 0) (gap0_ok hr)
theorem ans_gd (s : Setg) (r : Rule) (p : List Th) (a : Int) (hs : s.ok) (hr : r.ok) (hp : ∀ x ∈ p, Gd x) : ∀ x ∈ answeredM s r p a, Gd x := by
  have h1 : ∀ x ∈ (ansM s r p a).1, Gd x := by
    unfold ansM
    split
    · intro x hx; exact hp x (List.mem_of_mem_drop hx)
    · split
      · intro x hx
        obtain ⟨y, hy, rfl⟩ := List.mem_map.mp hx
        have := hp y hy
        refine ⟨this.1, ?_⟩
        intro l hl
        unfold putM at hl
        dsimp only at hl
        split at hl
        · cases hl; have := hs.2.2; omega
        · exact this.2 l hl
      · split
        · intro x hx
          rcases List.mem_append.mp hx with hx | hx
          · exact hp x hx
          · simp at hx; subst hx
            refine ⟨Int.le_refl 0, ?_⟩
            intro l hl
            cases hl
            have := gap0_bd hr; omega
        · exact hp
  unfold answeredM
  split
  · intro x hx
    obtain ⟨y, hy, rfl⟩ := List.mem_map.mp hx
    refine ⟨(h1 y hy).1, ?_⟩
    intro l hl
    cases hl
    have := hr.1; have := hr.2.1; omega
  · exact h1
theorem th_gd (r : Rule) (x : Th) (hr : r.ok) (hx : Gd x) : Gd (thM r x) := by
  unfold thM
  split
  · exact ⟨hx.1, nofun⟩
  · rename_i l hl
    have := hx.2 l hl
    have h0 := hx.1
    split
    · refine ⟨by dsimp only; split <;> omega, ?_⟩
      intro g hg
      have := gap_bd hr _ g (by split <;> omega) hg
      omega
    · refine ⟨h0, ?_⟩
      intro g hg
      cases hg
      omega
theorem tick_gd (s : Setg) (r : Rule) (p : List Th) (a : Int) (hs : s.ok) (hr : r.ok) (hp : ∀ x ∈ p, Gd x) : ∀ x ∈ (tickM s r p a).1, Gd x := by
  intro x hx
  obtain ⟨y, hy, rfl⟩ := List.mem_map.mp hx
  exact th_gd r y hr (ans_gd s r p a hs hr hp y hy)
theorem rings_bd (p : List Th) : 0 ≤ ringsM p ∧ ringsM p ≤ p.length := by
  induction p with
  | nil => exact ⟨Int.le_refl 0, Int.le_refl 0⟩
  | cons x q ih =>
    rw [ringsM, List.foldr_cons]
    show 0 ≤ (if x.r = true then 1 else 0) + ringsM q ∧ (if x.r = true then 1 else 0) + ringsM q ≤ _
    rw [List.length_cons]
    split <;> omega
theorem open_due (s : Setg) (r : Rule) (p : List Th) (a : Int) (hs : s.ok) (hp : (p.length : Int) ≤ s.o) :
    ((tickM s r p a).1.length : Int) = (if a = 2 then (if (p.length : Int) - 1 > 0 then (p.length : Int) - 1 else 0) else if a = 1 then (if (p.length : Int) + 1 < s.o then (p.length : Int) + 1 else s.o) else p.length) := by
  rw [tick_length]
  unfold ansM
  by_cases h2 : a = 2
  · rw [if_pos h2, if_pos h2, List.length_drop]; split <;> omega
  · rw [if_neg h2, if_neg h2]
    by_cases h3 : a = 3
    · rw [if_pos h3, if_neg (by omega), List.length_map]
    · rw [if_neg h3]
      by_cases h1 : a = 1
      · by_cases hl : (p.length : Int) < s.o
        · rw [if_pos ⟨h1, hl⟩, if_pos h1]; simp; omega
        · rw [if_neg (by omega), if_pos h1]; dsimp only; split <;> omega
      · rw [if_neg (by omega), if_neg h1]
theorem open_le (s : Setg) (r : Rule) (p : List Th) (a : Int) (hs : s.ok) (hp : (p.length : Int) ≤ s.o) : ((tickM s r p a).1.length : Int) ≤ s.o := by
  have := hs.1
  rw [open_due s r p a hs hp]
  split
  · split <;> omega
  · split
    · split <;> omega
    · exact hp
/-- a thing that is new -/
theorem new_left (s : Setg) (r : Rule) (p : List Th) (a : Int) (hs : s.ok) (hr : r.ok) (h : p.length < (tickM s r p a).1.length) :
    ∃ q x, (tickM s r p a).1 = q ++ [x] ∧ x.l = some (gap0 r) := by
  have hl := tick_length s r p a
  unfold ansM at hl
  have hg := gap0_bd hr
  by_cases h2 : a = 2
  · rw [if_pos h2] at hl; simp at hl; omega
  · rw [if_neg h2] at hl
    by_cases h3 : a = 3
    · rw [if_pos h3] at hl; simp at hl; omega
    · rw [if_neg h3] at hl
      by_cases h1 : a = 1 ∧ (p.length : Int) < s.o
      · have e : ansM s r p a = (p ++ [⟨some (gap0 r + 1), 0, false⟩], true) := by unfold ansM; rw [if_neg h2, if_neg h3, if_pos h1]
        have hn1 := hr.1
        by_cases hq : r.w = .quiet
        · have ea : answeredM s r p a = (p ++ [(⟨some (gap0 r + 1), 0, false⟩ : Th)]).map (wakeM r) := by unfold answeredM; rw [e]; simp [isQ, hq]
          refine ⟨(p.map (wakeM r)).map (thM r), thM r (wakeM r ⟨some (gap0 r + 1), 0, false⟩), ?_, ?_⟩
          · unfold tickM; rw [ea]; simp
          · have : gap0 r = r.n := by simp [gap0, gapM, hq]
            have hn0 : ¬ r.n = 0 := by omega
            rw [this]; simp [thM, wakeM, hn0]
        · have ea : answeredM s r p a = p ++ [⟨some (gap0 r + 1), 0, false⟩] := by unfold answeredM; rw [e]; simp [isQ, hq]
          refine ⟨p.map (thM r), thM r ⟨some (gap0 r + 1), 0, false⟩, ?_, ?_⟩
          · unfold tickM; rw [ea]; simp
          · have hn0 : ¬ gap0 r = 0 := by omega
            simp [thM, hn0]
      · rw [if_neg h1] at hl; dsimp only at hl; omega
theorem gap0_val {r : Rule} (hr : r.ok) : gap0 r = if r.w = .slower then 1 else r.n := by
  obtain ⟨w, n, m⟩ := r
  obtain ⟨h1, h2, h3, h4⟩ := hr
  dsimp only at h1 h2 h3 h4
  cases w <;> simp [gap0, gapM]
  · omega
  · omega
  · rw [if_neg (by omega)]; rfl
theorem tup_eq_opt (h : MH) (p q : List (Option Int)) : dEq h (.tup (p.map optD)) (.tup (q.map optD)) = some (decide (p = q)) := Eqt.eqG (Eqt.tup Eqt.opt) (by decide) h p q
theorem opt_eq (h : MH) (p q : Option Int) : dEqG h (optD p) (optD q) = some (decide (p = q)) := Eqt.eqG Eqt.opt (by decide) h p q
theorem lft_get (h : MH) (l : List (List (Option Int))) (i : Nat) (v : List (Option Int)) (e : l[i]? = some v) : kSub_ (lftD l) (.int i) h = some (.tup (v.map optD), h) := by
  rw [lftD, kSub_lst, atI_nat_, List.getElem?_map, e]; rfl
theorem atI_last {α : Type} (xs : List α) (x : α) : L2.atI (xs ++ [x]) (-1) = some x := by
  unfold L2.atI L2.ixN
  rw [if_neg (by decide), if_pos (by simp; omega)]
  have : (-1 + ((xs ++ [x]).length : Int)).toNat = xs.length := by simp; omega
  rw [this]; simp
theorem lcD_filt {α : Type} {t : Tg} {c : Tv} {e : Ev} {σ : Sg} {h : MH} {enc f : α → D} {σf : α → Sg} {q : α → Bool} {l : List α}
    (H1 : ∀ x ∈ l, t (enc x) σ = some (σf x)) (H2 : ∀ x ∈ l, c (σf x) h = some (q x, h)) (H3 : ∀ x ∈ l, q x = true → e (σf x) h = some (f x, h)) : lcD yes t c e σ (l.map enc) h = some ((l.filter q).map f, h) := by
  induction l with
  | nil => rfl
  | cons x r ih =>
    rw [List.map_cons, lcD_cons_]
    have ih := ih (fun y hy => H1 y (.tail _ hy)) (fun y hy => H2 y (.tail _ hy)) fun y hy => H3 y (.tail _ hy)
    simp only [yes_, if_true, H1 x (.head _), H2 x (.head _), ih]
    cases hq : q x with
    | true => simp [hq, H3 x (.head _) hq, ih]
    | false => simp [hq, ih]
/-- zero answers: nothing rings as long as all have more ticks left -/
def dnM (x : Th) : Th := ⟨x.l.map (· - 1), x.t, false⟩
theorem tick_zero (s : Setg) (r : Rule) (p : List Th) : tickM s r p 0 = (p.map (thM r), ringsM (p.map (thM r))) := by
  simp [tickM, answeredM, ansM]
theorem tick_quiet0 (r : Rule) (p : List Th) (hp : ∀ x ∈ p, ∀ l, x.l = some l → 2 ≤ l) : p.map (thM r) = p.map dnM ∧ ringsM (p.map (thM r)) = 0 := by
  induction p with
  | nil => exact ⟨rfl, rfl⟩
  | cons x q ih =>
    obtain ⟨i1, i2⟩ := ih fun y hy => hp y (.tail _ hy)
    have e : thM r x = dnM x := by
      cases hx : x.l with
      | none => simp [thM, dnM, hx]
      | some l =>
        have := hp x (.head _) l hx
        simp [thM, dnM, hx, show ¬ l - 1 = 0 by omega]
    refine ⟨by rw [List.map_cons, List.map_cons, e, i1], ?_⟩
    rw [List.map_cons, e, ringsM, List.foldr_cons]
    show (if false = true then 1 else 0) + ringsM (q.map (thM r)) = 0
    rw [i2]; rfl
theorem tick_count (r : Rule) (p : List Th) : ringsM (p.map (thM r)) = ((p.map (·.l)).count (some 1) : Nat) := by
  induction p with
  | nil => rfl
  | cons x q ih =>
    rw [List.map_cons, ringsM, List.foldr_cons, List.map_cons, List.count_cons]
    show (if (thM r x).r = true then 1 else 0) + ringsM (q.map (thM r)) = _
    rw [ih]
    cases hx : x.l with
    | none => simp [thM, hx]
    | some l =>
      by_cases h1 : l - 1 = 0
      · have : l = 1 := by omega
        subst this
        simp [thM, hx]; omega
      · have : ¬ l = 1 := by omega
        simp [thM, hx, h1, this]
theorem zeros_run (s : Setg) (r : Rule) : ∀ (n : Nat) (p : List Th), (∀ x ∈ p, ∀ l, x.l = some l → (n : Int) + 1 ≤ l) →
    (runM s r p (List.replicate n 0)).map (·.2) = List.replicate n 0 ∧ (endM s r p (List.replicate n 0)).map (·.l) = p.map fun x => x.l.map (· - (n : Int)) := by
  intro n
  induction n with
  | zero =>
    intro p _
    refine ⟨rfl, ?_⟩
    show p.map (·.l) = _
    apply List.map_congr_left
    intro x _
    cases x.l <;> simp
  | succ n ih =>
    intro p hp
    have h1 := tick_quiet0 r p fun x hx l e => by have := hp x hx l e; omega
    rw [List.replicate_succ, runM, endM, tick_zero, List.map_cons]
    dsimp only
    rw [h1.1, show ringsM (p.map dnM) = 0 by rw [← h1.1]; exact h1.2]
    obtain ⟨a, b⟩ := ih (p.map dnM) fun x hx l e => by
      obtain ⟨y, hy, rfl⟩ := List.mem_map.mp hx
      simp only [dnM, Option.map_eq_some_iff] at e
      obtain ⟨k, e1, e2⟩ := e
      have := hp y hy k e1
      omega
    rw [a, b]
    refine ⟨by simp [List.replicate_succ], ?_⟩
    rw [List.map_map]
    apply List.map_congr_left
    intro x _
    simp only [Function.comp, dnM]
    cases x.l with
    | none => rfl
    | some l => simp; omega
/-- a last tick that rings -/
theorem zeros_ring (s : Setg) (r : Rule) (n : Nat) (p : List Th) (hp : ∀ x ∈ p, ∀ l, x.l = some l → (n : Int) + 1 ≤ l) :
    (runM s r p (List.replicate (n + 1) 0)).map (·.2) = List.replicate n (0 : Int) ++ [(((p.map (·.l)).count (some ((n : Int) + 1)) : Nat) : Int)] := by
  obtain ⟨a, b⟩ := zeros_run s r n p hp
  rw [List.replicate_succ', run_app, List.map_append, a]
  congr 1
  rw [runM, runM, tick_zero, List.map_cons, List.map_nil, tick_count, b]
  congr 2
  rw [List.count_eq_countP, List.countP_map, List.count_eq_countP, List.countP_map]
  dsimp only
  congr 1
  apply List.countP_congr
  intro x _
  cases hx : x.l with
  | none => simp [hx]
  | some l => simp [hx]; omega
end PyD
set_option Elab.async false
set_option linter.all false
set_option maxRecDepth 100000
set_option maxHeartbeats 4000000
/-! MirK: more rules for simp; loops told by typed states; dicts with typed keys; steps. -/
namespace PyD
open PySem (Str NestedKey PyData)

/-! ### rules for simp -/
section
variable {f g e : Ev} {tf tg : Tv} {av : Av} {sf sg : Sv} {σ : Sg} {h : MH}
@[simp ↓, simp] theorem kDict0_ : kDict0 [] h = some (.ref h.length, h ++ [.dct []]) := rfl
@[simp ↓, simp] theorem kDict0F_ : kDict0F [] h = some (.dct [], h) := rfl
@[simp ↓] theorem eMD_ (k : OpM) : eMD k f av σ h = match f σ h with
    | none => none
    | some (x, h1) => if (asM h1 x).isSome = true then (match av σ h1 with
      | none => none
      | some (ys, h2) => k x ys h2) else none := by
  unfold eMD
  cases f σ h with
  | none => rfl
  | some p =>
    obtain ⟨x, h1⟩ := p
    show (if (asM h1 x).isSome = true then (av σ h1).bind _ else none) = _
    dsimp only
    split
    · cases av σ h1 <;> rfl
    · rfl
@[simp ↓] theorem eRev_ : eRev f σ h = match f σ h with
    | none => none
    | some (x, h1) => match asL h1 x with
      | none => none
      | some l => some (.lst l.reverse, h1) := by
  unfold eRev
  cases f σ h with
  | none => rfl
  | some p => obtain ⟨x, h1⟩ := p; show (asL h1 x).map _ = _; dsimp only; cases asL h1 x <;> rfl
@[simp ↓] theorem eDcF_ (it : Iv) (t : Tg) (e' : Ev) (vs : List Nat) : eDcF it t tf e e' vs σ h = match it σ h with
    | none => none
    | some (xs, c, h1) => match dcD c t tf e e' (wipeD σ vs) xs [] h1 with
      | none => none
      | some (kvs, h2) => some (.dct kvs, h2) := by
  unfold eDcF
  cases it σ h with
  | none => rfl
  | some p => obtain ⟨xs, c, h1⟩ := p; show (dcD c t tf e e' (wipeD σ vs) xs [] h1).bind _ = _; dsimp only; cases dcD c t tf e e' (wipeD σ vs) xs [] h1 <;> rfl
@[simp ↓] theorem eDc_ (it : Iv) (t : Tg) (e' : Ev) (vs : List Nat) : eDc it t tf e e' vs σ h = match it σ h with
    | none => none
    | some (xs, c, h1) => match dcD c t tf e e' (wipeD σ vs) xs [] h1 with
      | none => none
      | some (kvs, h2) => some (.ref h2.length, h2 ++ [.dct kvs]) := by
  unfold eDc
  cases it σ h with
  | none => rfl
  | some p => obtain ⟨xs, c, h1⟩ := p; show (dcD c t tf e e' (wipeD σ vs) xs [] h1).bind _ = _; dsimp only; cases dcD c t tf e e' (wipeD σ vs) xs [] h1 <;> rfl
@[simp ↓, simp] theorem asL_lst_ (xs : List D) : asL h (.lst xs) = some xs := rfl
@[simp ↓, simp] theorem asM_dct_ (xs : List (D × D)) : asM h (.dct xs) = some xs := rfl
end
theorem rng_succ (n : Nat) : rngD 0 (n + 1) = rngD 0 n ++ [.int n] := by
  simp [rngD, List.range_succ]

/-! ### loops -/
theorem forD_fold {α St : Type} {enc : α → D} {t : Tg} {b : Sv} {c : MH → Bool} {rep : St → Sg → MH → Prop} {f : St → α → St} {l : List α}
    (hc : ∀ st σ h, rep st σ h → c h = true)
    (H : ∀ x ∈ l, ∀ st σ h, rep st σ h → ∃ σ1 σ2 h2, t (enc x) σ = some σ1 ∧ (b σ1 h = some (.nx, σ2, h2) ∨ b σ1 h = some (.ct, σ2, h2)) ∧ rep (f st x) σ2 h2) :
    ∀ st σ h, rep st σ h → ∃ σ' h', forD c t b (l.map enc) σ h = some (.nx, σ', h') ∧ rep (l.foldl f st) σ' h' := by
  induction l with
  | nil => intro st σ h r; exact ⟨σ, h, by rw [List.map_nil, forD_nil, if_pos (hc st σ h r)], r⟩
  | cons x q ih =>
    intro st σ h r
    obtain ⟨σ1, σ2, h2, e1, e2, r2⟩ := H x (.head _) st σ h r
    obtain ⟨σ', h', e3, r3⟩ := ih (fun y hy => H y (.tail _ hy)) _ _ _ r2
    refine ⟨σ', h', ?_, r3⟩
    rw [List.map_cons, forD_cons_, if_pos (hc st σ h r)]
    rcases e2 with e2 | e2 <;> simp only [e1, e2, e3]
/-- a loop that may hand back -/
def foldE {α St R : Type} (f : St → α → St ⊕ R) : List α → St → St ⊕ R
  | [], st => .inl st
  | x :: l, st => match f st x with
    | .inl st' => foldE f l st'
    | .inr r => .inr r
theorem forD_foldE {α St R : Type} {enc : α → D} {encR : R → D} {t : Tg} {b : Sv} {c : MH → Bool} {rep : St → Sg → MH → Prop} {f : St → α → St ⊕ R} {l : List α}
    (hc : ∀ st σ h, rep st σ h → c h = true)
    (H : ∀ x ∈ l, ∀ st σ h, rep st σ h → ∃ σ1, t (enc x) σ = some σ1 ∧ match f st x with
      | .inl st' => ∃ σ2 h2, (b σ1 h = some (.nx, σ2, h2) ∨ b σ1 h = some (.ct, σ2, h2)) ∧ rep st' σ2 h2
      | .inr r => ∃ σ2 h2, b σ1 h = some (.rt (encR r), σ2, h2)) :
    ∀ st σ h, rep st σ h → match foldE f l st with
      | .inl st' => ∃ σ' h', forD c t b (l.map enc) σ h = some (.nx, σ', h') ∧ rep st' σ' h'
      | .inr r => ∃ σ' h', forD c t b (l.map enc) σ h = some (.rt (encR r), σ', h') := by
  induction l with
  | nil => intro st σ h r; exact ⟨σ, h, by rw [List.map_nil, forD_nil, if_pos (hc st σ h r)], r⟩
  | cons x q ih =>
    intro st σ h r
    obtain ⟨σ1, e1, e2⟩ := H x (.head _) st σ h r
    rw [foldE]
    cases hf : f st x with
    | inl st' =>
      rw [hf] at e2
      obtain ⟨σ2, h2, e2, r2⟩ := e2
      have ih := ih (fun y hy => H y (.tail _ hy)) _ _ _ r2
      dsimp only
      cases hq : foldE f q st' with
      | inl st'' =>
        rw [hq] at ih
        obtain ⟨σ', h', e3, r3⟩ := ih
        refine ⟨σ', h', ?_, r3⟩
        rw [List.map_cons, forD_cons_, if_pos (hc st σ h r)]
        rcases e2 with e2 | e2 <;> simp only [e1, e2, e3]
      | inr w =>
        rw [hq] at ih
        obtain ⟨σ', h', e3⟩ := ih
        refine ⟨σ', h', ?_⟩
        rw [List.map_cons, forD_cons_, if_pos (hc st σ h r)]
        rcases e2 with e2 | e2 <;> simp only [e1, e2, e3]
    | inr w =>
      rw [hf] at e2
      obtain ⟨σ2, h2, e2⟩ := e2
      refine ⟨σ2, h2, ?_⟩
      rw [List.map_cons, forD_cons_, if_pos (hc st σ h r)]
      simp only [e1, e2]
/-- turns of a while: none, it ends -/
def iter {St : Type} (next : St → Option St) : Nat → St → Option St
  | 0, x => match next x with
    | none => some x
    | some _ => none
  | n + 1, x => match next x with
    | none => some x
    | some y => iter next n y
theorem whD_iter {St : Type} {next : St → Option St} {rep : St → Sg → MH → Prop} {c : Tv} {b : Sv}
    (H : ∀ x σ h, rep x σ h → match next x with
      | none => c σ h = some (false, h)
      | some y => c σ h = some (true, h) ∧ ∃ σ2 h2, (b σ h = some (.nx, σ2, h2) ∨ b σ h = some (.ct, σ2, h2)) ∧ rep y σ2 h2) :
    ∀ (n m : Nat) (x z : St) (σ : Sg) (h : MH), rep x σ h → iter next n x = some z → n < m → ∃ σ' h', whD c b m σ h = some (.nx, σ', h') ∧ rep z σ' h' := by
  intro n
  induction n with
  | zero =>
    intro m x z σ h r e hm
    obtain ⟨m, rfl⟩ : ∃ k, m = k + 1 := ⟨m - 1, by omega⟩
    have := H x σ h r
    rw [iter] at e
    cases hn : next x with
    | none =>
      rw [hn] at this e
      cases e
      exact ⟨σ, h, by rw [whD, this]; rfl, r⟩
    | some y => rw [hn] at e; cases e
  | succ n ih =>
    intro m x z σ h r e hm
    obtain ⟨m, rfl⟩ : ∃ k, m = k + 1 := ⟨m - 1, by omega⟩
    have := H x σ h r
    rw [iter] at e
    cases hn : next x with
    | none =>
      rw [hn] at this e
      cases e
      exact ⟨σ, h, by rw [whD, this]; rfl, r⟩
    | some y =>
      rw [hn] at this e
      obtain ⟨e1, σ2, h2, e2, r2⟩ := this
      obtain ⟨σ', h', e3, r3⟩ := ih m y z σ2 h2 r2 e (by omega)
      refine ⟨σ', h', ?_, r3⟩
      rw [whD, e1]
      show (b σ h).bind _ = _
      rcases e2 with e2 | e2 <;> (rw [e2]; exact e3)
theorem while_iter {St : Type} {next : St → Option St} {rep : St → Sg → MH → Prop} {c : Tv} {b : Sv}
    (H : ∀ x σ h, rep x σ h → match next x with
      | none => c σ h = some (false, h)
      | some y => c σ h = some (true, h) ∧ ∃ σ2 h2, (b σ h = some (.nx, σ2, h2) ∨ b σ h = some (.ct, σ2, h2)) ∧ rep y σ2 h2)
    {n : Nat} {x z : St} {σ : Sg} {h : MH} (r : rep x σ h) (e : iter next n x = some z) (hn : n < 1000000000000) : ∃ σ' h', sWhile c b σ h = some (.nx, σ', h') ∧ rep z σ' h' :=
  whD_iter H n FUEL x z σ h r e (Nat.lt_of_lt_of_le hn (by decide))
/-- .. with the turns left told -/
theorem whD_iterN {St : Type} {next : St → Option St} {rep : Nat → St → Sg → MH → Prop} {c : Tv} {b : Sv}
    (H : ∀ n x σ h, rep n x σ h → match next x with
      | none => c σ h = some (false, h)
      | some y => c σ h = some (true, h) ∧ ∀ k, n = k + 1 → ∃ σ2 h2, (b σ h = some (.nx, σ2, h2) ∨ b σ h = some (.ct, σ2, h2)) ∧ rep k y σ2 h2) :
    ∀ (n m : Nat) (x z : St) (σ : Sg) (h : MH), rep n x σ h → iter next n x = some z → n < m → ∃ σ' h' k, whD c b m σ h = some (.nx, σ', h') ∧ rep k z σ' h' := by
  intro n
  induction n with
  | zero =>
    intro m x z σ h r e hm
    obtain ⟨m, rfl⟩ : ∃ k, m = k + 1 := ⟨m - 1, by omega⟩
    have := H 0 x σ h r
    rw [iter] at e
    cases hn : next x with
    | none =>
      rw [hn] at this e
      cases e
      exact ⟨σ, h, 0, by rw [whD, this]; rfl, r⟩
    | some y => rw [hn] at e; cases e
  | succ n ih =>
    intro m x z σ h r e hm
    obtain ⟨m, rfl⟩ : ∃ k, m = k + 1 := ⟨m - 1, by omega⟩
    have := H (n + 1) x σ h r
    rw [iter] at e
    cases hn : next x with
    | none =>
      rw [hn] at this e
      cases e
      exact ⟨σ, h, n + 1, by rw [whD, this]; rfl, r⟩
    | some y =>
      rw [hn] at this e
      obtain ⟨e1, this⟩ := this
      obtain ⟨σ2, h2, e2, r2⟩ := this n rfl
      obtain ⟨σ', h', k, e3, r3⟩ := ih m y z σ2 h2 r2 e (by omega)
      refine ⟨σ', h', k, ?_, r3⟩
      rw [whD, e1]
      show (b σ h).bind _ = _
      rcases e2 with e2 | e2 <;> (rw [e2]; exact e3)
theorem while_iterN {St : Type} {next : St → Option St} {rep : Nat → St → Sg → MH → Prop} {c : Tv} {b : Sv}
    (H : ∀ n x σ h, rep n x σ h → match next x with
      | none => c σ h = some (false, h)
      | some y => c σ h = some (true, h) ∧ ∀ k, n = k + 1 → ∃ σ2 h2, (b σ h = some (.nx, σ2, h2) ∨ b σ h = some (.ct, σ2, h2)) ∧ rep k y σ2 h2)
    {n : Nat} {x z : St} {σ : Sg} {h : MH} (r : rep n x σ h) (e : iter next n x = some z) (hn : n < 1000000000000) : ∃ σ' h' k, sWhile c b σ h = some (.nx, σ', h') ∧ rep k z σ' h' :=
  whD_iterN H n FUEL x z σ h r e (Nat.lt_of_lt_of_le hn (by decide))
/-- a while ends where a measure falls -/
theorem iter_ends {St : Type} {next : St → Option St} {P : St → Prop} (m : St → Nat) (hP : ∀ x y, P x → next x = some y → P y ∧ m y < m x) :
    ∀ (n : Nat) (x : St), P x → m x ≤ n → ∃ z, iter next n x = some z ∧ P z ∧ next z = none := by
  intro n
  induction n with
  | zero =>
    intro x hx hm
    cases hn : next x with
    | none => exact ⟨x, by rw [iter, hn], hx, hn⟩
    | some y => have := (hP x y hx hn).2; omega
  | succ n ih =>
    intro x hx hm
    cases hn : next x with
    | none => exact ⟨x, by rw [iter, hn], hx, hn⟩
    | some y =>
      obtain ⟨h1, h2⟩ := hP x y hx hn
      obtain ⟨z, e, pz, nz⟩ := ih y h1 (by omega)
      exact ⟨z, by rw [iter, hn]; exact e, pz, nz⟩

/-! ### dicts -/
structure Kenc {α : Type} [DecidableEq α] (enc : α → D) : Prop where
  ok : ∀ a, kOk (enc a) = true
  eq : ∀ a b, keq (enc a) (enc b) = decide (a = b)
def tlook {α β : Type} [DecidableEq α] (g : List (α × β)) (k : α) : Option β := (g.find? fun p => decide (p.1 = k)).map (·.2)
def tput {α β : Type} [DecidableEq α] (g : List (α × β)) (k : α) (v : β) : List (α × β) :=
  if (tlook g k).isSome then g.map fun p => if p.1 = k then (p.1, v) else p else g ++ [(k, v)]
def kvD {α β : Type} (ek : α → D) (ev : β → D) (g : List (α × β)) : List (D × D) := g.map fun p => (ek p.1, ev p.2)
section
variable {α β : Type} [DecidableEq α] {ek : α → D} {ev : β → D} {g : List (α × β)} {k : α} {v : β} {h : MH}
theorem look_kv (K : Kenc ek) (k : α) (g : List (α × β)) : dLook (kvD ek ev g) (ek k) = (tlook g k).map ev := by
  unfold dLook tlook kvD
  induction g with
  | nil => rfl
  | cons p r ih =>
    rw [List.map_cons, List.find?_cons, List.find?_cons]
    dsimp only
    rw [K.eq]
    by_cases hp : p.1 = k
    · simp [hp]
    · simp only [decide_eq_false hp]; exact ih
theorem put_kv (K : Kenc ek) : dPut (kvD ek ev g) (ek k) (ev v) = kvD ek ev (tput g k v) := by
  unfold dPut tput
  rw [look_kv K, Option.isSome_map]
  split
  · unfold kvD
    rw [List.map_map, List.map_map]
    apply List.map_congr_left
    intro p _
    simp only [Function.comp]
    rw [K.eq]
    by_cases hp : p.1 = k
    · rw [if_pos (by simp [hp]), if_pos hp]
    · rw [if_neg (by simp [hp]), if_neg hp]
  · simp [kvD]
theorem kv_len : (kvD ek ev g).length = g.length := by simp [kvD]
theorem kv_keys : (kvD ek ev g).map (·.1) = (g.map (·.1)).map ek := by simp [kvD]
theorem in_dct (K : Kenc ek) : kIn_ (ek k) (.dct (kvD ek ev g)) h = some (.bl (tlook g k).isSome, h) := by
  show (if kOk (ek k) then some (D.bl (dLook (kvD ek ev g) (ek k)).isSome, h) else none) = _
  rw [K.ok, look_kv K, Option.isSome_map]; rfl
theorem notin_dct (K : Kenc ek) : kNotIn_ (ek k) (.dct (kvD ek ev g)) h = some (.bl (!(tlook g k).isSome), h) := by
  show (if kOk (ek k) then some (D.bl (!(dLook (kvD ek ev g) (ek k)).isSome), h) else none) = _
  rw [K.ok, look_kv K, Option.isSome_map]; rfl
theorem sub_dct (K : Kenc ek) : kSub_ (.dct (kvD ek ev g)) (ek k) h = (tlook g k).map fun v => (ev v, h) := by
  show (if kOk (ek k) then (dLook (kvD ek ev g) (ek k)).map fun v => (v, h) else none) = _
  rw [K.ok, look_kv K]
  cases tlook g k <;> rfl
theorem isDct_ref {n : Nat} {kvs : List (D × D)} (e : h[n]? = some (.dct kvs)) : isDct h (.ref n) = true := by
  show (match h[n]? with | some (.dct kvs) => some kvs | _ => none).isSome = true
  rw [e]; rfl
theorem asM_ref {n : Nat} {kvs : List (D × D)} (e : h[n]? = some (.dct kvs)) : asM h (.ref n) = some kvs := by
  show (match h[n]? with | some (.dct kvs) => some kvs | _ => none) = _
  rw [e]
theorem in_ref (K : Kenc ek) {n : Nat} (e : h[n]? = some (.dct (kvD ek ev g))) : kIn_ (ek k) (.ref n) h = some (.bl (tlook g k).isSome, h) := by
  unfold kIn_
  rw [isDct_ref e, if_pos rfl]
  unfold kInM
  rw [asM_ref e]
  show (if kOk (ek k) then some (D.bl (dLook (kvD ek ev g) (ek k)).isSome, h) else none) = _
  rw [K.ok, look_kv K, Option.isSome_map]; rfl
theorem notin_ref (K : Kenc ek) {n : Nat} (e : h[n]? = some (.dct (kvD ek ev g))) : kNotIn_ (ek k) (.ref n) h = some (.bl (!(tlook g k).isSome), h) := by
  unfold kNotIn_
  rw [isDct_ref e, if_pos rfl]
  unfold kNotInM
  rw [asM_ref e]
  show (if kOk (ek k) then some (D.bl (!(dLook (kvD ek ev g) (ek k)).isSome), h) else none) = _
  rw [K.ok, look_kv K, Option.isSome_map]; rfl
theorem sub_ref (K : Kenc ek) {n : Nat} (e : h[n]? = some (.dct (kvD ek ev g))) : kSub_ (.ref n) (ek k) h = (tlook g k).map fun v => (ev v, h) := by
  unfold kSub_
  rw [isDct_ref e, if_pos rfl]
  unfold kGet
  rw [asM_ref e]
  show (if kOk (ek k) then (dLook (kvD ek ev g) (ek k)).map fun v => (v, h) else none) = _
  rw [K.ok, look_kv K]
  cases tlook g k <;> rfl
theorem set_ref (K : Kenc ek) {n : Nat} (e : h[n]? = some (.dct (kvD ek ev g))) (hl : g.length < 16777216) : kSet_ (.ref n) (ek k) (ev v) h = some (h.set n (.dct (kvD ek ev (tput g k v)))) := by
  unfold kSet_
  rw [isDct_ref e, if_pos rfl]
  show (match h[n]? with | some (.dct kvs) => if kOk (ek k) && decide (kvs.length < LIM) then some (h.set n (.dct (dPut kvs (ek k) (ev v)))) else none | _ => none) = _
  rw [e]
  dsimp only
  rw [K.ok, kv_len, if_pos (by simpa using hl), put_kv K]
theorem get_ref (K : Kenc ek) {n : Nat} (e : h[n]? = some (.dct (kvD ek ev g))) : mGet (.ref n) [ek k, ev v] h = some (ev ((tlook g k).getD v), h) := by
  show (asM h (.ref n)).bind _ = _
  rw [asM_ref e]
  show (if kOk (ek k) then some ((dLook (kvD ek ev g) (ek k)).getD (ev v), h) else none) = _
  rw [K.ok, look_kv K]
  cases tlook g k <;> rfl
theorem look_put (k' : α) : tlook (tput g k v) k' = if k' = k then some v else tlook g k' := by
  unfold tput
  by_cases hs : (tlook g k).isSome = true
  · rw [if_pos hs]
    unfold tlook at *
    induction g with
    | nil => cases hs
    | cons p r ih =>
      rw [List.map_cons, List.find?_cons, List.find?_cons]
      rw [List.find?_cons] at hs
      by_cases hp : p.1 = k
      · by_cases hk : k' = k
        · subst hk; simp [hp]
        · have : ¬ k = k' := fun q => hk q.symm
          simp only [hp, if_true]
          simp only [hp, decide_eq_false this, hk, if_false]
          have := List.find?_map (l := r) (f := fun p : α × β => if p.1 = k then (p.1, v) else p) (p := fun p => decide (p.1 = k'))
          rw [this, Option.map_map]
          have e : ((fun p : α × β => decide (p.1 = k')) ∘ fun p => if p.1 = k then (p.1, v) else p) = fun p => decide (p.1 = k') := by
            funext q
            simp only [Function.comp]
            split <;> rfl
          rw [e]
          cases hf : r.find? fun p => decide (p.1 = k') with
          | none => rfl
          | some q =>
            have := List.find?_some hf
            have : q.1 = k' := of_decide_eq_true this
            simp [this, hk]
      · simp only [hp, if_false, decide_eq_false hp] at hs ⊢
        by_cases hk : p.1 = k'
        · have : ¬ k' = k := fun q => hp (hk.trans q)
          simp [hk, this]
        · simp only [decide_eq_false hk]
          exact ih hs
  · rw [if_neg hs]
    have hn : tlook g k = none := by simpa using hs
    unfold tlook at *
    rw [List.find?_append]
    by_cases hk : k' = k
    · subst hk
      rw [if_pos rfl]
      have : (g.find? fun p => decide (p.1 = k')) = none := by simpa using hn
      rw [this]; simp
    · rw [if_neg hk]
      have : ([(k, v)] : List (α × β)).find? (fun p => decide (p.1 = k')) = none := by
        simp; exact fun q => hk q.symm
      rw [this]; simp
theorem keys_put (k : α) (v : β) : (tput g k v).map (·.1) = if (tlook g k).isSome then g.map (·.1) else g.map (·.1) ++ [k] := by
  unfold tput
  split
  · rw [List.map_map]
    apply List.map_congr_left
    intro p _
    simp only [Function.comp]
    split <;> rfl
  · simp
theorem look_mem {k : α} : (tlook g k).isSome = true ↔ k ∈ g.map (·.1) := by
  unfold tlook
  induction g with
  | nil => simp
  | cons p r ih =>
    rw [List.find?_cons]
    by_cases hp : p.1 = k
    · simp [hp]
    · have : ¬ k = p.1 := fun q => hp q.symm
      simp only [decide_eq_false hp, List.map_cons, List.mem_cons, this, false_or]
      exact ih
end
/-! places as keys -/
def optK : Option Int → NestedKey
  | none => .none
  | some i => .num i
def thK (x : Th) : NestedKey := .tup [optK x.l, .num x.t, .num (if x.r = true then 1 else 0)]
theorem th_key (x : Th) : D.key x.d = some (thK x) := by
  obtain ⟨l, t, r⟩ := x
  cases l <;> simp [Th.d, optD, D.key, D.keys, thK, optK]
theorem th_keys (p : List Th) : D.keys (p.map Th.d) = some (p.map thK) := by
  induction p with
  | nil => rw [List.map_nil, D.keys]; rfl
  | cons x r ih => rw [List.map_cons, D.keys, th_key, ih]; rfl
theorem pl_key (p : List Th) : D.key (plD p) = some (.tup (p.map thK)) := by
  rw [plD, D.key, th_keys]; rfl
theorem thK_inj {x y : Th} (h : thK x = thK y) : x = y := by
  obtain ⟨l, t, r⟩ := x
  obtain ⟨l', t', r'⟩ := y
  simp only [thK, NestedKey.tup.injEq, List.cons.injEq, NestedKey.num.injEq, and_true] at h
  obtain ⟨h1, h2, h3⟩ := h
  have e1 : l = l' := by
    cases l <;> cases l' <;> simp_all [optK]
  have e3 : r = r' := by cases r <;> cases r' <;> simp_all
  subst e1 h2 e3; rfl
theorem thKs_inj {p q : List Th} (h : p.map thK = q.map thK) : p = q := by
  induction p generalizing q with
  | nil => cases q with
    | nil => rfl
    | cons _ _ => cases h
  | cons x r ih => cases q with
    | nil => cases h
    | cons y t =>
      rw [List.map_cons, List.map_cons] at h
      injection h with h1 h2
      rw [thK_inj h1, ih h2]
theorem thK_depth (x : Th) : (thK x).depth ≤ 1 := by
  obtain ⟨l, t, r⟩ := x
  cases l <;> simp [thK, optK, NestedKey.depth, NestedKey.depthAll]
theorem thKs_depth (p : List Th) : NestedKey.depthAll (p.map thK) ≤ 1 := by
  induction p with
  | nil => simp [NestedKey.depthAll]
  | cons x r ih => rw [List.map_cons, NestedKey.depthAll]; have := thK_depth x; omega
theorem plKenc : Kenc plD := by
  refine ⟨fun p => ?_, fun p q => ?_⟩
  · have h := pl_key p
    unfold kOk
    show (match D.key (plD p) with | some n => decide (n.depth ≤ 8) | none => false) = true
    rw [h]
    have := thKs_depth p
    have : (NestedKey.tup (p.map thK)).depth ≤ 8 := by rw [NestedKey.depth]; omega
    exact decide_eq_true this
  · unfold keq
    rw [pl_key, pl_key]
    dsimp only
    by_cases e : p = q
    · subst e; simp
    · rw [decide_eq_false e, decide_eq_false]
      intro z
      injection z with z
      exact e (thKs_inj z)
end PyD
set_option Elab.async false
set_option linter.all false
set_option maxRecDepth 100000
set_option maxHeartbeats 4000000
/-! MirL: steps, ranges, fractions. -/
namespace PyD
open PySem (Str NestedKey PyData)
/-- the rule looks at no number of rings -/
def flatR (r : Rule) : Bool := decide (r.w = .every) || decide (r.w = .quiet)
def fold1 (r : Rule) (x : Th) : Th := ⟨x.l, if flatR r = true then 0 else x.t, x.r⟩
def foldM (r : Rule) (p : List Th) : List Th := p.map (fold1 r)
def stepM (s : Setg) (r : Rule) (p : List Th) (a : Int) : List Th × Int := (foldM r (tickM s r p a).1, (tickM s r p a).2)
theorem flat_in (w : Wd) (h : MH) : kIn_ (.str w.str) (.tup [.str "every", .str "quiet"]) h = some (.bl (decide (w = .every) || decide (w = .quiet)), h) := by
  cases w <;> rfl
theorem lc_fold {a b : Option D} {c d e : Option D} {r : Rule} {p : List Th} {h : MH} :
    lcD yes (gT [gN 3, gN 4, gN 5]) PyD.tYes e_folded_0 [a, b, some (.bl (flatR r)), c, d, e] (p.map Th.d) h = some ((foldM r p).map Th.d, h) := by
  rw [lcD_map (f := fun x => (fold1 r x).d) (σf := fun x => [a, b, some (.bl (flatR r)), some (optD x.l), some (.int x.t), some (.bl x.r)]), foldM, List.map_map]; rfl
  · intro x _; simp [Th.d]
  · intro x _
    cases hf : flatR r <;> simp [e_folded_0, Th.d, fold1, hf]
theorem folded_p (r : Rule) (p : List Th) (hp : p.length ≤ 2) (h : MH) : ePure F_folded [r.d, plD p] h = some (plD (foldM r p), h) := by
  have hc : D.cls [r.d, plD p] = true := by simp [cls_cons, cls_nil, Rule.cl, plD_cl]
  have hl : (foldM r p).length ≤ 16777216 := by rw [foldM, List.length_map]; omega
  have e : ∃ σ, k_folded [some r.d, some (plD p), none, none, none, none] [] = some (.rt (plD (foldM r p)), σ, []) := by
    have h1 := flat_in r.w []
    rw [show (decide (r.w = .every) || decide (r.w = .quiet)) = flatR r from rfl] at h1
    simp [k_folded, Rule.d0, h1, anyOf_pl, lc_fold, -List.map_map, hl, tup_pl]
  obtain ⟨σ, e⟩ := e
  exact ePure_ hc (mkP_ rfl hc e rfl (frz_pl ..))
theorem fold_len (r : Rule) (p : List Th) : (foldM r p).length = p.length := List.length_map _
theorem step_len (s : Setg) (r : Rule) (p : List Th) (a : Int) (hs : s.ok) (hp : p.length ≤ 2) : (stepM s r p a).1.length ≤ 2 := by
  rw [stepM, fold_len]; exact tick_len s r p a hs hp
theorem step_p (s : Setg) (r : Rule) (p : List Th) (a : Int) (hs : s.ok) (hr : r.ok) (hp : p.length ≤ 2) (h : MH) :
    ePure F_step [s.d, r.d, plD p, .int a] h = some (.tup [plD (stepM s r p a).1, .int (stepM s r p a).2], h) := by
  have hc : D.cls [s.d, r.d, plD p, .int a] = true := by simp [cls_cons, cls_nil, cl_int, Setg.cl, Rule.cl, plD_cl]
  have e : ∃ σ, k_step [some s.d, some r.d, some (plD p), some (.int a), none, none] [] = some (.rt (.tup [plD (stepM s r p a).1, .int (stepM s r p a).2]), σ, []) := by
    simp [k_step, tick_p s r p a hs hr hp, folded_p r _ (tick_len s r p a hs hp), stepM]
  obtain ⟨σ, e⟩ := e
  exact ePure_ hc (mkP_ rfl hc e rfl (frz_tick ..))
theorem begun_p (h : MH) : ePure F_begun [] h = some (plD [], h) := rfl
/-- answers of a range -/
def ansR (v : Int) : List Int := (List.range (v + 1).toNat).map fun (i : Nat) => (i : Int)
theorem answers_of_p (v : Int) (h0 : 0 ≤ v) (h3 : v ≤ 3) (h : MH) : ePure F_answers_of [.int v] h = some (rowD (ansR v), h) := by
  have e : rngD 0 (v + 1 - 0).toNat = (ansR v).map D.int := by
    rw [rngD, ansR, List.map_map, Int.sub_zero]
    apply List.map_congr_left
    intro i _
    simp
  have e2 : ∃ σ, k_answers_of [some (.int v)] [] = some (.rt (rowD (ansR v)), σ, []) := by
    refine ⟨[some (.int v)], ?_⟩
    show (eLstRg 0 (e2 kAdd (eVar 0) (eK (.int 1))) [some (.int v)] []).bind _ = _
    unfold eLstRg
    have e3 : e2 kAdd (eVar 0) (eK (.int 1)) [some (.int v)] [] = some (.int (v + 1), []) := rfl
    rw [e3]
    show (if (0 : Int).natAbs < 2 ^ 62 ∧ (v + 1).natAbs < 2 ^ 62 ∧ (v + 1 - 0).toNat ≤ LIM then some (D.lst (rngD 0 (v + 1 - 0).toNat), ([] : MH)) else none).bind _ = _
    rw [if_pos ⟨by decide, by omega, by show _ ≤ 16777216; omega⟩, e]; rfl
  obtain ⟨σ, e2⟩ := e2
  exact ePure_ rfl (mkP_ rfl rfl e2 rfl (by rw [rowD]; exact frz_lst (cls_map _ cl_int _)))
theorem need_range_p (v : Int) (h1 : 1 ≤ v) (h3 : v ≤ 3) (h : MH) : ePure F_need_range [.int v] h = some (.non, h) := by
  have e : ∃ σ, k_need_range [some (.int v)] [] = some (.nx, σ, []) := by
    simp [k_need_range, is_int_p, h1, h3]
  obtain ⟨σ, e⟩ := e
  exact ePure_ rfl (mkP_ rfl rfl e rfl rfl)
theorem need_rate_p (s : Setg) (r : Rule) (v : Int) (hs : s.ok) (hr : r.ok) (h1 : 1 ≤ v) (h3 : v ≤ 3) (h : MH) : ePure F_need_rate [s.d, r.d, .int v] h = some (.non, h) := by
  have hc : D.cls [s.d, r.d, .int v] = true := by simp [cls_cons, cls_nil, Setg.cl, Rule.cl, cl_int]
  have e : ∃ σ, k_need_rate [some s.d, some r.d, some (.int v)] [] = some (.nx, σ, []) := by
    simp [k_need_rate, need_both_p s r hs hr, need_range_p v h1 h3]
  obtain ⟨σ, e⟩ := e
  exact ePure_ hc (mkP_ rfl hc e rfl rfl)
theorem need_silence_p (s : Setg) (r : Rule) (v : Int) (hs : s.ok) (hr : r.ok) (h1 : 1 ≤ v) (h3 : v ≤ 3) (h : MH) : ePure F_need_silence [s.d, r.d, .int v] h = some (.non, h) := by
  have hc : D.cls [s.d, r.d, .int v] = true := by simp [cls_cons, cls_nil, Setg.cl, Rule.cl, cl_int]
  have e : ∃ σ, k_need_silence [some s.d, some r.d, some (.int v)] [] = some (.nx, σ, []) := by
    simp [k_need_silence, need_both_p s r hs hr, need_range_p v h1 h3]
  obtain ⟨σ, e⟩ := e
  exact ePure_ hc (mkP_ rfl hc e rfl rfl)
/-! fractions -/
def absI (a : Int) : Int := if a < 0 then -a else a
def gcdN (p : Int × Int) : Option (Int × Int) := if 0 < p.2 then some (p.2, p.1 % p.2) else none
theorem lowest_p (a b d : Int) (n : Nat) (hn : n < 1000000000000) (e : iter gcdN n (absI a, b) = some (d, 0)) (hd : 0 < d) (hd2 : d < 1000000) (h : MH) :
    ePure F_lowest [.int a, .int b] h = some (.tup [.int (a / d), .int (b / d)], h) := by
  have hw := while_iter (next := gcdN) (c := w_lowest_0) (b := b_lowest_1)
    (rep := fun x σ h => σ = [some (.int a), some (.int b), some (.int x.1), some (.int x.2)] ∧ h = [])
    (by
      rintro ⟨x, y⟩ σ h ⟨rfl, rfl⟩
      by_cases hy : 0 < y
      · rw [gcdN]; dsimp only; rw [if_pos hy]
        refine ⟨by simp [w_lowest_0, hy], _, _, .inl ?_, rfl, rfl⟩
        simp [b_lowest_1, hy]
      · rw [gcdN]; dsimp only; rw [if_neg hy]
        simp [w_lowest_0, hy])
    (x := (absI a, b)) ⟨rfl, rfl⟩ e hn
  obtain ⟨σ', h', e1, rfl, rfl⟩ := hw
  have hd3 : d.natAbs < 1073741824 := by omega
  have e2 : ∃ σ, k_lowest [some (.int a), some (.int b), none, none] [] = some (.rt (.tup [.int (a / d), .int (b / d)]), σ, []) := by
    simp only [absI] at e1
    simp [k_lowest, e1, hd, hd3]
  obtain ⟨σ, e2⟩ := e2
  refine ePure_ rfl (mkP_ rfl rfl e2 rfl (frz_tup ?_))
  rw [mapO, frz_int, mapO, frz_int, mapO]; rfl
end PyD
set_option Elab.async false
set_option linter.all false
set_option maxRecDepth 100000
set_option maxHeartbeats 4000000
/-! MirN: the family, what is in a list, what is sorted; rules read from notes. -/
namespace PyD
open PySem (Str NestedKey PyData)
theorem Eqt.in_ {α : Type} [DecidableEq α] {enc : α → D} {n : Nat} (e : Eqt enc n) (hn : n < 64) (h : MH) (x : α) (l : List α) : kIn_ (enc x) (.lst (l.map enc)) h = some (.bl (decide (x ∈ l)), h) := by
  show kIn (enc x) (.lst (l.map enc)) h = _
  unfold kIn
  rw [e.data]
  show ((D.datas (l.map enc)).bind _) = _
  rw [datas_map e.data]
  show (if (PySem.SeqAt.shaped (e.pd x) && PySem.SeqAt.shaped (.list (l.map e.pd))) = true then some (D.bl ((l.map e.pd).any fun z => PyData.eqv z (e.pd x)), h) else none) = _
  rw [e.sh (by omega)]
  have h2 := (Eqt.lst e).sh (by omega) l
  have h2 : PySem.SeqAt.shaped (.list (l.map e.pd)) = true := h2
  rw [h2, if_pos (by rfl), List.any_map]
  congr 3
  rw [Bool.eq_iff_iff, List.any_eq_true, decide_eq_true_eq]
  constructor
  · rintro ⟨y, hy, q⟩
    have q : PyData.eqv (e.pd y) (e.pd x) = true := q
    rw [e.eqv, decide_eq_true_eq] at q
    exact q ▸ hy
  · intro hx
    exact ⟨x, hx, by show PyData.eqv (e.pd x) (e.pd x) = true; rw [e.eqv]; simp⟩
theorem Eqt.notin_ {α : Type} [DecidableEq α] {enc : α → D} {n : Nat} (e : Eqt enc n) (hn : n < 64) (h : MH) (x : α) (l : List α) : kNotIn_ (enc x) (.lst (l.map enc)) h = some (.bl (!decide (x ∈ l)), h) := by
  have := e.in_ hn h x l
  have e1 : kIn_ (enc x) (.lst (l.map enc)) h = kIn (enc x) (.lst (l.map enc)) h := rfl
  rw [e1] at this
  show kNotIn (enc x) (.lst (l.map enc)) h = _
  unfold kIn at this
  unfold kNotIn
  rw [e.data] at this ⊢
  simp only [Option.bind_some] at this ⊢
  have asl : asL h (.lst (l.map enc)) = some (l.map enc) := rfl
  rw [asl] at this ⊢
  simp only [Option.bind_some] at this ⊢
  rw [datas_map e.data] at this ⊢
  simp only [Option.bind_some] at this ⊢
  split at this
  · rename_i hq
    rw [if_pos hq]
    simp only [Option.some.injEq, Prod.mk.injEq, D.bl.injEq, and_true] at this
    rw [this]
  · cases this
/-- the family -/
def famM : List Rule := [⟨.every, 1, 1⟩, ⟨.every, 2, 1⟩, ⟨.every, 3, 1⟩, ⟨.every, 4, 1⟩, ⟨.quiet, 1, 1⟩, ⟨.quiet, 2, 1⟩, ⟨.quiet, 3, 1⟩, ⟨.slower, 2, 1⟩, ⟨.slower, 3, 1⟩, ⟨.slower, 4, 1⟩,
  ⟨.sooner, 2, 1⟩, ⟨.sooner, 3, 1⟩, ⟨.sooner, 4, 1⟩, ⟨.times, 2, 1⟩, ⟨.times, 2, 2⟩, ⟨.times, 3, 1⟩, ⟨.times, 3, 2⟩]
structure RF where
  r : Rule
  m : r ∈ famM
  deriving DecidableEq
def RF.d (x : RF) : D := x.1.d
def famS : List RF := famM.attach.map fun x => ⟨x.1, x.2⟩
/-- .. as it is put together -/
def famU : List D := ([1, 2, 3, 4].map fun n => D.tup [.str "every", .int n]) ++ ([1, 2, 3].map fun n => D.tup [.str "quiet", .int n]) ++ ([2, 3, 4].map fun n => D.tup [.str "slower", .int n]) ++ ([2, 3, 4].map fun n => D.tup [.str "sooner", .int n]) ++
  [.tup [.str "times", .int 2, .int 1], .tup [.str "times", .int 2, .int 2], .tup [.str "times", .int 3, .int 1], .tup [.str "times", .int 3, .int 2]]
theorem famD_pair : (famM.map Rule.d).Pairwise fun a b => dLe a b = true := by decide +kernel
theorem dLe_trans (a b c : D) (h1 : dLe a b = true) (h2 : dLe b c = true) : dLe a c = true := by
  rw [← dataLe_dLe] at *
  exact (PySem.W.sortLe_total _ false _).trans a b c h1 h2
theorem dLe_total (a b : D) : (dLe a b || dLe b a) = true := by
  rw [← dataLe_dLe]
  rw [Bool.or_eq_true]
  exact (PySem.W.sortLe_total _ false _).total a b
theorem fam_sort : famU.mergeSort dLe = famM.map Rule.d := by
  refine List.Perm.eq_of_pairwise (le := fun a b => dLe a b = true) ?_ (List.pairwise_mergeSort dLe_trans dLe_total _) famD_pair ((List.mergeSort_perm _ _).trans ?_)
  · intro a b ha hb
    have ha := (List.mergeSort_perm famU dLe).mem_iff.mp ha
    have : ∀ a ∈ famU, ∀ b ∈ famM.map Rule.d, dLe a b = true → dLe b a = true → a = b := by decide +kernel
    exact this a ha b hb
  · exact List.isPerm_iff.mp (by decide +kernel)
def rulesD (l : List RF) : D := .lst (l.map RF.d)
theorem fam_ok : ∀ r ∈ famM, r.ok := by unfold Rule.ok; decide
theorem RF.ok (x : RF) : x.1.ok := fam_ok x.1 x.2
theorem mem_famS (x : RF) : x ∈ famS := List.mem_map.mpr ⟨⟨x.1, x.2⟩, List.mem_attach _ _, rfl⟩
theorem fam_a : (famU.all fun a => (D.data a).isSome && lowD (dOf a)) = true := by decide +kernel
theorem fam_b : (famU.all fun a => famU.all fun b => PySem.W.alike (dOf a) (dOf b)) = true := by decide +kernel
theorem fam_c : (famU.all fun a => tupN (dOf a)) = true := by decide +kernel
theorem sort_U (h : MH) (n : Nat) (e : h[n]? = some (.lst famU)) : kSortF [.ref n] h = some (.lst (famM.map Rule.d), h) := by
  show (asL h (.ref n)).bind _ = _
  rw [asL_lst e]
  show (if (((famU.all fun a => (D.data a).isSome && lowD (dOf a)) && (famU.all fun a => famU.all fun b => PySem.W.alike (dOf a) (dOf b)) && ((famU.all fun a => tupN (dOf a)) || famU.all fun a => intN (dOf a)) && decide (famU.length ≤ LIM)) = true)
    then some (D.lst (famU.mergeSort dLe), h) else none) = _
  rw [fam_a, fam_b, fam_c, fam_sort, if_pos (by decide)]
theorem family_ : F_family [] = some (.lst (famM.map Rule.d)) := by
  have e : ∃ σ h, k_family [none, none, none, none] [] = some (.rt (.lst (famM.map Rule.d)), σ, h) := by
    unfold k_family
    obtain ⟨σ1, e1⟩ : ∃ σ1, (sSet (gN 0) (e2 kAddT (eLcF (iAny (eN kTup (aCons (eK (.int 1)) (aCons (eK (.int 2)) (aCons (eK (.int 3)) (aCons (eK (.int 4)) aNil)))))) (gN 1) (PyD.tYes) (e_family_2) [1]) (eLcF (iAny (eN kTup (aCons (eK (.int 1)) (aCons (eK (.int 2)) (aCons (eK (.int 3)) aNil))))) (gN 1) (PyD.tYes) (e_family_3) [1]))) [none, none, none, none] [] = some (.nx, σ1, [.lst (famU.take 7)]) ∧ σ1 = [some (.ref 0), none, none, none] := ⟨_, by kernel_rfl, rfl⟩
    obtain ⟨e1, rfl⟩ := e1
    have e2 : (sExpr (eM mExtend (eVar 0) (aCons (eLc2F (iAny (eN kTup (aCons (eK (.str "slower")) (aCons (eK (.str "sooner")) aNil)))) (gN 2) (iAny (eN kTup (aCons (eK (.int 2)) (aCons (eK (.int 3)) (aCons (eK (.int 4)) aNil))))) (gN 1) (e_family_1) [2, 1] [1]) aNil))) [some (.ref 0), none, none, none] [.lst (famU.take 7)] = some (.nx, [some (.ref 0), none, none, none], [.lst (famU.take 13)]) := by kernel_rfl
    have e3 : (sExpr (eM mExtend (eVar 0) (aCons (eLc2F (iAny (eN kTup (aCons (eK (.int 2)) (aCons (eK (.int 3)) aNil)))) (gN 1) (iAny (eN kTup (aCons (eK (.int 1)) (aCons (eK (.int 2)) aNil)))) (gN 3) (e_family_0) [1, 3] [3]) aNil))) [some (.ref 0), none, none, none] [.lst (famU.take 13)] = some (.nx, [some (.ref 0), none, none, none], [.lst famU]) := by kernel_rfl
    rw [sSeq_, e1]
    dsimp only
    rw [sSeq_, e2]
    dsimp only
    rw [sSeq_, e3]
    dsimp only
    rw [sRet_, eN_, aCons_, eVar_]
    dsimp only [List.getElem?_cons_zero]
    rw [aNil_]
    dsimp only
    rw [sort_U _ 0 rfl]
    exact ⟨_, _, rfl⟩
  obtain ⟨σ, h, e⟩ := e
  exact mkP_ rfl rfl e rfl (frz_lst (cls_map _ Rule.cl _))
theorem famS_d : famS.map RF.d = famM.map Rule.d := by
  unfold famS
  rw [List.map_map, show (RF.d ∘ fun x : {r // r ∈ famM} => (⟨x.1, x.2⟩ : RF)) = Rule.d ∘ Subtype.val from rfl, ← List.map_map, List.attach_map_subtype_val]
theorem family_p (h : MH) : ePure F_family [] h = some (rulesD famS, h) := by
  rw [rulesD, famS_d]
  exact ePure_ rfl family_
def pdR (r : Rule) : PyData := (D.data r.d).getD .none
theorem data_R (r : Rule) : D.data r.d = some (pdR r) := by
  obtain ⟨w, n, m⟩ := r; cases w <;> rfl
theorem fam_eqv : ∀ r ∈ famM, ∀ r' ∈ famM, PyData.eqv (pdR r) (pdR r') = decide (r = r') := by decide +kernel
theorem fam_lay : ∀ r ∈ famM, PyData.canLay0 (pdR r) = true := by decide +kernel
theorem fam_dep : ∀ r ∈ famM, PyData.depth (pdR r) ≤ 1 := by decide +kernel
def Eqt.rf : Eqt RF.d 1 where
  pd x := pdR x.1
  data x := data_R x.1
  lay x := fam_lay x.1 x.2
  dep x := fam_dep x.1 x.2
  eqv x y := by
    rw [fam_eqv x.1 x.2 y.1 y.2]
    by_cases e : x = y
    · subst e; simp
    · rw [decide_eq_false e, decide_eq_false]
      intro q
      obtain ⟨x1, x2⟩ := x
      obtain ⟨y1, y2⟩ := y
      dsimp only at q
      subst q
      exact e rfl
  cl x := Rule.cl x.1
theorem rules_eq (h : MH) (a b : List RF) : dEq h (rulesD a) (rulesD b) = some (decide (a = b)) := Eqt.eqG (Eqt.lst Eqt.rf) (by decide) h a b
theorem rules_in (h : MH) (x : RF) (l : List RF) : kIn_ x.d (rulesD l) h = some (.bl (decide (x ∈ l)), h) := Eqt.rf.in_ (by decide) h x l
theorem rules_notin (h : MH) (x : RF) (l : List RF) : kNotIn_ x.d (rulesD l) h = some (.bl (!decide (x ∈ l)), h) := Eqt.rf.notin_ (by decide) h x l
theorem rules_cl (l : List RF) : D.cl (rulesD l) = true := by rw [rulesD, cl_lst]; exact cls_map _ (fun x => Rule.cl x.1) l
theorem rules_any (h : MH) (l : List RF) : anyOf h (rulesD l) = some (l.map RF.d, yes) := rfl
theorem frz_rule (lo n : Nat) (h : MH) (r : Rule) : frzN lo (n + 2) h r.d = some r.d := by
  obtain ⟨w, k, m⟩ := r
  cases w <;> rfl
/-- sorted(l), l some of the family in its order -/
theorem fam_pair : famM.Pairwise fun a b => dLe a.d b.d = true := List.pairwise_map.mp famD_pair
theorem fam_alike : ∀ r ∈ famM, ∀ r' ∈ famM, PySem.W.alike (pdR r) (pdR r') = true := by decide +kernel
theorem fam_tupN : ∀ r ∈ famM, tupN (pdR r) = true := by decide +kernel
theorem sorted_fam (h : MH) (l : List RF) (hl : l.Sublist famS) : kSortF [rulesD l] h = some (rulesD l, h) := by
  have hd : ∀ x : RF, dOf x.d = pdR x.1 := fun x => by
    show (D.data x.1.d).getD .none = _
    rw [data_R]; rfl
  have h17 : l.length ≤ 17 := by have := hl.length_le; exact this
  have hp : (l.map RF.d).Pairwise fun a b => dLe a b = true := by
    refine List.Pairwise.sublist (hl.map RF.d) ?_
    rw [famS_d]
    exact List.pairwise_map.mpr fam_pair
  show (if ((((l.map RF.d).all fun a => (D.data a).isSome && lowD (dOf a)) && ((l.map RF.d).all fun a => (l.map RF.d).all fun b => PySem.W.alike (dOf a) (dOf b)) && (((l.map RF.d).all fun a => tupN (dOf a)) || (l.map RF.d).all fun a => intN (dOf a)) && decide ((l.map RF.d).length ≤ LIM)) = true)
    then some (D.lst ((l.map RF.d).mergeSort dLe), h) else none) = _
  rw [if_pos, List.mergeSort_of_pairwise hp]
  · rfl
  · rw [Bool.and_eq_true, Bool.and_eq_true, Bool.and_eq_true]
    refine ⟨⟨⟨?_, ?_⟩, ?_⟩, ?_⟩
    · rw [List.all_eq_true]
      intro a ha
      obtain ⟨x, _, rfl⟩ := List.mem_map.mp ha
      have : D.data x.d = some (pdR x.1) := data_R x.1
      rw [this, hd]
      have := fam_dep x.1 x.2
      show (true && decide ((pdR x.1).depth ≤ 60)) = true
      rw [decide_eq_true (by omega)]; rfl
    · rw [List.all_eq_true]
      intro a ha
      rw [List.all_eq_true]
      intro b hb
      obtain ⟨x, _, rfl⟩ := List.mem_map.mp ha
      obtain ⟨y, _, rfl⟩ := List.mem_map.mp hb
      rw [hd, hd]
      exact fam_alike x.1 x.2 y.1 y.2
    · rw [Bool.or_eq_true]
      left
      rw [List.all_eq_true]
      intro a ha
      obtain ⟨x, _, rfl⟩ := List.mem_map.mp ha
      rw [hd]
      exact fam_tupN x.1 x.2
    · rw [List.length_map]
      exact decide_eq_true (by show l.length ≤ 16777216; omega)
/-! notes that are some; the rules that have them -/
def okNotes (ns : List Int) : Prop := ns.length ≤ 40 ∧ ∀ a ∈ ns, 0 ≤ a ∧ a ≤ 2
theorem lc_oknotes {a b : Option D} {as : List Int} (ha : ∀ a ∈ as, 0 ≤ a ∧ a ≤ 2) {h : MH} :
    lcD yes (gN 1) PyD.tYes e_need_notes_0 [a, b] (as.map D.int) h = some ((as.map fun _ => true).map D.bl, h) := by
  rw [lcD_map (f := fun x => D.bl true) (σf := fun x => [a, some (.int x)]), List.map_map]; rfl
  · intro x _; simp
  · intro x hx; simp [e_need_notes_0, is_int_p, (ha x hx).1, (ha x hx).2]
theorem need_notes_p (as : List Int) (ha : okNotes as) (h : MH) : ePure F_need_notes [rowD as] h = some (.non, h) := by
  have hc : D.cls [rowD as] = true := by simp [cls_cons, cls_nil, row_cl]
  have hi : ∀ h, kIsT "list" (rowD as) h = some (.bl true, h) := fun h => rfl
  have h1 : ¬ (40 : Int) < as.length := by have := ha.1; omega
  have h2 : as.length ≤ 16777216 := by have := ha.1; omega
  have e : ∃ σ, k_need_notes [some (rowD as), none] [] = some (.nx, σ, []) := by
    simp [k_need_notes, hi, kLen_row, h1, anyOf_row, lc_oknotes ha.2, -List.map_map, -List.map_const, h2]
  obtain ⟨σ, e⟩ := e
  exact ePure_ hc (mkP_ rfl hc e rfl rfl)
def cbM (s : Setg) (as ns : List Int) : List RF := famS.filter fun x => decide (notesM s x.1 as = ns)
theorem could_be_p (s : Setg) (as ns : List Int) (hs : s.ok) (ha : okRow as) (hn : okNotes ns) (h : MH) : ePure F_could_be [s.d, rowD as, rowD ns] h = some (rulesD (cbM s as ns), h) := by
  have hc : D.cls [s.d, rowD as, rowD ns] = true := by simp [cls_cons, cls_nil, Setg.cl, row_cl]
  have hl : ∀ {h : MH}, lcD yes (gN 3) t_could_be_0 e_could_be_1 [some s.d, some (rowD as), some (rowD ns), none] (famS.map RF.d) h = some ((cbM s as ns).map RF.d, h) := fun {h} => by
    refine lcD_filt (σf := fun x => [some s.d, some (rowD as), some (rowD ns), some x.d]) ?_ ?_ ?_
    · intro x _; simp
    · intro x _
      have := notes_of_p s x.1 as hs x.ok ha.len
      have : ∀ h, ePure F_notes_of [s.d, x.d, rowD as] h = _ := this
      simp [t_could_be_0, this, row_eq]
    · intro x _ _; simp [e_could_be_1]
  have h17 : (cbM s as ns).length ≤ 16777216 := by
    have := List.length_filter_le (fun x : RF => decide (notesM s x.1 as = ns)) famS
    have h2 : famS.length = 17 := rfl
    unfold cbM
    omega
  have e : ∃ σ, k_could_be [some s.d, some (rowD as), some (rowD ns), none] [] = some (.rt (rulesD (cbM s as ns)), σ, []) := by
    simp [k_could_be, need_setting_p s hs, need_answers_p as ha, need_notes_p ns hn, family_p, rules_any, hl, -List.map_map, h17, rulesD]
  obtain ⟨σ, e⟩ := e
  exact ePure_ hc (mkP_ rfl hc e rfl (by rw [rulesD]; exact frz_lst (cls_map _ (fun x : RF => Rule.cl x.1) _)))
theorem rings_le (p : List Th) : 0 ≤ ringsM p ∧ ringsM p ≤ p.length := rings_bd p
theorem notes_okN (s : Setg) (r : Rule) (as : List Int) (hs : s.ok) (h : as.length ≤ 40) : okNotes (notesM s r as) := by
  refine ⟨by rw [notes_len]; exact h, fun n hn => ?_⟩
  have : ∀ (as : List Int) (p : List Th), p.length ≤ 2 → ∀ n ∈ (runM s r p as).map (·.2), 0 ≤ n ∧ n ≤ 2 := by
    intro as
    induction as with
    | nil => intro p _ n hn; cases hn
    | cons a t ih =>
      intro p hp n hn
      rw [runM, List.map_cons] at hn
      have h1 := tick_len s r p a hs hp
      rcases List.mem_cons.mp hn with rfl | hn
      · have := rings_bd (tickM s r p a).1
        have e : (tickM s r p a).2 = ringsM (tickM s r p a).1 := rfl
        rw [e]; omega
      · exact ih _ h1 n hn
  exact this as [] (by simp) n hn
/-! a pick -/
theorem pick_ (ns : List Int) (xs : List D) (h : MH) (t : Nat) (hw : Tw h t) (h0 : 0 < xs.length) (h1 : xs.length < 1000) (hf : ∀ x ∈ xs, ∀ h', frzN h.length 8 h' x = some x) :
    ∃ x h', x ∈ xs ∧ Dr h t h' ∧ F_law_pick [.scr ns, .ref t, .lst xs] h = some (x, h') := by
  obtain ⟨v, h', p1, p2, d, e⟩ := draw_ ns (xs.length : Int) h t hw (by omega) (by omega)
  obtain ⟨k, rfl⟩ := Int.eq_ofNat_of_zero_le p1
  have hk : k < xs.length := by omega
  have e2 : ∃ σ, k_law_pick [some (.scr ns), some (.ref t), some (.lst xs)] h = some (.rt xs[k], σ, h') := by
    simp [k_law_pick, e, atI_nat_, hk]
  obtain ⟨σ, e2⟩ := e2
  exact ⟨xs[k], h', List.getElem_mem hk, d, Dr.mkH d hw rfl e2 rfl (hf _ (List.getElem_mem hk) _)⟩
theorem pick_fam (ns : List Int) (h : MH) (t : Nat) (hw : Tw h t) : ∃ (x : RF) (h' : MH), Dr h t h' ∧ F_law_pick [.scr ns, .ref t, rulesD famS] h = some (x.d, h') := by
  obtain ⟨x, h', m, d, e⟩ := pick_ ns (famS.map RF.d) h t hw (by decide) (by decide) (fun x hx h' => by
    obtain ⟨y, _, rfl⟩ := List.mem_map.mp hx
    exact frz_rule _ 6 _ _)
  obtain ⟨y, _, rfl⟩ := List.mem_map.mp m
  exact ⟨y, h', d, e⟩
end PyD
set_option Elab.async false
set_option linter.all false
set_option maxRecDepth 100000
set_option maxHeartbeats 4000000
/-! MirO: a search in breadth, in plain Lean: the first of the shortest rows behind which a step parts. -/
namespace PyD
/-! rows, by their lengths, then as lists -/
def lle : List Int → List Int → Bool
  | [], _ => true
  | _ :: _, [] => false
  | a :: r, b :: t => decide (a < b) || (decide (a = b) && lle r t)
theorem lle_refl : ∀ l, lle l l = true
  | [] => rfl
  | a :: r => by simp [lle, lle_refl r]
theorem lle_trans : ∀ a b c, lle a b = true → lle b c = true → lle a c = true
  | [], _, _, _, _ => rfl
  | _ :: _, [], _, h, _ => by cases h
  | _ :: _, _ :: _, [], _, h => by cases h
  | a :: r, b :: t, c :: q, h1, h2 => by
    simp only [lle, Bool.or_eq_true, Bool.and_eq_true, decide_eq_true_eq] at h1 h2 ⊢
    rcases h1 with h1 | ⟨h1, g1⟩ <;> rcases h2 with h2 | ⟨h2, g2⟩
    · left; omega
    · left; omega
    · left; omega
    · right; exact ⟨by omega, lle_trans r t q g1 g2⟩
theorem lle_anti : ∀ a b, lle a b = true → lle b a = true → a = b
  | [], [], _, _ => rfl
  | [], _ :: _, _, h => by cases h
  | _ :: _, [], h, _ => by cases h
  | a :: r, b :: t, h1, h2 => by
    simp only [lle, Bool.or_eq_true, Bool.and_eq_true, decide_eq_true_eq] at h1 h2
    rcases h1 with h1 | ⟨h1, g1⟩ <;> rcases h2 with h2 | ⟨h2, g2⟩
    · omega
    · omega
    · omega
    · rw [h1, lle_anti r t g1 g2]
theorem lle_app : ∀ (u v : List Int) (x y : List Int), u.length = v.length → lle u v = true → (u = v → lle x y = true) → lle (u ++ x) (v ++ y) = true
  | [], [], x, y, _, _, h => h rfl
  | [], _ :: _, _, _, h, _, _ => by cases h
  | _ :: _, [], _, _, h, _, _ => by cases h
  | a :: r, b :: t, x, y, hl, h, hx => by
    simp only [lle, Bool.or_eq_true, Bool.and_eq_true, decide_eq_true_eq, List.cons_append] at h ⊢
    rcases h with h | ⟨h, g⟩
    · exact .inl h
    · exact .inr ⟨h, lle_app r t x y (by simpa using hl) g fun e => hx (by rw [h, e])⟩
/-- .. shorter ones first -/
def sle (a b : List Int) : Prop := a.length < b.length ∨ (a.length = b.length ∧ lle a b = true)
theorem sle_anti {a b : List Int} (h1 : sle a b) (h2 : sle b a) : a = b := by
  rcases h1 with h1 | ⟨h1, g1⟩ <;> rcases h2 with h2 | ⟨h2, g2⟩
  · omega
  · omega
  · omega
  · exact lle_anti _ _ g1 g2

section
variable {X : Type} (out : X → Int → Bool) (suc : X → Int → X)
def sameX : X → List Int → Bool
  | _, [] => true
  | x, a :: r => !out x a && sameX (suc x a) r
def endX : X → List Int → X
  | x, [] => x
  | x, a :: r => endX (suc x a) r
/-- the notes part at the row's end, not before -/
def difX : X → List Int → Bool
  | _, [] => false
  | x, [a] => out x a
  | x, a :: b :: r => !out x a && difX (suc x a) (b :: r)
theorem same_app (x : X) (u v : List Int) : sameX out suc x (u ++ v) = (sameX out suc x u && sameX out suc (endX suc x u) v) := by
  induction u generalizing x with
  | nil => rfl
  | cons a r ih => simp only [List.cons_append, sameX, endX, ih, Bool.and_assoc]
theorem end_appX (x : X) (u v : List Int) : endX suc x (u ++ v) = endX suc (endX suc x u) v := by
  induction u generalizing x with
  | nil => rfl
  | cons a r ih => exact ih _
theorem dif_snoc (x : X) (u : List Int) (a : Int) : difX out suc x (u ++ [a]) = (sameX out suc x u && out (endX suc x u) a) := by
  induction u generalizing x with
  | nil => rfl
  | cons b r ih =>
    cases r with
    | nil => simp [difX, sameX, endX]
    | cons c t =>
      have := ih (suc x b)
      simp only [List.cons_append] at this
      simp only [List.cons_append, difX, this]
      simp only [sameX, endX, Bool.and_assoc]
theorem dif_split {x : X} {w : List Int} (h : difX out suc x w = true) : ∃ u a, w = u ++ [a] ∧ sameX out suc x u = true ∧ out (endX suc x u) a = true := by
  rcases List.eq_nil_or_concat w with rfl | ⟨u, a, rfl⟩
  · cases h
  · rw [List.concat_eq_append, dif_snoc, Bool.and_eq_true] at h
    exact ⟨u, a, by simp, h.1, h.2⟩
/-- what is asked of the search's answer -/
def PartSpec (As : List Int) (x : X) (res : Option (List Int)) : Prop := match res with
  | some w => (∀ a ∈ w, a ∈ As) ∧ difX out suc x w = true ∧ ∀ w', (∀ a ∈ w', a ∈ As) → difX out suc x w' = true → sle w w'
  | none => ∀ w', (∀ a ∈ w', a ∈ As) → difX out suc x w' = false
variable {out suc}
theorem PartSpec.uniq {As : List Int} {x : X} {r r' : Option (List Int)} (h : PartSpec out suc As x r) (h' : PartSpec out suc As x r') : r = r' := by
  cases r with
  | none => cases r' with
    | none => rfl
    | some w => have := h w h'.1; rw [h'.2.1] at this; cases this
  | some w => cases r' with
    | none => have := h' w h.1; rw [h.2.1] at this; cases this
    | some w' => rw [sle_anti (h.2.2 w' h'.1 h'.2.1) (h'.2.2 w h.1 h.2.1)]
end
/-- two machines with the same notes -/
theorem PartSpec.sim {X Y : Type} {out : X → Int → Bool} {suc : X → Int → X} {out' : Y → Int → Bool} {suc' : Y → Int → Y} (rel : X → Y → Prop) {As : List Int}
    (h : ∀ x y, rel x y → ∀ a ∈ As, out x a = out' y a ∧ rel (suc x a) (suc' y a)) {x : X} {y : Y} (r : rel x y) {res : Option (List Int)} (p : PartSpec out suc As x res) : PartSpec out' suc' As y res := by
  have key : ∀ (w : List Int) (x : X) (y : Y), rel x y → (∀ a ∈ w, a ∈ As) → difX out suc x w = difX out' suc' y w := by
    intro w
    induction w with
    | nil => intro x y _ _; rfl
    | cons a t ih =>
      intro x y r hw
      obtain ⟨h1, h2⟩ := h x y r a (hw a (.head _))
      cases t with
      | nil => exact h1
      | cons b q =>
        have := ih (suc x a) (suc' y a) h2 fun c hc => hw c (.tail _ hc)
        simp only [difX, h1, this]
  cases res with
  | none => exact fun w hw => by rw [← key w x y r hw]; exact p w hw
  | some w => exact ⟨p.1, by rw [← key w x y r p.1]; exact p.2.1, fun w' hw' hd => p.2.2 w' hw' (by rw [key w' x y r hw']; exact hd)⟩

/-! the search that marks what it finds -/
section
variable {X : Type} [DecidableEq X] (out : X → Int → Bool) (suc : X → Int → X)
abbrev Lev (X : Type) := List (List Int × X)
def bfA (u : List Int) (x : X) (st : Lev X × List X) (a : Int) : (Lev X × List X) ⊕ List Int :=
  if out x a = true then .inr (u ++ [a]) else if suc x a ∈ st.2 then .inl st else .inl (st.1 ++ [(u ++ [a], suc x a)], st.2 ++ [suc x a])
def bfL (As : List Int) (st : Lev X × List X) (p : List Int × X) : (Lev X × List X) ⊕ List Int := foldE (bfA out suc p.1 p.2) As st
def bfN (As : List Int) (st : Lev X × List X) : Option ((Lev X × List X) ⊕ List Int) := if st.1 = [] then none else some (foldE (bfL out suc As) st.1 ([], st.2))
/-! .. as one loop -/
def fl (As : List Int) (L : Lev X) : List (List Int × X × Int) := L.flatMap fun p => As.map fun a => (p.1, p.2, a)
def bfF (st : Lev X × List X) (e : List Int × X × Int) : (Lev X × List X) ⊕ List Int := bfA out suc e.1 e.2.1 st e.2.2
theorem foldE_app {α St R : Type} (f : St → α → St ⊕ R) (a b : List α) (st : St) : foldE f (a ++ b) st = match foldE f a st with
    | .inl st' => foldE f b st'
    | .inr r => .inr r := by
  induction a generalizing st with
  | nil => rfl
  | cons x q ih =>
    rw [List.cons_append, foldE, foldE]
    cases f st x with
    | inl s' => exact ih s'
    | inr r => rfl
theorem foldE_map {α β St R : Type} (f : St → β → St ⊕ R) (g : α → β) (a : List α) (st : St) : foldE f (a.map g) st = foldE (fun s x => f s (g x)) a st := by
  induction a generalizing st with
  | nil => rfl
  | cons x q ih =>
    rw [List.map_cons, foldE, foldE]
    cases f st (g x) with
    | inl s' => exact ih s'
    | inr r => rfl
theorem bf_flat (As : List Int) (L : Lev X) (st : Lev X × List X) : foldE (bfL out suc As) L st = foldE (bfF out suc) (fl As L) st := by
  induction L generalizing st with
  | nil => rfl
  | cons p r ih =>
    rw [foldE, fl, List.flatMap_cons, foldE_app, foldE_map]
    have h1 : bfL out suc As st p = foldE (bfA out suc p.1 p.2) As st := rfl
    have h2 : foldE (fun s a => bfF out suc s (p.1, p.2, a)) As st = foldE (bfA out suc p.1 p.2) As st := rfl
    rw [h1, h2]
    cases foldE (bfA out suc p.1 p.2) As st with
    | inl s' => exact ih s'
    | inr w => rfl
end

section
variable {X : Type} [DecidableEq X] {out : X → Int → Bool} {suc : X → Int → X} {As : List Int} {x0 : X}
/-- as it stands behind some levels -/
structure BInv (out : X → Int → Bool) (suc : X → Int → X) (As : List Int) (x0 : X) (k : Nat) (L : Lev X) (S : List X) : Prop where
  rows : ∀ p ∈ L, p.1.length = k ∧ (∀ a ∈ p.1, a ∈ As) ∧ sameX out suc x0 p.1 = true ∧ p.2 = endX suc x0 p.1
  sort : L.Pairwise fun p q => lle p.1 q.1 = true ∧ p.1 ≠ q.1
  none_ : ∀ w, (∀ a ∈ w, a ∈ As) → w.length ≤ k → difX out suc x0 w = false
  found : ∀ u, (∀ a ∈ u, a ∈ As) → u.length = k → sameX out suc x0 u = true → (∃ p ∈ L, p.2 = endX suc x0 u ∧ lle p.1 u = true) ∨ ∃ u', (∀ a ∈ u', a ∈ As) ∧ u'.length < k ∧ sameX out suc x0 u' = true ∧ endX suc x0 u' = endX suc x0 u
  seen : ∀ x ∈ S, ∃ u, (∀ a ∈ u, a ∈ As) ∧ u.length ≤ k ∧ sameX out suc x0 u = true ∧ endX suc x0 u = x
  inS : ∀ p ∈ L, p.2 ∈ S
  nd : S.Nodup
theorem BInv.start : BInv out suc As x0 0 [([], x0)] [x0] where
  rows p hp := by
    rw [List.mem_singleton] at hp; subst hp
    exact ⟨rfl, by simp, rfl, rfl⟩
  sort := List.pairwise_singleton _ _
  none_ w _ hl := by
    have : w = [] := List.length_eq_zero_iff.mp (by omega)
    subst this; rfl
  found u _ hl hs := by
    have : u = [] := List.length_eq_zero_iff.mp hl
    subst this
    exact .inl ⟨_, .head _, rfl, rfl⟩
  seen x hx := by
    rw [List.mem_singleton] at hx; subst hx
    exact ⟨[], by simp, Nat.le_refl _, rfl, rfl⟩
  inS p hp := by
    rw [List.mem_singleton] at hp; subst hp
    exact .head _
  nd := by simp
theorem fl_mem {L : Lev X} {e : List Int × X × Int} : e ∈ fl As L ↔ (e.1, e.2.1) ∈ L ∧ e.2.2 ∈ As := by
  unfold fl
  rw [List.mem_flatMap]
  constructor
  · rintro ⟨p, hp, h⟩
    obtain ⟨a, ha, rfl⟩ := List.mem_map.mp h
    exact ⟨hp, ha⟩
  · rintro ⟨h1, h2⟩
    exact ⟨_, h1, List.mem_map.mpr ⟨_, h2, rfl⟩⟩
theorem fl_sort {k : Nat} {L : Lev X} {S : List X} (I : BInv out suc As x0 k L S) (hA : As.Pairwise (· < ·)) : (fl As L).Pairwise fun e f => lle (e.1 ++ [e.2.2]) (f.1 ++ [f.2.2]) = true ∧ e.1 ++ [e.2.2] ≠ f.1 ++ [f.2.2] := by
  have hr := I.rows
  have hs := I.sort
  clear I
  unfold fl
  rw [List.pairwise_flatMap]
  refine ⟨fun p hp => ?_, ?_⟩
  · rw [List.pairwise_map]
    refine hA.imp fun {a b} hab => ⟨lle_app _ _ _ _ rfl (lle_refl _) fun _ => by simp [lle, hab], fun q => ?_⟩
    have := (List.append_inj q rfl).2
    simp at this; omega
  · refine hs.imp_of_mem ?_
    intro p q hp hq hpq e he f hf
    obtain ⟨a, _, rfl⟩ := List.mem_map.mp he
    obtain ⟨b, _, rfl⟩ := List.mem_map.mp hf
    have hl : p.1.length = q.1.length := (hr p hp).1.trans (hr q hq).1.symm
    exact ⟨lle_app _ _ _ _ hl hpq.1 fun z => absurd z hpq.2, fun z => hpq.2 (List.append_inj z hl).1⟩
/-- behind some of the steps of a level -/
structure Mid (out : X → Int → Bool) (suc : X → Int → X) (S : List X) (P : List (List Int × X × Int)) (st : Lev X × List X) : Prop where
  no : ∀ e ∈ P, out e.2.1 e.2.2 = false
  of : ∀ p ∈ st.1, ∃ e ∈ P, p.1 = e.1 ++ [e.2.2] ∧ p.2 = suc e.2.1 e.2.2
  sn : st.2 = S ++ st.1.map (·.2)
  all : ∀ e ∈ P, suc e.2.1 e.2.2 ∈ S ∨ ∃ p ∈ st.1, p.2 = suc e.2.1 e.2.2 ∧ lle p.1 (e.1 ++ [e.2.2]) = true
  sort : st.1.Pairwise fun p q => lle p.1 q.1 = true ∧ p.1 ≠ q.1
  nd : st.2.Nodup
theorem mid_run {S : List X} {F : List (List Int × X × Int)} (hF : F.Pairwise fun e f => lle (e.1 ++ [e.2.2]) (f.1 ++ [f.2.2]) = true ∧ e.1 ++ [e.2.2] ≠ f.1 ++ [f.2.2]) :
    ∀ (Q P : List (List Int × X × Int)) (st : Lev X × List X), F = P ++ Q → Mid out suc S P st → match foldE (bfF out suc) Q st with
      | .inl st' => Mid out suc S F st'
      | .inr w => ∃ P' e Q', F = P' ++ e :: Q' ∧ (∀ f ∈ P', out f.2.1 f.2.2 = false) ∧ out e.2.1 e.2.2 = true ∧ w = e.1 ++ [e.2.2] := by
  intro Q
  induction Q with
  | nil => intro P st e M; rw [e, List.append_nil]; exact M
  | cons e Q ih =>
    intro P st hPQ M
    rw [foldE]
    unfold bfF bfA
    by_cases ho : out e.2.1 e.2.2 = true
    · rw [if_pos ho]
      exact ⟨P, e, Q, hPQ, M.no, ho, rfl⟩
    · rw [if_neg ho]
      have ho' : out e.2.1 e.2.2 = false := by simpa using ho
      have hP2 : F = (P ++ [e]) ++ Q := by rw [hPQ]; simp
      have ord : ∀ f ∈ P, lle (f.1 ++ [f.2.2]) (e.1 ++ [e.2.2]) = true ∧ f.1 ++ [f.2.2] ≠ e.1 ++ [e.2.2] := fun f hf => by
        rw [hPQ, List.pairwise_append] at hF
        exact hF.2.2 f hf e (.head _)
      by_cases hm : suc e.2.1 e.2.2 ∈ st.2
      · rw [if_pos hm]
        refine ih (P ++ [e]) st hP2 ⟨fun f hf => ?_, fun p hp => ?_, M.sn, fun f hf => ?_, M.sort, M.nd⟩
        · rcases List.mem_append.mp hf with hf | hf
          · exact M.no f hf
          · rw [List.mem_singleton] at hf; subst hf; exact ho'
        · obtain ⟨f, hf, h⟩ := M.of p hp
          exact ⟨f, List.mem_append_left _ hf, h⟩
        · rcases List.mem_append.mp hf with hf | hf
          · exact M.all f hf
          · rw [List.mem_singleton] at hf; subst hf
            rw [M.sn] at hm
            rcases List.mem_append.mp hm with hm | hm
            · exact .inl hm
            · obtain ⟨p, hp, hp2⟩ := List.mem_map.mp hm
              obtain ⟨g, hg, hg1, hg2⟩ := M.of p hp
              exact .inr ⟨p, hp, hp2, by rw [hg1]; exact (ord g hg).1⟩
      · rw [if_neg hm]
        refine ih (P ++ [e]) _ hP2 ⟨fun f hf => ?_, fun p hp => ?_, ?_, fun f hf => ?_, ?_, ?_⟩
        · rcases List.mem_append.mp hf with hf | hf
          · exact M.no f hf
          · rw [List.mem_singleton] at hf; subst hf; exact ho'
        · rcases List.mem_append.mp hp with hp | hp
          · obtain ⟨f, hf, h⟩ := M.of p hp
            exact ⟨f, List.mem_append_left _ hf, h⟩
          · rw [List.mem_singleton] at hp; subst hp
            exact ⟨e, List.mem_append_right _ (.head _), rfl, rfl⟩
        · dsimp only
          rw [M.sn, List.map_append, List.append_assoc]; rfl
        · rcases List.mem_append.mp hf with hf | hf
          · rcases M.all f hf with h | ⟨p, hp, h⟩
            · exact .inl h
            · exact .inr ⟨p, List.mem_append_left _ hp, h⟩
          · rw [List.mem_singleton] at hf; subst hf
            exact .inr ⟨_, List.mem_append_right _ (.head _), rfl, lle_refl _⟩
        · dsimp only
          rw [List.pairwise_append]
          refine ⟨M.sort, List.pairwise_singleton _ _, fun p hp q hq => ?_⟩
          rw [List.mem_singleton] at hq; subst hq
          obtain ⟨f, hf, h1, h2⟩ := M.of p hp
          rw [h1]
          exact ord f hf
        · dsimp only
          rw [List.nodup_append]
          exact ⟨M.nd, by simp, fun a ha b hb => by rw [List.mem_singleton] at hb; subst hb; exact fun z => hm (z ▸ ha)⟩
theorem BInv.step {k : Nat} {L : Lev X} {S : List X} (I : BInv out suc As x0 k L S) (hA : As.Pairwise (· < ·)) : match foldE (bfL out suc As) L ([], S) with
    | .inl st => BInv out suc As x0 (k + 1) st.1 st.2 ∧ st.2 = S ++ st.1.map (·.2)
    | .inr w => PartSpec out suc As x0 (some w) := by
  rw [bf_flat]
  have hs := fl_sort I hA
  have := mid_run (out := out) (suc := suc) (S := S) hs (fl As L) [] ([], S) rfl ⟨by simp, by simp, by simp, by simp, .nil, I.nd⟩
  cases hf : foldE (bfF out suc) (fl As L) ([], S) with
  | inl st =>
    rw [hf] at this
    have M : Mid out suc S (fl As L) st := this
    refine ⟨⟨?_, M.sort, ?_, ?_, ?_, ?_, M.nd⟩, M.sn⟩
    · intro p hp
      obtain ⟨e, he, h1, h2⟩ := M.of p hp
      obtain ⟨m1, m2⟩ := fl_mem.mp he
      obtain ⟨r1, r2, r3, r4⟩ := I.rows _ m1
      have r4 : e.2.1 = endX suc x0 e.1 := r4
      refine ⟨by rw [h1, List.length_append]; show e.1.length + 1 = _; have : e.1.length = k := r1; omega, fun a ha => ?_, ?_, ?_⟩
      · rw [h1] at ha
        rcases List.mem_append.mp ha with ha | ha
        · exact r2 a ha
        · rw [List.mem_singleton] at ha; subst ha; exact m2
      · rw [h1, same_app, r3, ← r4]
        simp [sameX, M.no e he]
      · rw [h1, h2, end_appX, ← r4]; rfl
    · intro w hw hl
      by_cases hk : w.length ≤ k
      · exact I.none_ w hw hk
      · cases hd : difX out suc x0 w with
        | false => rfl
        | true =>
          obtain ⟨u, a, rfl, h1, h2⟩ := dif_split out suc hd
          rw [List.length_append] at hl hk
          have hk : ¬ u.length + 1 ≤ k := hk
          have hl : u.length + 1 ≤ k + 1 := hl
          have hu : ∀ a ∈ u, a ∈ As := fun b hb => hw b (List.mem_append_left _ hb)
          have ha : a ∈ As := hw a (List.mem_append_right _ (.head _))
          rcases I.found u hu (by omega) h1 with ⟨p, hp, g1, g2⟩ | ⟨u', v1, v2, v3, v4⟩
          · have := M.no (p.1, p.2, a) (fl_mem.mpr ⟨hp, ha⟩)
            dsimp only at this
            rw [g1, h2] at this; cases this
          · have := I.none_ (u' ++ [a]) (fun b hb => by
              rcases List.mem_append.mp hb with hb | hb
              · exact v1 b hb
              · rw [List.mem_singleton] at hb; subst hb; exact ha) (by rw [List.length_append]; show u'.length + 1 ≤ k; omega)
            rw [dif_snoc, v3, v4, h2] at this; cases this
    · intro w hw hl hsm
      rcases List.eq_nil_or_concat w with rfl | ⟨u, a, rfl⟩
      · cases hl
      rw [List.concat_eq_append] at *
      rw [List.length_append] at hl
      have hl : u.length + 1 = k + 1 := hl
      rw [same_app, Bool.and_eq_true] at hsm
      have hu : ∀ a ∈ u, a ∈ As := fun b hb => hw b (List.mem_append_left _ hb)
      have ha : a ∈ As := hw a (List.mem_append_right _ (.head _))
      rcases I.found u hu (by omega) hsm.1 with ⟨p, hp, g1, g2⟩ | ⟨u', v1, v2, v3, v4⟩
      · have hpl := (I.rows p hp).1
        have mem : (p.1, p.2, a) ∈ fl As L := fl_mem.mpr ⟨hp, ha⟩
        have ee : endX suc x0 (u ++ [a]) = suc p.2 a := by rw [end_appX, ← g1]; rfl
        rcases M.all _ mem with h | ⟨q, hq, h1, h2⟩
        · obtain ⟨u', v1, v2, v3, v4⟩ := I.seen _ h
          exact .inr ⟨u', v1, by omega, v3, by rw [v4, ee]⟩
        · exact .inl ⟨q, hq, by rw [h1, ee], lle_trans _ _ _ h2 (lle_app _ _ _ _ (by show p.1.length = u.length; omega) g2 fun _ => lle_refl _)⟩
      · right
        refine ⟨u' ++ [a], fun b hb => ?_, by rw [List.length_append]; show u'.length + 1 < k + 1; omega, ?_, ?_⟩
        · rcases List.mem_append.mp hb with hb | hb
          · exact v1 b hb
          · rw [List.mem_singleton] at hb; subst hb; exact ha
        · rw [same_app, v3, v4, hsm.2]; rfl
        · rw [end_appX, end_appX, v4]
    · intro x hx
      rw [M.sn] at hx
      rcases List.mem_append.mp hx with hx | hx
      · obtain ⟨u, v1, v2, v3, v4⟩ := I.seen x hx
        exact ⟨u, v1, by omega, v3, v4⟩
      · obtain ⟨p, hp, rfl⟩ := List.mem_map.mp hx
        obtain ⟨e, he, h1, h2⟩ := M.of p hp
        obtain ⟨m1, m2⟩ := fl_mem.mp he
        obtain ⟨r1, r2, r3, r4⟩ := I.rows _ m1
        have r4 : e.2.1 = endX suc x0 e.1 := r4
        refine ⟨p.1, fun a ha => ?_, ?_, ?_, ?_⟩
        · rw [h1] at ha
          rcases List.mem_append.mp ha with ha | ha
          · exact r2 a ha
          · rw [List.mem_singleton] at ha; subst ha; exact m2
        · rw [h1, List.length_append]; show e.1.length + 1 ≤ _; have : e.1.length = k := r1; omega
        · rw [h1, same_app, r3, ← r4]
          simp [sameX, M.no e he]
        · rw [h1, h2, end_appX, ← r4]; rfl
    · intro p hp
      rw [M.sn]
      exact List.mem_append_right _ (List.mem_map.mpr ⟨p, hp, rfl⟩)
  | inr w =>
    rw [hf] at this
    obtain ⟨P, e, Q, hF, hno, ho, rfl⟩ := this
    have he : e ∈ fl As L := by rw [hF]; exact List.mem_append_right _ (.head _)
    obtain ⟨m1, m2⟩ := fl_mem.mp he
    obtain ⟨r1, r2, r3, r4⟩ := I.rows _ m1
    have r4 : e.2.1 = endX suc x0 e.1 := r4
    have r1 : e.1.length = k := r1
    refine ⟨fun a ha => ?_, ?_, fun w' hw' hd => ?_⟩
    · rcases List.mem_append.mp ha with ha | ha
      · exact r2 a ha
      · rw [List.mem_singleton] at ha; subst ha; exact m2
    · rw [dif_snoc, r3, ← r4, ho]; rfl
    · obtain ⟨u, a, rfl, h1, h2⟩ := dif_split out suc hd
      have hu : ∀ a ∈ u, a ∈ As := fun b hb => hw' b (List.mem_append_left _ hb)
      have ha : a ∈ As := hw' a (List.mem_append_right _ (.head _))
      have hk : ¬ u.length < k := fun z => by
        have := I.none_ (u ++ [a]) hw' (by rw [List.length_append]; show u.length + 1 ≤ k; omega)
        rw [hd] at this; cases this
      unfold sle
      rw [List.length_append, List.length_append]
      show e.1.length + 1 < u.length + 1 ∨ (e.1.length + 1 = u.length + 1 ∧ _)
      by_cases hl : u.length = k
      · right
        refine ⟨by omega, ?_⟩
        rcases I.found u hu hl h1 with ⟨p, hp, g1, g2⟩ | ⟨u', v1, v2, v3, v4⟩
        · have hpl := (I.rows p hp).1
          have mem : (p.1, p.2, a) ∈ fl As L := fl_mem.mpr ⟨hp, ha⟩
          have g3 : lle (p.1 ++ [a]) (u ++ [a]) = true := lle_app _ _ _ _ (by omega) g2 fun _ => lle_refl _
          refine lle_trans _ _ _ ?_ g3
          rw [hF] at mem hs
          rcases List.mem_append.mp mem with mem | mem
          · have := hno _ mem
            dsimp only at this
            rw [g1, h2] at this; cases this
          · rcases List.mem_cons.mp mem with z | mem
            · rw [← z]; exact lle_refl _
            · rw [List.pairwise_append, List.pairwise_cons] at hs
              exact (hs.2.1.1 _ mem).1
        · have := I.none_ (u' ++ [a]) (fun b hb => by
            rcases List.mem_append.mp hb with hb | hb
            · exact v1 b hb
            · rw [List.mem_singleton] at hb; subst hb; exact ha) (by rw [List.length_append]; show u'.length + 1 ≤ k; omega)
          rw [dif_snoc, v3, v4, h2] at this; cases this
      · left; omega
theorem BInv.nil {k : Nat} {S : List X} (I : BInv out suc As x0 k [] S) : PartSpec out suc As x0 none := by
  have short : ∀ n u, u.length ≤ n → (∀ a ∈ u, a ∈ As) → sameX out suc x0 u = true → ∃ u', (∀ a ∈ u', a ∈ As) ∧ u'.length < k ∧ sameX out suc x0 u' = true ∧ endX suc x0 u' = endX suc x0 u := by
    intro n
    induction n with
    | zero =>
      intro u hl hu hs
      have : u = [] := List.length_eq_zero_iff.mp (by omega)
      subst this
      by_cases hk : k = 0
      · subst hk
        rcases I.found [] (by simp) rfl rfl with ⟨p, hp, _⟩ | ⟨u', _, h, _⟩
        · cases hp
        · omega
      · exact ⟨[], by simp, by show 0 < k; omega, rfl, rfl⟩
    | succ n ih =>
      intro u hl hu hs
      by_cases hk : u.length < k
      · exact ⟨u, hu, hk, hs, rfl⟩
      · have e := (List.take_append_drop k u).symm
        rw [e, same_app, Bool.and_eq_true] at hs
        have h1 : ∀ a ∈ u.take k, a ∈ As := fun a ha => hu a (List.mem_of_mem_take ha)
        rcases I.found (u.take k) h1 (by rw [List.length_take]; omega) hs.1 with ⟨p, hp, _⟩ | ⟨u', v1, v2, v3, v4⟩
        · cases hp
        · obtain ⟨u'', w1, w2, w3, w4⟩ := ih (u' ++ u.drop k) (by rw [List.length_append, List.length_drop]; omega) (fun a ha => by
            rcases List.mem_append.mp ha with ha | ha
            · exact v1 a ha
            · exact hu a (List.mem_of_mem_drop ha)) (by rw [same_app, v3, v4, hs.2]; rfl)
          refine ⟨u'', w1, w2, w3, ?_⟩
          rw [w4, end_appX, v4, ← end_appX, List.take_append_drop]
  intro w hw
  cases hd : difX out suc x0 w with
  | false => rfl
  | true =>
    obtain ⟨u, a, rfl, h1, h2⟩ := dif_split out suc hd
    have hu : ∀ a ∈ u, a ∈ As := fun b hb => hw b (List.mem_append_left _ hb)
    have ha : a ∈ As := hw a (List.mem_append_right _ (.head _))
    obtain ⟨u', v1, v2, v3, v4⟩ := short _ u (Nat.le_refl _) hu h1
    have := I.none_ (u' ++ [a]) (fun b hb => by
      rcases List.mem_append.mp hb with hb | hb
      · exact v1 b hb
      · rw [List.mem_singleton] at hb; subst hb; exact ha) (by rw [List.length_append]; show u'.length + 1 ≤ k; omega)
    rw [dif_snoc, v3, v4, h2] at this; cases this
end
end PyD
set_option Elab.async false
set_option linter.all false
set_option maxRecDepth 100000
set_option maxHeartbeats 4000000
/-! MirP: the program's search for what parts two rules. -/
namespace PyD
open PySem (Str NestedKey PyData)
/-! how many places -/
theorem nodup_bound : ∀ (N : Nat) (l : List Nat), l.Nodup → (∀ x ∈ l, x < N) → l.length ≤ N := by
  intro N
  induction N with
  | zero =>
    intro l _ h
    cases l with
    | nil => exact Nat.le_refl _
    | cons x r => exact absurd (h x (.head _)) (Nat.not_lt_zero _)
  | succ N ih =>
    intro l nd h
    have := ih (l.erase N) (nd.erase N) fun x hx => by
      have h1 := (nd.mem_erase_iff).mp hx
      have := h x h1.2
      omega
    rw [List.length_erase] at this
    split at this <;> omega
def WTh (r : Rule) (x : Th) : Prop := 0 ≤ x.t ∧ x.t ≤ 4 ∧ (∀ l, x.l = some l → 1 ≤ l ∧ l ≤ 4) ∧ (x.r = true → x.l = gapM r x.t)
def WPl (r : Rule) (p : List Th) : Prop := p.length ≤ 2 ∧ ∀ x ∈ p, WTh r x
theorem WPl.nil (r : Rule) : WPl r [] := ⟨by decide, by simp⟩
def cdT (x : Th) : Nat := if x.r = true then 25 + x.t.toNat else (match x.l with | none => 0 | some i => i.toNat) * 5 + x.t.toNat
theorem cdT_lt {r : Rule} {x : Th} (h : WTh r x) : cdT x < 30 := by
  obtain ⟨l, t, b⟩ := x
  obtain ⟨h1, h2, h3, _⟩ := h
  dsimp only at h1 h2 h3
  unfold cdT
  dsimp only
  split
  · omega
  · cases l with
    | none => dsimp only; omega
    | some i => have := h3 i rfl; dsimp only; omega
theorem cdT_inj {r : Rule} {x y : Th} (h : WTh r x) (h' : WTh r y) (e : cdT x = cdT y) : x = y := by
  obtain ⟨l, t, b⟩ := x
  obtain ⟨l', t', b'⟩ := y
  obtain ⟨h1, h2, h3, h4⟩ := h
  obtain ⟨g1, g2, g3, g4⟩ := h'
  dsimp only at h1 h2 h3 h4 g1 g2 g3 g4
  unfold cdT at e
  dsimp only at e
  have lt25 : ∀ (l : Option Int) (t : Int), 0 ≤ t → t ≤ 4 → (∀ i, l = some i → 1 ≤ i ∧ i ≤ 4) → (match l with | none => 0 | some i => i.toNat) * 5 + t.toNat < 25 := by
    intro l t h1 h2 h3
    cases l with
    | none => dsimp only; omega
    | some i => have := h3 i rfl; dsimp only; omega
  have a1 := lt25 l t h1 h2 h3
  have a2 := lt25 l' t' g1 g2 g3
  cases b with
  | true =>
    cases b' with
    | true =>
      rw [if_pos rfl, if_pos rfl] at e
      have : t = t' := by omega
      subst this
      rw [h4 rfl, g4 rfl]
    | false => rw [if_pos rfl, if_neg (by decide)] at e; omega
  | false =>
    cases b' with
    | true => rw [if_neg (by decide), if_pos rfl] at e; omega
    | false =>
      rw [if_neg (by decide), if_neg (by decide)] at e
      have et : t = t' := by
        cases l with
        | none => cases l' with
          | none => dsimp only at e; omega
          | some j => have := g3 j rfl; dsimp only at e; omega
        | some i => have := h3 i rfl; cases l' with
          | none => dsimp only at e; omega
          | some j => have := g3 j rfl; dsimp only at e; omega
      subst et
      have el : l = l' := by
        cases l with
        | none => cases l' with
          | none => rfl
          | some j => have := g3 j rfl; dsimp only at e; omega
        | some i => have := h3 i rfl; cases l' with
          | none => dsimp only at e; omega
          | some j => have := g3 j rfl; dsimp only at e; rw [show i = j by omega]
      subst el
      rfl
def cdP : List Th → Nat
  | [] => 0
  | [x] => 1 + cdT x
  | x :: y :: _ => 31 + cdT x * 30 + cdT y
theorem cdP_lt {r : Rule} {p : List Th} (h : WPl r p) : cdP p < 931 := by
  match p, h with
  | [], _ => decide
  | [x], h => have := cdT_lt (h.2 x (.head _)); show 1 + cdT x < _; omega
  | x :: y :: _, h => have := cdT_lt (h.2 x (.head _)); have := cdT_lt (h.2 y (.tail _ (.head _))); show 31 + cdT x * 30 + cdT y < _; omega
theorem cdP_inj {r : Rule} {p q : List Th} (h : WPl r p) (h' : WPl r q) (e : cdP p = cdP q) : p = q := by
  match p, q, h, h', e with
  | [], [], _, _, _ => rfl
  | [], [x], _, _, e => exact absurd e (by show ¬ 0 = 1 + cdT x; omega)
  | [], x :: y :: _, _, _, e => exact absurd e (by show ¬ 0 = 31 + cdT x * 30 + cdT y; omega)
  | [x], [], _, _, e => exact absurd e (by show ¬ 1 + cdT x = 0; omega)
  | [x], [y], h, h', e => rw [cdT_inj (h.2 x (.head _)) (h'.2 y (.head _)) (by have e : 1 + cdT x = 1 + cdT y := e; omega)]
  | [x], y :: z :: _, h, h', e => exact absurd e (by have := cdT_lt (h.2 x (.head _)); show ¬ 1 + cdT x = 31 + cdT y * 30 + cdT z; omega)
  | x :: y :: _, [], _, _, e => exact absurd e (by show ¬ 31 + cdT x * 30 + cdT y = 0; omega)
  | y :: z :: _, [x], h, h', e => exact absurd e (by have := cdT_lt (h'.2 x (.head _)); show ¬ 31 + cdT y * 30 + cdT z = 1 + cdT x; omega)
  | [x, y], [x', y'], h, h', e =>
    have e : 31 + cdT x * 30 + cdT y = 31 + cdT x' * 30 + cdT y' := e
    have := cdT_lt (h.2 y (.tail _ (.head _)))
    have := cdT_lt (h'.2 y' (.tail _ (.head _)))
    rw [cdT_inj (h.2 x (.head _)) (h'.2 x' (.head _)) (by omega), cdT_inj (h.2 y (.tail _ (.head _))) (h'.2 y' (.tail _ (.head _))) (by omega)]
  | _ :: _ :: _ :: _, _, h, _, _ => exact absurd h.1 (by simp)
  | _, _ :: _ :: _ :: _, _, h', _ => exact absurd h'.1 (by simp)
abbrev PX := List Th × List Th
def WPx (r1 r2 : Rule) (x : PX) : Prop := WPl r1 x.1 ∧ WPl r2 x.2
def cdX (x : PX) : Nat := cdP x.1 * 931 + cdP x.2
theorem nodup_map_on {α β : Type} {f : α → β} {l : List α} (h : ∀ x ∈ l, ∀ y ∈ l, f x = f y → x = y) (nd : l.Nodup) : (l.map f).Nodup := by
  unfold List.Nodup at *
  rw [List.pairwise_map]
  exact nd.imp_of_mem fun {a b} ha hb n e => n (h a ha b hb e)
theorem px_bound {r1 r2 : Rule} {S : List PX} (nd : S.Nodup) (h : ∀ x ∈ S, WPx r1 r2 x) : S.length ≤ 866761 := by
  have := nodup_bound 866761 (S.map cdX) (nodup_map_on (fun x hx y hy e => by
    have h1 := h x hx
    have h2 := h y hy
    have := cdP_lt h1.1; have := cdP_lt h1.2; have := cdP_lt h2.1; have := cdP_lt h2.2
    unfold cdX at e
    exact Prod.ext (cdP_inj h1.1 h2.1 (by omega)) (cdP_inj h1.2 h2.2 (by omega))) nd) (by
    intro n hn
    obtain ⟨x, hx, rfl⟩ := List.mem_map.mp hn
    have := cdP_lt (h x hx).1
    have := cdP_lt (h x hx).2
    unfold cdX; omega)
  rwa [List.length_map] at this
theorem pl_bound {r : Rule} {S : List (List Th)} (nd : S.Nodup) (h : ∀ x ∈ S, WPl r x) : S.length ≤ 931 := by
  have := nodup_bound 931 (S.map cdP) (nodup_map_on (fun x hx y hy e => cdP_inj (h x hx) (h y hy) e) nd) (by
    intro n hn
    obtain ⟨x, hx, rfl⟩ := List.mem_map.mp hn
    exact cdP_lt (h x hx))
  rwa [List.length_map] at this
/-! a step leaves a place as it should be -/
theorem ans_w (s : Setg) (r : Rule) (p : List Th) (a : Int) (hp : ∀ x ∈ p, x.t ≤ 4) : ∀ x ∈ answeredM s r p a, x.t ≤ 4 := by
  have h1 : ∀ x ∈ (ansM s r p a).1, x.t ≤ 4 := by
    unfold ansM
    split
    · intro x hx; exact hp x (List.mem_of_mem_drop hx)
    · split
      · intro x hx
        obtain ⟨y, hy, rfl⟩ := List.mem_map.mp hx
        exact hp y hy
      · split
        · intro x hx
          rcases List.mem_append.mp hx with hx | hx
          · exact hp x hx
          · simp at hx; subst hx; show (0 : Int) ≤ 4; decide
        · exact hp
  unfold answeredM
  split
  · intro x hx
    obtain ⟨y, hy, rfl⟩ := List.mem_map.mp hx
    exact h1 y hy
  · exact h1
theorem th_w (r : Rule) (hr : r.ok) (x : Th) (h : Gd x) (h4 : x.t ≤ 4) : WTh r (thM r x) := by
  obtain ⟨h0, hl⟩ := h
  unfold thM
  split
  · exact ⟨h0, h4, nofun, nofun⟩
  · rename_i l e
    have hb := hl l e
    split
    · have ht : 0 ≤ (if x.t + 1 < 4 then x.t + 1 else 4) := by split <;> omega
      exact ⟨ht, by dsimp only; split <;> omega, fun g hg => gap_bd hr _ g ht hg, fun _ => rfl⟩
    · exact ⟨h0, h4, fun g hg => by cases hg; omega, nofun⟩
theorem tick_w (s : Setg) (r : Rule) (p : List Th) (a : Int) (hs : s.ok) (hr : r.ok) (hp : WPl r p) : WPl r (tickM s r p a).1 := by
  refine ⟨tick_len s r p a hs hp.1, fun x hx => ?_⟩
  obtain ⟨y, hy, rfl⟩ := List.mem_map.mp hx
  exact th_w r hr y (ans_gd s r p a hs hr (fun x hx => ⟨(hp.2 x hx).1, fun l hl => by have := (hp.2 x hx).2.2.1 l hl; omega⟩) y hy) (ans_w s r p a (fun x hx => (hp.2 x hx).2.1) y hy)
theorem gap_flat {r : Rule} (h : flatR r = true) (t t' : Int) : gapM r t = gapM r t' := by
  obtain ⟨w, n, m⟩ := r
  cases w <;> first | rfl | (simp [flatR] at h)
theorem fold_w (r : Rule) {p : List Th} (h : WPl r p) : WPl r (foldM r p) := by
  refine ⟨by rw [fold_len]; exact h.1, fun x hx => ?_⟩
  obtain ⟨y, hy, rfl⟩ := List.mem_map.mp hx
  obtain ⟨h1, h2, h3, h4⟩ := h.2 y hy
  unfold fold1
  by_cases hf : flatR r = true
  · rw [if_pos hf]
    exact ⟨Int.le_refl _, by show (0 : Int) ≤ 4; decide, h3, fun e => (h4 e).trans (gap_flat hf _ _)⟩
  · rw [if_neg hf]
    exact ⟨h1, h2, h3, h4⟩
theorem step_w (s : Setg) (r : Rule) (p : List Th) (a : Int) (hs : s.ok) (hr : r.ok) (hp : WPl r p) : WPl r (stepM s r p a).1 := fold_w r (tick_w s r p a hs hr hp)
/-! pairs as keys -/
def prD (x : PX) : D := .tup [plD x.1, plD x.2]
theorem pr_key (x : PX) : D.key (prD x) = some (.tup [.tup (x.1.map thK), .tup (x.2.map thK)]) := by
  rw [prD, D.key, D.keys, pl_key, D.keys, pl_key, D.keys]; rfl
theorem prKenc : Kenc prD := by
  refine ⟨fun p => ?_, fun p q => ?_⟩
  · have h := pr_key p
    unfold kOk
    show (match D.key (prD p) with | some n => decide (n.depth ≤ 8) | none => false) = true
    rw [h]
    have h1 := thKs_depth p.1
    have h2 := thKs_depth p.2
    have : (NestedKey.tup [.tup (p.1.map thK), .tup (p.2.map thK)]).depth ≤ 8 := by
      rw [NestedKey.depth, NestedKey.depthAll, NestedKey.depthAll, NestedKey.depthAll, NestedKey.depth, NestedKey.depth]; omega
    exact decide_eq_true this
  · unfold keq
    rw [pr_key, pr_key]
    dsimp only
    by_cases e : p = q
    · subst e; simp
    · rw [decide_eq_false e, decide_eq_false]
      intro z
      injection z with z
      injection z with z1 z
      injection z1 with z1
      injection z with z2 z
      injection z2 with z2
      exact e (Prod.ext (thKs_inj z1) (thKs_inj z2))
section
variable {α : Type} [DecidableEq α]
/-- a dict that says what is in it -/
def seenG (S : List α) : List (α × Bool) := S.map fun x => (x, true)
theorem seen_look (S : List α) (y : α) : (tlook (seenG S) y).isSome = decide (y ∈ S) := by
  rw [Bool.eq_iff_iff, look_mem, decide_eq_true_eq]
  simp [seenG]
theorem seen_put (S : List α) (y : α) (h : y ∉ S) : tput (seenG S) y true = seenG (S ++ [y]) := by
  unfold tput
  rw [if_neg (by rw [seen_look]; simpa using h)]
  simp [seenG]
theorem seen_len (S : List α) : (seenG S).length = S.length := by simp [seenG]
end
theorem append_ref {h : MH} {m : Nat} {l : List D} (y : D) (e : h[m]? = some (.lst l)) (hl : l.length < 16777216) : mAppend (.ref m) [y] h = some (.non, h.set m (.lst (l ++ [y]))) := by
  show (match h[m]? with | some (.lst l) => if l.length < LIM then some (D.non, h.set m (.lst (l ++ [y]))) else none | _ => none) = _
  rw [e]
  exact if_pos hl
def levD (p : List Int × PX) : D := .tup [rowD p.1, prD p.2]
def outP (s : Setg) (r1 r2 : Rule) (x : PX) (a : Int) : Bool := !decide ((stepM s r1 x.1 a).2 = (stepM s r2 x.2 a).2)
def sucP (s : Setg) (r1 r2 : Rule) (x : PX) (a : Int) : PX := ((stepM s r1 x.1 a).1, (stepM s r2 x.2 a).1)
theorem suc_w {s : Setg} {r1 r2 : Rule} (hs : s.ok) (h1 : r1.ok) (h2 : r2.ok) {x : PX} (hx : WPx r1 r2 x) (a : Int) : WPx r1 r2 (sucP s r1 r2 x a) := ⟨step_w s r1 _ a hs h1 hx.1, step_w s r2 _ a hs h2 hx.2⟩
/-- the heap in a turn: what is seen, what is new -/
structure Hp (r1 r2 : Rule) (c : MH → Bool) (m : Nat) (st : Lev PX × List PX) (h : MH) : Prop where
  seen : h[0]? = some (.dct (kvD prD D.bl (seenG st.2)))
  later : h[m]? = some (.lst (st.1.map levD))
  len : h.length = m + 1
  ck : c h = true
  nd : st.2.Nodup
  w : ∀ x ∈ st.2, WPx r1 r2 x
  le : st.1.length ≤ st.2.length
section
variable {s : Setg} {r1 r2 : Rule} (hs : s.ok) (h1 : r1.ok) (h2 : r2.ok)
include hs h1 h2
theorem body_p0 {c : MH → Bool} {m : Nat} (hm : 0 < m) (hc : ∀ h o, c h = true → c (h.set 0 o) = true ∧ c (h.set m o) = true) {x3 x4 x5 x11 x12 x13 x14 : Option D} {u : List Int} (hu : u.length < 16777216) {x : PX} (hx : WPx r1 r2 x) (a : Int) {st : Lev PX × List PX} {h : MH} (H : Hp r1 r2 c m st h) :
    match bfA (outP s r1 r2) (sucP s r1 r2) u x st a with
      | .inl st' => ∃ y11 y12 y13 y14 h', b_parted_0 [some s.d, some r1.d, some r2.d, x3, x4, x5, some (.ref 0), some (.ref m), some (rowD u), some (prD x), some (.int a), x11, x12, x13, x14] h = some (.nx, [some s.d, some r1.d, some r2.d, x3, x4, x5, some (.ref 0), some (.ref m), some (rowD u), some (prD x), some (.int a), y11, y12, y13, y14], h') ∧ Hp r1 r2 c m st' h'
      | .inr w => ∃ σ' h', b_parted_0 [some s.d, some r1.d, some r2.d, x3, x4, x5, some (.ref 0), some (.ref m), some (rowD u), some (prD x), some (.int a), x11, x12, x13, x14] h = some (.rt (rowD w), σ', h') := by
  have hb := px_bound H.nd H.w
  have e1 : ∀ h, ePure F_step [s.d, r1.d, plD x.1, .int a] h = _ := step_p s r1 x.1 a hs h1 hx.1.1
  have e2 : ∀ h, ePure F_step [s.d, r2.d, plD x.2, .int a] h = _ := step_p s r2 x.2 a hs h2 hx.2.1
  have e3 : ∀ h, kAdd (rowD u) (.lst [.int a]) h = some (rowD (u ++ [a]), h) := fun h => row_add h u [a] (by simp; omega)
  have eP : prD x = .tup [plD x.1, plD x.2] := rfl
  have hi := notin_ref (k := sucP s r1 r2 x a) prKenc H.seen
  unfold bfA
  by_cases ho : outP s r1 r2 x a = true
  · rw [if_pos ho]
    have ho' : ¬ (stepM s r1 x.1 a).2 = (stepM s r2 x.2 a).2 := by simpa [outP] using ho
    refine ⟨[some s.d, some r1.d, some r2.d, x3, x4, x5, some (.ref 0), some (.ref m), some (rowD u), some (prD x), some (.int a), some (plD (stepM s r1 x.1 a).1), some (.int (stepM s r1 x.1 a).2), some (plD (stepM s r2 x.2 a).1), some (.int (stepM s r2 x.2 a).2)], h, ?_⟩
    simp [b_parted_0, eP, e1, e2, ho', e3]
  · rw [if_neg ho]
    have ho' : (stepM s r1 x.1 a).2 = (stepM s r2 x.2 a).2 := by simpa [outP] using ho
    by_cases hm2 : sucP s r1 r2 x a ∈ st.2
    · rw [if_pos hm2]
      rw [show (tlook (seenG st.2) (sucP s r1 r2 x a)).isSome = true by rw [seen_look]; simpa using hm2] at hi
      unfold prD sucP at hi
      dsimp only at hi
      refine ⟨some (plD (stepM s r1 x.1 a).1), some (.int (stepM s r1 x.1 a).2), some (plD (stepM s r2 x.2 a).1), some (.int (stepM s r2 x.2 a).2), h, ?_, H⟩
      simp [b_parted_0, eP, e1, e2, ho', hi]
    · rw [if_neg hm2]
      rw [show (tlook (seenG st.2) (sucP s r1 r2 x a)).isSome = false by rw [seen_look]; simpa using hm2] at hi
      have hset := set_ref (k := sucP s r1 r2 x a) (v := true) prKenc H.seen (by rw [seen_len]; omega)
      rw [seen_put _ _ hm2] at hset
      have hl0 : (h.set 0 (.dct (kvD prD D.bl (seenG (st.2 ++ [sucP s r1 r2 x a])))))[m]? = some (.lst (st.1.map levD)) := by
        rw [List.getElem?_set_ne (by omega)]; exact H.later
      have hap := append_ref (levD (u ++ [a], sucP s r1 r2 x a)) hl0 (by have := H.le; rw [List.length_map]; omega)
      have hs2 := asL_lst hl0
      have hn : (h.set 0 (.dct (kvD prD D.bl (seenG (st.2 ++ [sucP s r1 r2 x a]))))).set m (.lst (st.1.map levD ++ [levD (u ++ [a], sucP s r1 r2 x a)])) = (h.set 0 (.dct (kvD prD D.bl (seenG (st.2 ++ [sucP s r1 r2 x a]))))).set m (.lst ((st.1 ++ [(u ++ [a], sucP s r1 r2 x a)]).map levD)) := by rw [List.map_append]; rfl
      have hlen := H.len
      have hw := suc_w hs h1 h2 hx a
      refine ⟨some (plD (stepM s r1 x.1 a).1), some (.int (stepM s r1 x.1 a).2), some (plD (stepM s r2 x.2 a).1), some (.int (stepM s r2 x.2 a).2), (h.set 0 (.dct (kvD prD D.bl (seenG (st.2 ++ [sucP s r1 r2 x a]))))).set m (.lst ((st.1 ++ [(u ++ [a], sucP s r1 r2 x a)]).map levD)), ?_, ?_, ?_, ?_, ?_, ?_, ?_, ?_⟩
      · rw [← hn]
        generalize (MO.dct (kvD prD D.bl (seenG (st.2 ++ [sucP s r1 r2 x a])))) = G at *
        unfold levD prD sucP at hap
        unfold prD sucP at hset
        unfold prD sucP at hi
        dsimp only at hap hset hi
        simp [b_parted_0, eP, e1, e2, ho', e3, hi, hset, hs2, hap]
        rfl
      · rw [List.getElem?_set_ne (by omega), List.getElem?_set_self (by omega)]
      · rw [List.getElem?_set_self (by rw [List.length_set]; omega)]
      · rw [List.length_set, List.length_set]; exact hlen
      · exact (hc _ _ (hc _ _ H.ck).1).2
      · rw [List.nodup_append]
        exact ⟨H.nd, by simp, fun a ha b hb => by rw [List.mem_singleton] at hb; subst hb; exact fun z => hm2 (z ▸ ha)⟩
      · intro y hy
        rcases List.mem_append.mp hy with hy | hy
        · exact H.w y hy
        · rw [List.mem_singleton] at hy; subst hy; exact hw
      · have := H.le
        simp; omega
theorem body_p1 {c : MH → Bool} {m : Nat} (hm : 0 < m) (hc : ∀ h o, c h = true → c (h.set 0 o) = true ∧ c (h.set m o) = true) {v : Int} (hv : 1 ≤ v ∧ v ≤ 3) {x4 x5 x10 x11 x12 x13 x14 : Option D} {u : List Int} (hu : u.length < 16777216) {x : PX} (hx : WPx r1 r2 x) {st : Lev PX × List PX} {h : MH} (H : Hp r1 r2 c m st h) :
    match bfL (outP s r1 r2) (sucP s r1 r2) (ansR v) st (u, x) with
      | .inl st' => ∃ y10 y11 y12 y13 y14 h', b_parted_1 [some s.d, some r1.d, some r2.d, some (.int v), x4, x5, some (.ref 0), some (.ref m), some (rowD u), some (prD x), x10, x11, x12, x13, x14] h = some (.nx, [some s.d, some r1.d, some r2.d, some (.int v), x4, x5, some (.ref 0), some (.ref m), some (rowD u), some (prD x), y10, y11, y12, y13, y14], h') ∧ Hp r1 r2 c m st' h'
      | .inr w => ∃ σ' h', b_parted_1 [some s.d, some r1.d, some r2.d, some (.int v), x4, x5, some (.ref 0), some (.ref m), some (rowD u), some (prD x), x10, x11, x12, x13, x14] h = some (.rt (rowD w), σ', h') := by
  have L := forD_foldE (enc := D.int) (encR := rowD) (t := gN 10) (b := b_parted_0) (c := yes) (l := ansR v) (f := bfA (outP s r1 r2) (sucP s r1 r2) u x)
    (rep := fun st σ h => ∃ x10 x11 x12 x13 x14, σ = [some s.d, some r1.d, some r2.d, some (.int v), x4, x5, some (.ref 0), some (.ref m), some (rowD u), some (prD x), x10, x11, x12, x13, x14] ∧ Hp r1 r2 c m st h)
    (fun _ _ _ _ => rfl)
    (by
      rintro a ha st σ h ⟨x10, x11, x12, x13, x14, rfl, H⟩
      have B := body_p0 hs h1 h2 hm hc (x3 := some (.int v)) (x4 := x4) (x5 := x5) (x11 := x11) (x12 := x12) (x13 := x13) (x14 := x14) hu hx a H
      refine ⟨[some s.d, some r1.d, some r2.d, some (.int v), x4, x5, some (.ref 0), some (.ref m), some (rowD u), some (prD x), some (.int a), x11, x12, x13, x14], by simp, ?_⟩
      cases hb : bfA (outP s r1 r2) (sucP s r1 r2) u x st a with
      | inl st' =>
        rw [hb] at B
        obtain ⟨y11, y12, y13, y14, h', e, H'⟩ := B
        exact ⟨_, _, .inl e, _, _, _, _, _, rfl, H'⟩
      | inr w => rw [hb] at B; exact B)
    st [some s.d, some r1.d, some r2.d, some (.int v), x4, x5, some (.ref 0), some (.ref m), some (rowD u), some (prD x), x10, x11, x12, x13, x14] h ⟨_, _, _, _, _, rfl, H⟩
  have ea : ∀ h, ePure F_answers_of [.int v] h = some (rowD (ansR v), h) := answers_of_p v (by omega) hv.2
  unfold bfL
  dsimp only
  cases hb : foldE (bfA (outP s r1 r2) (sucP s r1 r2) u x) (ansR v) st with
  | inl st' =>
    rw [hb] at L
    obtain ⟨σ', h', e, y10, y11, y12, y13, y14, rfl, H'⟩ := L
    exact ⟨y10, y11, y12, y13, y14, h', by simp [b_parted_1, ea, anyOf_row, e], H'⟩
  | inr w =>
    rw [hb] at L
    obtain ⟨σ', h', e⟩ := L
    exact ⟨σ', h', by simp [b_parted_1, ea, anyOf_row, e]⟩
theorem loop_p {c : MH → Bool} {m : Nat} (hm : 0 < m) (hc : ∀ h o, c h = true → c (h.set 0 o) = true ∧ c (h.set m o) = true) {v : Int} (hv : 1 ≤ v ∧ v ≤ 3) {x4 x5 x8 x9 x10 x11 x12 x13 x14 : Option D} {L : Lev PX} (hL : ∀ p ∈ L, p.1.length < 16777216 ∧ WPx r1 r2 p.2) {st : Lev PX × List PX} {h : MH} (H : Hp r1 r2 c m st h) :
    match foldE (bfL (outP s r1 r2) (sucP s r1 r2) (ansR v)) L st with
      | .inl st' => ∃ y8 y9 y10 y11 y12 y13 y14 h', forD c (gT [gN 8, gN 9]) b_parted_1 (L.map levD) [some s.d, some r1.d, some r2.d, some (.int v), x4, x5, some (.ref 0), some (.ref m), x8, x9, x10, x11, x12, x13, x14] h = some (.nx, [some s.d, some r1.d, some r2.d, some (.int v), x4, x5, some (.ref 0), some (.ref m), y8, y9, y10, y11, y12, y13, y14], h') ∧ Hp r1 r2 c m st' h'
      | .inr w => ∃ σ' h', forD c (gT [gN 8, gN 9]) b_parted_1 (L.map levD) [some s.d, some r1.d, some r2.d, some (.int v), x4, x5, some (.ref 0), some (.ref m), x8, x9, x10, x11, x12, x13, x14] h = some (.rt (rowD w), σ', h') := by
  have L := forD_foldE (enc := levD) (encR := rowD) (t := gT [gN 8, gN 9]) (b := b_parted_1) (c := c) (l := L) (f := bfL (outP s r1 r2) (sucP s r1 r2) (ansR v))
    (rep := fun st σ h => ∃ x8 x9 x10 x11 x12 x13 x14, σ = [some s.d, some r1.d, some r2.d, some (.int v), x4, x5, some (.ref 0), some (.ref m), x8, x9, x10, x11, x12, x13, x14] ∧ Hp r1 r2 c m st h)
    (by rintro st σ h ⟨_, _, _, _, _, _, _, _, H⟩; exact H.ck)
    (by
      rintro ⟨u, x⟩ ha st σ h ⟨x8, x9, x10, x11, x12, x13, x14, rfl, H⟩
      have hux := hL _ ha
      have B := body_p1 hs h1 h2 hm hc hv (x4 := x4) (x5 := x5) (x10 := x10) (x11 := x11) (x12 := x12) (x13 := x13) (x14 := x14) hux.1 hux.2 H
      refine ⟨[some s.d, some r1.d, some r2.d, some (.int v), x4, x5, some (.ref 0), some (.ref m), some (rowD u), some (prD x), x10, x11, x12, x13, x14], by simp [levD], ?_⟩
      dsimp only at B
      cases hb : bfL (outP s r1 r2) (sucP s r1 r2) (ansR v) st (u, x) with
      | inl st' =>
        rw [hb] at B
        obtain ⟨y10, y11, y12, y13, y14, h', e, H'⟩ := B
        exact ⟨_, _, .inl e, _, _, _, _, _, _, _, rfl, H'⟩
      | inr w => rw [hb] at B; exact B)
    st [some s.d, some r1.d, some r2.d, some (.int v), x4, x5, some (.ref 0), some (.ref m), x8, x9, x10, x11, x12, x13, x14] h ⟨_, _, _, _, _, _, _, rfl, H⟩
  revert L
  cases foldE (bfL (outP s r1 r2) (sucP s r1 r2) (ansR v)) _ st with
  | inl st' =>
    rintro ⟨σ', h', e, y8, y9, y10, y11, y12, y13, y14, rfl, H'⟩
    exact ⟨_, _, _, _, _, _, _, _, e, H'⟩
  | inr w => exact id
end
end PyD
set_option Elab.async false
set_option linter.all false
set_option maxRecDepth 100000
set_option maxHeartbeats 4000000
/-! MirQ: the whole search; parting_answers. -/
namespace PyD
open PySem (Str NestedKey PyData)
def Eqt.pair {α β : Type} [DecidableEq α] [DecidableEq β] {enc : α → D} {enc' : β → D} {n n' : Nat} (e : Eqt enc n) (e' : Eqt enc' n') : Eqt (fun p : α × β => .tup [enc p.1, enc' p.2]) (max n n' + 1) where
  pd p := .tuple [e.pd p.1, e'.pd p.2]
  data p := by simp [D.data, D.datas, e.data, e'.data]
  lay p := by simp [PyData.canLay0, PyData.canLayAll0, e.lay, e'.lay]
  dep p := by
    have := e.dep p.1
    have := e'.dep p.2
    simp [PyData.depth, PyData.depthAll]; omega
  eqv p q := by
    obtain ⟨a, b⟩ := p
    obtain ⟨a', b'⟩ := q
    simp [PyData.eqv, PyData.eqvAll, e.eqv, e'.eqv]
  cl p := by simp [cl_tup, cls_cons, cls_nil, e.cl, e'.cl]
def Eqt.th : Eqt Th.d 1 where
  pd x := .tuple [Eqt.opt.pd x.l, .int x.t, .bool x.r]
  data x := by
    obtain ⟨l, t, r⟩ := x
    cases l <;> rfl
  lay x := by
    obtain ⟨l, t, r⟩ := x
    cases l <;> rfl
  dep x := by
    obtain ⟨l, t, r⟩ := x
    cases l <;> simp [PyData.depth, PyData.depthAll, Eqt.opt]
  eqv x y := by
    obtain ⟨l, t, r⟩ := x
    obtain ⟨l', t', r'⟩ := y
    simp only [PyData.eqv, PyData.eqvAll, Eqt.opt.eqv]
    cases r <;> cases r' <;> by_cases h1 : l = l' <;> by_cases h2 : t = t' <;> simp [h1, h2]
  cl x := by
    obtain ⟨l, t, r⟩ := x
    cases l <;> rfl
def Eqt.row : Eqt rowD 1 := Eqt.lst Eqt.int
def Eqt.pl : Eqt plD 2 := Eqt.tup Eqt.th
def Eqt.pr : Eqt prD 3 := Eqt.pair Eqt.pl Eqt.pl
def Eqt.lev : Eqt levD 4 := Eqt.pair Eqt.row Eqt.pr
/-- a list that changes, or not -/
inductive LvOk {α : Type} (enc : α → D) (m : Nat) (h : MH) (L : List α) : D → Prop
  | fz : LvOk enc m h L (.lst (L.map enc))
  | rf {n : Nat} (h0 : 0 < n) (hm : n < m) (e : h[n]? = some (.lst (L.map enc))) : LvOk enc m h L (.ref n)
theorem frz_rowlist {α : Type} {enc : α → D} {h : MH} {m : Nat} {L : List α} {lo n : Nat} (hl : lo ≤ m) (he : h[m]? = some (.lst (L.map enc))) (hf : ∀ x, frzN lo n h (enc x) = some (enc x)) : frzN lo (n + 1) h (.ref m) = some (.lst (L.map enc)) :=
  frz_ref hl he (mapO_map fun x _ => hf x)
theorem LvOk.nil {α : Type} [DecidableEq α] {enc : α → D} {k : Nat} (e : Eqt enc k) (hk : k < 60) (hf : ∀ h x, frzN 0 7 h (enc x) = some (enc x)) {m : Nat} {h : MH} {L : List α} {lv : D} (H : LvOk enc m h L lv) : dEq h lv (.lst []) = some (decide (L = [])) := by
  cases H with
  | fz => exact Eqt.eqG (Eqt.lst e) (by omega) h L []
  | rf h0 hm he =>
    rename_i n
    have h1 : frzN 0 8 h (.ref n) = some (.lst (L.map enc)) := frz_rowlist (Nat.zero_le _) he fun x => hf h x
    exact dEq_flat (Eqt.lst e) (by omega) h L [] (.ref n) (flat_ref h n _ h1)
theorem LvOk.any {α : Type} {enc : α → D} {m : Nat} {h : MH} {L : List α} {lv : D} (H : LvOk enc m h L lv) (hl : h.length = m) (o : MO) :
    ∃ c, anyOf (h ++ [o]) lv = some (L.map enc, c) ∧ c (h ++ [o]) = true ∧ ∀ h o, c h = true → c (h.set 0 o) = true ∧ c (h.set m o) = true := by
  cases H with
  | fz => exact ⟨yes, rfl, rfl, fun _ _ _ => ⟨rfl, rfl⟩⟩
  | rf h0 hm he =>
    rename_i n
    have e2 : (h ++ [o])[n]? = some (.lst (L.map enc)) := by rw [List.getElem?_append_left (by omega)]; exact he
    refine ⟨isL n (L.map enc), ?_, ?_, ?_⟩
    · show (match (h ++ [o])[n]? with | some (.lst xs) => some (xs, isL n xs) | some (.dct kvs) => some (kvs.map (fun q : D × D => q.1), isD n kvs) | _ => none) = _
      rw [e2]
    · exact decide_eq_true e2
    · intro h o e
      have e : h[n]? = some (.lst (L.map enc)) := of_decide_eq_true e
      exact ⟨decide_eq_true (by rw [List.getElem?_set_ne (by omega)]; exact e), decide_eq_true (by rw [List.getElem?_set_ne (by omega)]; exact e)⟩
theorem frz_lev (h : MH) (p : List Int × PX) : frzN 0 7 h (levD p) = some (levD p) := by
  apply frz_tup
  have h1 : frzN 0 6 h (rowD p.1) = some (rowD p.1) := frz_lst (cls_map _ cl_int _)
  have h2 : frzN 0 6 h (prD p.2) = some (prD p.2) := by
    apply frz_tup
    rw [mapO, frz_pl, mapO, frz_pl, mapO]; rfl
  rw [mapO, h1, mapO, h2, mapO]; rfl
theorem pairwise_ansR (v : Int) : (ansR v).Pairwise (· < ·) := by
  unfold ansR
  rw [List.pairwise_map]
  exact List.pairwise_lt_range.imp fun {a b} h => by omega
section
variable {s : Setg} {r1 r2 : Rule} (hs : s.ok) (h1 : r1.ok) (h2 : r2.ok)
include hs h1 h2
theorem prun {v : Int} (hv : 1 ≤ v ∧ v ≤ 3) {x4 : Option D} {x0 : PX} : ∀ (M : Nat) (k m : Nat) (L : Lev PX) (S : List PX) (lv : D) (h : MH) (x7 x8 x9 x10 x11 x12 x13 x14 : Option D),
    BInv (outP s r1 r2) (sucP s r1 r2) (ansR v) x0 k L S → (∀ x ∈ S, WPx r1 r2 x) → (L ≠ [] → k < S.length) → (if L = [] then 0 else 866762 - S.length) ≤ M →
    0 < m → h.length = m → h[0]? = some (.dct (kvD prD D.bl (seenG S))) → LvOk levD m h L lv →
    ∀ fuel, M < fuel → ∃ res σ' h', PartSpec (outP s r1 r2) (sucP s r1 r2) (ansR v) x0 res ∧
      whD w_parted_2 b_parted_3 fuel [some s.d, some r1.d, some r2.d, some (.int v), x4, some lv, some (.ref 0), x7, x8, x9, x10, x11, x12, x13, x14] h = some (match res with | some w => .rt (rowD w) | none => .nx, σ', h') := by
  intro M
  induction M with
  | zero =>
    intro k m L S lv h x7 x8 x9 x10 x11 x12 x13 x14 I hw hk hM hm hl h0 hlv fuel hf
    obtain ⟨fuel, rfl⟩ : ∃ f, fuel = f + 1 := ⟨fuel - 1, by omega⟩
    have hb := px_bound I.nd hw
    have hL : L = [] := by
      by_cases hL : L = []
      · exact hL
      · rw [if_neg hL] at hM; omega
    subst hL
    have en := hlv.nil Eqt.lev (by decide) frz_lev
    refine ⟨none, [some s.d, some r1.d, some r2.d, some (.int v), x4, some lv, some (.ref 0), x7, x8, x9, x10, x11, x12, x13, x14], h, I.nil, ?_⟩
    rw [whD]
    simp [w_parted_2, en]
  | succ M ih =>
    intro k m L S lv h x7 x8 x9 x10 x11 x12 x13 x14 I hw hk hM hm hl h0 hlv fuel hf
    obtain ⟨fuel, rfl⟩ : ∃ f, fuel = f + 1 := ⟨fuel - 1, by omega⟩
    have hb := px_bound I.nd hw
    have en := hlv.nil Eqt.lev (by decide) frz_lev
    by_cases hL : L = []
    · subst hL
      refine ⟨none, [some s.d, some r1.d, some r2.d, some (.int v), x4, some lv, some (.ref 0), x7, x8, x9, x10, x11, x12, x13, x14], h, I.nil, ?_⟩
      rw [whD]
      simp [w_parted_2, en]
    · rw [if_neg hL] at hM
      have hk := hk hL
      have tc : w_parted_2 [some s.d, some r1.d, some r2.d, some (.int v), x4, some lv, some (.ref 0), x7, x8, x9, x10, x11, x12, x13, x14] h = some (true, h) := by
        simp [w_parted_2, en, hL]
      obtain ⟨c, a1, a2, a3⟩ := hlv.any hl (.lst [])
      have H0 : Hp r1 r2 c m (([], S) : Lev PX × List PX) (h ++ [.lst []]) := ⟨by rw [List.getElem?_append_left (by omega)]; exact h0, by rw [← hl]; simp, by rw [List.length_append, hl]; rfl, a2, I.nd, hw, Nat.zero_le _⟩
      have hLL : ∀ p ∈ L, p.1.length < 16777216 ∧ WPx r1 r2 p.2 := fun p hp => ⟨by rw [(I.rows p hp).1]; omega, hw _ (I.inS p hp)⟩
      have B := loop_p hs h1 h2 hm a3 hv (x4 := x4) (x5 := some lv) (x8 := x8) (x9 := x9) (x10 := x10) (x11 := x11) (x12 := x12) (x13 := x13) (x14 := x14) hLL H0
      have N := I.step (pairwise_ansR v)
      cases hq : foldE (bfL (outP s r1 r2) (sucP s r1 r2) (ansR v)) L ([], S) with
      | inr w =>
        rw [hq] at B N
        obtain ⟨σ', h', e⟩ := B
        refine ⟨some w, σ', h', N, ?_⟩
        rw [whD, tc]
        simp [b_parted_3, hl, a1, e]
      | inl st =>
        obtain ⟨L', S'⟩ := st
        rw [hq] at B N
        obtain ⟨y8, y9, y10, y11, y12, y13, y14, h', e, H'⟩ := B
        obtain ⟨I', hS⟩ := N
        dsimp only at I' hS
        have hS' : S'.length = S.length + L'.length := by rw [hS]; simp
        have hb' := px_bound H'.nd H'.w
        dsimp only at hb'
        obtain ⟨res, σ2, h2', p1, p2⟩ := ih (k + 1) (m + 1) L' S' (.ref m) h' (some (.ref m)) y8 y9 y10 y11 y12 y13 y14 I' H'.w (fun hn => by
            have : 0 < L'.length := List.length_pos_iff.mpr hn
            omega) (by
            split
            · omega
            · rename_i hn
              have : 0 < L'.length := List.length_pos_iff.mpr hn
              omega) (by omega) H'.len H'.seen (.rf hm (by omega) H'.later) fuel (by omega)
        refine ⟨res, σ2, h2', p1, ?_⟩
        have eb : b_parted_3 [some s.d, some r1.d, some r2.d, some (.int v), x4, some lv, some (.ref 0), x7, x8, x9, x10, x11, x12, x13, x14] h = some (.nx, [some s.d, some r1.d, some r2.d, some (.int v), x4, some (.ref m), some (.ref 0), some (.ref m), y8, y9, y10, y11, y12, y13, y14], h') := by
          simp [b_parted_3, hl, a1, e]
        rw [whD, tc]
        show (b_parted_3 _ _).bind _ = _
        rw [eb]
        exact p2
end

def optRow : Option (List Int) → D
  | none => .non
  | some w => rowD w
section
variable {s : Setg} {r1 r2 : Rule} (hs : s.ok) (h1 : r1.ok) (h2 : r2.ok)
include hs h1 h2
theorem parted_p {v : Int} (hv : 1 ≤ v ∧ v ≤ 3) {x0 : PX} (hx : WPx r1 r2 x0) :
    ∃ res, PartSpec (outP s r1 r2) (sucP s r1 r2) (ansR v) x0 res ∧ ∀ h, ePure F_parted [s.d, r1.d, r2.d, .int v, prD x0] h = some (optRow res, h) := by
  have hc : D.cls [s.d, r1.d, r2.d, .int v, prD x0] = true := by simp [cls_cons, cls_nil, cl_int, Setg.cl, Rule.cl, Eqt.pr.cl]
  obtain ⟨res, σ', h', p1, p2⟩ := prun hs h1 h2 hv (x4 := some (prD x0)) 866762 0 1 [([], x0)] [x0] (.lst [levD ([], x0)]) [.dct (kvD prD D.bl (seenG [x0]))] none none none none none none none none
    BInv.start (by intro y hy; rw [List.mem_singleton] at hy; subst hy; exact hx) (fun _ => by simp) (by simp) (by decide) rfl rfl .fz FUEL (by decide)
  have ek : ∀ h, kDict1 [prD x0, .bl true] h = some (.ref h.length, h ++ [.dct [(prD x0, .bl true)]]) := fun h => by
    show (if kOk (prD x0) then some (D.ref h.length, h ++ [.dct [(prD x0, .bl true)]]) else none) = _
    rw [prKenc.ok]; rfl
  refine ⟨res, p1, fun h => ?_⟩
  have e : ∃ σ, k_parted [some s.d, some r1.d, some r2.d, some (.int v), some (prD x0), none, none, none, none, none, none, none, none, none, none] [] = some (.rt (optRow res), σ, h') := by
    have p2 : sWhile w_parted_2 b_parted_3 [some s.d, some r1.d, some r2.d, some (.int v), some (prD x0), some (.lst [.tup [.lst [], prD x0]]), some (.ref 0), none, none, none, none, none, none, none, none] [.dct [(prD x0, .bl true)]] = _ := p2
    cases res with
    | none => refine ⟨σ', ?_⟩; simp [k_parted, ek, p2]; rfl
    | some w => refine ⟨σ', ?_⟩; simp [k_parted, ek, p2]; rfl
  obtain ⟨σ, e⟩ := e
  refine ePure_ hc (mkP_ rfl hc e rfl ?_)
  cases res with
  | none => rfl
  | some w => exact frz_lst (cls_map _ cl_int _)
theorem need_two_p (h : MH) : ePure F_need_two [s.d, r1.d, r2.d] h = some (.non, h) := by
  have hc : D.cls [s.d, r1.d, r2.d] = true := by simp [cls_cons, cls_nil, Setg.cl, Rule.cl]
  have e : ∃ σ, k_need_two [some s.d, some r1.d, some r2.d] [] = some (.nx, σ, []) := by
    simp [k_need_two, need_setting_p s hs, need_rule_p r1 h1, need_rule_p r2 h2]
  obtain ⟨σ, e⟩ := e
  exact ePure_ hc (mkP_ rfl hc e rfl rfl)
theorem parting_p {v : Int} (hv : 1 ≤ v ∧ v ≤ 3) :
    ∃ res, PartSpec (outP s r1 r2) (sucP s r1 r2) (ansR v) ([], []) res ∧ ∀ h, ePure F_parting_answers [s.d, r1.d, r2.d, .int v] h = some (optRow res, h) := by
  have hc : D.cls [s.d, r1.d, r2.d, .int v] = true := by simp [cls_cons, cls_nil, cl_int, Setg.cl, Rule.cl]
  obtain ⟨res, p1, p2⟩ := parted_p hs h1 h2 hv (x0 := ([], [])) ⟨WPl.nil _, WPl.nil _⟩
  refine ⟨res, p1, fun h => ?_⟩
  have p2 : ∀ h, ePure F_parted [s.d, r1.d, r2.d, .int v, .tup [plD [], plD []]] h = some (optRow res, h) := p2
  have e : ∃ σ, k_parting_answers [some s.d, some r1.d, some r2.d, some (.int v)] [] = some (.rt (optRow res), σ, []) := by
    simp [k_parting_answers, need_two_p hs h1 h2, need_range_p v hv.1 hv.2, begun_p, p2]
  obtain ⟨σ, e⟩ := e
  refine ePure_ hc (mkP_ rfl hc e rfl ?_)
  cases res with
  | none => rfl
  | some w => exact frz_lst (cls_map _ cl_int _)
end
end PyD
set_option Elab.async false
set_option linter.all false
set_option maxRecDepth 100000
set_option maxHeartbeats 4000000
/-! MirCA: desks. -/
namespace PyD
open PySem (Str NestedKey PyData)
section
variable {σ : Sg} {h : MH} {f g : Ev} {av : Av} {c x : Str}
@[simp ↓] theorem eFld_ : eFld c x f σ h = match f σ h with
    | none => none
    | some (d, h1) => match insOf h1 c d with
      | none => none
      | some (n, fs) => match fs.lookup x with
        | none => none
        | some v => some (v, h1) := by
  unfold eFld
  cases f σ h with
  | none => rfl
  | some p =>
    obtain ⟨d, h1⟩ := p
    show (insOf h1 c d).bind _ = _
    dsimp only
    cases insOf h1 c d with
    | none => rfl
    | some q =>
      obtain ⟨n, fs⟩ := q
      show (fs.lookup x).map _ = _
      dsimp only
      cases fs.lookup x <;> rfl
@[simp ↓] theorem sFldS_ : sFldS c x f g σ h = match g σ h with
    | none => none
    | some (v, h1) => match f σ h1 with
      | none => none
      | some (d, h2) => match insOf h2 c d with
        | none => none
        | some (n, fs) => if fs.length < 1000 then some (.nx, σ, h2.set n (.ins c (putD x v fs))) else none := by
  unfold sFldS
  cases g σ h with
  | none => rfl
  | some p =>
    obtain ⟨v, h1⟩ := p
    show (f σ h1).bind _ = _
    dsimp only
    cases f σ h1 with
    | none => rfl
    | some q =>
      obtain ⟨d, h2⟩ := q
      show (insOf h2 c d).bind _ = _
      dsimp only
      cases insOf h2 c d with
      | none => rfl
      | some r => rfl
@[simp ↓] theorem eMeth_ (F : Fn) : eMeth c x F f av σ h = match f σ h with
    | none => none
    | some (d, h1) => match insOf h1 c d with
      | none => none
      | some (n, fs) => if fs.lookup x = none then (match av σ h1 with
        | none => none
        | some (ds, h2) => F (d :: ds) h2) else none := by
  unfold eMeth
  cases f σ h with
  | none => rfl
  | some p =>
    obtain ⟨d, h1⟩ := p
    show (insOf h1 c d).bind _ = _
    dsimp only
    cases insOf h1 c d with
    | none => rfl
    | some q =>
      obtain ⟨n, fs⟩ := q
      dsimp only [Option.bind_some]
      split
      · cases av σ h1 <;> rfl
      · rfl
@[simp ↓] theorem eMake_ (F : Fn) : eMake c F av σ h = match av σ h with
    | none => none
    | some (ds, h1) => match F (.ref h1.length :: ds) (h1 ++ [.ins c []]) with
      | none => none
      | some (z, h2) => if z = .non then some (.ref h1.length, h2) else none := by
  unfold eMake
  cases av σ h with
  | none => rfl
  | some p =>
    obtain ⟨ds, h1⟩ := p
    show (F (.ref h1.length :: ds) (h1 ++ [.ins c []])).bind _ = _
    dsimp only
    cases F (.ref h1.length :: ds) (h1 ++ [.ins c []]) with
    | none => rfl
    | some q => rfl
theorem ins_of {n : Nat} {fs : List (Str × D)} (e : h[n]? = some (.ins c fs)) : insOf h c (.ref n) = some (n, fs) := by
  unfold insOf
  dsimp only
  rw [e]
  dsimp only
  rw [if_pos rfl]
end
/-- nothing is met that is not there -/
def Hb (h : MH) : Prop := h.all (bdO h.length) = true
theorem mkZ_ {np ns : Nat} {b : Sv} {ds : List D} {h : MH} (hl : ds.length = np) {fl : Fl} {σ : Sg} {h' : MH} {d d' : D} (e : b (ds.map some ++ List.replicate (ns - np) none) h = some (fl, σ, h')) (er : retOf fl = some d)
    (ef : frzN h.length 8 h' d = some d') (ht : h'.take h.length = h) (hn : h.length ≤ h'.length) (hb : Hb h) : mkZ np ns b ds h = some (d', h) := by
  unfold mkZ
  rw [mkFn_ hl e er]
  show (frzN h.length 8 h' d).bind _ = _
  rw [ef]
  show (if _ then _ else none) = _
  rw [if_pos]
  · rw [ht]
  · rw [ht, show h.all (bdO h.length) = true from hb, decide_eq_true hn]; rfl
mutual
theorem bd_mono {n m : Nat} (hnm : n ≤ m) : ∀ d : D, D.bd n d = true → D.bd m d = true
  | .ref k, h => by
    have h : decide (k < n) = true := h
    exact decide_eq_true (Nat.lt_of_lt_of_le (of_decide_eq_true h) hnm)
  | .tup xs, h => bds_mono hnm xs h
  | .lst xs, h => bds_mono hnm xs h
  | .dct kvs, h => bdk_mono hnm kvs h
  | .non, _ => rfl
  | .bl _, _ => rfl
  | .int _, _ => rfl
  | .str _, _ => rfl
  | .scr _, _ => rfl
theorem bds_mono {n m : Nat} (hnm : n ≤ m) : ∀ ds : List D, D.bds n ds = true → D.bds m ds = true
  | [], _ => rfl
  | d :: ds, h => by
    rw [D.bds, Bool.and_eq_true] at h ⊢
    exact ⟨bd_mono hnm d h.1, bds_mono hnm ds h.2⟩
theorem bdk_mono {n m : Nat} (hnm : n ≤ m) : ∀ ks : List (D × D), D.bdk n ks = true → D.bdk m ks = true
  | [], _ => rfl
  | (k, v) :: ks, h => by
    rw [D.bdk, Bool.and_eq_true, Bool.and_eq_true] at h ⊢
    exact ⟨⟨bd_mono hnm k h.1.1, bd_mono hnm v h.1.2⟩, bdk_mono hnm ks h.2⟩
end
theorem bdO_mono {n m : Nat} (hnm : n ≤ m) : ∀ o : MO, bdO n o = true → bdO m o = true
  | .lst xs, h => bds_mono hnm xs h
  | .dct kvs, h => bdk_mono hnm kvs h
  | .ins _ fs, h => bds_mono hnm _ h
theorem bds_int (n : Nat) : ∀ l : List Int, D.bds n (l.map D.int) = true
  | [] => rfl
  | a :: l => by rw [List.map_cons, D.bds, bds_int n l]; rfl
theorem Hb.app {h : MH} {o : MO} (hb : Hb h) (ho : bdO (h.length + 1) o = true) : Hb (h ++ [o]) := by
  unfold Hb at *
  rw [List.length_append, List.all_append, Bool.and_eq_true]
  refine ⟨?_, by simpa using ho⟩
  rw [List.all_eq_true] at hb ⊢
  exact fun x hx => bdO_mono (Nat.le_add_right _ _) x (hb x hx)
theorem Hb.set {h : MH} {o : MO} {n : Nat} (hb : Hb h) (ho : bdO h.length o = true) : Hb (h.set n o) := by
  unfold Hb at *
  rw [List.length_set]
  rw [List.all_eq_true] at hb ⊢
  intro x hx
  rcases List.mem_or_eq_of_mem_set hx with hx | rfl
  · exact hb x hx
  · exact ho
def dkF (s : Setg) (r : Rule) (m u : Nat) : List (Str × D) := [("setting", s.d), ("rule", r.d), ("past", .ref m), ("undone", .ref u)]
theorem kn : (("rule" : Str) == "setting") = false ∧ (("past" : Str) == "setting") = false ∧ (("past" : Str) == "rule") = false ∧ (("undone" : Str) == "setting") = false ∧ (("undone" : Str) == "rule") = false ∧ (("undone" : Str) == "past") = false := by decide +kernel
theorem lk_setting (s : Setg) (r : Rule) (m u : Nat) : (dkF s r m u).lookup ("setting" : Str) = some s.d := by
  unfold dkF; rw [List.lookup_cons]; rfl
theorem lk_rule (s : Setg) (r : Rule) (m u : Nat) : (dkF s r m u).lookup ("rule" : Str) = some r.d := by
  unfold dkF; rw [List.lookup_cons, kn.1, List.lookup_cons]; rfl
theorem lk_past (s : Setg) (r : Rule) (m u : Nat) : (dkF s r m u).lookup ("past" : Str) = some (.ref m) := by
  unfold dkF; rw [List.lookup_cons, kn.2.1, List.lookup_cons, kn.2.2.1, List.lookup_cons]; rfl
theorem lk_undone (s : Setg) (r : Rule) (m u : Nat) : (dkF s r m u).lookup ("undone" : Str) = some (.ref u) := by
  unfold dkF; rw [List.lookup_cons, kn.2.2.2.1, List.lookup_cons, kn.2.2.2.2.1, List.lookup_cons, kn.2.2.2.2.2, List.lookup_cons]; rfl
def noF (x : Str) : Bool := !(x == "setting") && !(x == "rule") && !(x == "past") && !(x == "undone")
theorem lk_no (s : Setg) (r : Rule) (m u : Nat) {x : Str} (h : noF x = true) : (dkF s r m u).lookup x = none := by
  unfold noF at h
  simp only [Bool.and_eq_true, Bool.not_eq_true'] at h
  obtain ⟨⟨⟨h1, h2⟩, h3⟩, h4⟩ := h
  unfold dkF
  rw [List.lookup_cons, h1, List.lookup_cons, h2, List.lookup_cons, h3, List.lookup_cons, h4]; rfl
theorem lk_notes (s : Setg) (r : Rule) (m u : Nat) : (dkF s r m u).lookup ("notes" : Str) = none := lk_no s r m u (by decide +kernel)
theorem lk_rings (s : Setg) (r : Rule) (m u : Nat) : (dkF s r m u).lookup ("rings" : Str) = none := lk_no s r m u (by decide +kernel)
theorem lk_answers (s : Setg) (r : Rule) (m u : Nat) : (dkF s r m u).lookup ("answers" : Str) = none := lk_no s r m u (by decide +kernel)
theorem lk_tick (s : Setg) (r : Rule) (m u : Nat) : (dkF s r m u).lookup ("tick" : Str) = none := lk_no s r m u (by decide +kernel)
theorem lk_open (s : Setg) (r : Rule) (m u : Nat) : (dkF s r m u).lookup ("open_things" : Str) = none := lk_no s r m u (by decide +kernel)
theorem put_undone (s : Setg) (r : Rule) (m u v : Nat) : putD "undone" (.ref v) (dkF s r m u) = dkF s r m v := by
  have k4 := ne_of_beq_false kn.2.2.2.1
  have k5 := ne_of_beq_false kn.2.2.2.2.1
  have k6 := ne_of_beq_false kn.2.2.2.2.2
  unfold dkF putD
  rw [if_neg (Ne.symm k4)]
  unfold putD
  rw [if_neg (Ne.symm k5)]
  unfold putD
  rw [if_neg (Ne.symm k6)]
  unfold putD
  rw [if_pos rfl]
theorem dkF_bd {n : Nat} (s : Setg) (r : Rule) {m u : Nat} (hm : m < n) (hu : u < n) : bdO n (.ins "Desk" (dkF s r m u)) = true := by
  have h1 : D.bd n s.d = true := by simp [Setg.d, D.bd, D.bds]
  have h2 : D.bd n r.d = true := by
    obtain ⟨w, a, b⟩ := r
    cases w <;> simp [Rule.d, D.bd, D.bds]
  show D.bds n [s.d, r.d, .ref m, .ref u] = true
  simp [D.bds, h1, h2, D.bd, hm, hu]
/-- a desk at n, its lists at m and u -/
structure Dk (h : MH) (n m u : Nat) (s : Setg) (r : Rule) (past un : List Int) : Prop where
  ins : h[n]? = some (.ins "Desk" (dkF s r m u))
  pa : h[m]? = some (.lst (past.map D.int))
  un : h[u]? = some (.lst (un.map D.int))
  ne : m ≠ u
  hb : Hb h
theorem anyOf_ref {h : MH} {m : Nat} {xs : List D} (e : h[m]? = some (.lst xs)) : anyOf h (.ref m) = some (xs, isL m xs) := by
  show (match h[m]? with | some (.lst xs) => some (xs, isL m xs) | some (.dct kvs) => some (kvs.map (fun q : D × D => q.1), isD m kvs) | _ => none) = _
  rw [e]
theorem append_ref0 {h : MH} {m : Nat} {l : List D} (y : D) (e : h[m]? = some (.lst l)) (hl : l.length < 16777216) : mAppend (.ref m) [y] h = some (.non, h.set m (.lst (l ++ [y]))) := by
  show (match h[m]? with | some (.lst l) => if l.length < LIM then some (D.non, h.set m (.lst (l ++ [y]))) else none | _ => none) = _
  rw [e]
  exact if_pos hl
theorem forD_invL {α : Type} {enc : α → D} {t : Tg} {b : Sv} {c : MH → Bool} {I : List α → Sg → MH → Prop} (hc : ∀ rest σ h, I rest σ h → c h = true)
    (H : ∀ x rest σ h, I (x :: rest) σ h → ∃ σ1 σ2 h2, t (enc x) σ = some σ1 ∧ (b σ1 h = some (.nx, σ2, h2) ∨ b σ1 h = some (.ct, σ2, h2)) ∧ I rest σ2 h2) :
    ∀ (l : List α) (σ : Sg) (h : MH), I l σ h → ∃ σ' h', forD c t b (l.map enc) σ h = some (.nx, σ', h') ∧ I [] σ' h' := by
  intro l
  induction l with
  | nil => intro σ h hi; exact ⟨σ, h, by rw [List.map_nil, forD_nil, if_pos (hc _ _ _ hi)], hi⟩
  | cons x r ih =>
    intro σ h hi
    obtain ⟨σ1, σ2, h2, e1, e2, e3⟩ := H x r σ h hi
    obtain ⟨σ', h', e4, e5⟩ := ih σ2 h2 e3
    refine ⟨σ', h', ?_, e5⟩
    rw [List.map_cons, forD_cons_, if_pos (hc _ _ _ hi)]
    rcases e2 with e2 | e2 <;> simp only [e1, e2, e4]
section
variable {s : Setg} {r : Rule} (hs : s.ok) (hr : r.ok)
include hs hr
theorem run_Z_p {h : MH} {m : Nat} {as : List Int} (e0 : h[m]? = some (.lst (as.map D.int))) (hb : Hb h) (ha : as.length ≤ 1000) : F_run_Z [s.d, r.d, .ref m] h = some (.lst ((runM s r [] as).map pnD), h) := by
  have hm := (List.getElem?_eq_some_iff.mp e0).1
  have e0' : ∀ acc : List (List Th × Int), (h ++ [MO.lst (acc.map pnD)])[m]? = some (.lst (as.map D.int)) := fun acc => by rw [List.getElem?_append_left hm]; exact e0
  obtain ⟨σ, h', e, p, acc, u, v, e1, e2, e3, e4, e5⟩ := forD_invL (enc := D.int) (t := gN 3) (b := b_run_Z_0) (c := isL m (as.map D.int))
    (I := fun rest σ h' => ∃ p acc u v, σ = [some s.d, some r.d, some (.ref m), u, some (plD p), some (.ref h.length), v] ∧ h' = h ++ [.lst (acc.map pnD)] ∧ p.length ≤ 2 ∧ acc.length + rest.length = as.length ∧ acc ++ runM s r p rest = runM s r [] as)
    (by rintro rest σ h' ⟨p, acc, u, v, rfl, rfl, _⟩; exact decide_eq_true (e0' acc))
    (by
      rintro x rest σ h' ⟨p, acc, u, v, rfl, rfl, e3, e4, e5⟩
      rw [List.length_cons] at e4
      refine ⟨_, [some s.d, some r.d, some (.ref m), some (.int x), some (plD (tickM s r p x).1), some (.ref h.length), some (.int (tickM s r p x).2)], h ++ [.lst ((acc ++ [tickM s r p x]).map pnD)], rfl, .inl ?_, ?_⟩
      · have tp := fun h => tick_p s r p x hs hr e3 h
        have el : (h ++ [MO.lst (acc.map pnD)])[h.length]? = some (.lst (acc.map pnD)) := by simp
        have ap := append_ref0 (pnD (tickM s r p x)) el (by rw [List.length_map]; omega)
        have as_ := asL_lst el
        have es : (h ++ [MO.lst (acc.map pnD)]).set h.length (.lst (acc.map pnD ++ [pnD (tickM s r p x)])) = h ++ [.lst ((acc ++ [tickM s r p x]).map pnD)] := by
          rw [List.set_append_right _ _ (Nat.le_refl _), Nat.sub_self, List.map_append]; rfl
        rw [es] at ap
        have ap : mAppend (.ref h.length) [.tup [plD (tickM s r p x).1, .int (tickM s r p x).2]] (h ++ [MO.lst (acc.map pnD)]) = _ := ap
        generalize h ++ [MO.lst ((acc ++ [tickM s r p x]).map pnD)] = H2 at *
        generalize h ++ [MO.lst (acc.map pnD)] = H1 at *
        generalize h.length = hl at *
        simp [b_run_Z_0, tp, as_, ap]
      · refine ⟨_, _, _, _, rfl, rfl, tick_len s r p x hs e3, by simp; omega, ?_⟩
        rw [← e5, runM]; simp)
    as [some s.d, some r.d, some (.ref m), none, some (plD []), some (.ref h.length), none] (h ++ [.lst []]) ⟨[], [], none, none, rfl, rfl, by simp, by simp, by simp⟩
  have hbg : ∀ h, ePure F_begun [] h = some (plD [], h) := fun h => rfl
  rw [runM, List.append_nil] at e5
  have an := anyOf_ref (e0' [])
  have an : anyOf (h ++ [MO.lst []]) (.ref m) = _ := an
  subst e1 e2
  have er : ∃ σ, k_run_Z [some s.d, some r.d, some (.ref m), none, none, none, none] h = some (.rt (.ref h.length), σ, h ++ [.lst (acc.map pnD)]) := by
    generalize h ++ [MO.lst (acc.map pnD)] = H2 at *
    simp [k_run_Z, hbg, an, e]
  obtain ⟨σ, er⟩ := er
  rw [← e5]
  exact mkZ_ rfl er rfl (frz_ref (xs := acc.map pnD) (ys := acc.map pnD) (Nat.le_refl _) (by simp) (mapO_map fun x _ => frz_tick ..)) (by simp) (by simp) hb
theorem notes_of_Z_p {h : MH} {m : Nat} {as : List Int} (e0 : h[m]? = some (.lst (as.map D.int))) (hb : Hb h) (ha : as.length ≤ 1000) : F_notes_of_Z [s.d, r.d, .ref m] h = some (rowD (notesM s r as), h) := by
  have rp := run_Z_p hs hr e0 hb ha
  have lc : ∀ (a b c d e : Option D) (l : List (List Th × Int)) (h : MH), lcD yes (gT [gN 3, gN 4]) PyD.tYes e_notes_of_Z_0 [a, b, c, d, e] (l.map pnD) h = some ((l.map (·.2)).map D.int, h) := fun a b c d e l h => by
    rw [lcD_map (f := fun x => D.int x.2) (σf := fun x => [a, b, c, some (plD x.1), some (.int x.2)]), List.map_map]; rfl
    · intro x _; simp [pnD]
    · intro x _; simp [e_notes_of_Z_0]
  have e : ∃ σ, k_notes_of_Z [some s.d, some r.d, some (.ref m), none, none] h = some (.rt (rowD (notesM s r as)), σ, h) := by
    have hal : as.length ≤ 16777216 := by omega
    simp [k_notes_of_Z, rp, lc, -List.map_map, run_len, hal, row_fold, notesM]
  obtain ⟨σ, e⟩ := e
  exact mkZ_ rfl e rfl (by rw [rowD]; exact frz_lst (cls_map _ cl_int _)) (List.take_length) (Nat.le_refl _) hb
section
variable {h : MH} {n m u : Nat} {past un : List Int} (dk : Dk h n m u s r past un)
include dk
theorem dk_notes (ha : past.length ≤ 1000) : F_Desk_notes [.ref n] h = some (rowD (notesM s r past), h) := by
  have np := notes_of_Z_p hs hr dk.pa dk.hb ha
  have io := ins_of dk.ins
  have e : ∃ σ, k_Desk_notes [some (.ref n)] h = some (.rt (rowD (notesM s r past)), σ, h) := by
    simp [k_Desk_notes, io, lk_setting, lk_rule, lk_past, np]
  obtain ⟨σ, e⟩ := e
  exact mkZ_ rfl e rfl (by rw [rowD]; exact frz_lst (cls_map _ cl_int _)) (List.take_length) (Nat.le_refl _) dk.hb
theorem dk_rings (ha : past.length ≤ 1000) : F_Desk_rings [.ref n] h = some (.int (notesM s r past).sum, h) := by
  have np := dk_notes hs hr dk ha
  have io := ins_of dk.ins
  have ks : kSum [rowD (notesM s r past)] h = some (.int (notesM s r past).sum, h) := by
    show ((dInts ((notesM s r past).map D.int)).map fun ns => (D.int ns.sum, h)) = _
    rw [dInts_map]; rfl
  have e : ∃ σ, k_Desk_rings [some (.ref n)] h = some (.rt (.int (notesM s r past).sum), σ, h) := by
    generalize rowD (notesM s r past) = ND at *
    simp [k_Desk_rings, io, lk_notes, np, ks]
  obtain ⟨σ, e⟩ := e
  exact mkZ_ rfl e rfl rfl (List.take_length) (Nat.le_refl _) dk.hb
omit hs hr in
theorem dk_answers : F_Desk_answers [.ref n] h = some (rowD past, h) := by
  have io := ins_of dk.ins
  have kl : kListOfF [.ref m] h = some (rowD past, h) := by
    show (asQ h (.ref m)).map _ = _
    rw [show asQ h (.ref m) = some (past.map D.int) by show (match h[m]? with | some (.lst xs) => some xs | _ => none) = _; rw [dk.pa]]; rfl
  have e : ∃ σ, k_Desk_answers [some (.ref n)] h = some (.rt (rowD past), σ, h) := by
    generalize rowD past = ND at *
    simp [k_Desk_answers, io, lk_past, kl]
  obtain ⟨σ, e⟩ := e
  exact mkZ_ rfl e rfl (by rw [rowD]; exact frz_lst (cls_map _ cl_int _)) (List.take_length) (Nat.le_refl _) dk.hb
end
end
end PyD
set_option Elab.async false
set_option linter.all false
set_option maxRecDepth 100000
set_option maxHeartbeats 4000000
/-! MirCB: desks made, ticks played on them. -/
namespace PyD
open PySem (Str NestedKey PyData)
theorem ins_app (h t : MH) (c : Str) (fs : List (Str × D)) : insOf (h ++ .ins c fs :: t) c (.ref h.length) = some (h.length, fs) := ins_of (by simp)
theorem set_app (h t : MH) (x y : MO) : (h ++ x :: t).set h.length y = h ++ y :: t := by
  rw [List.set_append_right _ _ (Nat.le_refl _), Nat.sub_self]; rfl
theorem putf_1 (x : D) : putD "setting" x [] = [(("setting" : Str), x)] := rfl
theorem putf_2 (x y : D) : putD "rule" y [(("setting" : Str), x)] = [(("setting" : Str), x), (("rule" : Str), y)] := by
  have k1 := ne_of_beq_false kn.1
  unfold putD
  rw [if_neg (Ne.symm k1)]; rfl
theorem putf_3 (x y z : D) : putD "past" z [(("setting" : Str), x), (("rule" : Str), y)] = [(("setting" : Str), x), (("rule" : Str), y), (("past" : Str), z)] := by
  have k1 := ne_of_beq_false kn.2.1
  have k2 := ne_of_beq_false kn.2.2.1
  unfold putD
  rw [if_neg (Ne.symm k1)]
  unfold putD
  rw [if_neg (Ne.symm k2)]; rfl
theorem putf_4 (x y z w : D) : putD "undone" w [(("setting" : Str), x), (("rule" : Str), y), (("past" : Str), z)] = [(("setting" : Str), x), (("rule" : Str), y), (("past" : Str), z), (("undone" : Str), w)] := by
  have k4 := ne_of_beq_false kn.2.2.2.1
  have k5 := ne_of_beq_false kn.2.2.2.2.1
  have k6 := ne_of_beq_false kn.2.2.2.2.2
  unfold putD
  rw [if_neg (Ne.symm k4)]
  unfold putD
  rw [if_neg (Ne.symm k5)]
  unfold putD
  rw [if_neg (Ne.symm k6)]; rfl
section
variable {s : Setg} {r : Rule} (hs : s.ok) (hr : r.ok)
include hs hr
theorem dk_init {h : MH} (hb : Hb h) : ∃ h', F_Desk__init_ [.ref h.length, s.d, r.d] (h ++ [.ins "Desk" []]) = some (.non, h') ∧ Dk h' h.length (h.length + 1) (h.length + 2) s r [] [] ∧ (∀ j, j < h.length → h'[j]? = h[j]?) ∧ h'.length = h.length + 3 := by
  have nb := need_both_p s r hs hr
  have e : ∃ σ, k_Desk__init_ [some (.ref h.length), some s.d, some r.d] (h ++ [.ins "Desk" []]) = some (.nx, σ, h ++ [.ins "Desk" (dkF s r (h.length + 1) (h.length + 2)), .lst [], .lst []]) := by
    unfold dkF
    generalize s.d = SD at *
    generalize r.d = RD at *
    simp [k_Desk__init_, nb, ins_app, set_app, putf_1, putf_2, putf_3, putf_4]
  obtain ⟨σ, e⟩ := e
  refine ⟨_, mkFn_ rfl e rfl, ⟨by simp, ?_, ?_, by omega, ?_⟩, fun j hj => List.getElem?_append_left hj, by simp⟩
  · rw [List.getElem?_append_right (by omega)]; simp
  · rw [List.getElem?_append_right (by omega)]; simp
  · have h3 : (h ++ [.ins "Desk" (dkF s r (h.length + 1) (h.length + 2)), .lst [], .lst []] : MH).length = h.length + 3 := by simp
    unfold Hb at *
    rw [h3, List.all_append, Bool.and_eq_true]
    refine ⟨?_, ?_⟩
    · rw [List.all_eq_true] at hb ⊢
      exact fun x hx => bdO_mono (Nat.le_add_right _ _) x (hb x hx)
    · rw [List.all_cons, dkF_bd s r (by omega) (by omega)]; rfl
theorem runM_app (s : Setg) (r : Rule) : ∀ (w : List Int) (p : List Th) (a : Int), runM s r p (w ++ [a]) = runM s r p w ++ [tickM s r (endM s r p w) a]
  | [], _, _ => rfl
  | b :: w, p, a => by
    rw [List.cons_append, runM, runM_app s r w, runM]; rfl
omit hs hr in
theorem notes_snoc (s : Setg) (r : Rule) (w : List Int) (a : Int) : ∀ (p : List Th), (runM s r p (w ++ [a])).map (·.2) = (runM s r p w).map (·.2) ++ [(tickM s r (endM s r p w) a).2] := by
  induction w with
  | nil => intro p; rfl
  | cons b w ih => intro p; rw [List.cons_append, runM, List.map_cons, ih, runM, List.map_cons]; rfl
/-- a tick played on a desk -/
theorem dk_tick {h : MH} {n m u : Nat} {past un : List Int} (dk : Dk h n m u s r past un) {a : Int} (ha : 0 ≤ a ∧ a ≤ 3) (hl : past.length < 40) :
    ∃ h' u', F_Desk_tick [.ref n, .int a] h = some (.int (tickM s r (endM s r [] past) a).2, h') ∧ Dk h' n m u' s r (past ++ [a]) [] ∧ (∀ j, j < h.length → j ≠ n → j ≠ m → h'[j]? = h[j]?) ∧ h.length ≤ h'.length := by
  have io := ins_of dk.ins
  have hn := (List.getElem?_eq_some_iff.mp dk.ins).1
  have hm := (List.getElem?_eq_some_iff.mp dk.pa).1
  have hu := (List.getElem?_eq_some_iff.mp dk.un).1
  have nm : n ≠ m := fun e => by
    have h1 := dk.ins
    rw [e, dk.pa] at h1; cases h1
  have ii := fun h => is_int_p a 0 3 h
  rw [decide_eq_true ha] at ii
  have kl : kLen [.ref m] h = some (.int past.length, h) := by
    show (asQ h (.ref m)).map _ = _
    rw [show asQ h (.ref m) = some (past.map D.int) by show (match h[m]? with | some (.lst xs) => some xs | _ => none) = _; rw [dk.pa]]
    show some (D.int ((past.map D.int).length : Nat), h) = _
    rw [List.length_map]
  have hl40 : ¬ (past.length : Int) = 40 := by omega
  have as_ := asL_lst dk.pa
  have ap := append_ref0 (.int a) dk.pa (by rw [List.length_map]; omega)
  have e1 : past.map D.int ++ [D.int a] = (past ++ [a]).map D.int := by rw [List.map_append]; rfl
  rw [e1] at ap
  have io2 : insOf (h.set m (MO.lst ((past ++ [a]).map D.int)) ++ [.lst []]) "Desk" (.ref n) = some (n, dkF s r m u) := ins_of (by
    rw [List.getElem?_append_left (by rw [List.length_set]; exact hn), List.getElem?_set_ne (Ne.symm nm)]; exact dk.ins)
  have hb2 : Hb (h.set m (MO.lst ((past ++ [a]).map D.int))) := dk.hb.set (bds_int _ _)
  have hb3 : Hb (h.set m (MO.lst ((past ++ [a]).map D.int)) ++ [.lst []]) := hb2.app rfl
  have hl2 : (h.set m (MO.lst ((past ++ [a]).map D.int)) ++ [MO.lst []]).length = h.length + 1 := by simp
  have dk' : Dk ((h.set m (MO.lst ((past ++ [a]).map D.int)) ++ [MO.lst []]).set n (MO.ins "Desk" (dkF s r m h.length))) n m h.length s r (past ++ [a]) [] := by
    refine ⟨List.getElem?_set_self (by rw [hl2]; omega), ?_, ?_, by omega, hb3.set (dkF_bd s r (by rw [hl2]; omega) (by rw [hl2]; omega))⟩
    · rw [List.getElem?_set_ne nm, List.getElem?_append_left (by rw [List.length_set]; exact hm), List.getElem?_set_self hm]
    · rw [List.getElem?_set_ne (by omega), List.getElem?_append_right (by rw [List.length_set]; exact Nat.le_refl _), List.length_set, Nat.sub_self]; rfl
  have np := dk_notes hs hr dk' (by rw [List.length_append]; show past.length + 1 ≤ 1000; omega)
  have io3 := ins_of dk'.ins
  have la : kSub_ (rowD (notesM s r (past ++ [a]))) (.int (-1)) ((h.set m (MO.lst ((past ++ [a]).map D.int)) ++ [MO.lst []]).set n (MO.ins "Desk" (dkF s r m h.length))) = some (.int (tickM s r (endM s r [] past) a).2, (h.set m (MO.lst ((past ++ [a]).map D.int)) ++ [MO.lst []]).set n (MO.ins "Desk" (dkF s r m h.length))) := by
    unfold notesM
    rw [notes_snoc, rowD, kSub_lst, List.map_append]
    show (match L2.atI (_ ++ [D.int _]) (-1) with | none => none | some v => some (v, _)) = _
    rw [atI_last]
  have lk1 := lk_past s r m u
  have lk2 := put_undone s r m u h.length
  have lk3 := lk_notes s r m h.length
  have l4 : (dkF s r m u).length = 4 := rfl
  refine ⟨_, h.length, ?_, dk', fun j h1 h2 h3 => ?_, by simp⟩
  · have hsl : (h.set m (MO.lst ((past ++ [a]).map D.int))).length = h.length := List.length_set
    have e : ∃ σ, k_Desk_tick [some (.ref n), some (.int a)] h = some (.rt (.int (tickM s r (endM s r [] past) a).2), σ, (h.set m (MO.lst ((past ++ [a]).map D.int)) ++ [MO.lst []]).set n (MO.ins "Desk" (dkF s r m h.length))) := by
      generalize hH2 : h.set m (MO.lst ((past ++ [a]).map D.int)) = H2 at *
      generalize dkF s r m u = FS at *
      generalize dkF s r m h.length = FS2 at *
      generalize hH3 : (H2 ++ [MO.lst []]).set n (MO.ins "Desk" FS2) = H3 at *
      generalize rowD (notesM s r (past ++ [a])) = ND at *
      simp [k_Desk_tick, ii, io, lk1, kl, hl40, as_, ap, hsl, io2, l4, lk2, hH3, io3, lk3, np, la]
    obtain ⟨σ, e⟩ := e
    exact mkFn_ rfl e rfl
  · rw [List.getElem?_set_ne (Ne.symm h2), List.getElem?_append_left (by rw [List.length_set]; exact h1), List.getElem?_set_ne (Ne.symm h3)]
/-- the number of open things -/
theorem dk_open {h : MH} {n m u : Nat} {past un : List Int} (dk : Dk h n m u s r past un) (hl : past.length ≤ 1000) : F_Desk_open_things [.ref n] h = some (.int (endM s r [] past).length, h) := by
  have io := ins_of dk.ins
  have rp := run_Z_p hs hr dk.pa dk.hb hl
  have lk1 := lk_setting s r m u
  have lk2 := lk_rule s r m u
  have lk3 := lk_past s r m u
  have bg : ∀ h, ePure F_begun [] h = some (plD [], h) := fun h => rfl
  have e : ∃ σ, k_Desk_open_things [some (.ref n), none] h = some (.rt (.int (endM s r [] past).length), σ, h) := by
    rcases List.eq_nil_or_concat past with rfl | ⟨w, a, rfl⟩
    · have en : ∀ h, dEq h (.lst ((runM s r [] []).map pnD)) (.lst []) = some true := fun h => by
        have := (Eqt.lst Eqt.int).eqG (by decide) h [] []
        exact this
      have kl0 := fun h => kLen_pl h []
      have e0 : (endM s r [] []).length = 0 := rfl
      rw [e0]
      generalize D.lst ((runM s r [] []).map pnD) = RD at *
      generalize dkF s r m u = FS at *
      generalize plD [] = P0 at *
      simp [k_Desk_open_things, io, lk1, lk2, lk3, rp, en, bg, kl0]
    · rw [List.concat_eq_append] at *
      have er : runM s r [] (w ++ [a]) = runM s r [] w ++ [tickM s r (endM s r [] w) a] := runM_app hs hr s r w [] a
      have ee : endM s r [] (w ++ [a]) = (tickM s r (endM s r [] w) a).1 := by
        have key : ∀ (w : List Int) (p : List Th), endM s r p (w ++ [a]) = (tickM s r (endM s r p w) a).1 := by
          intro w
          induction w with
          | nil => intro p; rfl
          | cons b w ih => intro p; exact ih _
        exact key w []
      have en : ∀ h, dEq h (.lst ((runM s r [] (w ++ [a])).map pnD)) (.lst []) = some false := fun h => by
        have := (Eqt.lst (Eqt.pair Eqt.pl Eqt.int)).eqG (by decide) h (runM s r [] (w ++ [a])) []
        have this : dEqG h (.lst ((runM s r [] (w ++ [a])).map pnD)) (.lst []) = _ := this
        show dEqG h (.lst ((runM s r [] (w ++ [a])).map pnD)) (.lst []) = _
        rw [this, er]; simp
      have la : ∀ h, kSub_ (.lst ((runM s r [] (w ++ [a])).map pnD)) (.int (-1)) h = some (pnD (tickM s r (endM s r [] w) a), h) := fun h => by
        rw [er, kSub_lst, List.map_append]
        show (match L2.atI (_ ++ [pnD _]) (-1) with | none => none | some v => some (v, _)) = _
        rw [atI_last]
      have l0 : ∀ h, kSub_ (pnD (tickM s r (endM s r [] w) a)) (.int 0) h = some (plD (tickM s r (endM s r [] w) a).1, h) := fun h => by rw [pnD, kSub_tup]; rfl
      have kl0 := fun h => kLen_pl h (tickM s r (endM s r [] w) a).1
      rw [ee]
      generalize D.lst ((runM s r [] (w ++ [a])).map pnD) = RD at *
      generalize dkF s r m u = FS at *
      generalize pnD (tickM s r (endM s r [] w) a) = PN at *
      generalize plD (tickM s r (endM s r [] w) a).1 = P0 at *
      simp [k_Desk_open_things, io, lk1, lk2, lk3, rp, en, la, l0, kl0]
  obtain ⟨σ, e⟩ := e
  exact mkZ_ rfl e rfl rfl (List.take_length) (Nat.le_refl _) dk.hb
end
end PyD
set_option Elab.async false
set_option linter.all false
set_option maxRecDepth 100000
set_option maxHeartbeats 4000000
/-! MirCC: desks, their lengths, and lists of theirs that are changed. -/
namespace PyD
open PySem (Str NestedKey PyData)
mutual
theorem clB_bd (n : Nat) : ∀ d : D, D.cl d = true → D.bd n d = true
  | .ref k, h => by cases h
  | .tup xs, h => clsB_bd n xs h
  | .lst xs, h => clsB_bd n xs h
  | .dct kvs, h => clkB_bd n kvs h
  | .non, _ => rfl
  | .bl _, _ => rfl
  | .int _, _ => rfl
  | .str _, _ => rfl
  | .scr _, _ => rfl
theorem clsB_bd (n : Nat) : ∀ ds : List D, D.cls ds = true → D.bds n ds = true
  | [], _ => rfl
  | d :: ds, h => by
    rw [D.cls, Bool.and_eq_true] at h
    rw [D.bds, Bool.and_eq_true]
    exact ⟨clB_bd n d h.1, clsB_bd n ds h.2⟩
theorem clkB_bd (n : Nat) : ∀ ks : List (D × D), D.clk ks = true → D.bdk n ks = true
  | [], _ => rfl
  | (k, v) :: ks, h => by
    rw [D.clk, Bool.and_eq_true, Bool.and_eq_true] at h
    rw [D.bdk, Bool.and_eq_true, Bool.and_eq_true]
    exact ⟨⟨clB_bd n k h.1.1, clB_bd n v h.1.2⟩, clkB_bd n ks h.2⟩
end
theorem Tw.hB {h : MH} {t : Nat} (w : Tw h t) : Hb h := by
  obtain ⟨a, b, h1, h2⟩ := w
  unfold Hb
  rw [List.all_eq_true] at h2 ⊢
  intro o ho
  have := h2 o ho
  cases o with
  | lst xs => exact clsB_bd _ xs this
  | dct kvs => exact clkB_bd _ kvs this
  | ins c fs => exact clsB_bd _ _ this
section
variable {σ : Sg} {h : MH} {f : Ev} {c : Str}
@[simp ↓] theorem eLenO_ (F : Fn) : eLenO c F f σ h = match f σ h with
    | none => none
    | some (d, h1) => match insOf h1 c d with
      | none => none
      | some (n, fs) => match F [d] h1 with
        | some (.int n, h2) => if 0 ≤ n ∧ n < 2 ^ 63 then some (.int n, h2) else none
        | _ => none := by
  unfold eLenO
  cases f σ h with
  | none => rfl
  | some p =>
    obtain ⟨d, h1⟩ := p
    show (insOf h1 c d).bind _ = _
    dsimp only
    cases insOf h1 c d with
    | none => rfl
    | some q =>
      obtain ⟨n, fs⟩ := q
      show (F [d] h1).bind _ = _
      dsimp only
      cases F [d] h1 with
      | none => rfl
      | some z => obtain ⟨z, h2⟩ := z; cases z <;> rfl
end
theorem Dk.app {h : MH} {n m u : Nat} {s : Setg} {r : Rule} {past un : List Int} (dk : Dk h n m u s r past un) {o : MO} (ho : bdO (h.length + 1) o = true) : Dk (h ++ [o]) n m u s r past un := by
  have hn := (List.getElem?_eq_some_iff.mp dk.ins).1
  have hm := (List.getElem?_eq_some_iff.mp dk.pa).1
  have hu := (List.getElem?_eq_some_iff.mp dk.un).1
  exact ⟨by rw [List.getElem?_append_left hn]; exact dk.ins, by rw [List.getElem?_append_left hm]; exact dk.pa, by rw [List.getElem?_append_left hu]; exact dk.un, dk.ne, dk.hb.app ho⟩
section
variable {s : Setg} {r : Rule} (hs : s.ok) (hr : r.ok) {h : MH} {n m u : Nat} {past un : List Int} (dk : Dk h n m u s r past un)
include dk
theorem dk_len : F_Desk__len_ [.ref n] h = some (.int past.length, h) := by
  have io := ins_of dk.ins
  have lk := lk_past s r m u
  have kl : kLen [.ref m] h = some (.int past.length, h) := by
    show (asQ h (.ref m)).map _ = _
    rw [show asQ h (.ref m) = some (past.map D.int) by show (match h[m]? with | some (.lst xs) => some xs | _ => none) = _; rw [dk.pa]]
    show some (D.int ((past.map D.int).length : Nat), h) = _
    rw [List.length_map]
  have e : ∃ σ, k_Desk__len_ [some (.ref n)] h = some (.rt (.int past.length), σ, h) := by
    generalize dkF s r m u = FS at *
    simp [k_Desk__len_, io, lk, kl]
  obtain ⟨σ, e⟩ := e
  exact mkZ_ rfl e rfl rfl (List.take_length) (Nat.le_refl _) dk.hb
theorem dk_answers_R : F_Desk_answers_R [.ref n] h = some (.ref h.length, h ++ [.lst (past.map D.int)]) := by
  have io := ins_of dk.ins
  have lk := lk_past s r m u
  have kl : kListOf [.ref m] h = some (.ref h.length, h ++ [.lst (past.map D.int)]) := by
    show (asQ h (.ref m)).map _ = _
    rw [show asQ h (.ref m) = some (past.map D.int) by show (match h[m]? with | some (.lst xs) => some xs | _ => none) = _; rw [dk.pa]]; rfl
  have e : ∃ σ, k_Desk_answers_R [some (.ref n)] h = some (.rt (.ref h.length), σ, h ++ [.lst (past.map D.int)]) := by
    generalize h ++ [MO.lst (past.map D.int)] = H1 at *
    generalize dkF s r m u = FS at *
    simp [k_Desk_answers_R, io, lk, kl]
  obtain ⟨σ, e⟩ := e
  exact mkFn_ rfl e rfl
include hs hr
theorem dk_notes_R (ha : past.length ≤ 1000) : F_Desk_notes_R [.ref n] h = some (.ref h.length, h ++ [.lst ((notesM s r past).map D.int)]) := by
  have rp := run_Z_p hs hr dk.pa dk.hb ha
  have lc : ∀ (a b c d e : Option D) (l : List (List Th × Int)) (h : MH), lcD yes (gT [gN 3, gN 4]) PyD.tYes e_notes_of_R_0 [a, b, c, d, e] (l.map pnD) h = some ((l.map (·.2)).map D.int, h) := fun a b c d e l h => by
    rw [lcD_map (f := fun x => D.int x.2) (σf := fun x => [a, b, c, some (plD x.1), some (.int x.2)]), List.map_map]; rfl
    · intro x _; simp [pnD]
    · intro x _; simp [e_notes_of_R_0]
  have np : F_notes_of_R [s.d, r.d, .ref m] h = some (.ref h.length, h ++ [.lst ((notesM s r past).map D.int)]) := by
    have e : ∃ σ, k_notes_of_R [some s.d, some r.d, some (.ref m), none, none] h = some (.rt (.ref h.length), σ, h ++ [.lst ((notesM s r past).map D.int)]) := by
      have hal : past.length ≤ 16777216 := by omega
      simp [k_notes_of_R, rp, lc, -List.map_map, run_len, hal, notesM]
    obtain ⟨σ, e⟩ := e
    exact mkFn_ rfl e rfl
  have io := ins_of dk.ins
  have lk1 := lk_setting s r m u
  have lk2 := lk_rule s r m u
  have lk3 := lk_past s r m u
  have e : ∃ σ, k_Desk_notes_R [some (.ref n)] h = some (.rt (.ref h.length), σ, h ++ [.lst ((notesM s r past).map D.int)]) := by
    generalize h ++ [MO.lst ((notesM s r past).map D.int)] = H1 at *
    generalize dkF s r m u = FS at *
    simp [k_Desk_notes_R, io, lk1, lk2, lk3, np]
  obtain ⟨σ, e⟩ := e
  exact mkFn_ rfl e rfl
end
end PyD
set_option Elab.async false
set_option linter.all false
set_option maxRecDepth 100000
set_option maxHeartbeats 4000000
/-! M26: desks. -/
namespace PyD
open PySem (Str NestedKey PyData)
theorem law26_body (ns : List Int) : ∃ σ h, k_law_k26 ([some (.scr ns)] ++ List.replicate (10 - 1) none) [] = some (.rt (.bl true), σ, h) := by
  obtain ⟨s, g1, hs, d1, q1⟩ := setting_ ns _ 0 tw0
  have w1 := d1.tw tw0
  obtain ⟨r, g2, hr, d2, q2⟩ := rule_ ns _ 0 w1
  have w2 := d2.tw w1
  obtain ⟨l, g3, o1, l40, d3, q3⟩ := answers_ ns 40 _ 0 w2 (by decide) (by decide)
  have w3 := d3.tw w2
  obtain ⟨h4, di, dk, -, -⟩ := dk_init hs hr w3.hB
  have e_len := dk_len dk
  have e_ans := dk_answers dk
  have e_not := dk_notes hs hr dk (by decide)
  have e_opn := dk_open hs hr dk (by decide)
  have e_rng := dk_rings hs hr dk (by decide)
  have io := ins_of dk.ins
  have f1 := lk_answers s r (g3.length + 1) (g3.length + 2)
  have f2 := lk_notes s r (g3.length + 1) (g3.length + 2)
  have f3 := lk_open s r (g3.length + 1) (g3.length + 2)
  have f4 := lk_rings s r (g3.length + 1) (g3.length + 2)
  have na := notes_along_p s r l hs hr o1
  have oa := opens_along_p s r l hs hr o1
  -- the loop
  have L := forD_idx (t := gT [gN 8, gN 9]) (b := b_law_k26_0) (xs := enumD l)
    (I := fun i σ h => ∃ x8 x9 u, σ = [some (.scr ns), some (.ref 0), some s.d, some r.d, some (rowD l), some (.ref g3.length), some (rowD (notesM s r l)), some (rowD (opensM s r l)), x8, x9] ∧ Dk h g3.length (g3.length + 1) u s r (l.take i) [])
    (by
      rintro i x σ h hx ⟨x8, x9, u, rfl, dk⟩
      obtain ⟨a, ha, rfl⟩ := enum_get l i x hx
      have hi := (List.getElem?_eq_some_iff.mp ha).1
      have hal := o1.2 a (List.mem_of_getElem? ha)
      have htl : (l.take i).length = i := by rw [List.length_take]; omega
      obtain ⟨h', u', e, dk', -, -⟩ := dk_tick hs hr dk hal (by rw [htl]; omega)
      have et : l.take i ++ [a] = l.take (i + 1) := by rw [List.take_add_one, ha]; rfl
      rw [et] at dk'
      have op := dk_open hs hr dk' (by rw [List.length_take]; omega)
      rw [end_succ s r [] l i a ha] at op
      have n1 : ∀ h, kSub_ (rowD (notesM s r l)) (.int i) h = some (.int (tickM s r (endM s r [] (l.take i)) a).2, h) := fun h => row_get h _ i _ (notes_get s r l i a ha)
      have n2 : ∀ h, kSub_ (rowD (opensM s r l)) (.int i) h = some (.int (tickM s r (endM s r [] (l.take i)) a).1.length, h) := fun h => row_get h _ i _ (opens_get s r l i a ha)
      have io := ins_of dk.ins
      have io' := ins_of dk'.ins
      have k1 := lk_tick s r (g3.length + 1) u
      have k2 := lk_open s r (g3.length + 1) u'
      refine ⟨_, _, h', rfl, .inl ?_, some (.int i), some (.int a), u', rfl, dk'⟩
      generalize dkF s r (g3.length + 1) u = FS at *
      generalize dkF s r (g3.length + 1) u' = FS' at *
      generalize rowD (notesM s r l) = N1 at *
      generalize rowD (opensM s r l) = N2 at *
      generalize rowD l = N3 at *
      generalize (tickM s r (endM s r [] (l.take i)) a) = TM at *
      simp [b_law_k26_0, io, k1, e, n1, io', k2, op, n2])
    0 [some (.scr ns), some (.ref 0), some s.d, some r.d, some (rowD l), some (.ref g3.length), some (rowD (notesM s r l)), some (rowD (opensM s r l)), none, none] h4 ⟨none, none, _, rfl, by simpa using dk⟩ (Nat.zero_le _)
  obtain ⟨σ', h5, el, x8, x9, u5, rfl, dk5⟩ := L
  rw [List.drop_zero] at el
  rw [enum_len, List.take_length] at dk5
  have l40' : l.length ≤ 40 := by omega
  have en : ∀ σ h, σ[4]? = some (some (rowD l)) → PyD.iEnum (eVar 4) σ h = some (enumD l, yes, h) := fun σ h e1 => enum_ l (by simp [e1])
  -- answers().append(9)
  have a1 := dk_answers_R dk5
  have dk6 : Dk (h5 ++ [.lst ((l ++ [9]).map D.int)]) g3.length (g3.length + 1) u5 s r l [] := dk5.app (bds_int _ _)
  have at1 : (h5 ++ [MO.lst (l.map D.int)])[h5.length]? = some (.lst (l.map D.int)) := by simp
  have as1 := asL_lst at1
  have ap1 := append_ref0 (.int 9) at1 (by rw [List.length_map]; omega)
  have es1 : (h5 ++ [MO.lst (l.map D.int)]).set h5.length (.lst (l.map D.int ++ [.int 9])) = h5 ++ [.lst ((l ++ [9]).map D.int)] := by
    rw [set_app, List.map_append]; rfl
  rw [es1] at ap1
  have a2 := dk_notes_R hs hr dk6 (by omega)
  have hnl := notes_len s r l
  obtain ⟨h6, hh6⟩ : ∃ h6, h6 = h5 ++ [MO.lst ((l ++ [9]).map D.int)] := ⟨_, rfl⟩
  rw [← hh6] at dk6 a2 ap1
  have dk7 : Dk (h6 ++ [.lst ((notesM s r l ++ [9]).map D.int)]) g3.length (g3.length + 1) u5 s r l [] := dk6.app (bds_int _ _)
  have at2 : (h6 ++ [MO.lst ((notesM s r l).map D.int)])[h6.length]? = some (.lst ((notesM s r l).map D.int)) := by simp
  have as2 := asL_lst at2
  have ap2 := append_ref0 (.int 9) at2 (by rw [List.length_map]; omega)
  have es2 : (h6 ++ [MO.lst ((notesM s r l).map D.int)]).set h6.length (.lst ((notesM s r l).map D.int ++ [.int 9])) = h6 ++ [.lst ((notesM s r l ++ [9]).map D.int)] := by
    rw [set_app, List.map_append]; rfl
  rw [es2] at ap2
  obtain ⟨h7, hh7⟩ : ∃ h7, h7 = h6 ++ [MO.lst ((notesM s r l ++ [9]).map D.int)] := ⟨_, rfl⟩
  rw [← hh7] at dk7 ap2
  have io5 := ins_of dk5.ins
  have io6 := ins_of dk6.ins
  have io7 := ins_of dk7.ins
  have g1' := lk_answers s r (g3.length + 1) u5
  have g2' := lk_notes s r (g3.length + 1) u5
  have g4' := lk_rings s r (g3.length + 1) u5
  have e_len7 := dk_len dk7
  have e_ans7 := dk_answers dk7
  have e_not7 := dk_notes hs hr dk7 (by omega)
  have e_rng7 := dk_rings hs hr dk7 (by omega)
  have re : ∀ h (a : List Int), dEq h (rowD a) (rowD a) = some true := fun h a => by rw [row_eq, decide_eq_true rfl]
  have re1 := fun h => re h l
  have re2 := fun h => re h (notesM s r l)
  have re0 := fun h => re h []
  have re0 : ∀ h, dEq h (rowD []) (.lst []) = some true := re0
  have kl := fun h => kLen_row h l
  have ks : ∀ h, kSum [rowD (notesM s r l)] h = some (.int (notesM s r l).sum, h) := fun h => by
    show ((dInts ((notesM s r l).map D.int)).map fun ns => (D.int ns.sum, h)) = _
    rw [dInts_map]; rfl
  have n0 : notesM s r [] = [] := rfl
  have z0 : (endM s r [] []).length = 0 := rfl
  rw [n0] at e_not e_rng
  rw [z0] at e_opn
  have s0 : ([] : List Int).sum = 0 := rfl
  rw [s0] at e_rng
  have ll0 : ([] : List Int).length = 0 := rfl
  rw [ll0] at e_len
  have hl63 : (l.length : Int) < 9223372036854775808 := by omega
  clear hh6 hh7 es1 es2 at1 at2 hnl n0 z0
  generalize (notesM s r l).sum = NS at *
  generalize h5 ++ [MO.lst (l.map D.int)] = H5 at *
  generalize h6 ++ [MO.lst ((notesM s r l).map D.int)] = H6 at *
  generalize enumD l = EL at *
  generalize rowD (notesM s r l) = N1 at *
  generalize rowD (opensM s r l) = N2 at *
  generalize rowD l = N3 at *
  generalize rowD [] = N0 at *
  generalize dkF s r (g3.length + 1) (g3.length + 2) = FS at *
  generalize dkF s r (g3.length + 1) u5 = FS5 at *
  generalize hGL : g3.length = GL at *
  generalize hH5 : h5.length = L5 at *
  generalize hH6 : h6.length = L6 at *
  generalize hLL : (l.length : Int) = LL at *
  have hLL0 : 0 ≤ LL := by omega
  simp [k_law_k26, q1, q2, q3, hGL, di, io, e_len, e_ans, e_not, e_opn, e_rng, f1, f2, f3, f4, re0, na, oa, en, el, io5, g1', a1, as1, ap1, io6, g2', a2, as2, ap2, io7, e_ans7, e_not7, e_len7, re1, re2, kl, hLL0, hl63, g4', e_rng7, ks]
theorem law26 : ∀ ns : List Int, ns.length ≤ 63 → ∃ h, F_law_k26 [.scr ns] [] = some (.bl true, h) := by
  intro ns _
  obtain ⟨σ, h, e⟩ := law26_body ns
  exact law_of e
end PyD
set_option Elab.async false
set_option linter.all false
set_option maxRecDepth 100000
set_option maxHeartbeats 8000000
/-! The proof that the defs of the text are their evaluators. Printed by gen.py. -/
namespace PyL
open PySem PySem.Spec PyProof.Rows L2 PyD
def topS (i : Nat) : Stmt := PySem.Challenge.pw_remindrules_k26_whole_desks.main.body.getD i (.Pass ⟨0, 0, 0, 0⟩)
abbrev s_is_int : Stmt := topS 11
abbrev N_is_int : List Str := ["value", "least", "most"]
theorem sc_is_int : FnScope N_is_int ["value", "least", "most"] (defScope s_is_int) := ⟨rfl, rfl, rfl, by decide +kernel, rfl, by decide +kernel, by decide +kernel⟩
abbrev s_is_setting : Stmt := topS 12
abbrev N_is_setting : List Str := ["candidate"]
theorem sc_is_setting : FnScope N_is_setting ["candidate"] (defScope s_is_setting) := ⟨rfl, rfl, rfl, by decide +kernel, rfl, by decide +kernel, by decide +kernel⟩
abbrev s_is_rule : Stmt := topS 13
abbrev N_is_rule : List Str := ["candidate"]
theorem sc_is_rule : FnScope N_is_rule ["candidate"] (defScope s_is_rule) := ⟨rfl, rfl, rfl, by decide +kernel, rfl, by decide +kernel, by decide +kernel⟩
abbrev s_are_answers : Stmt := topS 14
abbrev N_are_answers : List Str := ["candidate", "one"]
theorem sc_are_answers : FnScope N_are_answers ["candidate"] (defScope s_are_answers) := ⟨rfl, rfl, rfl, by decide +kernel, rfl, by decide +kernel, by decide +kernel⟩
abbrev s_need_setting : Stmt := topS 15
abbrev N_need_setting : List Str := ["value"]
theorem sc_need_setting : FnScope N_need_setting ["value"] (defScope s_need_setting) := ⟨rfl, rfl, rfl, by decide +kernel, rfl, by decide +kernel, by decide +kernel⟩
abbrev s_need_rule : Stmt := topS 16
abbrev N_need_rule : List Str := ["value"]
theorem sc_need_rule : FnScope N_need_rule ["value"] (defScope s_need_rule) := ⟨rfl, rfl, rfl, by decide +kernel, rfl, by decide +kernel, by decide +kernel⟩
abbrev s_need_both : Stmt := topS 17
abbrev N_need_both : List Str := ["setting", "rule"]
theorem sc_need_both : FnScope N_need_both ["setting", "rule"] (defScope s_need_both) := ⟨rfl, rfl, rfl, by decide +kernel, rfl, by decide +kernel, by decide +kernel⟩
abbrev s_need_answers : Stmt := topS 18
abbrev N_need_answers : List Str := ["value"]
theorem sc_need_answers : FnScope N_need_answers ["value"] (defScope s_need_answers) := ⟨rfl, rfl, rfl, by decide +kernel, rfl, by decide +kernel, by decide +kernel⟩
abbrev s_begun : Stmt := topS 21
abbrev N_begun : List Str := []
theorem sc_begun : FnScope N_begun [] (defScope s_begun) := ⟨rfl, rfl, rfl, by decide +kernel, rfl, by decide +kernel, by decide +kernel⟩
abbrev s_gap_of : Stmt := topS 22
abbrev N_gap_of : List Str := ["rule", "times", "word", "number"]
theorem sc_gap_of : FnScope N_gap_of ["rule", "times"] (defScope s_gap_of) := ⟨rfl, rfl, rfl, by decide +kernel, rfl, by decide +kernel, by decide +kernel⟩
abbrev s_answered : Stmt := topS 23
abbrev N_answered : List Str := ["setting", "rule", "place", "answer", "changed", "left", "times", "rang"]
theorem sc_answered : FnScope N_answered ["setting", "rule", "place", "answer"] (defScope s_answered) := ⟨rfl, rfl, rfl, by decide +kernel, rfl, by decide +kernel, by decide +kernel⟩
abbrev s_tick : Stmt := topS 24
abbrev N_tick : List Str := ["setting", "rule", "place", "answer", "found", "many", "left", "times", "rang"]
theorem sc_tick : FnScope N_tick ["setting", "rule", "place", "answer"] (defScope s_tick) := ⟨rfl, rfl, rfl, by decide +kernel, rfl, by decide +kernel, by decide +kernel⟩
abbrev s_run : Stmt := topS 25
abbrev N_run : List Str := ["setting", "rule", "answers", "answer", "place", "found", "note"]
theorem sc_run : FnScope N_run ["setting", "rule", "answers"] (defScope s_run) := ⟨rfl, rfl, rfl, by decide +kernel, rfl, by decide +kernel, by decide +kernel⟩
abbrev s_need_run : Stmt := topS 26
abbrev N_need_run : List Str := ["setting", "rule", "answers"]
theorem sc_need_run : FnScope N_need_run ["setting", "rule", "answers"] (defScope s_need_run) := ⟨rfl, rfl, rfl, by decide +kernel, rfl, by decide +kernel, by decide +kernel⟩
abbrev s_notes_of : Stmt := topS 27
abbrev N_notes_of : List Str := ["setting", "rule", "answers", "place", "note"]
theorem sc_notes_of : FnScope N_notes_of ["setting", "rule", "answers"] (defScope s_notes_of) := ⟨rfl, rfl, rfl, by decide +kernel, rfl, by decide +kernel, by decide +kernel⟩
abbrev s_notes_along : Stmt := topS 28
abbrev N_notes_along : List Str := ["setting", "rule", "answers"]
theorem sc_notes_along : FnScope N_notes_along ["setting", "rule", "answers"] (defScope s_notes_along) := ⟨rfl, rfl, rfl, by decide +kernel, rfl, by decide +kernel, by decide +kernel⟩
abbrev s_opens_along : Stmt := topS 29
abbrev N_opens_along : List Str := ["setting", "rule", "answers", "place", "note"]
theorem sc_opens_along : FnScope N_opens_along ["setting", "rule", "answers"] (defScope s_opens_along) := ⟨rfl, rfl, rfl, by decide +kernel, rfl, by decide +kernel, by decide +kernel⟩
abbrev s_law_draw : Stmt := topS 33
abbrev N_law_draw : List Str := ["_law_script", "_law_town", "_law_many", "_law_at", "_law_mixed", "_law_one"]
theorem sc_law_draw : FnScope N_law_draw ["_law_script", "_law_town", "_law_many"] (defScope s_law_draw) := ⟨rfl, rfl, rfl, by decide +kernel, rfl, by decide +kernel, by decide +kernel⟩
abbrev s_law_pick : Stmt := topS 34
abbrev N_law_pick : List Str := ["_law_script", "_law_town", "_law_some"]
theorem sc_law_pick : FnScope N_law_pick ["_law_script", "_law_town", "_law_some"] (defScope s_law_pick) := ⟨rfl, rfl, rfl, by decide +kernel, rfl, by decide +kernel, by decide +kernel⟩
abbrev s_law_setting : Stmt := topS 35
abbrev N_law_setting : List Str := ["_law_script", "_law_town"]
theorem sc_law_setting : FnScope N_law_setting ["_law_script", "_law_town"] (defScope s_law_setting) := ⟨rfl, rfl, rfl, by decide +kernel, rfl, by decide +kernel, by decide +kernel⟩
abbrev s_law_rule : Stmt := topS 36
abbrev N_law_rule : List Str := ["_law_script", "_law_town", "_law_word", "_law_number"]
theorem sc_law_rule : FnScope N_law_rule ["_law_script", "_law_town"] (defScope s_law_rule) := ⟨rfl, rfl, rfl, by decide +kernel, rfl, by decide +kernel, by decide +kernel⟩
abbrev s_law_answers : Stmt := topS 37
abbrev N_law_answers : List Str := ["_law_script", "_law_town", "_law_most", "_law_turn", "_law_quiet", "_law_row", "_law_answer"]
theorem sc_law_answers : FnScope N_law_answers ["_law_script", "_law_town", "_law_most"] (defScope s_law_answers) := ⟨rfl, rfl, rfl, by decide +kernel, rfl, by decide +kernel, by decide +kernel⟩
abbrev s_Desk__init_ : Stmt := inClass (topS 31) 0
abbrev N_Desk__init_ : List Str := ["self", "setting", "rule"]
theorem sc_Desk__init_ : FnScope N_Desk__init_ ["self", "setting", "rule"] (defScope s_Desk__init_) := ⟨rfl, rfl, rfl, by decide +kernel, rfl, by decide +kernel, by decide +kernel⟩
abbrev s_Desk__len_ : Stmt := inClass (topS 31) 10
abbrev N_Desk__len_ : List Str := ["self"]
theorem sc_Desk__len_ : FnScope N_Desk__len_ ["self"] (defScope s_Desk__len_) := ⟨rfl, rfl, rfl, by decide +kernel, rfl, by decide +kernel, by decide +kernel⟩
abbrev s_run_Z : Stmt := topS 25
abbrev N_run_Z : List Str := ["setting", "rule", "answers", "answer", "place", "found", "note"]
theorem sc_run_Z : FnScope N_run_Z ["setting", "rule", "answers"] (defScope s_run_Z) := ⟨rfl, rfl, rfl, by decide +kernel, rfl, by decide +kernel, by decide +kernel⟩
abbrev s_notes_of_Z : Stmt := topS 27
abbrev N_notes_of_Z : List Str := ["setting", "rule", "answers", "place", "note"]
theorem sc_notes_of_Z : FnScope N_notes_of_Z ["setting", "rule", "answers"] (defScope s_notes_of_Z) := ⟨rfl, rfl, rfl, by decide +kernel, rfl, by decide +kernel, by decide +kernel⟩
abbrev s_Desk_notes : Stmt := inClass (topS 31) 3
abbrev N_Desk_notes : List Str := ["self"]
theorem sc_Desk_notes : FnScope N_Desk_notes ["self"] (defScope s_Desk_notes) := ⟨rfl, rfl, rfl, by decide +kernel, rfl, by decide +kernel, by decide +kernel⟩
abbrev s_Desk_rings : Stmt := inClass (topS 31) 5
abbrev N_Desk_rings : List Str := ["self"]
theorem sc_Desk_rings : FnScope N_Desk_rings ["self"] (defScope s_Desk_rings) := ⟨rfl, rfl, rfl, by decide +kernel, rfl, by decide +kernel, by decide +kernel⟩
abbrev s_Desk_answers : Stmt := inClass (topS 31) 2
abbrev N_Desk_answers : List Str := ["self"]
theorem sc_Desk_answers : FnScope N_Desk_answers ["self"] (defScope s_Desk_answers) := ⟨rfl, rfl, rfl, by decide +kernel, rfl, by decide +kernel, by decide +kernel⟩
abbrev s_Desk_open_things : Stmt := inClass (topS 31) 4
abbrev N_Desk_open_things : List Str := ["self", "found"]
theorem sc_Desk_open_things : FnScope N_Desk_open_things ["self"] (defScope s_Desk_open_things) := ⟨rfl, rfl, rfl, by decide +kernel, rfl, by decide +kernel, by decide +kernel⟩
abbrev s_Desk_answers_R : Stmt := inClass (topS 31) 2
abbrev N_Desk_answers_R : List Str := ["self"]
theorem sc_Desk_answers_R : FnScope N_Desk_answers_R ["self"] (defScope s_Desk_answers_R) := ⟨rfl, rfl, rfl, by decide +kernel, rfl, by decide +kernel, by decide +kernel⟩
abbrev s_notes_of_R : Stmt := topS 27
abbrev N_notes_of_R : List Str := ["setting", "rule", "answers", "place", "note"]
theorem sc_notes_of_R : FnScope N_notes_of_R ["setting", "rule", "answers"] (defScope s_notes_of_R) := ⟨rfl, rfl, rfl, by decide +kernel, rfl, by decide +kernel, by decide +kernel⟩
abbrev s_Desk_notes_R : Stmt := inClass (topS 31) 3
abbrev N_Desk_notes_R : List Str := ["self"]
theorem sc_Desk_notes_R : FnScope N_Desk_notes_R ["self"] (defScope s_Desk_notes_R) := ⟨rfl, rfl, rfl, by decide +kernel, rfl, by decide +kernel, by decide +kernel⟩
abbrev s_Desk_tick : Stmt := inClass (topS 31) 1
abbrev N_Desk_tick : List Str := ["self", "answer"]
theorem sc_Desk_tick : FnScope N_Desk_tick ["self", "answer"] (defScope s_Desk_tick) := ⟨rfl, rfl, rfl, by decide +kernel, rfl, by decide +kernel, by decide +kernel⟩
abbrev s_law : Stmt := topS 38
abbrev N_law : List Str := ["_law_script", "_law_town", "_law_setting_here", "_law_rule_here", "_law_answers_here", "_law_desk", "_law_notes", "_law_opens", "_law_at", "_law_answer"]
theorem sc_law : FnScope N_law ["_law_script"] (defScope s_law) := ⟨rfl, rfl, rfl, by decide +kernel, rfl, by decide +kernel, by decide +kernel⟩
section
variable {P : Program} {w : World} {K : PySem.W.Frag} {mg : Str → Option Value} {base : Heap}
theorem d_is_int {f : Addr} {fd : FuncData} (F : L2.Fun K "is_int" "is_int" s_is_int f fd) (hb : Binds K fd ["value", "least", "most"] []) (hm : mg "is_int" = some (.ref f)) (z_isinstance : mg "isinstance" = none) (z_bool : mg "bool" = none) (z_int : mg "int" = none) : Def P w K mg base 1 "is_int" (ePure F_is_int) :=
  (def_ok (N := N_is_int) (b := k_is_int) F sc_is_int hb hm fun cdv A outer s H E hr => by
    have sc := sc_is_int
    exact ss_one (ss_ret (se_and (se_isT (by rfl) z_isinstance (by rfl) z_int (by decide +kernel) (se_var 0)) (se_and (se_not (se_isT (by rfl) z_isinstance (by rfl) z_bool (by decide +kernel) (se_var 0))) (se_one (se_chain (od_le) (od_le) (se_var 1) (se_var 0) (se_var 2) (by with_unfolding_all rfl))))))).pure
theorem d_is_setting {f : Addr} {fd : FuncData} (F : L2.Fun K "is_setting" "is_setting" s_is_setting f fd) (hb : Binds K fd ["candidate"] []) (hm : mg "is_setting" = some (.ref f)) (c_is_int : Def P w K mg base 1 "is_int" (ePure F_is_int)) (z_len : mg "len" = none) (z_isinstance : mg "isinstance" = none) (z_tuple : mg "tuple" = none) : Def P w K mg base 2 "is_setting" (ePure F_is_setting) :=
  (def_ok (N := N_is_setting) (b := k_is_setting) F sc_is_setting hb hm fun cdv A outer s H E hr => by
    have sc := sc_is_setting
    exact ss_cons (ss_if (st_bool (sw_or (st_not (st_val (se_isT (by rfl) z_isinstance (by rfl) z_tuple (by decide +kernel) (se_var 0)))) (sw_or1 (st_cmp (od_ne (r64 hr)) (se_callB (cd_len) (by rfl) z_len (by decide +kernel) (sa_cons (se_var 0) sa_nil)) (se_int) (nomark _))))) (ss_one (ss_ret (se_bl))) (ss_nil)) (ss_one (ss_ret (se_and (se_call (c_is_int.mono (by decide)) hr (by rfl) (sa_cons (se_ix (od_sub_ (r64 hr)) (se_var 0) (se_int) (fun _ _ => rfl)) (sa_cons (se_int) (sa_cons (se_int) sa_nil)))) (se_one (se_call (c_is_int.mono (by decide)) hr (by rfl) (sa_cons (se_ix (od_sub_ (r64 hr)) (se_var 0) (se_int) (fun _ _ => rfl)) (sa_cons (se_int) (sa_cons (se_int) sa_nil))))))))).pure
theorem d_is_rule {f : Addr} {fd : FuncData} (F : L2.Fun K "is_rule" "is_rule" s_is_rule f fd) (hb : Binds K fd ["candidate"] []) (hm : mg "is_rule" = some (.ref f)) (c_is_int : Def P w K mg base 1 "is_int" (ePure F_is_int)) (z_len : mg "len" = none) (z_isinstance : mg "isinstance" = none) (z_str : mg "str" = none) (z_tuple : mg "tuple" = none) (G_PLAIN : GTup K mg "PLAIN" ["every", "quiet", "slower", "sooner"]) : Def P w K mg base 2 "is_rule" (ePure F_is_rule) :=
  (def_ok (N := N_is_rule) (b := k_is_rule) F sc_is_rule hb hm fun cdv A outer s H E hr => by
    have sc := sc_is_rule
    exact ss_cons (ss_if (st_bool (sw_or (st_not (st_val (se_isT (by rfl) z_isinstance (by rfl) z_tuple (by decide +kernel) (se_var 0)))) (sw_or (st_cmp (od_lt) (se_callB (cd_len) (by rfl) z_len (by decide +kernel) (sa_cons (se_var 0) sa_nil)) (se_int) (nomark _)) (sw_or1 (st_not (st_val (se_isT (by rfl) z_isinstance (by rfl) z_str (by decide +kernel) (se_ix (od_sub_ (r64 hr)) (se_var 0) (se_int) (fun _ _ => rfl))))))))) (ss_one (ss_ret (se_bl))) (ss_nil)) (ss_cons (ss_if (st_not (st_val (se_call (c_is_int.mono (by decide)) hr (by rfl) (sa_cons (se_ix (od_sub_ (r64 hr)) (se_var 0) (se_int) (fun _ _ => rfl)) (sa_cons (se_int) (sa_cons (se_int) sa_nil)))))) (ss_one (ss_ret (se_bl))) (ss_nil)) (ss_cons (ss_if (st_cmp (od_in_ (r65 hr)) (se_ix (od_sub_ (r64 hr)) (se_var 0) (se_int) (fun _ _ => rfl)) (se_gt G_PLAIN (by rfl)) (by rfl)) (ss_one (ss_ret (se_cmp (od_eq (r64 hr)) (se_callB (cd_len) (by rfl) z_len (by decide +kernel) (sa_cons (se_var 0) sa_nil)) (se_int) (nomark _)))) (ss_nil)) (ss_one (ss_ret (se_and (se_cmp (od_eq (r64 hr)) (se_ix (od_sub_ (r64 hr)) (se_var 0) (se_int) (fun _ _ => rfl)) (se_str) (nomark _)) (se_and (se_cmp (od_eq (r64 hr)) (se_callB (cd_len) (by rfl) z_len (by decide +kernel) (sa_cons (se_var 0) sa_nil)) (se_int) (nomark _)) (se_one (se_call (c_is_int.mono (by decide)) hr (by rfl) (sa_cons (se_ix (od_sub_ (r64 hr)) (se_var 0) (se_int) (fun _ _ => rfl)) (sa_cons (se_int) (sa_cons (se_int) sa_nil)))))))))))).pure
theorem d_are_answers {f : Addr} {fd : FuncData} (F : L2.Fun K "are_answers" "are_answers" s_are_answers f fd) (hb : Binds K fd ["candidate"] []) (hm : mg "are_answers" = some (.ref f)) (c_is_int : Def P w K mg base 1 "is_int" (ePure F_is_int)) (z_all : mg "all" = none) (z_len : mg "len" = none) (z_isinstance : mg "isinstance" = none) (z_list : mg "list" = none) {t_LONGEST : Tok} (m_LONGEST : mg "LONGEST" = some (.int 40 t_LONGEST)) : Def P w K mg base 2 "are_answers" (ePure F_are_answers) :=
  (def_ok (N := N_are_answers) (b := k_are_answers) F sc_are_answers hb hm fun cdv A outer s H E hr => by
    have sc := sc_are_answers
    exact ss_cons (ss_if (st_bool (sw_or (st_not (st_val (se_isT (by rfl) z_isinstance (by rfl) z_list (by decide +kernel) (se_var 0)))) (sw_or1 (st_cmp (od_gt) (se_callB (cd_len) (by rfl) z_len (by decide +kernel) (sa_cons (se_var 0) sa_nil)) (se_gint (by rfl) m_LONGEST) (nomark _))))) (ss_one (ss_ret (se_bl))) (ss_nil)) (ss_one (ss_ret (se_callB (cd_all rfl) (by rfl) z_all (by decide +kernel) (sa_cons (se_lcF (own := [("one", 1)]) rfl sc.nd (si_any (se_var 0)) (blkOk_by (N := N_are_answers) (sc := defScope s_are_answers) (by decide +kernel)) (by decide) (fun _ _ _ _ _ => sg_name 1 sc.nd rfl (Or.inl rfl)) (fun _ _ _ _ _ => sts_nil) (fun _ _ _ _ _ => se_call (c_is_int.mono (by decide)) hr (by rfl) (sa_cons (se_var 1) (sa_cons (se_int) (sa_cons (se_int) sa_nil))))) sa_nil))))).pure
theorem d_need_setting {f : Addr} {fd : FuncData} (F : L2.Fun K "need_setting" "need_setting" s_need_setting f fd) (hb : Binds K fd ["value"] []) (hm : mg "need_setting" = some (.ref f)) (c_is_setting : Def P w K mg base 2 "is_setting" (ePure F_is_setting)) : Def P w K mg base 3 "need_setting" (ePure F_need_setting) :=
  (def_ok (N := N_need_setting) (b := k_need_setting) F sc_need_setting hb hm fun cdv A outer s H E hr => by
    have sc := sc_need_setting
    exact ss_one (ss_if (st_not (st_val (se_call (c_is_setting.mono (by decide)) hr (by rfl) (sa_cons (se_var 0) sa_nil)))) (ss_one (ss_never)) (ss_nil))).pure
theorem d_need_rule {f : Addr} {fd : FuncData} (F : L2.Fun K "need_rule" "need_rule" s_need_rule f fd) (hb : Binds K fd ["value"] []) (hm : mg "need_rule" = some (.ref f)) (c_is_rule : Def P w K mg base 2 "is_rule" (ePure F_is_rule)) : Def P w K mg base 3 "need_rule" (ePure F_need_rule) :=
  (def_ok (N := N_need_rule) (b := k_need_rule) F sc_need_rule hb hm fun cdv A outer s H E hr => by
    have sc := sc_need_rule
    exact ss_one (ss_if (st_not (st_val (se_call (c_is_rule.mono (by decide)) hr (by rfl) (sa_cons (se_var 0) sa_nil)))) (ss_one (ss_never)) (ss_nil))).pure
theorem d_need_both {f : Addr} {fd : FuncData} (F : L2.Fun K "need_both" "need_both" s_need_both f fd) (hb : Binds K fd ["setting", "rule"] []) (hm : mg "need_both" = some (.ref f)) (c_need_rule : Def P w K mg base 3 "need_rule" (ePure F_need_rule)) (c_need_setting : Def P w K mg base 3 "need_setting" (ePure F_need_setting)) : Def P w K mg base 4 "need_both" (ePure F_need_both) :=
  (def_ok (N := N_need_both) (b := k_need_both) F sc_need_both hb hm fun cdv A outer s H E hr => by
    have sc := sc_need_both
    exact ss_cons (ss_expr (se_call (c_need_setting.mono (by decide)) hr (by rfl) (sa_cons (se_var 0) sa_nil))) (ss_one (ss_expr (se_call (c_need_rule.mono (by decide)) hr (by rfl) (sa_cons (se_var 1) sa_nil))))).pure
theorem d_need_answers {f : Addr} {fd : FuncData} (F : L2.Fun K "need_answers" "need_answers" s_need_answers f fd) (hb : Binds K fd ["value"] []) (hm : mg "need_answers" = some (.ref f)) (c_are_answers : Def P w K mg base 2 "are_answers" (ePure F_are_answers)) : Def P w K mg base 3 "need_answers" (ePure F_need_answers) :=
  (def_ok (N := N_need_answers) (b := k_need_answers) F sc_need_answers hb hm fun cdv A outer s H E hr => by
    have sc := sc_need_answers
    exact ss_one (ss_if (st_not (st_val (se_call (c_are_answers.mono (by decide)) hr (by rfl) (sa_cons (se_var 0) sa_nil)))) (ss_one (ss_never)) (ss_nil))).pure
theorem d_begun {f : Addr} {fd : FuncData} (F : L2.Fun K "begun" "begun" s_begun f fd) (hb : Binds K fd [] []) (hm : mg "begun" = some (.ref f)) : Def P w K mg base 1 "begun" (ePure F_begun) :=
  (def_ok (N := N_begun) (b := k_begun) F sc_begun hb hm fun cdv A outer s H E hr => by
    have sc := sc_begun
    exact ss_one (ss_ret (se_tup (sa_nil)))).pure
theorem d_gap_of {f : Addr} {fd : FuncData} (F : L2.Fun K "gap_of" "gap_of" s_gap_of f fd) (hb : Binds K fd ["rule", "times"] []) (hm : mg "gap_of" = some (.ref f)) (z_min : mg "min" = none) (z_max : mg "max" = none) : Def P w K mg base 1 "gap_of" (ePure F_gap_of) :=
  (def_ok (N := N_gap_of) (b := k_gap_of) F sc_gap_of hb hm fun cdv A outer s H E hr => by
    have sc := sc_gap_of
    exact ss_cons (ss_par 2 3 rfl sc.nd rfl rfl (by decide) rfl rfl (se_ix (od_sub_ (r64 hr)) (se_var 0) (se_int) (fun _ _ => rfl)) (se_ix (od_sub_ (r64 hr)) (se_var 0) (se_int) (fun _ _ => rfl)) (hw := by rfl)) (ss_cons (ss_if (st_cmp (od_eq (r64 hr)) (se_var 2) (se_str) (nomark _)) (ss_one (ss_ret (se_callB (cd_max2 rfl) (by rfl) z_max (by decide +kernel) (sa_cons (se_int) (sa_cons (se_bin od_sub (se_var 3) (se_var 1)) sa_nil))))) (ss_nil)) (ss_cons (ss_if (st_cmp (od_eq (r64 hr)) (se_var 2) (se_str) (nomark _)) (ss_one (ss_ret (se_callB (cd_min2 rfl) (by rfl) z_min (by decide +kernel) (sa_cons (se_var 3) (sa_cons (se_bin od_add (se_var 1) (se_int)) sa_nil))))) (ss_nil)) (ss_cons (ss_if (st_bool (sw_and (st_cmp (od_eq (r64 hr)) (se_var 2) (se_str) (nomark _)) (sw_and1 (st_cmp (od_ge) (se_var 1) (se_ix (od_sub_ (r64 hr)) (se_var 0) (se_int) (fun _ _ => rfl)) (nomark _))))) (ss_one (ss_ret (se_non))) (ss_nil)) (ss_one (ss_ret (se_var 3))))))).pure
theorem d_answered {f : Addr} {fd : FuncData} (F : L2.Fun K "answered" "answered" s_answered f fd) (hb : Binds K fd ["setting", "rule", "place", "answer"] []) (hm : mg "answered" = some (.ref f)) (c_gap_of : Def P w K mg base 1 "gap_of" (ePure F_gap_of)) (z_tuple : mg "tuple" = none) (z_len : mg "len" = none) (z_any : mg "any" = none) : Def P w K mg base 2 "answered" (ePure F_answered) :=
  (def_ok (N := N_answered) (b := k_answered) F sc_answered hb hm fun cdv A outer s H E hr => by
    have sc := sc_answered
    exact ss_cons (ss_set 4 sc.nd rfl (Or.inl rfl) (se_and (se_cmp (od_eq (r64 hr)) (se_var 3) (se_int) (nomark _)) (se_one (se_cmp (od_ne (r64 hr)) (se_var 2) (se_tup (sa_nil)) (nomark _))))) (ss_cons (ss_if (st_cmp (od_eq (r64 hr)) (se_var 3) (se_int) (nomark _)) (ss_one (ss_set 2 sc.nd rfl (Or.inl rfl) (se_slice (se_var 2) (so_e (se_int)) (so_no)))) (ss_nil)) (ss_cons (ss_if (st_cmp (od_eq (r64 hr)) (se_var 3) (se_int) (nomark _)) (ss_cons (ss_set 4 sc.nd rfl (Or.inl rfl) (se_callB (cd_any rfl) (by rfl) z_any (by decide +kernel) (sa_cons (se_lcF (own := [("left", 5), ("times", 6), ("rang", 7)]) rfl sc.nd (si_any (se_var 2)) (blkOk_by (N := N_answered) (sc := defScope s_answered) (by decide +kernel)) (by decide) (fun _ _ _ _ _ => sg_tup rfl (sgs_cons (sg_name 5 sc.nd rfl (Or.inl rfl)) (sgs_cons (sg_name 6 sc.nd rfl (Or.inl rfl)) (sgs_cons (sg_name 7 sc.nd rfl (Or.inl rfl)) sgs_nil)))) (fun _ _ _ _ _ => sts_nil) (fun _ _ _ _ _ => se_var 7)) sa_nil))) (ss_one (ss_set 2 sc.nd rfl (Or.inl rfl) (se_callTy (cd_tuple) (by rfl) z_tuple (by decide +kernel) (sa_cons (se_lcF (own := [("left", 5), ("times", 6), ("rang", 7)]) rfl sc.nd (si_any (se_var 2)) (blkOk_by (N := N_answered) (sc := defScope s_answered) (by decide +kernel)) (by decide) (fun _ _ _ _ _ => sg_tup rfl (sgs_cons (sg_name 5 sc.nd rfl (Or.inl rfl)) (sgs_cons (sg_name 6 sc.nd rfl (Or.inl rfl)) (sgs_cons (sg_name 7 sc.nd rfl (Or.inl rfl)) sgs_nil)))) (fun _ _ _ _ _ => sts_nil) (fun _ _ _ _ _ => se_tup (sa_cons (se_if (st_val (se_var 7)) (se_bin od_add (se_ix (od_sub_ (r64 hr)) (se_var 0) (se_int) (fun _ _ => rfl)) (se_int)) (se_var 5)) (sa_cons (se_var 6) (sa_cons (se_var 7) sa_nil))))) sa_nil))))) (ss_nil)) (ss_cons (ss_if (st_bool (sw_and (st_cmp (od_eq (r64 hr)) (se_var 3) (se_int) (nomark _)) (sw_and1 (st_cmp (od_lt) (se_callB (cd_len) (by rfl) z_len (by decide +kernel) (sa_cons (se_var 2) sa_nil)) (se_ix (od_sub_ (r64 hr)) (se_var 0) (se_int) (fun _ _ => rfl)) (nomark _))))) (ss_one (ss_par 4 2 rfl sc.nd rfl rfl (by decide) rfl rfl (se_bl) (se_bin od_add (se_var 2) (se_tup (sa_cons (se_tup (sa_cons (se_bin od_add (se_call (c_gap_of.mono (by decide)) hr (by rfl) (sa_cons (se_var 1) (sa_cons (se_int) sa_nil))) (se_int)) (sa_cons (se_int) (sa_cons (se_bl) sa_nil)))) sa_nil))) (hw := by rfl))) (ss_nil)) (ss_cons (ss_if (st_bool (sw_and (st_cmp (od_eq (r64 hr)) (se_ix (od_sub_ (r64 hr)) (se_var 1) (se_int) (fun _ _ => rfl)) (se_str) (nomark _)) (sw_and1 (st_val (se_var 4))))) (ss_one (ss_set 2 sc.nd rfl (Or.inl rfl) (se_callTy (cd_tuple) (by rfl) z_tuple (by decide +kernel) (sa_cons (se_lcF (own := [("left", 5), ("times", 6), ("rang", 7)]) rfl sc.nd (si_any (se_var 2)) (blkOk_by (N := N_answered) (sc := defScope s_answered) (by decide +kernel)) (by decide) (fun _ _ _ _ _ => sg_tup rfl (sgs_cons (sg_name 5 sc.nd rfl (Or.inl rfl)) (sgs_cons (sg_name 6 sc.nd rfl (Or.inl rfl)) (sgs_cons (sg_name 7 sc.nd rfl (Or.inl rfl)) sgs_nil)))) (fun _ _ _ _ _ => sts_nil) (fun _ _ _ _ _ => se_tup (sa_cons (se_bin od_add (se_ix (od_sub_ (r64 hr)) (se_var 1) (se_int) (fun _ _ => rfl)) (se_int)) (sa_cons (se_var 6) (sa_cons (se_var 7) sa_nil))))) sa_nil)))) (ss_nil)) (ss_one (ss_ret (se_var 2)))))))).pure
theorem d_tick {f : Addr} {fd : FuncData} (F : L2.Fun K "tick" "tick" s_tick f fd) (hb : Binds K fd ["setting", "rule", "place", "answer"] []) (hm : mg "tick" = some (.ref f)) (c_answered : Def P w K mg base 2 "answered" (ePure F_answered)) (c_gap_of : Def P w K mg base 1 "gap_of" (ePure F_gap_of)) (z_tuple : mg "tuple" = none) (z_min : mg "min" = none) {t_CAP : Tok} (m_CAP : mg "CAP" = some (.int 4 t_CAP)) : Def P w K mg base 3 "tick" (ePure F_tick) :=
  (def_ok (N := N_tick) (b := k_tick) F sc_tick hb hm fun cdv A outer s H E hr => by
    have sc := sc_tick
    exact ss_cons (ss_par 4 5 rfl sc.nd rfl rfl (by decide) rfl rfl (se_lst (sa_nil)) (se_int) (hw := by rfl)) (ss_cons (ss_for PassesOwn.never rfl (si_any (se_call (c_answered.mono (by decide)) hr (by rfl) (sa_cons (se_var 0) (sa_cons (se_var 1) (sa_cons (se_var 2) (sa_cons (se_var 3) sa_nil)))))) (sg_tup rfl (sgs_cons (sg_name 6 sc.nd rfl (Or.inl rfl)) (sgs_cons (sg_name 7 sc.nd rfl (Or.inl rfl)) (sgs_cons (sg_name 8 sc.nd rfl (Or.inl rfl)) sgs_nil)))) (ss_cons (ss_set 6 sc.nd rfl (Or.inl rfl) (se_if (st_cmp (od_is) (se_var 6) (se_non) (nomark _)) (se_var 6) (se_bin od_sub (se_var 6) (se_int)))) (ss_cons (ss_set 8 sc.nd rfl (Or.inl rfl) (se_cmp (od_eq (r64 hr)) (se_var 6) (se_int) (nomark _))) (ss_cons (ss_if (st_val (se_var 8)) (ss_cons (ss_set 7 sc.nd rfl (Or.inl rfl) (se_callB (cd_min2 rfl) (by rfl) z_min (by decide +kernel) (sa_cons (se_gint (by rfl) m_CAP) (sa_cons (se_bin od_add (se_var 7) (se_int)) sa_nil)))) (ss_one (ss_par 6 5 rfl sc.nd rfl rfl (by decide) rfl rfl (se_call (c_gap_of.mono (by decide)) hr (by rfl) (sa_cons (se_var 1) (sa_cons (se_var 7) sa_nil))) (se_bin od_add (se_var 5) (se_int)) (hw := by rfl)))) (ss_nil)) (ss_one (ss_expr (se_m PySem.F.plainAttrs_list PySem.F.slot_list_append PySem.F.type_list_append md_append (fun _ _ _ _ _ _ r p e => tyL rfl r p e) (se_var 4) (sa_cons (se_tup (sa_cons (se_var 6) (sa_cons (se_var 7) (sa_cons (se_var 8) sa_nil)))) sa_nil)))))))) (ss_one (ss_ret (se_tup (sa_cons (se_callTy (cd_tuple) (by rfl) z_tuple (by decide +kernel) (sa_cons (se_var 4) sa_nil)) (sa_cons (se_var 5) sa_nil))))))).pure
theorem d_run {f : Addr} {fd : FuncData} (F : L2.Fun K "run" "run" s_run f fd) (hb : Binds K fd ["setting", "rule", "answers"] []) (hm : mg "run" = some (.ref f)) (c_tick : Def P w K mg base 3 "tick" (ePure F_tick)) (c_begun : Def P w K mg base 1 "begun" (ePure F_begun)) : Def P w K mg base 4 "run" (ePure F_run) :=
  (def_ok (N := N_run) (b := k_run) F sc_run hb hm fun cdv A outer s H E hr => by
    have sc := sc_run
    exact ss_cons (ss_par 4 5 rfl sc.nd rfl rfl (by decide) rfl rfl (se_call0 (c_begun.mono (by decide)) hr (by rfl)) (se_lst (sa_nil)) (hw := by rfl)) (ss_cons (ss_for PassesOwn.never rfl (si_any (se_var 2)) (sg_name 3 sc.nd rfl (Or.inl rfl)) (ss_cons (ss_asg (se_call (c_tick.mono (by decide)) hr (by rfl) (sa_cons (se_var 0) (sa_cons (se_var 1) (sa_cons (se_var 4) (sa_cons (se_var 3) sa_nil))))) (sg_tup rfl (sgs_cons (sg_name 4 sc.nd rfl (Or.inl rfl)) (sgs_cons (sg_name 6 sc.nd rfl (Or.inl rfl)) sgs_nil)))) (ss_one (ss_expr (se_m PySem.F.plainAttrs_list PySem.F.slot_list_append PySem.F.type_list_append md_append (fun _ _ _ _ _ _ r p e => tyL rfl r p e) (se_var 5) (sa_cons (se_tup (sa_cons (se_var 4) (sa_cons (se_var 6) sa_nil))) sa_nil)))))) (ss_one (ss_ret (se_var 5))))).pure
theorem d_need_run {f : Addr} {fd : FuncData} (F : L2.Fun K "need_run" "need_run" s_need_run f fd) (hb : Binds K fd ["setting", "rule", "answers"] []) (hm : mg "need_run" = some (.ref f)) (c_need_answers : Def P w K mg base 3 "need_answers" (ePure F_need_answers)) (c_need_both : Def P w K mg base 4 "need_both" (ePure F_need_both)) : Def P w K mg base 5 "need_run" (ePure F_need_run) :=
  (def_ok (N := N_need_run) (b := k_need_run) F sc_need_run hb hm fun cdv A outer s H E hr => by
    have sc := sc_need_run
    exact ss_cons (ss_expr (se_call (c_need_both.mono (by decide)) hr (by rfl) (sa_cons (se_var 0) (sa_cons (se_var 1) sa_nil)))) (ss_one (ss_expr (se_call (c_need_answers.mono (by decide)) hr (by rfl) (sa_cons (se_var 2) sa_nil))))).pure
theorem d_notes_of {f : Addr} {fd : FuncData} (F : L2.Fun K "notes_of" "notes_of" s_notes_of f fd) (hb : Binds K fd ["setting", "rule", "answers"] []) (hm : mg "notes_of" = some (.ref f)) (c_run : Def P w K mg base 4 "run" (ePure F_run)) : Def P w K mg base 5 "notes_of" (ePure F_notes_of) :=
  (def_ok (N := N_notes_of) (b := k_notes_of) F sc_notes_of hb hm fun cdv A outer s H E hr => by
    have sc := sc_notes_of
    exact ss_one (ss_ret (se_lcF (own := [("place", 3), ("note", 4)]) rfl sc.nd (si_any (se_call (c_run.mono (by decide)) hr (by rfl) (sa_cons (se_var 0) (sa_cons (se_var 1) (sa_cons (se_var 2) sa_nil))))) (blkOk_by (N := N_notes_of) (sc := defScope s_notes_of) (by decide +kernel)) (by decide) (fun _ _ _ _ _ => sg_tup rfl (sgs_cons (sg_name 3 sc.nd rfl (Or.inl rfl)) (sgs_cons (sg_name 4 sc.nd rfl (Or.inl rfl)) sgs_nil))) (fun _ _ _ _ _ => sts_nil) (fun _ _ _ _ _ => se_var 4)))).pure
theorem d_notes_along {f : Addr} {fd : FuncData} (F : L2.Fun K "notes_along" "notes_along" s_notes_along f fd) (hb : Binds K fd ["setting", "rule", "answers"] []) (hm : mg "notes_along" = some (.ref f)) (c_notes_of : Def P w K mg base 5 "notes_of" (ePure F_notes_of)) (c_need_run : Def P w K mg base 5 "need_run" (ePure F_need_run)) : Def P w K mg base 6 "notes_along" (ePure F_notes_along) :=
  (def_ok (N := N_notes_along) (b := k_notes_along) F sc_notes_along hb hm fun cdv A outer s H E hr => by
    have sc := sc_notes_along
    exact ss_cons (ss_expr (se_call (c_need_run.mono (by decide)) hr (by rfl) (sa_cons (se_var 0) (sa_cons (se_var 1) (sa_cons (se_var 2) sa_nil))))) (ss_one (ss_ret (se_call (c_notes_of.mono (by decide)) hr (by rfl) (sa_cons (se_var 0) (sa_cons (se_var 1) (sa_cons (se_var 2) sa_nil))))))).pure
theorem d_opens_along {f : Addr} {fd : FuncData} (F : L2.Fun K "opens_along" "opens_along" s_opens_along f fd) (hb : Binds K fd ["setting", "rule", "answers"] []) (hm : mg "opens_along" = some (.ref f)) (c_run : Def P w K mg base 4 "run" (ePure F_run)) (c_need_run : Def P w K mg base 5 "need_run" (ePure F_need_run)) (z_len : mg "len" = none) : Def P w K mg base 6 "opens_along" (ePure F_opens_along) :=
  (def_ok (N := N_opens_along) (b := k_opens_along) F sc_opens_along hb hm fun cdv A outer s H E hr => by
    have sc := sc_opens_along
    exact ss_cons (ss_expr (se_call (c_need_run.mono (by decide)) hr (by rfl) (sa_cons (se_var 0) (sa_cons (se_var 1) (sa_cons (se_var 2) sa_nil))))) (ss_one (ss_ret (se_lcF (own := [("place", 3), ("note", 4)]) rfl sc.nd (si_any (se_call (c_run.mono (by decide)) hr (by rfl) (sa_cons (se_var 0) (sa_cons (se_var 1) (sa_cons (se_var 2) sa_nil))))) (blkOk_by (N := N_opens_along) (sc := defScope s_opens_along) (by decide +kernel)) (by decide) (fun _ _ _ _ _ => sg_tup rfl (sgs_cons (sg_name 3 sc.nd rfl (Or.inl rfl)) (sgs_cons (sg_name 4 sc.nd rfl (Or.inl rfl)) sgs_nil))) (fun _ _ _ _ _ => sts_nil) (fun _ _ _ _ _ => se_callB (cd_len) (by rfl) z_len (by decide +kernel) (sa_cons (se_var 3) sa_nil)))))).pure
theorem d_law_draw {f : Addr} {fd : FuncData} (F : L2.Fun K "_law_draw" "_law_draw" s_law_draw f fd) (hb : Binds K fd ["_law_script", "_law_town", "_law_many"] []) (hm : mg "_law_draw" = some (.ref f)) (z_len : mg "len" = none) : Def P w K mg base 1 "_law_draw" (F_law_draw) :=
  (def_ok (N := N_law_draw) (b := k_law_draw) F sc_law_draw hb hm fun cdv A outer s H E hr => by
    have sc := sc_law_draw
    exact ss_cons (ss_if (st_cmp (od_gt) (se_ix (od_sub_ (r64 hr)) (se_var 1) (se_int) (fun _ _ => rfl)) (se_int) (nomark _)) (ss_cons (ss_set 5 sc.nd rfl (Or.inl rfl) (se_bin od_mod (se_ix (od_sub_ (r64 hr)) (se_var 1) (se_int) (fun _ _ => rfl)) (se_var 2))) (ss_cons (ss_put (sd_set_ (r64 hr)) (se_var 1) (se_int) (se_bin od_div (se_ix (od_sub_ (r64 hr)) (se_var 1) (se_int) (fun _ _ => rfl)) (se_var 2))) (ss_one (ss_ret (se_var 5))))) (ss_nil)) (ss_cons (ss_set 3 sc.nd rfl (Or.inl rfl) (se_ix (od_sub_ (r64 hr)) (se_var 1) (se_int) (fun _ _ => rfl))) (ss_cons (ss_augS (se_var 1) (se_int) (se_int) od_iadd) (ss_cons (ss_if (st_cmp (od_eq (r64 hr)) (se_var 0) (se_lstF (sa_nil)) (nomark _)) (ss_one (ss_ret (se_bin od_mod (se_var 3) (se_var 2)))) (ss_nil)) (ss_cons (ss_if (st_bool (sw_and (st_cmp (od_lt) (se_var 3) (se_callB (cd_len) (by rfl) z_len (by decide +kernel) (sa_cons (se_var 0) sa_nil)) (nomark _)) (sw_and1 (st_cmp (od_ge) (se_ix (od_sub_ (r64 hr)) (se_var 0) (se_var 3) (fun _ _ => rfl)) (se_bin od_pow (se_int) (se_int)) (nomark _))))) (ss_cons (ss_put (sd_set_ (r64 hr)) (se_var 1) (se_int) (se_bin od_mod (se_bin od_div (se_ix (od_sub_ (r64 hr)) (se_var 0) (se_var 3) (fun _ _ => rfl)) (se_var 2)) (se_bin od_mul (se_bin od_pow (se_int) (se_int)) (se_bin od_pow (se_int) (se_int))))) (ss_one (ss_ret (se_bin od_mod (se_ix (od_sub_ (r64 hr)) (se_var 0) (se_var 3) (fun _ _ => rfl)) (se_var 2))))) (ss_nil)) (ss_cons (ss_set 4 sc.nd rfl (Or.inl rfl) (se_bin od_mod (se_bin od_add (se_bin od_add (se_bin od_mul (se_ix (od_sub_ (r64 hr)) (se_var 0) (se_bin od_mod (se_var 3) (se_callB (cd_len) (by rfl) z_len (by decide +kernel) (sa_cons (se_var 0) sa_nil))) (fun _ _ => rfl)) (se_int)) (se_bin od_mul (se_int) (se_var 3))) (se_int)) (se_int))) (ss_one (ss_ret (se_bin od_mod (se_bin od_mod (se_bin od_mod (se_bin od_pow (se_var 4) (se_int)) (se_int)) (se_int)) (se_var 2)))))))))).frz
theorem d_law_pick {f : Addr} {fd : FuncData} (F : L2.Fun K "_law_pick" "_law_pick" s_law_pick f fd) (hb : Binds K fd ["_law_script", "_law_town", "_law_some"] []) (hm : mg "_law_pick" = some (.ref f)) (c_law_draw : Def P w K mg base 1 "_law_draw" (F_law_draw)) (z_len : mg "len" = none) : Def P w K mg base 2 "_law_pick" (F_law_pick) :=
  (def_ok (N := N_law_pick) (b := k_law_pick) F sc_law_pick hb hm fun cdv A outer s H E hr => by
    have sc := sc_law_pick
    exact ss_one (ss_ret (se_ix (od_sub_ (r64 hr)) (se_var 2) (se_call (c_law_draw.mono (by decide)) hr (by rfl) (sa_cons (se_var 0) (sa_cons (se_var 1) (sa_cons (se_callB (cd_len) (by rfl) z_len (by decide +kernel) (sa_cons (se_var 2) sa_nil)) sa_nil)))) (fun _ _ => rfl)))).frz
theorem d_law_setting {f : Addr} {fd : FuncData} (F : L2.Fun K "_law_setting" "_law_setting" s_law_setting f fd) (hb : Binds K fd ["_law_script", "_law_town"] []) (hm : mg "_law_setting" = some (.ref f)) (c_law_draw : Def P w K mg base 1 "_law_draw" (F_law_draw)) : Def P w K mg base 2 "_law_setting" (F_law_setting) :=
  (def_ok (N := N_law_setting) (b := k_law_setting) F sc_law_setting hb hm fun cdv A outer s H E hr => by
    have sc := sc_law_setting
    exact ss_one (ss_ret (se_tup (sa_cons (se_bin od_add (se_int) (se_call (c_law_draw.mono (by decide)) hr (by rfl) (sa_cons (se_var 0) (sa_cons (se_var 1) (sa_cons (se_int) sa_nil))))) (sa_cons (se_bin od_add (se_int) (se_call (c_law_draw.mono (by decide)) hr (by rfl) (sa_cons (se_var 0) (sa_cons (se_var 1) (sa_cons (se_int) sa_nil))))) sa_nil))))).frz
theorem d_law_rule {f : Addr} {fd : FuncData} (F : L2.Fun K "_law_rule" "_law_rule" s_law_rule f fd) (hb : Binds K fd ["_law_script", "_law_town"] []) (hm : mg "_law_rule" = some (.ref f)) (c_law_draw : Def P w K mg base 1 "_law_draw" (F_law_draw)) (c_law_pick : Def P w K mg base 2 "_law_pick" (F_law_pick)) : Def P w K mg base 3 "_law_rule" (F_law_rule) :=
  (def_ok (N := N_law_rule) (b := k_law_rule) F sc_law_rule hb hm fun cdv A outer s H E hr => by
    have sc := sc_law_rule
    exact ss_cons (ss_set 2 sc.nd rfl (Or.inl rfl) (se_call (c_law_pick.mono (by decide)) hr (by rfl) (sa_cons (se_var 0) (sa_cons (se_var 1) (sa_cons (se_lstF (sa_cons (se_str) (sa_cons (se_str) (sa_cons (se_str) (sa_cons (se_str) (sa_cons (se_str) sa_nil)))))) sa_nil))))) (ss_cons (ss_set 3 sc.nd rfl (Or.inl rfl) (se_bin od_add (se_int) (se_call (c_law_draw.mono (by decide)) hr (by rfl) (sa_cons (se_var 0) (sa_cons (se_var 1) (sa_cons (se_int) sa_nil)))))) (ss_one (ss_ret (se_if (st_cmp (od_eq (r64 hr)) (se_var 2) (se_str) (nomark _)) (se_tup (sa_cons (se_var 2) (sa_cons (se_var 3) (sa_cons (se_bin od_add (se_int) (se_call (c_law_draw.mono (by decide)) hr (by rfl) (sa_cons (se_var 0) (sa_cons (se_var 1) (sa_cons (se_int) sa_nil))))) sa_nil)))) (se_tup (sa_cons (se_var 2) (sa_cons (se_var 3) sa_nil)))))))).frz
theorem d_law_answers {f : Addr} {fd : FuncData} (F : L2.Fun K "_law_answers" "_law_answers" s_law_answers f fd) (hb : Binds K fd ["_law_script", "_law_town", "_law_most"] []) (hm : mg "_law_answers" = some (.ref f)) (c_law_draw : Def P w K mg base 1 "_law_draw" (F_law_draw)) (z_range : mg "range" = none) (z_min : mg "min" = none) : Def P w K mg base 2 "_law_answers" (F_law_answers) :=
  (def_ok (N := N_law_answers) (b := k_law_answers) F sc_law_answers hb hm fun cdv A outer s H E hr => by
    have sc := sc_law_answers
    exact ss_cons (ss_par 4 5 rfl sc.nd rfl rfl (by decide) rfl rfl (se_call (c_law_draw.mono (by decide)) hr (by rfl) (sa_cons (se_var 0) (sa_cons (se_var 1) (sa_cons (se_int) sa_nil)))) (se_lst (sa_nil)) (hw := by rfl)) (ss_cons (ss_for PassesOwn.never rfl (si_range1 (by rfl) z_range (se_call (c_law_draw.mono (by decide)) hr (by rfl) (sa_cons (se_var 0) (sa_cons (se_var 1) (sa_cons (se_bin od_add (se_var 2) (se_int)) sa_nil))))) (sg_name 3 sc.nd rfl (Or.inl rfl)) (ss_cons (ss_set 6 sc.nd rfl (Or.inl rfl) (se_call (c_law_draw.mono (by decide)) hr (by rfl) (sa_cons (se_var 0) (sa_cons (se_var 1) (sa_cons (se_int) sa_nil))))) (ss_one (ss_expr (se_m PySem.F.plainAttrs_list PySem.F.slot_list_append PySem.F.type_list_append md_append (fun _ _ _ _ _ _ r p e => tyL rfl r p e) (se_var 5) (sa_cons (se_if (st_bool (sw_or (st_cmp (od_lt) (se_var 4) (se_int) (nomark _)) (sw_or1 (st_cmp (od_eq (r64 hr)) (se_call (c_law_draw.mono (by decide)) hr (by rfl) (sa_cons (se_var 0) (sa_cons (se_var 1) (sa_cons (se_int) sa_nil)))) (se_int) (nomark _))))) (se_var 6) (se_callB (cd_min2 rfl) (by rfl) z_min (by decide +kernel) (sa_cons (se_int) (sa_cons (se_bin od_mod (se_var 6) (se_int)) sa_nil)))) sa_nil)))))) (ss_one (ss_ret (se_var 5))))).frz
theorem d_Desk__init_ {f C : Addr} {fd : FuncData} (F : L2.Fun K "__init__" "Desk.__init__" s_Desk__init_ f fd) (hb : Binds K fd ["self", "setting", "rule"] []) (kc : KCls K "Desk" C) (hm : Mk K C f) (hg : mg "Desk" = some (.ref C)) (na_undone : NoAttr K C "undone") (na_past : NoAttr K C "past") (na_rule : NoAttr K C "rule") (na_setting : NoAttr K C "setting") (c_need_both : Def P w K mg base 4 "need_both" (ePure F_need_both)) : IDef P w K mg base 5 "Desk" (F_Desk__init_) :=
  (init_ok (N := N_Desk__init_) (b := k_Desk__init_) F sc_Desk__init_ hb kc hm hg fun cdv A outer s H E hr => by
    have sc := sc_Desk__init_
    exact ss_cons (ss_expr (se_call (c_need_both.mono (by decide)) hr (by rfl) (sa_cons (se_var 1) (sa_cons (se_var 2) sa_nil)))) (ss_cons (ss_fld kc na_setting (se_var 0) (se_var 1)) (ss_cons (ss_fld kc na_rule (se_var 0) (se_var 2)) (ss_cons (ss_fld kc na_past (se_var 0) (se_lst (sa_nil))) (ss_one (ss_fld kc na_undone (se_var 0) (se_lst (sa_nil))))))))
theorem d_Desk__len_ {f C : Addr} {fd : FuncData} (F : L2.Fun K "__len__" "Desk.__len__" s_Desk__len_ f fd) (hb : Binds K fd ["self"] []) (kc : KCls K "Desk" C) (hm : Meth K C "__len__" f) (na_past : NoAttr K C "past") (z_len : mg "len" = none) : MDef P w K mg base 1 "Desk" "__len__" (F_Desk__len_) :=
  (meth_ok (N := N_Desk__len_) (b := k_Desk__len_) F sc_Desk__len_ hb kc hm fun cdv A outer s H E hr => by
    have sc := sc_Desk__len_
    exact ss_one (ss_ret (se_callB (cd_len) (by rfl) z_len (by decide +kernel) (sa_cons (se_fld kc na_past (se_var 0)) sa_nil)))).z
theorem d_run_Z {f : Addr} {fd : FuncData} (F : L2.Fun K "run" "run" s_run_Z f fd) (hb : Binds K fd ["setting", "rule", "answers"] []) (hm : mg "run" = some (.ref f)) (c_tick : Def P w K mg base 3 "tick" (ePure F_tick)) (c_begun : Def P w K mg base 1 "begun" (ePure F_begun)) : Def P w K mg base 4 "run" (F_run_Z) :=
  (def_ok (N := N_run_Z) (b := k_run_Z) F sc_run_Z hb hm fun cdv A outer s H E hr => by
    have sc := sc_run_Z
    exact ss_cons (ss_par 4 5 rfl sc.nd rfl rfl (by decide) rfl rfl (se_call0 (c_begun.mono (by decide)) hr (by rfl)) (se_lst (sa_nil)) (hw := by rfl)) (ss_cons (ss_for PassesOwn.never rfl (si_any (se_var 2)) (sg_name 3 sc.nd rfl (Or.inl rfl)) (ss_cons (ss_asg (se_call (c_tick.mono (by decide)) hr (by rfl) (sa_cons (se_var 0) (sa_cons (se_var 1) (sa_cons (se_var 4) (sa_cons (se_var 3) sa_nil))))) (sg_tup rfl (sgs_cons (sg_name 4 sc.nd rfl (Or.inl rfl)) (sgs_cons (sg_name 6 sc.nd rfl (Or.inl rfl)) sgs_nil)))) (ss_one (ss_expr (se_m PySem.F.plainAttrs_list PySem.F.slot_list_append PySem.F.type_list_append md_append (fun _ _ _ _ _ _ r p e => tyL rfl r p e) (se_var 5) (sa_cons (se_tup (sa_cons (se_var 4) (sa_cons (se_var 6) sa_nil))) sa_nil)))))) (ss_one (ss_ret (se_var 5))))).z
theorem d_notes_of_Z {f : Addr} {fd : FuncData} (F : L2.Fun K "notes_of" "notes_of" s_notes_of_Z f fd) (hb : Binds K fd ["setting", "rule", "answers"] []) (hm : mg "notes_of" = some (.ref f)) (c_run_Z : Def P w K mg base 4 "run" (F_run_Z)) : Def P w K mg base 5 "notes_of" (F_notes_of_Z) :=
  (def_ok (N := N_notes_of_Z) (b := k_notes_of_Z) F sc_notes_of_Z hb hm fun cdv A outer s H E hr => by
    have sc := sc_notes_of_Z
    exact ss_one (ss_ret (se_lcF (own := [("place", 3), ("note", 4)]) rfl sc.nd (si_any (se_call (c_run_Z.mono (by decide)) hr (by rfl) (sa_cons (se_var 0) (sa_cons (se_var 1) (sa_cons (se_var 2) sa_nil))))) (blkOk_by (N := N_notes_of_Z) (sc := defScope s_notes_of_Z) (by decide +kernel)) (by decide) (fun _ _ _ _ _ => sg_tup rfl (sgs_cons (sg_name 3 sc.nd rfl (Or.inl rfl)) (sgs_cons (sg_name 4 sc.nd rfl (Or.inl rfl)) sgs_nil))) (fun _ _ _ _ _ => sts_nil) (fun _ _ _ _ _ => se_var 4)))).z
theorem d_Desk_notes {f C : Addr} {fd : FuncData} (F : L2.Fun K "notes" "Desk.notes" s_Desk_notes f fd) (hb : Binds K fd ["self"] []) (kc : KCls K "Desk" C) (hm : Meth K C "notes" f) (na_past : NoAttr K C "past") (na_rule : NoAttr K C "rule") (na_setting : NoAttr K C "setting") (c_notes_of_Z : Def P w K mg base 5 "notes_of" (F_notes_of_Z)) : MDef P w K mg base 6 "Desk" "notes" (F_Desk_notes) :=
  (meth_ok (N := N_Desk_notes) (b := k_Desk_notes) F sc_Desk_notes hb kc hm fun cdv A outer s H E hr => by
    have sc := sc_Desk_notes
    exact ss_one (ss_ret (se_call (c_notes_of_Z.mono (by decide)) hr (by rfl) (sa_cons (se_fld kc na_setting (se_var 0)) (sa_cons (se_fld kc na_rule (se_var 0)) (sa_cons (se_fld kc na_past (se_var 0)) sa_nil)))))).z
theorem d_Desk_rings {f C : Addr} {fd : FuncData} (F : L2.Fun K "rings" "Desk.rings" s_Desk_rings f fd) (hb : Binds K fd ["self"] []) (kc : KCls K "Desk" C) (hm : Meth K C "rings" f) (c_Desk_notes : MDef P w K mg base 6 "Desk" "notes" (F_Desk_notes)) (z_sum : mg "sum" = none) : MDef P w K mg base 7 "Desk" "rings" (F_Desk_rings) :=
  (meth_ok (N := N_Desk_rings) (b := k_Desk_rings) F sc_Desk_rings hb kc hm fun cdv A outer s H E hr => by
    have sc := sc_Desk_rings
    exact ss_one (ss_ret (se_callB (cd_sum rfl) (by rfl) z_sum (by decide +kernel) (sa_cons (se_meth0 (c_Desk_notes.mono (by decide)) hr (se_var 0)) sa_nil)))).z
theorem d_Desk_answers {f C : Addr} {fd : FuncData} (F : L2.Fun K "answers" "Desk.answers" s_Desk_answers f fd) (hb : Binds K fd ["self"] []) (kc : KCls K "Desk" C) (hm : Meth K C "answers" f) (na_past : NoAttr K C "past") (z_list : mg "list" = none) : MDef P w K mg base 1 "Desk" "answers" (F_Desk_answers) :=
  (meth_ok (N := N_Desk_answers) (b := k_Desk_answers) F sc_Desk_answers hb kc hm fun cdv A outer s H E hr => by
    have sc := sc_Desk_answers
    exact ss_one (ss_ret (se_callTy cd_listF (by rfl) z_list (by decide +kernel) (sa_cons (se_fld kc na_past (se_var 0)) sa_nil)))).z
theorem d_Desk_open_things {f C : Addr} {fd : FuncData} (F : L2.Fun K "open_things" "Desk.open_things" s_Desk_open_things f fd) (hb : Binds K fd ["self"] []) (kc : KCls K "Desk" C) (hm : Meth K C "open_things" f) (na_past : NoAttr K C "past") (na_rule : NoAttr K C "rule") (na_setting : NoAttr K C "setting") (c_begun : Def P w K mg base 1 "begun" (ePure F_begun)) (c_run_Z : Def P w K mg base 4 "run" (F_run_Z)) (z_len : mg "len" = none) : MDef P w K mg base 5 "Desk" "open_things" (F_Desk_open_things) :=
  (meth_ok (N := N_Desk_open_things) (b := k_Desk_open_things) F sc_Desk_open_things hb kc hm fun cdv A outer s H E hr => by
    have sc := sc_Desk_open_things
    exact ss_cons (ss_set 1 sc.nd rfl (Or.inl rfl) (se_call (c_run_Z.mono (by decide)) hr (by rfl) (sa_cons (se_fld kc na_setting (se_var 0)) (sa_cons (se_fld kc na_rule (se_var 0)) (sa_cons (se_fld kc na_past (se_var 0)) sa_nil))))) (ss_one (ss_ret (se_callB (cd_len) (by rfl) z_len (by decide +kernel) (sa_cons (se_if (st_cmp (od_ne (r64 hr)) (se_var 1) (se_lstF (sa_nil)) (nomark _)) (se_ix (od_sub_ (r64 hr)) (se_ix (od_sub_ (r64 hr)) (se_var 1) (se_neg (se_int)) (fun _ _ => rfl)) (se_int) (fun _ _ => rfl)) (se_call0 (c_begun.mono (by decide)) hr (by rfl))) sa_nil))))).z
theorem d_Desk_answers_R {f C : Addr} {fd : FuncData} (F : L2.Fun K "answers" "Desk.answers" s_Desk_answers_R f fd) (hb : Binds K fd ["self"] []) (kc : KCls K "Desk" C) (hm : Meth K C "answers" f) (na_past : NoAttr K C "past") (z_list : mg "list" = none) : MDef P w K mg base 1 "Desk" "answers" (F_Desk_answers_R) :=
  (meth_ok (N := N_Desk_answers_R) (b := k_Desk_answers_R) F sc_Desk_answers_R hb kc hm fun cdv A outer s H E hr => by
    have sc := sc_Desk_answers_R
    exact ss_one (ss_ret (se_callTy cd_list (by rfl) z_list (by decide +kernel) (sa_cons (se_fld kc na_past (se_var 0)) sa_nil))))
theorem d_notes_of_R {f : Addr} {fd : FuncData} (F : L2.Fun K "notes_of" "notes_of" s_notes_of_R f fd) (hb : Binds K fd ["setting", "rule", "answers"] []) (hm : mg "notes_of" = some (.ref f)) (c_run_Z : Def P w K mg base 4 "run" (F_run_Z)) : Def P w K mg base 5 "notes_of" (F_notes_of_R) :=
  (def_ok (N := N_notes_of_R) (b := k_notes_of_R) F sc_notes_of_R hb hm fun cdv A outer s H E hr => by
    have sc := sc_notes_of_R
    exact ss_one (ss_ret (se_lc (own := [("place", 3), ("note", 4)]) rfl sc.nd (si_any (se_call (c_run_Z.mono (by decide)) hr (by rfl) (sa_cons (se_var 0) (sa_cons (se_var 1) (sa_cons (se_var 2) sa_nil))))) (blkOk_by (N := N_notes_of_R) (sc := defScope s_notes_of_R) (by decide +kernel)) (by decide) (fun _ _ _ _ _ => sg_tup rfl (sgs_cons (sg_name 3 sc.nd rfl (Or.inl rfl)) (sgs_cons (sg_name 4 sc.nd rfl (Or.inl rfl)) sgs_nil))) (fun _ _ _ _ _ => sts_nil) (fun _ _ _ _ _ => se_var 4))))
theorem d_Desk_notes_R {f C : Addr} {fd : FuncData} (F : L2.Fun K "notes" "Desk.notes" s_Desk_notes_R f fd) (hb : Binds K fd ["self"] []) (kc : KCls K "Desk" C) (hm : Meth K C "notes" f) (na_past : NoAttr K C "past") (na_rule : NoAttr K C "rule") (na_setting : NoAttr K C "setting") (c_notes_of_R : Def P w K mg base 5 "notes_of" (F_notes_of_R)) : MDef P w K mg base 6 "Desk" "notes" (F_Desk_notes_R) :=
  (meth_ok (N := N_Desk_notes_R) (b := k_Desk_notes_R) F sc_Desk_notes_R hb kc hm fun cdv A outer s H E hr => by
    have sc := sc_Desk_notes_R
    exact ss_one (ss_ret (se_call (c_notes_of_R.mono (by decide)) hr (by rfl) (sa_cons (se_fld kc na_setting (se_var 0)) (sa_cons (se_fld kc na_rule (se_var 0)) (sa_cons (se_fld kc na_past (se_var 0)) sa_nil))))))
theorem d_Desk_tick {f C : Addr} {fd : FuncData} (F : L2.Fun K "tick" "Desk.tick" s_Desk_tick f fd) (hb : Binds K fd ["self", "answer"] []) (kc : KCls K "Desk" C) (hm : Meth K C "tick" f) (na_undone : NoAttr K C "undone") (na_past : NoAttr K C "past") (c_Desk_notes : MDef P w K mg base 6 "Desk" "notes" (F_Desk_notes)) (c_is_int : Def P w K mg base 1 "is_int" (ePure F_is_int)) (z_len : mg "len" = none) {t_LONGEST : Tok} (m_LONGEST : mg "LONGEST" = some (.int 40 t_LONGEST)) : MDef P w K mg base 7 "Desk" "tick" (F_Desk_tick) :=
  (meth_ok (N := N_Desk_tick) (b := k_Desk_tick) F sc_Desk_tick hb kc hm fun cdv A outer s H E hr => by
    have sc := sc_Desk_tick
    exact ss_cons (ss_if (st_not (st_val (se_call (c_is_int.mono (by decide)) hr (by rfl) (sa_cons (se_var 1) (sa_cons (se_int) (sa_cons (se_int) sa_nil)))))) (ss_one (ss_never)) (ss_nil)) (ss_cons (ss_if (st_cmp (od_eq (r64 hr)) (se_callB (cd_len) (by rfl) z_len (by decide +kernel) (sa_cons (se_fld kc na_past (se_var 0)) sa_nil)) (se_gint (by rfl) m_LONGEST) (nomark _)) (ss_one (ss_never)) (ss_nil)) (ss_cons (ss_expr (se_m PySem.F.plainAttrs_list PySem.F.slot_list_append PySem.F.type_list_append md_append (fun _ _ _ _ _ _ r p e => tyL rfl r p e) (se_fld kc na_past (se_var 0)) (sa_cons (se_var 1) sa_nil))) (ss_cons (ss_fld kc na_undone (se_var 0) (se_lst (sa_nil))) (ss_one (ss_ret (se_ix (od_sub_ (r64 hr)) (se_meth0 (c_Desk_notes.mono (by decide)) hr (se_var 0)) (se_neg (se_int)) (fun _ _ => rfl))))))))
theorem d_law {f : Addr} {fd : FuncData} (F : L2.Fun K "law" "law" s_law f fd) (c_Desk_rings : MDef P w K mg base 7 "Desk" "rings" (F_Desk_rings)) (c_Desk__len_ : MDef P w K mg base 1 "Desk" "__len__" (F_Desk__len_)) (c_Desk_notes : MDef P w K mg base 6 "Desk" "notes" (F_Desk_notes)) (c_Desk_answers : MDef P w K mg base 1 "Desk" "answers" (F_Desk_answers)) (c_Desk_notes_R : MDef P w K mg base 6 "Desk" "notes" (F_Desk_notes_R)) (c_Desk_answers_R : MDef P w K mg base 1 "Desk" "answers" (F_Desk_answers_R)) (c_Desk_open_things : MDef P w K mg base 5 "Desk" "open_things" (F_Desk_open_things)) (c_Desk_tick : MDef P w K mg base 7 "Desk" "tick" (F_Desk_tick)) (c_notes_along : Def P w K mg base 6 "notes_along" (ePure F_notes_along)) (c_opens_along : Def P w K mg base 6 "opens_along" (ePure F_opens_along)) (c_law_answers : Def P w K mg base 2 "_law_answers" (F_law_answers)) (c_Desk__init_ : IDef P w K mg base 5 "Desk" (F_Desk__init_)) (c_law_setting : Def P w K mg base 2 "_law_setting" (F_law_setting)) (c_law_rule : Def P w K mg base 3 "_law_rule" (F_law_rule)) (z_sum : mg "sum" = none) (z_len : mg "len" = none) (z_enumerate : mg "enumerate" = none) : FnOk P w K mg base CX0 8 f fd ["_law_script"] (spH ⟨P, w, K⟩ 1 (F_law_k26)) :=
  fn_ok (N := N_law) (b := k_law_k26) F sc_law fun cdv A outer s H E hr => by
    have sc := sc_law
    exact ss_cons (ss_set 1 sc.nd rfl (Or.inl rfl) (se_lst (sa_cons (se_int) (sa_cons (se_int) sa_nil)))) (ss_cons (ss_par 2 3 rfl sc.nd rfl rfl (by decide) rfl rfl (se_call (c_law_setting.mono (by decide)) hr (by rfl) (sa_cons (se_var 0) (sa_cons (se_var 1) sa_nil))) (se_call (c_law_rule.mono (by decide)) hr (by rfl) (sa_cons (se_var 0) (sa_cons (se_var 1) sa_nil))) (hw := by rfl)) (ss_cons (ss_par 4 5 rfl sc.nd rfl rfl (by decide) rfl rfl (se_call (c_law_answers.mono (by decide)) hr (by rfl) (sa_cons (se_var 0) (sa_cons (se_var 1) (sa_cons (se_int) sa_nil)))) (se_make (c_Desk__init_.mono (by decide)) hr (by rfl) (sa_cons (se_var 2) (sa_cons (se_var 3) sa_nil))) (hw := by rfl)) (ss_cons (ss_if (st_bool (sw_or (st_cmp (od_ne (r64 hr)) (se_lenO (c_Desk__len_.mono (by decide)) hr (by rfl) z_len (se_var 5)) (se_int) (nomark _)) (sw_or (st_cmp (od_ne (r64 hr)) (se_meth0 (c_Desk_answers.mono (by decide)) hr (se_var 5)) (se_lstF (sa_nil)) (nomark _)) (sw_or (st_cmp (od_ne (r64 hr)) (se_meth0 (c_Desk_notes.mono (by decide)) hr (se_var 5)) (se_lstF (sa_nil)) (nomark _)) (sw_or1 (st_cmp (od_ne (r64 hr)) (se_meth0 (c_Desk_open_things.mono (by decide)) hr (se_var 5)) (se_int) (nomark _))))))) (ss_one (ss_ret (se_bl))) (ss_nil)) (ss_cons (ss_if (st_cmp (od_ne (r64 hr)) (se_meth0 (c_Desk_rings.mono (by decide)) hr (se_var 5)) (se_int) (nomark _)) (ss_one (ss_ret (se_bl))) (ss_nil)) (ss_cons (ss_par 6 7 rfl sc.nd rfl rfl (by decide) rfl rfl (se_call (c_notes_along.mono (by decide)) hr (by rfl) (sa_cons (se_var 2) (sa_cons (se_var 3) (sa_cons (se_var 4) sa_nil)))) (se_call (c_opens_along.mono (by decide)) hr (by rfl) (sa_cons (se_var 2) (sa_cons (se_var 3) (sa_cons (se_var 4) sa_nil)))) (hw := by rfl)) (ss_cons (ss_for PassesOwn.never rfl (si_enum (by rfl) z_enumerate (se_var 4)) (sg_tup rfl (sgs_cons (sg_name 8 sc.nd rfl (Or.inl rfl)) (sgs_cons (sg_name 9 sc.nd rfl (Or.inl rfl)) sgs_nil))) (ss_one (ss_if (st_bool (sw_or (st_cmp (od_ne (r64 hr)) (se_meth (c_Desk_tick.mono (by decide)) hr (se_var 5) (sa_cons (se_var 9) sa_nil)) (se_ix (od_sub_ (r64 hr)) (se_var 6) (se_var 8) (fun _ _ => rfl)) (nomark _)) (sw_or1 (st_cmp (od_ne (r64 hr)) (se_meth0 (c_Desk_open_things.mono (by decide)) hr (se_var 5)) (se_ix (od_sub_ (r64 hr)) (se_var 7) (se_var 8) (fun _ _ => rfl)) (nomark _))))) (ss_one (ss_ret (se_bl))) (ss_nil)))) (ss_cons (ss_expr (se_m PySem.F.plainAttrs_list PySem.F.slot_list_append PySem.F.type_list_append md_append (fun _ _ _ _ _ _ r p e => tyL rfl r p e) (se_meth0 (c_Desk_answers_R.mono (by decide)) hr (se_var 5)) (sa_cons (se_int) sa_nil))) (ss_cons (ss_expr (se_m PySem.F.plainAttrs_list PySem.F.slot_list_append PySem.F.type_list_append md_append (fun _ _ _ _ _ _ r p e => tyL rfl r p e) (se_meth0 (c_Desk_notes_R.mono (by decide)) hr (se_var 5)) (sa_cons (se_int) sa_nil))) (ss_cons (ss_if (st_bool (sw_or (st_cmp (od_ne (r64 hr)) (se_meth0 (c_Desk_answers.mono (by decide)) hr (se_var 5)) (se_var 4) (nomark _)) (sw_or (st_cmp (od_ne (r64 hr)) (se_meth0 (c_Desk_notes.mono (by decide)) hr (se_var 5)) (se_var 6) (nomark _)) (sw_or1 (st_cmp (od_ne (r64 hr)) (se_lenO (c_Desk__len_.mono (by decide)) hr (by rfl) z_len (se_var 5)) (se_callB (cd_len) (by rfl) z_len (by decide +kernel) (sa_cons (se_var 4) sa_nil)) (nomark _)))))) (ss_one (ss_ret (se_bl))) (ss_nil)) (ss_one (ss_ret (se_cmp (od_eq (r64 hr)) (se_meth0 (c_Desk_rings.mono (by decide)) hr (se_var 5)) (se_callB (cd_sum rfl) (by rfl) z_sum (by decide +kernel) (sa_cons (se_var 6) sa_nil)) (nomark _)))))))))))))
end
theorem all_mk {l : PySem.W.OpenLaw} {w : World} {K : PySem.W.Frag} {h : Heap} {mg : Str → Option Value} {fa C0 : Addr} (X : K.In h) (G : h.Ns mainGlobals mg) (hfa : mg "law" = some (.ref fa))
    (aC : PySem.W.nsIn K mainGlobals "Desk" = some (some (.ref C0))) (pg0 : PySem.W.plainGet K C0 Str.empty = true) (hd0 : PySem.W.hasDictIn K C0 = true) (po0 : PySem.W.plainOver K C0 = true) (sa0 : PySem.W.findIn K (.ref C0) "__setattr__" = some (some (.builtin "object.__setattr__"))) (mk0 : PySem.W.makesIn K C0 = true) (kc0 : PySem.W.keepIn K (.ref C0) = true)
    (nf_undone : PySem.W.findIn K (.ref C0) "undone" = some none)
    (nf_past : PySem.W.findIn K (.ref C0) "past" = some none)
    (nf_rule : PySem.W.findIn K (.ref C0) "rule" = some none)
    (nf_setting : PySem.W.findIn K (.ref C0) "setting" = some none)
    {f0 : Addr} {od0 an0 : Option Addr} {sl0 : Array (Option Value)} {oc0 kV0 dc0 pm0 cd0 ct0 : Value}
    (a0 : PySem.W.nsIn K mainGlobals "is_int" = some (some (.ref f0)))
    (l0 : K.lookup f0 = some ⟨oc0, od0, .func (PySem.W.fnOf "is_int" "is_int" (defArgs s_is_int) (defBody s_is_int) (defScope s_is_int) .none kV0 dc0 pm0 an0 cd0 ct0), sl0⟩) (c0 : PySem.W.codeIn K cd0 "is_int" = true) (k0 : PySem.W.keepIn K (.ref f0) = true)
    {f1 : Addr} {od1 an1 : Option Addr} {sl1 : Array (Option Value)} {oc1 kV1 dc1 pm1 cd1 ct1 : Value}
    (a1 : PySem.W.nsIn K mainGlobals "is_setting" = some (some (.ref f1)))
    (l1 : K.lookup f1 = some ⟨oc1, od1, .func (PySem.W.fnOf "is_setting" "is_setting" (defArgs s_is_setting) (defBody s_is_setting) (defScope s_is_setting) .none kV1 dc1 pm1 an1 cd1 ct1), sl1⟩) (c1 : PySem.W.codeIn K cd1 "is_setting" = true) (k1 : PySem.W.keepIn K (.ref f1) = true)
    {f2 : Addr} {od2 an2 : Option Addr} {sl2 : Array (Option Value)} {oc2 kV2 dc2 pm2 cd2 ct2 : Value}
    (a2 : PySem.W.nsIn K mainGlobals "is_rule" = some (some (.ref f2)))
    (l2 : K.lookup f2 = some ⟨oc2, od2, .func (PySem.W.fnOf "is_rule" "is_rule" (defArgs s_is_rule) (defBody s_is_rule) (defScope s_is_rule) .none kV2 dc2 pm2 an2 cd2 ct2), sl2⟩) (c2 : PySem.W.codeIn K cd2 "is_rule" = true) (k2 : PySem.W.keepIn K (.ref f2) = true)
    {f3 : Addr} {od3 an3 : Option Addr} {sl3 : Array (Option Value)} {oc3 kV3 dc3 pm3 cd3 ct3 : Value}
    (a3 : PySem.W.nsIn K mainGlobals "are_answers" = some (some (.ref f3)))
    (l3 : K.lookup f3 = some ⟨oc3, od3, .func (PySem.W.fnOf "are_answers" "are_answers" (defArgs s_are_answers) (defBody s_are_answers) (defScope s_are_answers) .none kV3 dc3 pm3 an3 cd3 ct3), sl3⟩) (c3 : PySem.W.codeIn K cd3 "are_answers" = true) (k3 : PySem.W.keepIn K (.ref f3) = true)
    {f4 : Addr} {od4 an4 : Option Addr} {sl4 : Array (Option Value)} {oc4 kV4 dc4 pm4 cd4 ct4 : Value}
    (a4 : PySem.W.nsIn K mainGlobals "need_setting" = some (some (.ref f4)))
    (l4 : K.lookup f4 = some ⟨oc4, od4, .func (PySem.W.fnOf "need_setting" "need_setting" (defArgs s_need_setting) (defBody s_need_setting) (defScope s_need_setting) .none kV4 dc4 pm4 an4 cd4 ct4), sl4⟩) (c4 : PySem.W.codeIn K cd4 "need_setting" = true) (k4 : PySem.W.keepIn K (.ref f4) = true)
    {f5 : Addr} {od5 an5 : Option Addr} {sl5 : Array (Option Value)} {oc5 kV5 dc5 pm5 cd5 ct5 : Value}
    (a5 : PySem.W.nsIn K mainGlobals "need_rule" = some (some (.ref f5)))
    (l5 : K.lookup f5 = some ⟨oc5, od5, .func (PySem.W.fnOf "need_rule" "need_rule" (defArgs s_need_rule) (defBody s_need_rule) (defScope s_need_rule) .none kV5 dc5 pm5 an5 cd5 ct5), sl5⟩) (c5 : PySem.W.codeIn K cd5 "need_rule" = true) (k5 : PySem.W.keepIn K (.ref f5) = true)
    {f6 : Addr} {od6 an6 : Option Addr} {sl6 : Array (Option Value)} {oc6 kV6 dc6 pm6 cd6 ct6 : Value}
    (a6 : PySem.W.nsIn K mainGlobals "need_both" = some (some (.ref f6)))
    (l6 : K.lookup f6 = some ⟨oc6, od6, .func (PySem.W.fnOf "need_both" "need_both" (defArgs s_need_both) (defBody s_need_both) (defScope s_need_both) .none kV6 dc6 pm6 an6 cd6 ct6), sl6⟩) (c6 : PySem.W.codeIn K cd6 "need_both" = true) (k6 : PySem.W.keepIn K (.ref f6) = true)
    {f7 : Addr} {od7 an7 : Option Addr} {sl7 : Array (Option Value)} {oc7 kV7 dc7 pm7 cd7 ct7 : Value}
    (a7 : PySem.W.nsIn K mainGlobals "need_answers" = some (some (.ref f7)))
    (l7 : K.lookup f7 = some ⟨oc7, od7, .func (PySem.W.fnOf "need_answers" "need_answers" (defArgs s_need_answers) (defBody s_need_answers) (defScope s_need_answers) .none kV7 dc7 pm7 an7 cd7 ct7), sl7⟩) (c7 : PySem.W.codeIn K cd7 "need_answers" = true) (k7 : PySem.W.keepIn K (.ref f7) = true)
    {f8 : Addr} {od8 an8 : Option Addr} {sl8 : Array (Option Value)} {oc8 kV8 dc8 pm8 cd8 ct8 : Value}
    (a8 : PySem.W.nsIn K mainGlobals "begun" = some (some (.ref f8)))
    (l8 : K.lookup f8 = some ⟨oc8, od8, .func (PySem.W.fnOf "begun" "begun" (defArgs s_begun) (defBody s_begun) (defScope s_begun) .none kV8 dc8 pm8 an8 cd8 ct8), sl8⟩) (c8 : PySem.W.codeIn K cd8 "begun" = true) (k8 : PySem.W.keepIn K (.ref f8) = true)
    {f9 : Addr} {od9 an9 : Option Addr} {sl9 : Array (Option Value)} {oc9 kV9 dc9 pm9 cd9 ct9 : Value}
    (a9 : PySem.W.nsIn K mainGlobals "gap_of" = some (some (.ref f9)))
    (l9 : K.lookup f9 = some ⟨oc9, od9, .func (PySem.W.fnOf "gap_of" "gap_of" (defArgs s_gap_of) (defBody s_gap_of) (defScope s_gap_of) .none kV9 dc9 pm9 an9 cd9 ct9), sl9⟩) (c9 : PySem.W.codeIn K cd9 "gap_of" = true) (k9 : PySem.W.keepIn K (.ref f9) = true)
    {f10 : Addr} {od10 an10 : Option Addr} {sl10 : Array (Option Value)} {oc10 kV10 dc10 pm10 cd10 ct10 : Value}
    (a10 : PySem.W.nsIn K mainGlobals "answered" = some (some (.ref f10)))
    (l10 : K.lookup f10 = some ⟨oc10, od10, .func (PySem.W.fnOf "answered" "answered" (defArgs s_answered) (defBody s_answered) (defScope s_answered) .none kV10 dc10 pm10 an10 cd10 ct10), sl10⟩) (c10 : PySem.W.codeIn K cd10 "answered" = true) (k10 : PySem.W.keepIn K (.ref f10) = true)
    {f11 : Addr} {od11 an11 : Option Addr} {sl11 : Array (Option Value)} {oc11 kV11 dc11 pm11 cd11 ct11 : Value}
    (a11 : PySem.W.nsIn K mainGlobals "tick" = some (some (.ref f11)))
    (l11 : K.lookup f11 = some ⟨oc11, od11, .func (PySem.W.fnOf "tick" "tick" (defArgs s_tick) (defBody s_tick) (defScope s_tick) .none kV11 dc11 pm11 an11 cd11 ct11), sl11⟩) (c11 : PySem.W.codeIn K cd11 "tick" = true) (k11 : PySem.W.keepIn K (.ref f11) = true)
    {f12 : Addr} {od12 an12 : Option Addr} {sl12 : Array (Option Value)} {oc12 kV12 dc12 pm12 cd12 ct12 : Value}
    (a12 : PySem.W.nsIn K mainGlobals "run" = some (some (.ref f12)))
    (l12 : K.lookup f12 = some ⟨oc12, od12, .func (PySem.W.fnOf "run" "run" (defArgs s_run_Z) (defBody s_run_Z) (defScope s_run_Z) .none kV12 dc12 pm12 an12 cd12 ct12), sl12⟩) (c12 : PySem.W.codeIn K cd12 "run" = true) (k12 : PySem.W.keepIn K (.ref f12) = true)
    {f13 : Addr} {od13 an13 : Option Addr} {sl13 : Array (Option Value)} {oc13 kV13 dc13 pm13 cd13 ct13 : Value}
    (a13 : PySem.W.nsIn K mainGlobals "need_run" = some (some (.ref f13)))
    (l13 : K.lookup f13 = some ⟨oc13, od13, .func (PySem.W.fnOf "need_run" "need_run" (defArgs s_need_run) (defBody s_need_run) (defScope s_need_run) .none kV13 dc13 pm13 an13 cd13 ct13), sl13⟩) (c13 : PySem.W.codeIn K cd13 "need_run" = true) (k13 : PySem.W.keepIn K (.ref f13) = true)
    {f14 : Addr} {od14 an14 : Option Addr} {sl14 : Array (Option Value)} {oc14 kV14 dc14 pm14 cd14 ct14 : Value}
    (a14 : PySem.W.nsIn K mainGlobals "notes_of" = some (some (.ref f14)))
    (l14 : K.lookup f14 = some ⟨oc14, od14, .func (PySem.W.fnOf "notes_of" "notes_of" (defArgs s_notes_of_R) (defBody s_notes_of_R) (defScope s_notes_of_R) .none kV14 dc14 pm14 an14 cd14 ct14), sl14⟩) (c14 : PySem.W.codeIn K cd14 "notes_of" = true) (k14 : PySem.W.keepIn K (.ref f14) = true)
    {f15 : Addr} {od15 an15 : Option Addr} {sl15 : Array (Option Value)} {oc15 kV15 dc15 pm15 cd15 ct15 : Value}
    (a15 : PySem.W.nsIn K mainGlobals "notes_along" = some (some (.ref f15)))
    (l15 : K.lookup f15 = some ⟨oc15, od15, .func (PySem.W.fnOf "notes_along" "notes_along" (defArgs s_notes_along) (defBody s_notes_along) (defScope s_notes_along) .none kV15 dc15 pm15 an15 cd15 ct15), sl15⟩) (c15 : PySem.W.codeIn K cd15 "notes_along" = true) (k15 : PySem.W.keepIn K (.ref f15) = true)
    {f16 : Addr} {od16 an16 : Option Addr} {sl16 : Array (Option Value)} {oc16 kV16 dc16 pm16 cd16 ct16 : Value}
    (a16 : PySem.W.nsIn K mainGlobals "opens_along" = some (some (.ref f16)))
    (l16 : K.lookup f16 = some ⟨oc16, od16, .func (PySem.W.fnOf "opens_along" "opens_along" (defArgs s_opens_along) (defBody s_opens_along) (defScope s_opens_along) .none kV16 dc16 pm16 an16 cd16 ct16), sl16⟩) (c16 : PySem.W.codeIn K cd16 "opens_along" = true) (k16 : PySem.W.keepIn K (.ref f16) = true)
    {f17 : Addr} {od17 an17 : Option Addr} {sl17 : Array (Option Value)} {oc17 kV17 dc17 pm17 cd17 ct17 : Value}
    (a17 : PySem.W.nsIn K mainGlobals "_law_draw" = some (some (.ref f17)))
    (l17 : K.lookup f17 = some ⟨oc17, od17, .func (PySem.W.fnOf "_law_draw" "_law_draw" (defArgs s_law_draw) (defBody s_law_draw) (defScope s_law_draw) .none kV17 dc17 pm17 an17 cd17 ct17), sl17⟩) (c17 : PySem.W.codeIn K cd17 "_law_draw" = true) (k17 : PySem.W.keepIn K (.ref f17) = true)
    {f18 : Addr} {od18 an18 : Option Addr} {sl18 : Array (Option Value)} {oc18 kV18 dc18 pm18 cd18 ct18 : Value}
    (a18 : PySem.W.nsIn K mainGlobals "_law_pick" = some (some (.ref f18)))
    (l18 : K.lookup f18 = some ⟨oc18, od18, .func (PySem.W.fnOf "_law_pick" "_law_pick" (defArgs s_law_pick) (defBody s_law_pick) (defScope s_law_pick) .none kV18 dc18 pm18 an18 cd18 ct18), sl18⟩) (c18 : PySem.W.codeIn K cd18 "_law_pick" = true) (k18 : PySem.W.keepIn K (.ref f18) = true)
    {f19 : Addr} {od19 an19 : Option Addr} {sl19 : Array (Option Value)} {oc19 kV19 dc19 pm19 cd19 ct19 : Value}
    (a19 : PySem.W.nsIn K mainGlobals "_law_setting" = some (some (.ref f19)))
    (l19 : K.lookup f19 = some ⟨oc19, od19, .func (PySem.W.fnOf "_law_setting" "_law_setting" (defArgs s_law_setting) (defBody s_law_setting) (defScope s_law_setting) .none kV19 dc19 pm19 an19 cd19 ct19), sl19⟩) (c19 : PySem.W.codeIn K cd19 "_law_setting" = true) (k19 : PySem.W.keepIn K (.ref f19) = true)
    {f20 : Addr} {od20 an20 : Option Addr} {sl20 : Array (Option Value)} {oc20 kV20 dc20 pm20 cd20 ct20 : Value}
    (a20 : PySem.W.nsIn K mainGlobals "_law_rule" = some (some (.ref f20)))
    (l20 : K.lookup f20 = some ⟨oc20, od20, .func (PySem.W.fnOf "_law_rule" "_law_rule" (defArgs s_law_rule) (defBody s_law_rule) (defScope s_law_rule) .none kV20 dc20 pm20 an20 cd20 ct20), sl20⟩) (c20 : PySem.W.codeIn K cd20 "_law_rule" = true) (k20 : PySem.W.keepIn K (.ref f20) = true)
    {f21 : Addr} {od21 an21 : Option Addr} {sl21 : Array (Option Value)} {oc21 kV21 dc21 pm21 cd21 ct21 : Value}
    (a21 : PySem.W.nsIn K mainGlobals "_law_answers" = some (some (.ref f21)))
    (l21 : K.lookup f21 = some ⟨oc21, od21, .func (PySem.W.fnOf "_law_answers" "_law_answers" (defArgs s_law_answers) (defBody s_law_answers) (defScope s_law_answers) .none kV21 dc21 pm21 an21 cd21 ct21), sl21⟩) (c21 : PySem.W.codeIn K cd21 "_law_answers" = true) (k21 : PySem.W.keepIn K (.ref f21) = true)
    {f22 : Addr} {od22 an22 : Option Addr} {sl22 : Array (Option Value)} {oc22 kV22 dc22 pm22 cd22 ct22 : Value}
    (a22 : PySem.W.findIn K (.ref C0) "__init__" = some (some (.ref f22))) (i22 : PySem.W.isFn K (.ref f22) = true)
    (l22 : K.lookup f22 = some ⟨oc22, od22, .func (PySem.W.fnOf "__init__" "Desk.__init__" (defArgs s_Desk__init_) (defBody s_Desk__init_) (defScope s_Desk__init_) .none kV22 dc22 pm22 an22 cd22 ct22), sl22⟩) (c22 : PySem.W.codeIn K cd22 "Desk.__init__" = true) (k22 : PySem.W.keepIn K (.ref f22) = true)
    {f23 : Addr} {od23 an23 : Option Addr} {sl23 : Array (Option Value)} {oc23 kV23 dc23 pm23 cd23 ct23 : Value}
    (a23 : PySem.W.findIn K (.ref C0) "__len__" = some (some (.ref f23))) (i23 : PySem.W.isFn K (.ref f23) = true)
    (l23 : K.lookup f23 = some ⟨oc23, od23, .func (PySem.W.fnOf "__len__" "Desk.__len__" (defArgs s_Desk__len_) (defBody s_Desk__len_) (defScope s_Desk__len_) .none kV23 dc23 pm23 an23 cd23 ct23), sl23⟩) (c23 : PySem.W.codeIn K cd23 "Desk.__len__" = true) (k23 : PySem.W.keepIn K (.ref f23) = true)
    {f24 : Addr} {od24 an24 : Option Addr} {sl24 : Array (Option Value)} {oc24 kV24 dc24 pm24 cd24 ct24 : Value}
    (a24 : PySem.W.findIn K (.ref C0) "notes" = some (some (.ref f24))) (i24 : PySem.W.isFn K (.ref f24) = true)
    (l24 : K.lookup f24 = some ⟨oc24, od24, .func (PySem.W.fnOf "notes" "Desk.notes" (defArgs s_Desk_notes_R) (defBody s_Desk_notes_R) (defScope s_Desk_notes_R) .none kV24 dc24 pm24 an24 cd24 ct24), sl24⟩) (c24 : PySem.W.codeIn K cd24 "Desk.notes" = true) (k24 : PySem.W.keepIn K (.ref f24) = true)
    {f25 : Addr} {od25 an25 : Option Addr} {sl25 : Array (Option Value)} {oc25 kV25 dc25 pm25 cd25 ct25 : Value}
    (a25 : PySem.W.findIn K (.ref C0) "rings" = some (some (.ref f25))) (i25 : PySem.W.isFn K (.ref f25) = true)
    (l25 : K.lookup f25 = some ⟨oc25, od25, .func (PySem.W.fnOf "rings" "Desk.rings" (defArgs s_Desk_rings) (defBody s_Desk_rings) (defScope s_Desk_rings) .none kV25 dc25 pm25 an25 cd25 ct25), sl25⟩) (c25 : PySem.W.codeIn K cd25 "Desk.rings" = true) (k25 : PySem.W.keepIn K (.ref f25) = true)
    {f26 : Addr} {od26 an26 : Option Addr} {sl26 : Array (Option Value)} {oc26 kV26 dc26 pm26 cd26 ct26 : Value}
    (a26 : PySem.W.findIn K (.ref C0) "answers" = some (some (.ref f26))) (i26 : PySem.W.isFn K (.ref f26) = true)
    (l26 : K.lookup f26 = some ⟨oc26, od26, .func (PySem.W.fnOf "answers" "Desk.answers" (defArgs s_Desk_answers_R) (defBody s_Desk_answers_R) (defScope s_Desk_answers_R) .none kV26 dc26 pm26 an26 cd26 ct26), sl26⟩) (c26 : PySem.W.codeIn K cd26 "Desk.answers" = true) (k26 : PySem.W.keepIn K (.ref f26) = true)
    {f27 : Addr} {od27 an27 : Option Addr} {sl27 : Array (Option Value)} {oc27 kV27 dc27 pm27 cd27 ct27 : Value}
    (a27 : PySem.W.findIn K (.ref C0) "open_things" = some (some (.ref f27))) (i27 : PySem.W.isFn K (.ref f27) = true)
    (l27 : K.lookup f27 = some ⟨oc27, od27, .func (PySem.W.fnOf "open_things" "Desk.open_things" (defArgs s_Desk_open_things) (defBody s_Desk_open_things) (defScope s_Desk_open_things) .none kV27 dc27 pm27 an27 cd27 ct27), sl27⟩) (c27 : PySem.W.codeIn K cd27 "Desk.open_things" = true) (k27 : PySem.W.keepIn K (.ref f27) = true)
    {f28 : Addr} {od28 an28 : Option Addr} {sl28 : Array (Option Value)} {oc28 kV28 dc28 pm28 cd28 ct28 : Value}
    (a28 : PySem.W.findIn K (.ref C0) "tick" = some (some (.ref f28))) (i28 : PySem.W.isFn K (.ref f28) = true)
    (l28 : K.lookup f28 = some ⟨oc28, od28, .func (PySem.W.fnOf "tick" "Desk.tick" (defArgs s_Desk_tick) (defBody s_Desk_tick) (defScope s_Desk_tick) .none kV28 dc28 pm28 an28 cd28 ct28), sl28⟩) (c28 : PySem.W.codeIn K cd28 "Desk.tick" = true) (k28 : PySem.W.keepIn K (.ref f28) = true)
    {f29 : Addr} {od29 an29 : Option Addr} {sl29 : Array (Option Value)} {oc29 kV29 dc29 pm29 cd29 ct29 : Value}
    (a29 : PySem.W.nsIn K mainGlobals "law" = some (some (.ref f29)))
    (l29 : K.lookup f29 = some ⟨oc29, od29, .func (PySem.W.fnOf "law" "law" (defArgs s_law) (defBody s_law) (defScope s_law) .none kV29 dc29 pm29 an29 cd29 ct29), sl29⟩) (c29 : PySem.W.codeIn K cd29 "law" = true) (k29 : PySem.W.keepIn K (.ref f29) = true)
    (z_isinstance : PySem.W.nsIn K mainGlobals "isinstance" = some none)
    (z_bool : PySem.W.nsIn K mainGlobals "bool" = some none)
    (z_int : PySem.W.nsIn K mainGlobals "int" = some none)
    (z_len : PySem.W.nsIn K mainGlobals "len" = some none)
    (z_tuple : PySem.W.nsIn K mainGlobals "tuple" = some none)
    (z_str : PySem.W.nsIn K mainGlobals "str" = some none)
    (z_all : PySem.W.nsIn K mainGlobals "all" = some none)
    (z_list : PySem.W.nsIn K mainGlobals "list" = some none)
    (z_min : PySem.W.nsIn K mainGlobals "min" = some none)
    (z_max : PySem.W.nsIn K mainGlobals "max" = some none)
    (z_any : PySem.W.nsIn K mainGlobals "any" = some none)
    (z_range : PySem.W.nsIn K mainGlobals "range" = some none)
    (z_sum : PySem.W.nsIn K mainGlobals "sum" = some none)
    (z_enumerate : PySem.W.nsIn K mainGlobals "enumerate" = some none)
    {p_PLAIN : Addr} {t_PLAIN0 t_PLAIN1 t_PLAIN2 t_PLAIN3 : Tok} {n_PLAIN : Nat} {d_PLAIN : Option Addr} {q_PLAIN : Array (Option Value)} (m_PLAIN : PySem.W.nsIn K mainGlobals "PLAIN" = some (some (.ref p_PLAIN))) (l_PLAIN : K.lookup p_PLAIN = some ⟨.type "tuple", d_PLAIN, .seq #[.str "every" t_PLAIN0, .str "quiet" t_PLAIN1, .str "slower" t_PLAIN2, .str "sooner" t_PLAIN3] n_PLAIN, q_PLAIN⟩)
    {t_LONGEST : Tok} (m_LONGEST : PySem.W.nsIn K mainGlobals "LONGEST" = some (some (.int 40 t_LONGEST)))
    {t_CAP : Tok} (m_CAP : PySem.W.nsIn K mainGlobals "CAP" = some (some (.int 4 t_CAP)))
    : ∃ fd : FuncData, (∀ (s : Shared) (v : Value), BindsTo s fd ⟨[v], []⟩ [("_law_script", v)]) ∧ ∀ base : Heap, K.In base → base.Ns mainGlobals mg → FnOk l.prog w K mg base CX0 8 fa fd ["_law_script"] (spH ⟨l.prog, w, K⟩ 1 (F_law_k26)) := by
  have e := hfa.symm.trans (PySem.W.mg_of X G a29)
  cases e
  refine ⟨PySem.W.fnOf "law" "law" (defArgs s_law) (defBody s_law) (defScope s_law) .none kV29 dc29 pm29 an29 cd29 ct29, fun s v => .of_eq rfl, fun base _ _ => ?_⟩
  have yC : KCls K "Desk" C0 := ⟨aC, ⟨pg0, hd0, po0, sa0⟩⟩
  have y_isinstance := PySem.W.mg_none_of X G z_isinstance
  have y_bool := PySem.W.mg_none_of X G z_bool
  have y_int := PySem.W.mg_none_of X G z_int
  have y_len := PySem.W.mg_none_of X G z_len
  have y_tuple := PySem.W.mg_none_of X G z_tuple
  have y_str := PySem.W.mg_none_of X G z_str
  have y_all := PySem.W.mg_none_of X G z_all
  have y_list := PySem.W.mg_none_of X G z_list
  have y_min := PySem.W.mg_none_of X G z_min
  have y_max := PySem.W.mg_none_of X G z_max
  have y_any := PySem.W.mg_none_of X G z_any
  have y_range := PySem.W.mg_none_of X G z_range
  have y_sum := PySem.W.mg_none_of X G z_sum
  have y_enumerate := PySem.W.mg_none_of X G z_enumerate
  have y_PLAIN : GTup K mg "PLAIN" ["every", "quiet", "slower", "sooner"] := ⟨_, _, _, _, PySem.W.mg_of X G m_PLAIN, l_PLAIN, rfl, rfl, by show 4 ≤ _; decide, by repeat (first | exact .nil | refine .cons ⟨_, rfl⟩ ?_)⟩
  have y_LONGEST := PySem.W.mg_of X G m_LONGEST
  have y_CAP := PySem.W.mg_of X G m_CAP
  have b_is_int := ((fun_mk (st := s_is_int) l0 c0 k0).binds (ps := ["value", "least", "most"]) fun _ _ _ _ _ _ us hl => match us, hl with | [_, _, _], _ => rfl)
  have e_is_int := d_is_int (P := l.prog) (w := w) (base := base) (fun_mk (st := s_is_int) l0 c0 k0) b_is_int (PySem.W.mg_of X G a0) y_isinstance y_bool y_int
  have b_is_setting := ((fun_mk (st := s_is_setting) l1 c1 k1).binds (ps := ["candidate"]) fun _ _ _ _ _ _ us hl => match us, hl with | [_], _ => rfl)
  have e_is_setting := d_is_setting (P := l.prog) (w := w) (base := base) (fun_mk (st := s_is_setting) l1 c1 k1) b_is_setting (PySem.W.mg_of X G a1) e_is_int y_len y_isinstance y_tuple
  have b_is_rule := ((fun_mk (st := s_is_rule) l2 c2 k2).binds (ps := ["candidate"]) fun _ _ _ _ _ _ us hl => match us, hl with | [_], _ => rfl)
  have e_is_rule := d_is_rule (P := l.prog) (w := w) (base := base) (fun_mk (st := s_is_rule) l2 c2 k2) b_is_rule (PySem.W.mg_of X G a2) e_is_int y_len y_isinstance y_str y_tuple y_PLAIN
  have b_are_answers := ((fun_mk (st := s_are_answers) l3 c3 k3).binds (ps := ["candidate"]) fun _ _ _ _ _ _ us hl => match us, hl with | [_], _ => rfl)
  have e_are_answers := d_are_answers (P := l.prog) (w := w) (base := base) (fun_mk (st := s_are_answers) l3 c3 k3) b_are_answers (PySem.W.mg_of X G a3) e_is_int y_all y_len y_isinstance y_list y_LONGEST
  have b_need_setting := ((fun_mk (st := s_need_setting) l4 c4 k4).binds (ps := ["value"]) fun _ _ _ _ _ _ us hl => match us, hl with | [_], _ => rfl)
  have e_need_setting := d_need_setting (P := l.prog) (w := w) (base := base) (fun_mk (st := s_need_setting) l4 c4 k4) b_need_setting (PySem.W.mg_of X G a4) e_is_setting
  have b_need_rule := ((fun_mk (st := s_need_rule) l5 c5 k5).binds (ps := ["value"]) fun _ _ _ _ _ _ us hl => match us, hl with | [_], _ => rfl)
  have e_need_rule := d_need_rule (P := l.prog) (w := w) (base := base) (fun_mk (st := s_need_rule) l5 c5 k5) b_need_rule (PySem.W.mg_of X G a5) e_is_rule
  have b_need_both := ((fun_mk (st := s_need_both) l6 c6 k6).binds (ps := ["setting", "rule"]) fun _ _ _ _ _ _ us hl => match us, hl with | [_, _], _ => rfl)
  have e_need_both := d_need_both (P := l.prog) (w := w) (base := base) (fun_mk (st := s_need_both) l6 c6 k6) b_need_both (PySem.W.mg_of X G a6) e_need_rule e_need_setting
  have b_need_answers := ((fun_mk (st := s_need_answers) l7 c7 k7).binds (ps := ["value"]) fun _ _ _ _ _ _ us hl => match us, hl with | [_], _ => rfl)
  have e_need_answers := d_need_answers (P := l.prog) (w := w) (base := base) (fun_mk (st := s_need_answers) l7 c7 k7) b_need_answers (PySem.W.mg_of X G a7) e_are_answers
  have b_begun := ((fun_mk (st := s_begun) l8 c8 k8).binds (ps := []) fun _ _ _ _ _ _ us hl => match us, hl with | [], _ => rfl)
  have e_begun := d_begun (P := l.prog) (w := w) (base := base) (fun_mk (st := s_begun) l8 c8 k8) b_begun (PySem.W.mg_of X G a8)
  have b_gap_of := ((fun_mk (st := s_gap_of) l9 c9 k9).binds (ps := ["rule", "times"]) fun _ _ _ _ _ _ us hl => match us, hl with | [_, _], _ => rfl)
  have e_gap_of := d_gap_of (P := l.prog) (w := w) (base := base) (fun_mk (st := s_gap_of) l9 c9 k9) b_gap_of (PySem.W.mg_of X G a9) y_min y_max
  have b_answered := ((fun_mk (st := s_answered) l10 c10 k10).binds (ps := ["setting", "rule", "place", "answer"]) fun _ _ _ _ _ _ us hl => match us, hl with | [_, _, _, _], _ => rfl)
  have e_answered := d_answered (P := l.prog) (w := w) (base := base) (fun_mk (st := s_answered) l10 c10 k10) b_answered (PySem.W.mg_of X G a10) e_gap_of y_tuple y_len y_any
  have b_tick := ((fun_mk (st := s_tick) l11 c11 k11).binds (ps := ["setting", "rule", "place", "answer"]) fun _ _ _ _ _ _ us hl => match us, hl with | [_, _, _, _], _ => rfl)
  have e_tick := d_tick (P := l.prog) (w := w) (base := base) (fun_mk (st := s_tick) l11 c11 k11) b_tick (PySem.W.mg_of X G a11) e_answered e_gap_of y_tuple y_min y_CAP
  have b_run := ((fun_mk (st := s_run) l12 c12 k12).binds (ps := ["setting", "rule", "answers"]) fun _ _ _ _ _ _ us hl => match us, hl with | [_, _, _], _ => rfl)
  have e_run := d_run (P := l.prog) (w := w) (base := base) (fun_mk (st := s_run) l12 c12 k12) b_run (PySem.W.mg_of X G a12) e_tick e_begun
  have b_need_run := ((fun_mk (st := s_need_run) l13 c13 k13).binds (ps := ["setting", "rule", "answers"]) fun _ _ _ _ _ _ us hl => match us, hl with | [_, _, _], _ => rfl)
  have e_need_run := d_need_run (P := l.prog) (w := w) (base := base) (fun_mk (st := s_need_run) l13 c13 k13) b_need_run (PySem.W.mg_of X G a13) e_need_answers e_need_both
  have b_notes_of := ((fun_mk (st := s_notes_of) l14 c14 k14).binds (ps := ["setting", "rule", "answers"]) fun _ _ _ _ _ _ us hl => match us, hl with | [_, _, _], _ => rfl)
  have e_notes_of := d_notes_of (P := l.prog) (w := w) (base := base) (fun_mk (st := s_notes_of) l14 c14 k14) b_notes_of (PySem.W.mg_of X G a14) e_run
  have b_notes_along := ((fun_mk (st := s_notes_along) l15 c15 k15).binds (ps := ["setting", "rule", "answers"]) fun _ _ _ _ _ _ us hl => match us, hl with | [_, _, _], _ => rfl)
  have e_notes_along := d_notes_along (P := l.prog) (w := w) (base := base) (fun_mk (st := s_notes_along) l15 c15 k15) b_notes_along (PySem.W.mg_of X G a15) e_notes_of e_need_run
  have b_opens_along := ((fun_mk (st := s_opens_along) l16 c16 k16).binds (ps := ["setting", "rule", "answers"]) fun _ _ _ _ _ _ us hl => match us, hl with | [_, _, _], _ => rfl)
  have e_opens_along := d_opens_along (P := l.prog) (w := w) (base := base) (fun_mk (st := s_opens_along) l16 c16 k16) b_opens_along (PySem.W.mg_of X G a16) e_run e_need_run y_len
  have b_law_draw := ((fun_mk (st := s_law_draw) l17 c17 k17).binds (ps := ["_law_script", "_law_town", "_law_many"]) fun _ _ _ _ _ _ us hl => match us, hl with | [_, _, _], _ => rfl)
  have e_law_draw := d_law_draw (P := l.prog) (w := w) (base := base) (fun_mk (st := s_law_draw) l17 c17 k17) b_law_draw (PySem.W.mg_of X G a17) y_len
  have b_law_pick := ((fun_mk (st := s_law_pick) l18 c18 k18).binds (ps := ["_law_script", "_law_town", "_law_some"]) fun _ _ _ _ _ _ us hl => match us, hl with | [_, _, _], _ => rfl)
  have e_law_pick := d_law_pick (P := l.prog) (w := w) (base := base) (fun_mk (st := s_law_pick) l18 c18 k18) b_law_pick (PySem.W.mg_of X G a18) e_law_draw y_len
  have b_law_setting := ((fun_mk (st := s_law_setting) l19 c19 k19).binds (ps := ["_law_script", "_law_town"]) fun _ _ _ _ _ _ us hl => match us, hl with | [_, _], _ => rfl)
  have e_law_setting := d_law_setting (P := l.prog) (w := w) (base := base) (fun_mk (st := s_law_setting) l19 c19 k19) b_law_setting (PySem.W.mg_of X G a19) e_law_draw
  have b_law_rule := ((fun_mk (st := s_law_rule) l20 c20 k20).binds (ps := ["_law_script", "_law_town"]) fun _ _ _ _ _ _ us hl => match us, hl with | [_, _], _ => rfl)
  have e_law_rule := d_law_rule (P := l.prog) (w := w) (base := base) (fun_mk (st := s_law_rule) l20 c20 k20) b_law_rule (PySem.W.mg_of X G a20) e_law_draw e_law_pick
  have b_law_answers := ((fun_mk (st := s_law_answers) l21 c21 k21).binds (ps := ["_law_script", "_law_town", "_law_most"]) fun _ _ _ _ _ _ us hl => match us, hl with | [_, _, _], _ => rfl)
  have e_law_answers := d_law_answers (P := l.prog) (w := w) (base := base) (fun_mk (st := s_law_answers) l21 c21 k21) b_law_answers (PySem.W.mg_of X G a21) e_law_draw y_range y_min
  have b_Desk__init_ := ((fun_mk (st := s_Desk__init_) l22 c22 k22).binds (ps := ["self", "setting", "rule"]) fun _ _ _ _ _ _ us hl => match us, hl with | [_, _, _], _ => rfl)
  have e_Desk__init_ := d_Desk__init_ (P := l.prog) (w := w) (mg := mg) (base := base) (fun_mk (st := s_Desk__init_) l22 c22 k22) b_Desk__init_ yC ⟨mk0, a22, i22, kc0⟩ (PySem.W.mg_of X G aC) nf_undone nf_past nf_rule nf_setting e_need_both
  have b_Desk__len_ := ((fun_mk (st := s_Desk__len_) l23 c23 k23).binds (ps := ["self"]) fun _ _ _ _ _ _ us hl => match us, hl with | [_], _ => rfl)
  have e_Desk__len_ := d_Desk__len_ (P := l.prog) (w := w) (mg := mg) (base := base) (fun_mk (st := s_Desk__len_) l23 c23 k23) b_Desk__len_ yC ⟨a23, i23, k23⟩ nf_past y_len
  have b_run_Z := ((fun_mk (st := s_run_Z) l12 c12 k12).binds (ps := ["setting", "rule", "answers"]) fun _ _ _ _ _ _ us hl => match us, hl with | [_, _, _], _ => rfl)
  have e_run_Z := d_run_Z (P := l.prog) (w := w) (base := base) (fun_mk (st := s_run_Z) l12 c12 k12) b_run_Z (PySem.W.mg_of X G a12) e_tick e_begun
  have b_notes_of_Z := ((fun_mk (st := s_notes_of_Z) l14 c14 k14).binds (ps := ["setting", "rule", "answers"]) fun _ _ _ _ _ _ us hl => match us, hl with | [_, _, _], _ => rfl)
  have e_notes_of_Z := d_notes_of_Z (P := l.prog) (w := w) (base := base) (fun_mk (st := s_notes_of_Z) l14 c14 k14) b_notes_of_Z (PySem.W.mg_of X G a14) e_run_Z
  have b_Desk_notes := ((fun_mk (st := s_Desk_notes) l24 c24 k24).binds (ps := ["self"]) fun _ _ _ _ _ _ us hl => match us, hl with | [_], _ => rfl)
  have e_Desk_notes := d_Desk_notes (P := l.prog) (w := w) (mg := mg) (base := base) (fun_mk (st := s_Desk_notes) l24 c24 k24) b_Desk_notes yC ⟨a24, i24, k24⟩ nf_past nf_rule nf_setting e_notes_of_Z
  have b_Desk_rings := ((fun_mk (st := s_Desk_rings) l25 c25 k25).binds (ps := ["self"]) fun _ _ _ _ _ _ us hl => match us, hl with | [_], _ => rfl)
  have e_Desk_rings := d_Desk_rings (P := l.prog) (w := w) (mg := mg) (base := base) (fun_mk (st := s_Desk_rings) l25 c25 k25) b_Desk_rings yC ⟨a25, i25, k25⟩ e_Desk_notes y_sum
  have b_Desk_answers := ((fun_mk (st := s_Desk_answers) l26 c26 k26).binds (ps := ["self"]) fun _ _ _ _ _ _ us hl => match us, hl with | [_], _ => rfl)
  have e_Desk_answers := d_Desk_answers (P := l.prog) (w := w) (mg := mg) (base := base) (fun_mk (st := s_Desk_answers) l26 c26 k26) b_Desk_answers yC ⟨a26, i26, k26⟩ nf_past y_list
  have b_Desk_open_things := ((fun_mk (st := s_Desk_open_things) l27 c27 k27).binds (ps := ["self"]) fun _ _ _ _ _ _ us hl => match us, hl with | [_], _ => rfl)
  have e_Desk_open_things := d_Desk_open_things (P := l.prog) (w := w) (mg := mg) (base := base) (fun_mk (st := s_Desk_open_things) l27 c27 k27) b_Desk_open_things yC ⟨a27, i27, k27⟩ nf_past nf_rule nf_setting e_begun e_run_Z y_len
  have b_Desk_answers_R := ((fun_mk (st := s_Desk_answers_R) l26 c26 k26).binds (ps := ["self"]) fun _ _ _ _ _ _ us hl => match us, hl with | [_], _ => rfl)
  have e_Desk_answers_R := d_Desk_answers_R (P := l.prog) (w := w) (mg := mg) (base := base) (fun_mk (st := s_Desk_answers_R) l26 c26 k26) b_Desk_answers_R yC ⟨a26, i26, k26⟩ nf_past y_list
  have b_notes_of_R := ((fun_mk (st := s_notes_of_R) l14 c14 k14).binds (ps := ["setting", "rule", "answers"]) fun _ _ _ _ _ _ us hl => match us, hl with | [_, _, _], _ => rfl)
  have e_notes_of_R := d_notes_of_R (P := l.prog) (w := w) (base := base) (fun_mk (st := s_notes_of_R) l14 c14 k14) b_notes_of_R (PySem.W.mg_of X G a14) e_run_Z
  have b_Desk_notes_R := ((fun_mk (st := s_Desk_notes_R) l24 c24 k24).binds (ps := ["self"]) fun _ _ _ _ _ _ us hl => match us, hl with | [_], _ => rfl)
  have e_Desk_notes_R := d_Desk_notes_R (P := l.prog) (w := w) (mg := mg) (base := base) (fun_mk (st := s_Desk_notes_R) l24 c24 k24) b_Desk_notes_R yC ⟨a24, i24, k24⟩ nf_past nf_rule nf_setting e_notes_of_R
  have b_Desk_tick := ((fun_mk (st := s_Desk_tick) l28 c28 k28).binds (ps := ["self", "answer"]) fun _ _ _ _ _ _ us hl => match us, hl with | [_, _], _ => rfl)
  have e_Desk_tick := d_Desk_tick (P := l.prog) (w := w) (mg := mg) (base := base) (fun_mk (st := s_Desk_tick) l28 c28 k28) b_Desk_tick yC ⟨a28, i28, k28⟩ nf_undone nf_past e_Desk_notes e_is_int y_len y_LONGEST
  exact d_law (P := l.prog) (w := w) (base := base) (fun_mk (st := s_law) l29 c29 k29) e_Desk_rings e_Desk__len_ e_Desk_notes e_Desk_answers e_Desk_notes_R e_Desk_answers_R e_Desk_open_things e_Desk_tick e_notes_along e_opens_along e_law_answers e_Desk__init_ e_law_setting e_law_rule y_sum y_len y_enumerate
end PyL
open PySem PySem.W PyProof.Rows
set_option maxHeartbeats 0 in
theorem PySem.Challenge.cw_remindrules_k26_whole_desks_holds : PySem.Challenge.rw_remindrules_k26_whole_desks.Holds := by
  w_on; o_law; k_head; (case hw => w_witness2)
  k_fill
  refine L2.walk_of (l := PySem.Challenge.rw_remindrules_k26_whole_desks) (n := 63) (k := 8) (x := "_law_script") (CX := fun _ => L2.CX0) (sp := fun w => PyD.spH ⟨PySem.Challenge.rw_remindrules_k26_whole_desks.prog, w, _⟩ 1 PyD.F_law_k26) rfl (by decide) rfl ⟨rfl, by decide, by decide⟩ (fun w h Y => PySem.W.kIn_of Y) ?F (fun _ _ a ns hl hO hS => PyD.law_sp PyD.law26 hl hO hS) (fun _ _ _ _ _ h => h)
  case F =>
    intro w mg fa h KX G hmg
    refine' PyL.all_mk KX G hmg ?aC ?pg0 ?hd0 ?po0 ?sa0 ?mk0 ?kc0 ?nf_undone ?nf_past ?nf_rule ?nf_setting ?a0 ?l0 ?c0 ?k0 ?a1 ?l1 ?c1 ?k1 ?a2 ?l2 ?c2 ?k2 ?a3 ?l3 ?c3 ?k3 ?a4 ?l4 ?c4 ?k4 ?a5 ?l5 ?c5 ?k5 ?a6 ?l6 ?c6 ?k6 ?a7 ?l7 ?c7 ?k7 ?a8 ?l8 ?c8 ?k8 ?a9 ?l9 ?c9 ?k9 ?a10 ?l10 ?c10 ?k10 ?a11 ?l11 ?c11 ?k11 ?a12 ?l12 ?c12 ?k12 ?a13 ?l13 ?c13 ?k13 ?a14 ?l14 ?c14 ?k14 ?a15 ?l15 ?c15 ?k15 ?a16 ?l16 ?c16 ?k16 ?a17 ?l17 ?c17 ?k17 ?a18 ?l18 ?c18 ?k18 ?a19 ?l19 ?c19 ?k19 ?a20 ?l20 ?c20 ?k20 ?a21 ?l21 ?c21 ?k21 ?a22 ?i22 ?l22 ?c22 ?k22 ?a23 ?i23 ?l23 ?c23 ?k23 ?a24 ?i24 ?l24 ?c24 ?k24 ?a25 ?i25 ?l25 ?c25 ?k25 ?a26 ?i26 ?l26 ?c26 ?k26 ?a27 ?i27 ?l27 ?c27 ?k27 ?a28 ?i28 ?l28 ?c28 ?k28 ?a29 ?l29 ?c29 ?k29 ?z_isinstance ?z_bool ?z_int ?z_len ?z_tuple ?z_str ?z_all ?z_list ?z_min ?z_max ?z_any ?z_range ?z_sum ?z_enumerate ?m_PLAIN ?l_PLAIN ?m_LONGEST ?m_CAP
    (case aC => k_is); (case pg0 => k_is); (case hd0 => k_is); (case po0 => k_is); (case sa0 => k_is); (case mk0 => k_is); (case kc0 => k_is); (case nf_undone => k_is); (case nf_past => k_is); (case nf_rule => k_is); (case nf_setting => k_is); (case a0 => k_is); (case l0 => k_is); (case c0 => k_is); (case k0 => k_is); (case a1 => k_is); (case l1 => k_is); (case c1 => k_is); (case k1 => k_is); (case a2 => k_is); (case l2 => k_is); (case c2 => k_is); (case k2 => k_is); (case a3 => k_is); (case l3 => k_is); (case c3 => k_is); (case k3 => k_is); (case a4 => k_is); (case l4 => k_is); (case c4 => k_is); (case k4 => k_is); (case a5 => k_is); (case l5 => k_is); (case c5 => k_is); (case k5 => k_is); (case a6 => k_is); (case l6 => k_is); (case c6 => k_is); (case k6 => k_is); (case a7 => k_is); (case l7 => k_is); (case c7 => k_is); (case k7 => k_is); (case a8 => k_is); (case l8 => k_is); (case c8 => k_is); (case k8 => k_is); (case a9 => k_is); (case l9 => k_is); (case c9 => k_is); (case k9 => k_is); (case a10 => k_is); (case l10 => k_is); (case c10 => k_is); (case k10 => k_is); (case a11 => k_is); (case l11 => k_is); (case c11 => k_is); (case k11 => k_is); (case a12 => k_is); (case l12 => k_is); (case c12 => k_is); (case k12 => k_is); (case a13 => k_is); (case l13 => k_is); (case c13 => k_is); (case k13 => k_is); (case a14 => k_is); (case l14 => k_is); (case c14 => k_is); (case k14 => k_is); (case a15 => k_is); (case l15 => k_is); (case c15 => k_is); (case k15 => k_is); (case a16 => k_is); (case l16 => k_is); (case c16 => k_is); (case k16 => k_is); (case a17 => k_is); (case l17 => k_is); (case c17 => k_is); (case k17 => k_is); (case a18 => k_is); (case l18 => k_is); (case c18 => k_is); (case k18 => k_is); (case a19 => k_is); (case l19 => k_is); (case c19 => k_is); (case k19 => k_is); (case a20 => k_is); (case l20 => k_is); (case c20 => k_is); (case k20 => k_is); (case a21 => k_is); (case l21 => k_is); (case c21 => k_is); (case k21 => k_is); (case a22 => k_is); (case i22 => k_is); (case l22 => k_is); (case c22 => k_is); (case k22 => k_is); (case a23 => k_is); (case i23 => k_is); (case l23 => k_is); (case c23 => k_is); (case k23 => k_is); (case a24 => k_is); (case i24 => k_is); (case l24 => k_is); (case c24 => k_is); (case k24 => k_is); (case a25 => k_is); (case i25 => k_is); (case l25 => k_is); (case c25 => k_is); (case k25 => k_is); (case a26 => k_is); (case i26 => k_is); (case l26 => k_is); (case c26 => k_is); (case k26 => k_is); (case a27 => k_is); (case i27 => k_is); (case l27 => k_is); (case c27 => k_is); (case k27 => k_is); (case a28 => k_is); (case i28 => k_is); (case l28 => k_is); (case c28 => k_is); (case k28 => k_is); (case a29 => k_is); (case l29 => k_is); (case c29 => k_is); (case k29 => k_is); (case z_isinstance => k_is); (case z_bool => k_is); (case z_int => k_is); (case z_len => k_is); (case z_tuple => k_is); (case z_str => k_is); (case z_all => k_is); (case z_list => k_is); (case z_min => k_is); (case z_max => k_is); (case z_any => k_is); (case z_range => k_is); (case z_sum => k_is); (case z_enumerate => k_is); (case m_PLAIN => k_is); (case l_PLAIN => k_is); (case m_LONGEST => k_is); (case m_CAP => k_is)
