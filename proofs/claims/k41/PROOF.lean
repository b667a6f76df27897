import PyProof.Rows.All
import Wide.All
import OpenK.AllK
import Wide.FinOn
import HandS.ForMost
import HandS.Exc
import HandS.ExcOwn
import HandS.TryOnly
import HandS.CallSlots
import HandS.WordsExc
import HandS.Style
import HandS.Walk
import HandS.Lambda
import HandS.Nested
import HandS.EndTab
import HandS.Zip
import KE.GoesEnum
import KE.GoesMore
import HandS.Defaults
import HandS.MakeKw
import HandS.MakeKwOnly
import HandS.IsInst
import HandS.TupAny
import HandS.Wide
import HandS.WideBits
import HandS.SortInts
import HandS.SetFor
import HandS.RaiseMore
import HandS.Strs
import HandS.EndOwn
import HandS.Star
import HandS.Conv
import HandS.TupSets
import HandS.DictComp
import HandS.Iter
import KE.KMinKey
import HandS.Sort
import PySem.Challenge.RW_fuseboards_k41_by_whom_faults_are_broken
set_option Elab.async false
set_option linter.all false
set_option maxRecDepth 100000
set_option maxHeartbeats 4000000
/-! PD0: data, environments, denotations (plain Lean, no program). -/
namespace PD
open PySem
/-- a datum -/
inductive D where
  | non
  | bl (b : Bool)
  | int (i : Int)
  | str (s : Str)
  | tup (l : List D)
  | lst (l : List D)
  | dct (l : List (Sum Int Str × D))
  | set (l : List Int)
  | obj (c : Nat) (l : List (Str × D))
  | glb (n : Nat)
  | ty (s : String)
  | rg (n : Int)

/-- how a slot holds its datum: shared and never changed again; its own; lent by the caller; lent and now shared; locked -/
inductive Md where
  | dat | own | par | pfz | lck | lam
  deriving DecidableEq
def Md.mut : Md → Bool
  | .own => true
  | .par => true
  | _ => false
def Md.ow : Md → Bool
  | .own => true
  | .par => true
  | .lck => true
  | _ => false
structure Sl where
  m : Md
  d : D
abbrev EnD := List (Option Sl)
/-- an exception: its class, the name of its field, what it keeps -/
structure Xn where
  c : Nat
  f : Str
  d : Option D
/-- what comes of a run -/
inductive R (α : Type) where
  | ok (a : α) (e : EnD)
  | ex (x : Xn) (e : EnD)
  | no
abbrev M (α : Type) := EnD → R α
/-- a value: shared, new and nobody else's, what the slot i holds -/
inductive Rv where
  | dat (d : D)
  | own (d : D)
  | var (i : Nat)
def R.bind {α β : Type} (m : R α) (f : α → M β) : R β := match m with
  | .ok a e => f a e
  | .ex x e => .ex x e
  | .no => .no
@[simp] theorem R.bind_ok {α β : Type} (a : α) (e : EnD) (f : α → M β) : (R.ok a e).bind f = f a e := rfl
@[simp] theorem R.bind_ex {α β : Type} (x : Xn) (e : EnD) (f : α → M β) : (R.ex x e : R α).bind f = .ex x e := rfl
@[simp] theorem R.bind_no {α β : Type} (f : α → M β) : (R.no : R α).bind f = .no := rfl
/-- an option's value, or no run -/
def R.opt {α β : Type} (o : Option α) (f : α → R β) : R β := match o with
  | some a => f a
  | none => .no
@[simp] theorem R.opt_some {α β : Type} (a : α) (f : α → R β) : R.opt (some a) f = f a := rfl
@[simp] theorem R.opt_none {α β : Type} (f : α → R β) : R.opt (none : Option α) f = .no := rfl
def look (Γ : EnD) : Rv → Option D
  | .dat d => some d
  | .own d => some d
  | .var i => match Γ[i]? with
    | some (some ⟨.lam, _⟩) => none
    | some (some s) => some s.d
    | _ => none
/-- shared from now on -/
def frz (Γ : EnD) : Rv → Option (D × EnD)
  | .dat d => some (d, Γ)
  | .own d => some (d, Γ)
  | .var i => match Γ[i]? with
    | some (some ⟨.dat, d⟩) => some (d, Γ)
    | some (some ⟨.pfz, d⟩) => some (d, Γ)
    | some (some ⟨.own, d⟩) => some (d, Γ.set i (some ⟨.dat, d⟩))
    | some (some ⟨.par, d⟩) => some (d, Γ.set i (some ⟨.pfz, d⟩))
    | _ => none
/-! ### expressions -/
def mVar (i : Nat) : M Rv := fun Γ => match Γ[i]? with
  | some (some ⟨.dat, d⟩) => .ok (.dat d) Γ
  | some (some ⟨.pfz, d⟩) => .ok (.dat d) Γ
  | some (some _) => .ok (.var i) Γ
  | _ => .no
def mK (d : D) : M Rv := fun Γ => .ok (.dat d) Γ
def m1 (f : D → Option Rv) (a : M Rv) : M Rv := fun Γ => (a Γ).bind fun r Γ => R.opt (look Γ r) fun d => R.opt (f d) fun o => .ok o Γ
def m2 (f : D → D → Option Rv) (a b : M Rv) : M Rv := fun Γ => (a Γ).bind fun r Γ => (b Γ).bind fun q Γ => R.opt (look Γ r) fun d => R.opt (look Γ q) fun e => R.opt (f d e) fun o => .ok o Γ
def mFz (a : M Rv) : M Rv := fun Γ => (a Γ).bind fun r Γ => R.opt (frz Γ r) fun p => .ok (.dat p.1) p.2
def aNil : M (List Rv) := fun Γ => .ok [] Γ
def aCons (a : M Rv) (as : M (List Rv)) : M (List Rv) := fun Γ => (a Γ).bind fun r Γ => (as Γ).bind fun rs Γ => .ok (r :: rs) Γ
/-- the data that values are now -/
def looks (Γ : EnD) : List Rv → Option (List D)
  | [] => some []
  | r :: rs => match look Γ r, looks Γ rs with
    | some d, some ds => some (d :: ds)
    | _, _ => none
/-- shared ones -/
def dats : List Rv → Option (List D)
  | [] => some []
  | .dat d :: rs => (dats rs).map (d :: ·)
  | _ :: _ => none
/-- a built-in called -/
def mB (f : List D → Option Rv) (as : M (List Rv)) : M Rv := fun Γ => (as Γ).bind fun rs Γ => R.opt (looks Γ rs) fun ds => R.opt (f ds) fun o => .ok o Γ
def LIM : Nat := 16777216
def mTup (as : M (List Rv)) : M Rv := fun Γ => (as Γ).bind fun rs Γ => R.opt (dats rs) fun ds => if ds.length ≤ LIM then .ok (.dat (.tup ds)) Γ else .no
def mLst (as : M (List Rv)) : M Rv := fun Γ => (as Γ).bind fun rs Γ => R.opt (dats rs) fun ds => if ds.length ≤ LIM then .ok (.own (.lst ds)) Γ else .no
/-! ### tests -/
def truth : D → Option Bool
  | .non => some false
  | .bl b => some b
  | .int i => some (i != 0)
  | .lst l => some (!l.isEmpty)
  | .tup l => some (!l.isEmpty)
  | _ => none
/-- of a bool -/
def tB (a : M Rv) : M Bool := fun Γ => (a Γ).bind fun r Γ => match r with
  | .dat (.bl b) => .ok b Γ
  | _ => .no
def tT (a : M Rv) : M Bool := fun Γ => (a Γ).bind fun r Γ => R.opt (look Γ r) fun d => R.opt (truth d) fun b => .ok b Γ
def tAnd (a b : M Bool) : M Bool := fun Γ => (a Γ).bind fun c Γ => if c = true then b Γ else .ok false Γ
def tOr (a b : M Bool) : M Bool := fun Γ => (a Γ).bind fun c Γ => if c = true then .ok true Γ else b Γ
def tNot (a : M Bool) : M Bool := fun Γ => (a Γ).bind fun c Γ => .ok (!c) Γ
def mIf (c : M Bool) (a b : M Rv) : M Rv := fun Γ => (c Γ).bind fun k Γ => if k = true then a Γ else b Γ
/-- and, or, not of bools, as values (the last one anything) -/
def vAnd (a b : M Rv) : M Rv := fun Γ => (tB a Γ).bind fun c Γ => if c = true then b Γ else .ok (.dat (.bl false)) Γ
def vOr (a b : M Rv) : M Rv := fun Γ => (tB a Γ).bind fun c Γ => if c = true then .ok (.dat (.bl true)) Γ else b Γ
def vNot (a : M Rv) : M Rv := fun Γ => (tB a Γ).bind fun c Γ => .ok (.dat (.bl (!c))) Γ
/-- a < b < c -/
def mChain (f g : D → D → Option Rv) (a b c : M Rv) : M Rv := fun Γ => (a Γ).bind fun r Γ => (b Γ).bind fun q Γ => R.opt (look Γ r) fun d => R.opt (look Γ q) fun e => R.opt (f d e) fun o => match o with
  | .dat (.bl true) => (c Γ).bind fun p Γ => R.opt (look Γ q) fun e => R.opt (look Γ p) fun h => R.opt (g e h) fun o => .ok o Γ
  | .dat (.bl false) => .ok (.dat (.bl false)) Γ
  | _ => .no
/-! ### defs -/
/-- what a def gives back: a value (.dat or .own), and what the lent things are now -/
inductive RF where
  | ok (r : Rv) (outs : List (Option Sl))
  | ex (x : Xn) (outs : List (Option Sl))
  | no
/-- a def, of arguments that are shared (.dat) or lent (.own) -/
abbrev FS := List Sl → RF
/-- an argument handed over -/
def pass1 (Γ : EnD) : Rv → Option Sl
  | .dat d => some ⟨.dat, d⟩
  | .own d => some ⟨.own, d⟩
  | .var i => match Γ[i]? with
    | some (some ⟨.own, d⟩) => some ⟨.own, d⟩
    | some (some ⟨.par, d⟩) => some ⟨.own, d⟩
    | some (some ⟨.dat, d⟩) => some ⟨.dat, d⟩
    | some (some ⟨.pfz, d⟩) => some ⟨.dat, d⟩
    | _ => none
def pass (Γ : EnD) : List Rv → Option (List Sl)
  | [] => some []
  | r :: rs => match pass1 Γ r, pass Γ rs with
    | some s, some ss => some (s :: ss)
    | _, _ => none
/-- no slot is handed over twice -/
def once : List Rv → Bool
  | [] => true
  | .var i :: rs => (rs.all fun r => match r with | .var j => i != j | _ => true) && once rs
  | _ :: rs => once rs
/-- what was lent comes back -/
def back1 (Γ : EnD) (r : Rv) (o : Option Sl) : EnD := match r with
  | .var i => match Γ[i]? with
    | some (some ⟨.own, _⟩) => Γ.set i (match o with | some ⟨.own, d⟩ => some ⟨.own, d⟩ | some ⟨.dat, d⟩ => some ⟨.dat, d⟩ | _ => none)
    | some (some ⟨.par, _⟩) => Γ.set i (match o with | some ⟨.own, d⟩ => some ⟨.par, d⟩ | some ⟨.dat, d⟩ => some ⟨.pfz, d⟩ | _ => none)
    | _ => Γ
  | _ => Γ
def back (Γ : EnD) : List Rv → List (Option Sl) → EnD
  | [], _ => Γ
  | r :: rs, [] => back (back1 Γ r none) rs []
  | r :: rs, o :: os => back (back1 Γ r o) rs os
def mCallR (F : FS) (ds : List D) (rs : List Rv) : M Rv := fun Γ => if once rs = true then R.opt (pass Γ rs) fun ss => match F (ss ++ ds.map fun d => ⟨.dat, d⟩) with
  | .ok r outs => .ok r (back Γ rs outs)
  | .ex x outs => .ex x (back Γ rs outs)
  | .no => .no else .no
def mCall (F : FS) (ds : List D) (as : M (List Rv)) : M Rv := fun Γ => (as Γ).bind fun rs Γ => mCallR F ds rs Γ
def permL {α : Type} (p : List Nat) (l : List α) : List α := p.filterMap (l[·]?)
/-- a call with keywords: p tells for each parameter the place of its argument -/
def mCallK (p : List Nat) (n m : Nat) (F : FS) (ds : List D) (as bs : M (List Rv)) : M Rv := fun Γ => (as Γ).bind fun rs Γ => (bs Γ).bind fun qs Γ =>
  if rs.length = n ∧ qs.length = m then mCallR F [] (permL p (rs ++ (qs ++ ds.map Rv.dat))) Γ else .no
/-! ### statements -/
inductive Fl where
  | nx
  | rt (r : Rv)
  | bk
  | ct
def sNx : M Fl := fun Γ => .ok .nx Γ
def sSeq (a b : M Fl) : M Fl := fun Γ => (a Γ).bind fun f Γ => match f with
  | .nx => b Γ
  | .rt r => .ok (.rt r) Γ
  | .bk => .ok .bk Γ
  | .ct => .ok .ct Γ
def sBk : M Fl := fun Γ => .ok .bk Γ
def sCt : M Fl := fun Γ => .ok .ct Γ
def sDrop (a : M Rv) : M Fl := fun Γ => (a Γ).bind fun _ Γ => .ok .nx Γ
def sIf (c : M Bool) (a b : M Fl) : M Fl := fun Γ => (c Γ).bind fun k Γ => if k = true then a Γ else b Γ
/-- return: what the slot holds goes out, but what is lent is shared first -/
def ret (Γ : EnD) : Rv → Option (Rv × EnD)
  | .dat d => some (.dat d, Γ)
  | .own d => some (.own d, Γ)
  | .var i => match Γ[i]? with
    | some (some ⟨.own, d⟩) => some (.own d, Γ.set i none)
    | some (some ⟨.par, d⟩) => some (.dat d, Γ.set i (some ⟨.pfz, d⟩))
    | some (some ⟨.dat, d⟩) => some (.dat d, Γ)
    | some (some ⟨.pfz, d⟩) => some (.dat d, Γ)
    | _ => none
def sRet (a : M Rv) : M Fl := fun Γ => (a Γ).bind fun r Γ => R.opt (ret Γ r) fun p => .ok (.rt p.1) p.2
def sRetN : M Fl := fun Γ => .ok (.rt (.dat .non)) Γ
def isLck : Option Sl → Bool
  | some ⟨.lck, _⟩ => true
  | _ => false
def storeR (i : Nat) (Γ : EnD) : Rv → Option EnD
  | .dat d => some (Γ.set i (some ⟨.dat, d⟩))
  | .own d => some (Γ.set i (some ⟨.own, d⟩))
  | .var j => (frz Γ (.var j)).map fun p => p.2.set i (some ⟨.dat, p.1⟩)
/-- a value stored in a slot -/
def store (i : Nat) (r : Rv) (Γ : EnD) : Option EnD := match Γ[i]? with
  | some x => if isLck x = true then none else storeR i Γ r
  | none => none
/-- a target, of a shared value -/
abbrev G := D → M Unit
def gN (i : Nat) : G := fun d Γ => R.opt (store i (.dat d) Γ) fun Γ => .ok () Γ
def gNil : List D → M Unit := fun ds Γ => match ds with
  | [] => .ok () Γ
  | _ => .no
def gCons (g : G) (gs : List D → M Unit) : List D → M Unit := fun ds Γ => match ds with
  | d :: ds => (g d Γ).bind fun _ Γ => gs ds Γ
  | [] => .no
def gT (n : Nat) (gs : List D → M Unit) : G := fun d Γ => match d with
  | .tup ds => if ds.length = n then gs ds Γ else .no
  | _ => .no
/-- a slot's own thing, changed -/
def mut1 (i : Nat) (f : D → Option D) : M Unit := fun Γ => match Γ[i]? with
  | some (some ⟨m, c⟩) => if m.mut = true then R.opt (f c) fun c' => .ok () (Γ.set i (some ⟨m, c'⟩)) else .no
  | _ => .no
def setL : D → D → D → Option D
  | .lst l, .int i, d => (L2.ixN l.length i).map fun j => .lst (l.set j d)
  | _, _, _ => none
def gSub (f : D → D → D → Option D) (i : Nat) (k : M Rv) : G := fun d Γ => match Γ[i]? with
  | some (some _) => (k Γ).bind fun r Γ => R.opt (look Γ r) fun k => mut1 i (fun c => f c k d) Γ
  | _ => .no
def sSet (i : Nat) (a : M Rv) : M Fl := fun Γ => (a Γ).bind fun r Γ => R.opt (store i r Γ) fun Γ => .ok .nx Γ
/-- target = a shared value -/
def sAsg (g : G) (a : M Rv) : M Fl := fun Γ => (a Γ).bind fun r Γ => match r with
  | .dat d => (g d Γ).bind fun _ Γ => .ok .nx Γ
  | _ => .no
/-- several names at once: all values, then the stores -/
def stores : List Nat → List Rv → EnD → Option EnD
  | [], [], Γ => some Γ
  | i :: is, r :: rs, Γ => match store i r Γ with
    | some Γ => stores is rs Γ
    | none => none
  | _, _, _ => none
/-- no slot of its own among the values -/
def noVar : List Rv → Bool
  | [] => true
  | .var _ :: _ => false
  | _ :: rs => noVar rs
def sPar (is : List Nat) (as : M (List Rv)) : M Fl := fun Γ => (as Γ).bind fun rs Γ => if noVar rs = true then R.opt (stores is rs Γ) fun Γ => .ok .nx Γ else .no
/-! ### loops -/
/-- one turn behind another, over data -/
def forD (g : G) (b : M Fl) : List D → M Fl
  | [], Γ => .ok .nx Γ
  | x :: xs, Γ => (g x Γ).bind fun _ Γ => (b Γ).bind fun f Γ => match f with
    | .nx => forD g b xs Γ
    | .ct => forD g b xs Γ
    | .bk => .ok .nx Γ
    | .rt r => .ok (.rt r) Γ
/-- what is walked: a shared list, tuple -/
def items : D → Option (List D)
  | .lst l => some l
  | .tup l => some l
  | _ => none
/-- what a for walks: a list, a tuple; with its counts; two at once; numbers -/
def wSeq (c : M Rv) : M (List D) := fun Γ => (c Γ).bind fun r Γ => R.opt (frz Γ r) fun p => R.opt (items p.1) fun ds => .ok ds p.2
def enumD : Nat → List D → List D
  | _, [] => []
  | k, x :: xs => .tup [.int k, x] :: enumD (k + 1) xs
def wEnum (c : M Rv) : M (List D) := fun Γ => (wSeq c Γ).bind fun ds Γ => .ok (enumD 0 ds) Γ
def zip2 : D → D → Option (List D)
  | .lst a, .lst b => some (List.zipWith (fun x y => .tup [x, y]) a b)
  | .tup a, .tup b => some (List.zipWith (fun x y => .tup [x, y]) a b)
  | _, _ => none
def wZip (cs : M (List Rv)) : M (List D) := fun Γ => (cs Γ).bind fun rs Γ => match rs with
  | [.dat d, .dat e] => R.opt (zip2 d e) fun ds => .ok ds Γ
  | _ => .no
def okR (i : Int) : Bool := decide (-1000000 ≤ i ∧ i ≤ 1000000)
def rngD (lo : Int) (n : Nat) : List D := (List.range n).map fun k : Nat => .int (lo + (k : Int))
def wRng1 (cs : M (List Rv)) : M (List D) := fun Γ => (cs Γ).bind fun rs Γ => match rs with
  | [.dat (.int j)] => if okR j = true then .ok (rngD 0 j.toNat) Γ else .no
  | _ => .no
def wRng2 (cs : M (List Rv)) : M (List D) := fun Γ => (cs Γ).bind fun rs Γ => match rs with
  | [.dat (.int i), .dat (.int j)] => if okR i = true ∧ okR j = true then .ok (rngD i (j - i).toNat) Γ else .no
  | _ => .no
/-! ### comprehensions -/
/-- the slots of the block's own names forgotten -/
def wipeE (Γ : EnD) : List Nat → EnD
  | [] => Γ
  | v :: vs => (wipeE Γ vs).set v none
/-- the block's own names are no own things of the def -/
def plainAt (Γ : EnD) (vs : List Nat) : Bool := vs.all fun i => match Γ[i]? with
  | some (some s) => s.m == .dat
  | some none => true
  | none => false
/-- the slots as they were -/
def backE (Γ0 Γ : EnD) : List Nat → EnD
  | [] => Γ
  | v :: vs => (backE Γ0 Γ vs).set v (Γ0.getD v none)
def compD (g : G) (t : M Bool) (e : M Rv) (vs : List Nat) : List D → List D → M (List D)
  | [], acc, Γ => .ok acc Γ
  | x :: xs, acc, Γ => (g x Γ).bind fun _ Γ => (t Γ).bind fun b Γ => if b = true then (mFz e Γ).bind fun r Γ => match r with
    | .dat d => compD g t e vs xs (acc ++ [d]) (wipeE Γ vs)
    | _ => .no else compD g t e vs xs acc (wipeE Γ vs)
def mLc (w : M (List D)) (g : G) (t : M Bool) (e : M Rv) (vs : List Nat) : M Rv := fun Γ => (w Γ).bind fun ds Γ => if plainAt Γ vs = true then (match compD g t e vs ds [] (wipeE Γ vs) with
  | .ok acc Γ' => .ok (.own (.lst acc)) (backE Γ Γ' vs)
  | _ => .no) else .no
def tYes : M Bool := fun Γ => .ok true Γ
def sFor (w : M (List D)) (g : G) (b : M Fl) : M Fl := fun Γ => (w Γ).bind fun xs Γ => forD g b xs Γ
/-- while, by fuel -/
def whileD (c : M Bool) (b : M Fl) : Nat → M Fl
  | 0, _ => .no
  | n + 1, Γ => (c Γ).bind fun k Γ => if k = true then (b Γ).bind fun f Γ => match f with
    | .nx => whileD c b n Γ
    | .ct => whileD c b n Γ
    | .bk => .ok .nx Γ
    | .rt r => .ok (.rt r) Γ else .ok .nx Γ
/-- a def's body -/
def inS (s : Sl) : Option Sl := match s with
  | ⟨.own, d⟩ => some ⟨.par, d⟩
  | s => some s
def outS : Option Sl → Option Sl
  | some ⟨.par, d⟩ => some ⟨.own, d⟩
  | some ⟨.pfz, d⟩ => some ⟨.dat, d⟩
  | _ => none
def okArg (s : Sl) : Bool := match s.m with
  | .dat => true
  | .own => true
  | _ => false
def outs (n : Nat) (Γ : EnD) : List (Option Sl) := (Γ.take n).map outS
def fnD (np n : Nat) (b : M Fl) : FS := fun ss => if ss.length = np ∧ ss.all okArg = true then match b (ss.map inS ++ List.replicate (n - np) none) with
  | .ok (.rt r) Γ => .ok r (outs np Γ)
  | .ok .nx Γ => .ok (.dat .non) (outs np Γ)
  | .ex x Γ => .ex x (outs np Γ)
  | _ => .no else .no
end PD
namespace PD
theorem whileD_mono {c : M Bool} {b : M Fl} : ∀ {n m : Nat} {Γ : EnD}, n ≤ m → whileD c b n Γ ≠ .no → whileD c b m Γ = whileD c b n Γ
  | 0, _, _, _, h => absurd rfl h
  | n + 1, 0, _, h, _ => absurd h (by omega)
  | n + 1, m + 1, Γ, h, hn => by
    unfold whileD at hn ⊢
    cases hc : c Γ with
    | no => rfl
    | ex x e => rfl
    | ok k e =>
      rw [hc] at hn
      simp only [R.bind_ok] at hn ⊢
      cases k with
      | false => rfl
      | true =>
        simp only [if_pos] at hn ⊢
        cases hb : b e with
        | no => rfl
        | ex x e => rfl
        | ok f e =>
          rw [hb] at hn
          simp only [R.bind_ok] at hn ⊢
          cases f with
          | nx => exact whileD_mono (by omega) hn
          | ct => exact whileD_mono (by omega) hn
          | bk => rfl
          | rt r => rfl
open Classical in
noncomputable def sWhile (c : M Bool) (b : M Fl) : M Fl := fun Γ => if h : ∃ n, whileD c b n Γ ≠ .no then whileD c b (Classical.choose h) Γ else .no
theorem sWhile_of {c : M Bool} {b : M Fl} {n : Nat} {Γ : EnD} {x : R Fl} (h : whileD c b n Γ = x) (hx : x ≠ .no) : sWhile c b Γ = x := by
  have e : ∃ n, whileD c b n Γ ≠ .no := ⟨n, by rw [h]; exact hx⟩
  unfold sWhile
  rw [dif_pos e]
  have h2 := Classical.choose_spec e
  rcases Nat.le_total n (Classical.choose e) with l | l
  · rw [whileD_mono l (by rw [h]; exact hx)]; exact h
  · rw [← whileD_mono l h2]; exact h
theorem sWhile_no {c : M Bool} {b : M Fl} {Γ : EnD} (h : sWhile c b Γ ≠ .no) : ∃ n, whileD c b n Γ = sWhile c b Γ := by
  unfold sWhile at h ⊢
  by_cases e : ∃ n, whileD c b n Γ ≠ .no
  · rw [dif_pos e]; exact ⟨_, rfl⟩
  · rw [dif_neg e] at h; exact absurd rfl h
end PD

/-! PD1: how data stand in the heap; what a slot bears; steps. -/
namespace PD
open PySem PySem.Spec L2
/-- the written part, and where the named things of the module stand -/
structure Wd where
  K : PySem.W.Frag
  adr : Nat → Addr
  T : List (Addr × Str)
  lam : Addr → List V → Addr → Str → Prop
/-- no table of code objects -/
def NT (o : HO) : Prop := ∀ ps, o ≠ .tbl ps
mutual
/-- the value v is the datum, by what is shared (F) -/
inductive Rep (w : Wd) (F : Hp) : V → D → Prop
  | non : Rep w F .non .non
  | bl (b : Bool) : Rep w F (.bl b) (.bl b)
  | int (i : Int) : Rep w F (.int i) (.int i)
  | str (s : Str) : Rep w F (.str s) (.str s)
  | tup {a : Addr} {xs : List V} {ds : List D} : SqT w.K F a xs → Reps w F xs ds → ds.length ≤ LIM → Rep w F (.ref a) (.tup ds)
  | lst {a : Addr} {xs : List V} {ds : List D} : SqL w.K F a xs → Reps w F xs ds → ds.length ≤ LIM → Rep w F (.ref a) (.lst ds)
  | dct {a : Addr} {kvs : List (Key × V)} {ds : List (Key × D)} : F a = some (.dK kvs) → KReps w F kvs ds → Rep w F (.ref a) (.dct ds)
  | set {a : Addr} {S : Int → Bool} {n : Nat} {l : List Int} : F a = some (.set S n) → (∀ i, S i = true ↔ i ∈ l) → l.Nodup → n = l.length → Rep w F (.ref a) (.set l)
  | obj {a : Addr} {dx : Addr} {fs : List (Str × V)} {c : Nat} {ds : List (Str × D)} : F a = some (.ins (w.adr c) dx fs) → NReps w F fs ds → Rep w F (.ref a) (.obj c ds)
  | glb (n : Nat) : Rep w F (.ref (w.adr n)) (.glb n)
  | ty (s : String) : Rep w F (.ty s) (.ty s)
  | rg {a : Addr} {n : Int} : F a = some (.rng 0 n) → Rep w F (.ref a) (.rg n)
inductive Reps (w : Wd) (F : Hp) : List V → List D → Prop
  | nil : Reps w F [] []
  | cons {v : V} {vs : List V} {d : D} {ds : List D} : Rep w F v d → Reps w F vs ds → Reps w F (v :: vs) (d :: ds)
inductive KReps (w : Wd) (F : Hp) : List (Key × V) → List (Key × D) → Prop
  | nil : KReps w F [] []
  | cons {k : Key} {v : V} {vs : List (Key × V)} {d : D} {ds : List (Key × D)} : Rep w F v d → KReps w F vs ds → KReps w F ((k, v) :: vs) ((k, d) :: ds)
inductive NReps (w : Wd) (F : Hp) : List (Str × V) → List (Str × D) → Prop
  | nil : NReps w F [] []
  | cons {k : Str} {v : V} {vs : List (Str × V)} {d : D} {ds : List (Str × D)} : Rep w F v d → NReps w F vs ds → NReps w F ((k, v) :: vs) ((k, d) :: ds)
end
def Le (F F' : Hp) : Prop := ∀ a o, F a = some o → F' a = some o
theorem Le.refl (F : Hp) : Le F F := fun _ _ h => h
theorem Le.trans {F G H : Hp} (a : Le F G) (b : Le G H) : Le F H := fun c o h => b c o (a c o h)
theorem SqT.le {K : PySem.W.Frag} {F F' : Hp} {a : Addr} {xs : List V} (l : Le F F') (h : SqT K F a xs) : SqT K F' a xs := by
  rcases h with (h | ⟨o, h⟩) | h
  · exact .inl (.inl (l _ _ h))
  · exact .inl (.inr ⟨o, l _ _ h⟩)
  · exact .inr h
theorem SqL.le {K : PySem.W.Frag} {F F' : Hp} {a : Addr} {xs : List V} (l : Le F F') (h : SqL K F a xs) : SqL K F' a xs := by
  rcases h with (h | ⟨o, h⟩) | h
  · exact .inl (.inl (l _ _ h))
  · exact .inl (.inr ⟨o, l _ _ h⟩)
  · exact .inr h
section
variable {w : Wd} {F F' : Hp}
mutual
theorem Rep.le (l : Le F F') : ∀ {v : V} {d : D}, Rep w F v d → Rep w F' v d
  | _, _, .non => .non
  | _, _, .bl b => .bl b
  | _, _, .int i => .int i
  | _, _, .str s => .str s
  | _, _, .tup h r z => .tup (SqT.le l h) (Reps.le l r) z
  | _, _, .lst h r z => .lst (SqL.le l h) (Reps.le l r) z
  | _, _, .dct h r => .dct (l _ _ h) (KReps.le l r)
  | _, _, .set h a b c => .set (l _ _ h) a b c
  | _, _, .obj h r => .obj (l _ _ h) (NReps.le l r)
  | _, _, .glb n => .glb n
  | _, _, .ty s => .ty s
  | _, _, .rg h => .rg (l _ _ h)
theorem Reps.le (l : Le F F') : ∀ {vs : List V} {ds : List D}, Reps w F vs ds → Reps w F' vs ds
  | _, _, .nil => .nil
  | _, _, .cons r t => .cons (Rep.le l r) (Reps.le l t)
theorem KReps.le (l : Le F F') : ∀ {vs : List (Key × V)} {ds : List (Key × D)}, KReps w F vs ds → KReps w F' vs ds
  | _, _, .nil => .nil
  | _, _, .cons r t => .cons (Rep.le l r) (KReps.le l t)
theorem NReps.le (l : Le F F') : ∀ {vs : List (Str × V)} {ds : List (Str × D)}, NReps w F vs ds → NReps w F' vs ds
  | _, _, .nil => .nil
  | _, _, .cons r t => .cons (Rep.le l r) (NReps.le l t)
end
theorem Reps.length : ∀ {vs : List V} {ds : List D}, Reps w F vs ds → vs.length = ds.length
  | _, _, .nil => rfl
  | _, _, .cons _ t => by rw [List.length_cons, List.length_cons, t.length]
theorem Reps.get : ∀ {vs : List V} {ds : List D} {i : Nat} {d : D}, Reps w F vs ds → ds[i]? = some d → ∃ v, vs[i]? = some v ∧ Rep w F v d
  | _, _, _, _, .nil, e => by simp at e
  | _, _, 0, _, .cons r _, e => by
    simp at e
    subst e
    exact ⟨_, rfl, r⟩
  | _, _, i + 1, d, .cons _ t, e => by
    obtain ⟨v, h1, h2⟩ := Reps.get (i := i) (d := d) t (by simpa using e)
    exact ⟨v, by simpa using h1, h2⟩
theorem Reps.getV : ∀ {vs : List V} {ds : List D} {i : Nat} {v : V}, Reps w F vs ds → vs[i]? = some v → ∃ d, ds[i]? = some d ∧ Rep w F v d
  | _, _, _, _, .nil, e => by simp at e
  | _, _, 0, _, .cons r _, e => by
    simp at e
    subst e
    exact ⟨_, rfl, r⟩
  | _, _, i + 1, d, .cons _ t, e => by
    obtain ⟨v, h1, h2⟩ := Reps.getV (i := i) (v := d) t (by simpa using e)
    exact ⟨v, by simpa using h1, h2⟩
theorem Reps.append : ∀ {vs us : List V} {ds es : List D}, Reps w F vs ds → Reps w F us es → Reps w F (vs ++ us) (ds ++ es)
  | _, _, _, _, .nil, r => r
  | _, _, _, _, .cons r t, s => .cons r (Reps.append t s)
theorem Reps.take : ∀ {vs : List V} {ds : List D} (n : Nat), Reps w F vs ds → Reps w F (vs.take n) (ds.take n)
  | _, _, 0, _ => .nil
  | _, _, _ + 1, .nil => .nil
  | _, _, n + 1, .cons r t => .cons r (Reps.take n t)
theorem Reps.drop : ∀ {vs : List V} {ds : List D} (n : Nat), Reps w F vs ds → Reps w F (vs.drop n) (ds.drop n)
  | _, _, 0, r => r
  | _, _, _ + 1, .nil => .nil
  | _, _, n + 1, .cons _ t => Reps.drop n t
theorem Reps.set {v : V} {d : D} (r : Rep w F v d) : ∀ {vs : List V} {ds : List D} (i : Nat), Reps w F vs ds → Reps w F (vs.set i v) (ds.set i d)
  | _, _, _, .nil => .nil
  | _, _, 0, .cons _ t => .cons r t
  | _, _, i + 1, .cons q t => .cons q (Reps.set r i t)
theorem Reps.ints : ∀ (l : List Int), Reps w F (l.map V.int) (l.map D.int)
  | [] => .nil
  | i :: l => .cons (.int i) (Reps.ints l)
theorem Reps.of_ints : ∀ {vs : List V} {l : List Int}, Reps w F vs (l.map D.int) → vs = l.map V.int
  | _, [], .nil => rfl
  | _, i :: l, .cons (.int _) t => by rw [Reps.of_ints t]; rfl
end
/-! ### one's own things -/
/-- at a stands a list, dict, set, object that is the datum -/
def OwnAt (w : Wd) (F H : Hp) (a : Addr) : D → Prop
  | .lst ds => ∃ xs, H a = some (.lst xs) ∧ Reps w F xs ds ∧ ds.length ≤ LIM
  | .dct ds => ∃ kvs, H a = some (.dK kvs) ∧ KReps w F kvs ds
  | .set l => ∃ S n, H a = some (.set S n) ∧ (∀ i, S i = true ↔ i ∈ l) ∧ l.Nodup ∧ n = l.length
  | .obj c ds => ∃ dx fs, H a = some (.ins (w.adr c) dx fs) ∧ NReps w F fs ds
  | _ => False
theorem OwnAt.some {w : Wd} {F H : Hp} {a : Addr} {d : D} (h : OwnAt w F H a d) : ∃ o, H a = Option.some o := by
  cases d with
  | lst ds => obtain ⟨xs, h, _⟩ := h; exact ⟨_, h⟩
  | dct ds => obtain ⟨xs, h, _⟩ := h; exact ⟨_, h⟩
  | set ds => obtain ⟨S, n, h, _⟩ := h; exact ⟨_, h⟩
  | obj c ds => obtain ⟨dx, fs, h, _⟩ := h; exact ⟨_, h⟩
  | _ => exact h.elim
theorem OwnAt.keep {w : Wd} {F F' H H' : Hp} {a : Addr} {d : D} (h : OwnAt w F H a d) (l : Le F F') (k : ∀ o, H a = Option.some o → NT o → H' a = Option.some o) : OwnAt w F' H' a d := by
  cases d with
  | lst ds => obtain ⟨xs, h, r, z⟩ := h; exact ⟨xs, k _ h (fun _ z => nomatch z), r.le l, z⟩
  | dct ds => obtain ⟨xs, h, r⟩ := h; exact ⟨xs, k _ h (fun _ z => nomatch z), r.le l⟩
  | set ds => obtain ⟨S, n, h, r⟩ := h; exact ⟨S, n, k _ h (fun _ z => nomatch z), r⟩
  | obj c ds => obtain ⟨dx, fs, h, r⟩ := h; exact ⟨dx, fs, k _ h (fun _ z => nomatch z), r.le l⟩
  | _ => exact h.elim
/-- neither a table nor a thing told by what is true of it -/
def NX : HO → Prop
  | .tbl _ => False
  | .ext _ => False
  | _ => True
theorem OwnAt.nx {w : Wd} {F H : Hp} {a : Addr} {d : D} (h : OwnAt w F H a d) {u : HO} (e : H a = Option.some u) : NX u := by
  cases d with
  | lst ds => obtain ⟨xs, h, _⟩ := h; rw [h] at e; cases e; trivial
  | dct ds => obtain ⟨xs, h, _⟩ := h; rw [h] at e; cases e; trivial
  | set ds => obtain ⟨S, n, h, _⟩ := h; rw [h] at e; cases e; trivial
  | obj c ds => obtain ⟨dx, fs, h, _⟩ := h; rw [h] at e; cases e; trivial
  | _ => exact h.elim
theorem tabs_upd {T : List (Addr × Str)} {H : Hp} {a : Addr} {o : HO} (h : LamX.Tabs T H) (n : ∀ u, H a = some u → NX u) : LamX.Tabs T (upd H a o) := fun p hp => by
  obtain ⟨ps, h1, h2, h3⟩ := h p hp
  have na : ∀ {b u}, H b = some u → ¬ NX u → b ≠ a := fun {b u} e z q => by subst q; exact z (n u e)
  refine ⟨ps, by rw [upd_ne (na h1 (fun z => z))]; exact h1, h2, fun pos cv hc => ?_⟩
  obtain ⟨c, e1, e2⟩ := h3 pos cv hc
  exact ⟨c, e1, by rw [upd_ne (na e2 (fun z => z))]; exact e2⟩
/-- shared: by F at a what H has there -/
theorem OwnAt.rep {w : Wd} {F H : Hp} {a : Addr} {d : D} (h : OwnAt w F H a d) (hF : F a = H a) : Rep w F (.ref a) d := by
  cases d with
  | lst ds => obtain ⟨xs, h, r, z⟩ := h; exact .lst (.inl (.inl (hF.trans h))) r z
  | dct ds => obtain ⟨xs, h, r⟩ := h; exact .dct (hF.trans h) r
  | set ds => obtain ⟨S, n, h, r1, r2, r3⟩ := h; exact .set (hF.trans h) r1 r2 r3
  | obj c ds => obtain ⟨dx, fs, h, r⟩ := h; exact .obj (hF.trans h) r
  | _ => exact h.elim
def View (w : Wd) (F H : Hp) (v : V) (d : D) : Prop := Rep w F v d ∨ ∃ a, v = .ref a ∧ OwnAt w F H a d
section
variable {w : Wd} {F H : Hp} {v : V}
theorem View.non (h : View w F H v .non) : v = .non := by
  rcases h with h | ⟨a, rfl, h⟩
  · cases h; rfl
  · exact h.elim
theorem View.bl {b : Bool} (h : View w F H v (.bl b)) : v = .bl b := by
  rcases h with h | ⟨a, rfl, h⟩
  · cases h; rfl
  · exact h.elim
theorem View.int {i : Int} (h : View w F H v (.int i)) : v = .int i := by
  rcases h with h | ⟨a, rfl, h⟩
  · cases h; rfl
  · exact h.elim
theorem View.str {s : Str} (h : View w F H v (.str s)) : v = .str s := by
  rcases h with h | ⟨a, rfl, h⟩
  · cases h; rfl
  · exact h.elim
theorem View.ty {s : String} (h : View w F H v (.ty s)) : v = .ty s := by
  rcases h with h | ⟨a, rfl, h⟩
  · cases h; rfl
  · exact h.elim
theorem View.glb {n : Nat} (h : View w F H v (.glb n)) : v = .ref (w.adr n) := by
  rcases h with h | ⟨a, rfl, h⟩
  · cases h; rfl
  · exact h.elim
theorem View.tup {ds : List D} (h : View w F H v (.tup ds)) (s : Le F H) : ∃ a xs, v = .ref a ∧ SqT w.K F a xs ∧ SqT w.K H a xs ∧ Reps w F xs ds ∧ ds.length ≤ LIM := by
  rcases h with h | ⟨a, rfl, h⟩
  · cases h with
    | tup h r z => exact ⟨_, _, rfl, h, SqT.le s h, r, z⟩
  · exact h.elim
theorem View.lst {ds : List D} (h : View w F H v (.lst ds)) (s : Le F H) : ∃ a xs, v = .ref a ∧ SqL w.K H a xs ∧ Reps w F xs ds ∧ ds.length ≤ LIM := by
  rcases h with h | ⟨a, rfl, xs, h, r, z⟩
  · cases h with
    | lst h r z => exact ⟨_, _, rfl, SqL.le s h, r, z⟩
  · exact ⟨a, xs, rfl, .inl (.inl h), r, z⟩
theorem View.dct {ds : List (Key × D)} (h : View w F H v (.dct ds)) (s : Le F H) : ∃ a kvs, v = .ref a ∧ H a = some (.dK kvs) ∧ KReps w F kvs ds := by
  rcases h with h | ⟨a, rfl, xs, h, r⟩
  · cases h with
    | dct h r => exact ⟨_, _, rfl, s _ _ h, r⟩
  · exact ⟨a, xs, rfl, h, r⟩
theorem View.set {l : List Int} (h : View w F H v (.set l)) (s : Le F H) : ∃ a S n, v = .ref a ∧ H a = some (.set S n) ∧ (∀ i, S i = true ↔ i ∈ l) ∧ l.Nodup ∧ n = l.length := by
  rcases h with h | ⟨a, rfl, S, n, h, r⟩
  · cases h with
    | set h r1 r2 r3 => exact ⟨_, _, _, rfl, s _ _ h, r1, r2, r3⟩
  · exact ⟨a, S, n, rfl, h, r⟩
theorem View.obj {c : Nat} {ds : List (Str × D)} (h : View w F H v (.obj c ds)) (s : Le F H) : ∃ a dx fs, v = .ref a ∧ H a = some (.ins (w.adr c) dx fs) ∧ NReps w F fs ds := by
  rcases h with h | ⟨a, rfl, dx, fs, h, r⟩
  · cases h with
    | obj h r => exact ⟨_, _, _, rfl, s _ _ h, r⟩
  · exact ⟨a, dx, fs, rfl, h, r⟩
end
/-! ### slots -/
/-- the tables stand, none of them is shared data -/
def TabF (T : List (Addr × Str)) (F H : Hp) : Prop := LamX.Tabs T H ∧ ∀ p ∈ T, F p.1 = none
/-- a def's run: the heap at its entry, what it was given, which of it is lent, what was shared, the locked slots -/
structure Gx where
  H0 : Hp
  F0 : Hp
  P : List V
  PO : Addr → Prop
  L : Nat → Option (Addr × D)
def SRep (w : Wd) (g : Gx) (F H : Hp) (i : Nat) (v : V) (s : Sl) : Prop := match s.m with
  | .dat => Rep w F v s.d
  | .own => ∃ a, v = .ref a ∧ F a = none ∧ g.H0 a = none ∧ OwnAt w F H a s.d
  | .par => ∃ a, v = .ref a ∧ F a = none ∧ g.PO a ∧ g.P[i]? = some v ∧ OwnAt w F H a s.d
  | .pfz => Rep w F v s.d ∧ g.P[i]? = some v
  | .lck => ∃ a, v = .ref a ∧ F a = none ∧ OwnAt w F H a s.d
  | .lam => ∃ a cvs ds c q, v = .ref a ∧ s.d = .tup ds ∧ Reps w F cvs ds ∧ w.lam a cvs c q ∧ H c = some (LamX.CodeO c q)
structure Rel (w : Wd) (g : Gx) (F : Hp) (Γ : EnD) (σ : St) (H : Hp) : Prop where
  sub : Le F H
  base : ∀ b o, g.H0 b = some o → NT o → ¬ g.PO b → H b = some o
  there : ∀ b, g.H0 b ≠ none → H b ≠ none
  le0 : Le g.F0 F
  nf0 : ∀ b, F b ≠ none → g.F0 b ≠ none ∨ g.H0 b = none ∨ g.PO b
  len : Γ.length = σ.length
  slot : ∀ (i : Nat) (s : Sl), Γ[i]? = some (some s) → ∃ v, σ[i]? = some (some v) ∧ SRep w g F H i v s
  dist : ∀ (i j : Nat) (s t : Sl) (a : Addr), Γ[i]? = some (some s) → Γ[j]? = some (some t) → s.m.ow = true → t.m.ow = true → σ[i]? = some (some (.ref a)) → σ[j]? = some (some (.ref a)) → i = j
  lok : ∀ (i : Nat) (a : Addr) (d : D), g.L i = some (a, d) → Γ[i]? = some (some ⟨.lck, d⟩) ∧ σ[i]? = some (some (.ref a))
  tab : TabF w.T F H
/-- an address that a slot may change -/
def Mu (Γ : EnD) (σ : St) (b : Addr) : Prop := ∃ (i : Nat) (s : Sl), Γ[i]? = some (some s) ∧ s.m.mut = true ∧ σ[i]? = some (some (.ref b))
/-- an address that a slot holds for itself -/
def Ow (Γ : EnD) (σ : St) (b : Addr) : Prop := ∃ (i : Nat) (s : Sl), Γ[i]? = some (some s) ∧ s.m.ow = true ∧ σ[i]? = some (some (.ref b))
theorem Md.ow_of_mut {m : Md} (h : m.mut = true) : m.ow = true := by cases m <;> first | rfl | cases h
theorem Mu.ow {Γ : EnD} {σ : St} {b : Addr} (h : Mu Γ σ b) : Ow Γ σ b := by
  obtain ⟨i, s, h1, h2, h3⟩ := h
  exact ⟨i, s, h1, Md.ow_of_mut h2, h3⟩
/-- what an expression may have done -/
structure Step (Γ : EnD) (σ : St) (F H : Hp) (Γ' : EnD) (F' H' : Hp) : Prop where
  le : Le F F'
  fr : ∀ b o, H b = some o → NT o → ¬ Mu Γ σ b → H' b = some o
  nf : ∀ b, F' b ≠ none → F b ≠ none ∨ H b = none ∨ Mu Γ σ b
  th : ∀ b, H b ≠ none → H' b ≠ none
  ol : ∀ (i : Nat) (s' : Sl), Γ'[i]? = some (some s') → s'.m.ow = true → ∃ s : Sl, Γ[i]? = some (some s) ∧ s.m.ow = true ∧ (s'.m.mut = true → s.m.mut = true)
section
variable {Γ Γ1 Γ2 : EnD} {σ : St} {F F1 F2 H H1 H2 : Hp}
theorem Step.refl (Γ : EnD) (σ : St) (F H : Hp) : Step Γ σ F H Γ F H :=
  ⟨Le.refl _, fun _ _ h _ _ => h, fun _ h => .inl h, fun _ h => h, fun i s h o => ⟨s, h, o, fun z => z⟩⟩
theorem Step.mu (a : Step Γ σ F H Γ1 F1 H1) {b : Addr} (h : Mu Γ1 σ b) : Mu Γ σ b := by
  obtain ⟨i, s, h1, h2, h3⟩ := h
  obtain ⟨s', q1, q2, q3⟩ := a.ol i s h1 (Md.ow_of_mut h2)
  exact ⟨i, s', q1, q3 h2, h3⟩
theorem Step.ow (a : Step Γ σ F H Γ1 F1 H1) {b : Addr} (h : Ow Γ1 σ b) : Ow Γ σ b := by
  obtain ⟨i, s, h1, h2, h3⟩ := h
  obtain ⟨s', q1, q2, q3⟩ := a.ol i s h1 h2
  exact ⟨i, s', q1, q2, h3⟩
theorem Step.trans (a : Step Γ σ F H Γ1 F1 H1) (b : Step Γ1 σ F1 H1 Γ2 F2 H2) : Step Γ σ F H Γ2 F2 H2 where
  le := a.le.trans b.le
  fr := fun c o h t n => b.fr c o (a.fr c o h t n) t fun z => n (a.mu z)
  nf := fun c h => by
    rcases b.nf c h with q | q | q
    · exact a.nf c q
    · refine .inr (.inl ?_)
      cases e : H c with
      | none => rfl
      | some o => exact absurd q (a.th c (by rw [e]; simp))
    · exact .inr (.inr (a.mu q))
  th := fun c h => b.th c (a.th c h)
  ol := fun i s h o => by
    obtain ⟨s1, q1, q2, q3⟩ := b.ol i s h o
    obtain ⟨s0, p1, p2, p3⟩ := a.ol i s1 q1 q2
    exact ⟨s0, p1, p2, fun z => p3 (q3 z)⟩
end
/-- something new was laid, nothing else -/
structure New (F H F' H' : Hp) : Prop where
  keep : Le H H'
  le : Le F F'
  sub : Le F' H'
  nf : ∀ b, F' b ≠ none → F b ≠ none ∨ H b = none
theorem New.refl {F H : Hp} (s : Le F H) : New F H F H := ⟨Le.refl _, Le.refl _, s, fun _ h => .inl h⟩
theorem New.trans {F H F1 H1 F2 H2 : Hp} (a : New F H F1 H1) (b : New F1 H1 F2 H2) : New F H F2 H2 := ⟨a.keep.trans b.keep, a.le.trans b.le, b.sub, fun c h => by
  rcases b.nf c h with q | q
  · exact a.nf c q
  · refine .inr ?_
    cases e : H c with
    | none => rfl
    | some o => rw [a.keep c o e] at q; cases q⟩
theorem ne_some {α : Type} {o : Option α} (h : o ≠ none) : ∃ a, o = some a := by
  cases o with
  | none => exact absurd rfl h
  | some a => exact ⟨a, rfl⟩
section
variable {w : Wd} {g : Gx} {Γ : EnD} {σ : St} {F H F' H' : Hp}
theorem New.th (n : New F H F' H') {b : Addr} (h : H b ≠ none) : H' b ≠ none := by
  obtain ⟨o, e⟩ := ne_some h
  rw [n.keep b o e]; simp
theorem New.step (n : New F H F' H') : Step Γ σ F H Γ F' H' :=
  ⟨n.le, fun b o h _ _ => n.keep b o h, fun b h => (n.nf b h).elim .inl fun z => .inr (.inl z), fun b h => n.th h, fun i s h o => ⟨s, h, o, fun z => z⟩⟩
theorem New.nof (n : New F H F' H') {a : Addr} (h : F a = none) (hH : ∃ o, H a = some o) : F' a = none := by
  cases e : F' a with
  | none => rfl
  | some o =>
    rcases n.nf a (by rw [e]; simp) with q | q
    · exact absurd h q
    · obtain ⟨o', e'⟩ := hH
      rw [q] at e'; cases e'
theorem SRep.new {i : Nat} {v : V} {s : Sl} (n : New F H F' H') (h : SRep w g F H i v s) : SRep w g F' H' i v s := by
  obtain ⟨m, d⟩ := s
  cases m with
  | dat => exact Rep.le n.le h
  | own => obtain ⟨a, e, h1, h2, h3⟩ := h; exact ⟨a, e, n.nof h1 h3.some, h2, h3.keep n.le fun o z _ => n.keep a o z⟩
  | par => obtain ⟨a, e, h1, h2, h4, h3⟩ := h; exact ⟨a, e, n.nof h1 h3.some, h2, h4, h3.keep n.le fun o z _ => n.keep a o z⟩
  | pfz => exact ⟨h.1.le n.le, h.2⟩
  | lam => obtain ⟨a, cvs, ds, c, q, h1, h2, h3, h4, h5⟩ := h; exact ⟨a, cvs, ds, c, q, h1, h2, h3.le n.le, h4, n.keep _ _ h5⟩
  | lck => obtain ⟨a, e, h1, h3⟩ := h; exact ⟨a, e, n.nof h1 h3.some, h3.keep n.le fun o z _ => n.keep a o z⟩
theorem Rel.fresh (r : Rel w g F Γ σ H) {b : Addr} (h : H b = none) : g.H0 b = none := by
  cases e : g.H0 b with
  | none => rfl
  | some o => exact absurd h (r.there b (by rw [e]; simp))
theorem Rel.new (r : Rel w g F Γ σ H) (n : New F H F' H') : Rel w g F' Γ σ H' where
  sub := n.sub
  base := fun b o h t p => n.keep b o (r.base b o h t p)
  there := fun b h => n.th (r.there b h)
  le0 := r.le0.trans n.le
  nf0 := fun b h => by
    rcases n.nf b h with q | q
    · exact r.nf0 b q
    · exact .inr (.inl (r.fresh q))
  len := r.len
  slot := fun i s h => by
    obtain ⟨v, h1, h2⟩ := r.slot i s h
    exact ⟨v, h1, h2.new n⟩
  dist := r.dist
  lok := r.lok
  tab := ⟨r.tab.1.ext n.keep, fun p hp => by
    cases e : F' p.1 with
    | none => rfl
    | some o =>
      rcases n.nf p.1 (by rw [e]; simp) with q | q
      · exact absurd (r.tab.2 p hp) q
      · obtain ⟨ps, h1, _⟩ := r.tab.1 p hp
        rw [q] at h1; cases h1⟩
end
/-! ### values as they come -/
/-- just come, H0 the heap ahead -/
def ResN (w : Wd) (F : Hp) (σ : St) (H0 H : Hp) (v : V) : Rv → Prop
  | .dat d => Rep w F v d
  | .own d => ∃ a, v = .ref a ∧ H0 a = none ∧ F a = none ∧ OwnAt w F H a d
  | .var i => σ[i]? = some (some v)
/-- as it stands -/
def ResA (w : Wd) (g : Gx) (F : Hp) (Γ : EnD) (σ : St) (H : Hp) (v : V) : Rv → Prop
  | .dat d => Rep w F v d
  | .own d => ∃ a, v = .ref a ∧ g.H0 a = none ∧ F a = none ∧ ¬ Ow Γ σ a ∧ OwnAt w F H a d
  | .var i => σ[i]? = some (some v)
section
variable {w : Wd} {g : Gx} {Γ Γ' : EnD} {σ : St} {F H F' H' : Hp} {v : V} {r : Rv}
theorem Rel.owIn (R : Rel w g F Γ σ H) {b : Addr} (h : Ow Γ σ b) : ∃ o, H b = some o := by
  obtain ⟨i, s, h1, h2, h3⟩ := h
  obtain ⟨v, e, q⟩ := R.slot i s h1
  rw [h3] at e
  cases e
  obtain ⟨m, d⟩ := s
  cases m with
  | dat => cases h2
  | pfz => cases h2
  | lam => cases h2
  | own => obtain ⟨a, e, _, _, o⟩ := q; cases e; exact o.some
  | par => obtain ⟨a, e, _, _, _, o⟩ := q; cases e; exact o.some
  | lck => obtain ⟨a, e, _, o⟩ := q; cases e; exact o.some
theorem ResN.at (R : Rel w g F Γ σ H) (S : Step Γ σ F H Γ' F' H') (h : ResN w F' σ H H' v r) : ResA w g F' Γ' σ H' v r := by
  cases r with
  | dat d => exact h
  | var i => exact h
  | own d =>
    obtain ⟨a, e, h1, h2, h3⟩ := h
    refine ⟨a, e, R.fresh h1, h2, fun z => ?_, h3⟩
    obtain ⟨o, q⟩ := R.owIn (S.ow z)
    rw [h1] at q; cases q
theorem ResA.step (S : Step Γ σ F H Γ' F' H') (h : ResA w g F Γ σ H v r) : ResA w g F' Γ' σ H' v r := by
  cases r with
  | dat d => exact Rep.le S.le h
  | var i => exact h
  | own d =>
    obtain ⟨a, e, h1, h2, h3, h4⟩ := h
    refine ⟨a, e, h1, ?_, fun z => h3 (S.ow z), h4.keep S.le fun o q t => S.fr a o q t fun z => h3 z.ow⟩
    cases q : F' a with
    | none => rfl
    | some o =>
      rcases S.nf a (by rw [q]; simp) with z | z | z
      · exact absurd h2 z
      · obtain ⟨o, e⟩ := h4.some
        rw [z] at e; cases e
      · exact absurd z.ow h3
theorem ResA.view (R : Rel w g F Γ σ H) (h : ResA w g F Γ σ H v r) {d : D} (e : look Γ r = some d) : View w F H v d := by
  cases r with
  | dat d' => cases e; exact .inl h
  | own d' =>
    cases e
    obtain ⟨a, e, _, _, _, h4⟩ := h
    exact .inr ⟨a, e, h4⟩
  | var i =>
    simp only [look] at e
    split at e
    · cases e
    · rename_i s nl hs
      cases e
      obtain ⟨v', e1, q⟩ := R.slot i s hs
      rw [show σ[i]? = some (some v) from h] at e1
      cases e1
      obtain ⟨m, d⟩ := s
      cases m with
      | dat => exact .inl q
      | pfz => exact .inl q.1
      | own => obtain ⟨a, e, _, _, o⟩ := q; exact .inr ⟨a, e, o⟩
      | par => obtain ⟨a, e, _, _, _, o⟩ := q; exact .inr ⟨a, e, o⟩
      | lck => obtain ⟨a, e, _, o⟩ := q; exact .inr ⟨a, e, o⟩
      | lam => exact (nl d rfl).elim
    · cases e
end
end PD

/-! PD2: the reading of a denotation; values, operators, tests, argument lists. -/
namespace PD
open PySem PySem.Spec L2
/-- the exception as it flies -/
def XRep (w : Wd) (F H : Hp) (x : Xn) (cls : Value) (d : Option Addr) : Prop := cls = .ref (w.adr x.c) ∧ match x.d with
  | some p => ∃ dd v, d = some dd ∧ H dd = some (.xd [(x.f, v)]) ∧ Rep w F v p
  | none => True
section
variable {α β : Type}
/-- what must follow of a run's end -/
def Post (w : Wd) (W : WX) (RR : Hp → St → Hp → Hp → β → α → Prop) (g : Gx) (F : Hp) (Γ : EnD) (σ : St) (H : Hp) (Q : β → Hp → Prop) : R α → Prop
  | .ok r Γ' => ∀ v H' F', Step Γ σ F H Γ' F' H' → Rel w g F' Γ' σ H' → RR F' σ H H' v r → Q v H'
  | .ex x Γ' => ∀ cls d H' F', Step Γ σ F H Γ' F' H' → Rel w g F' Γ' σ H' → XRep w F' H' x cls d → W cls d σ H'
  | .no => False
/-- the reading of a denotation -/
def Tr (w : Wd) (W : WX) (RR : Hp → St → Hp → Hp → β → α → Prop) (c : M α) : St → Hp → (β → Hp → Prop) → Prop :=
  fun σ H Q => ∃ g F Γ, Rel w g F Γ σ H ∧ Post w W RR g F Γ σ H Q (c Γ)
end
section
variable {α α' β β' : Type} {w : Wd} {W : WX} {RR : Hp → St → Hp → Hp → β → α → Prop} {RR' : Hp → St → Hp → Hp → β' → α' → Prop} {g : Gx} {F F1 : Hp} {Γ Γ1 : EnD} {σ : St} {H H1 : Hp} {Q : β → Hp → Prop} {Q' : β' → Hp → Prop}
theorem Post.bind {m : R α'} {f : α' → M α} (S1 : Step Γ σ F H Γ1 F1 H1) (p : Post w W RR g F Γ σ H Q (m.bind f))
    (k : ∀ r Γ2, m = .ok r Γ2 → Post w W RR g F Γ σ H Q (f r Γ2) → ∀ v H2 F2, Step Γ1 σ F1 H1 Γ2 F2 H2 → Rel w g F2 Γ2 σ H2 → RR' F2 σ H1 H2 v r → Q' v H2) : Post w W RR' g F1 Γ1 σ H1 Q' m := by
  cases m with
  | no => exact p
  | ex x Γ2 => exact fun cls d H2 F2 S2 R2 X => p cls d H2 F2 (S1.trans S2) R2 X
  | ok r Γ2 => exact fun v H2 F2 S2 R2 q => k r Γ2 rfl p v H2 F2 S2 R2 q
theorem Post.opt {o : Option α'} {f : α' → R α} (p : Post w W RR g F Γ σ H Q (R.opt o f)) : ∃ a, o = some a ∧ Post w W RR g F Γ σ H Q (f a) := by
  cases o with
  | none => exact p.elim
  | some a => exact ⟨a, rfl, p⟩
end
theorem _root_.L2.PE.imp {X : Cx} {e : Expr} {t t' : TE} (h : PE X e t) (k : ∀ σ H Q, t' σ H Q → t σ H Q) : PE X e t' := ⟨fun pins s σ H Q I q => h.run pins s σ H Q I (k _ _ _ q)⟩
theorem _root_.L2.PT.imp {X : Cx} {e : Expr} {t t' : TT} (h : PT X e t) (k : ∀ σ H Q, t' σ H Q → t σ H Q) : PT X e t' := ⟨fun pins s σ H Q I q => h.run pins s σ H Q I (k _ _ _ q)⟩
theorem _root_.L2.PW.imp {X : Cx} {e : Expr} {t t' : TT} (h : PW X e t) (k : ∀ σ H Q, t' σ H Q → t σ H Q) : PW X e t' := ⟨fun wh pins s σ H Q I q => h.run wh pins s σ H Q I (k _ _ _ q)⟩
theorem _root_.L2.PA.imp {X : Cx} {e : List Expr} {t t' : TA} (h : PA X e t) (k : ∀ σ H Q, t' σ H Q → t σ H Q) : PA X e t' := ⟨fun pos pins s σ H Q I q => h.run pos pins s σ H Q I (k _ _ _ q)⟩
theorem _root_.L2.PS.imp {X : Cx} {e : Stmt} {t t' : TS} (h : PS X e t) (k : ∀ D σ H, t' D σ H → t D σ H) : PS X e t' := ⟨fun pins s σ H D I q => h.run pins s σ H D I (k _ _ _ q)⟩
theorem _root_.L2.PSs.imp {X : Cx} {e : List Stmt} {t t' : TS} (h : PSs X e t) (k : ∀ D σ H, t' D σ H → t D σ H) : PSs X e t' := ⟨fun pins s σ H D I q => h.run pins s σ H D I (k _ _ _ q)⟩
/-- an expression's -/
abbrev T (w : Wd) (W : WX) (c : M Rv) : TE := Tr w W (ResN w) c
/-- a test's -/
abbrev TB (w : Wd) (W : WX) (c : M Bool) : TT := Tr w W (fun _ _ _ _ b r => b = r) c
/-- an argument list's -/
def ownA : V → Rv → Option Addr
  | .ref a, .own _ => some a
  | _, _ => none
def ownAs : List V → List Rv → List Addr
  | v :: vs, r :: rs => (ownA v r).toList ++ ownAs vs rs
  | _, _ => []
def ResNs (w : Wd) (F : Hp) (σ : St) (H0 H : Hp) : List V → List Rv → Prop
  | [], [] => True
  | v :: vs, r :: rs => ResN w F σ H0 H v r ∧ ResNs w F σ H0 H vs rs ∧ ∀ a, ownA v r = some a → a ∉ ownAs vs rs
  | _, _ => False
abbrev TL (w : Wd) (W : WX) (c : M (List Rv)) : TA := Tr w W (ResNs w) c
section
variable {w : Wd} {W : WX} {g : Gx} {F F' F1 : Hp} {Γ Γ' : EnD} {σ σ' : St} {H H' H1 H2 : Hp} {v : V} {r : Rv}
theorem ResN.early (th : ∀ b, H b ≠ none → H1 b ≠ none) (h : ResN w F σ H1 H2 v r) : ResN w F σ H H2 v r := by
  cases r with
  | dat d => exact h
  | var i => exact h
  | own d =>
    obtain ⟨a, e, h1, h2, h3⟩ := h
    refine ⟨a, e, ?_, h2, h3⟩
    cases q : H a with
    | none => rfl
    | some o => exact absurd h1 (th a (by rw [q]; simp))
theorem ResN.noσ (h : ResN w F [] H1 H2 v r) : ResN w F σ H1 H2 v r := by
  cases r with
  | dat d => exact h
  | own d => exact h
  | var i => exact absurd (show ([] : St)[i]? = some (some v) from h) (by simp)
/-- a temporary of earlier on, behind a further step -/
theorem ResN.later (R : Rel w g F Γ σ H) (S1 : Step Γ σ F H Γ' F1 H1) (S : Step Γ' σ F1 H1 Γ1 F' H') (h : ResN w F1 σ H H1 v r) : ResN w F' σ H H' v r := by
  cases r with
  | dat d => exact Rep.le S.le h
  | var i => exact h
  | own d =>
    obtain ⟨a, e, h1, h2, h3⟩ := h
    have no : ¬ Ow Γ' σ a := fun z => by
      obtain ⟨o, q⟩ := R.owIn (S1.ow z)
      rw [h1] at q; cases q
    refine ⟨a, e, h1, ?_, h3.keep S.le fun o q t => S.fr a o q t fun z => no z.ow⟩
    cases q : F' a with
    | none => rfl
    | some o =>
      rcases S.nf a (by rw [q]; simp) with z | z | z
      · exact absurd h2 z
      · obtain ⟨o, e⟩ := h3.some
        rw [z] at e; cases e
      · exact absurd z.ow no
end
/-! ### operations on data -/
/-- an operation by values does what f does on data -/
def OpD (w : Wd) (r : R2) (f : D → D → Option Rv) : Prop := ∀ (F H : Hp) (x y : V) (d e : D) (o : Rv) (Q : VK), Le F H → View w F H x d → View w F H y e → f d e = some o →
  (∀ v H' F', New F H F' H' → ResN w F' [] H H' v o → Q v H') → r x y H Q
def OpD1 (w : Wd) (r : V → Hp → VK → Prop) (f : D → Option Rv) : Prop := ∀ (F H : Hp) (x : V) (d : D) (o : Rv) (Q : VK), Le F H → View w F H x d → f d = some o →
  (∀ v H' F', New F H F' H' → ResN w F' [] H H' v o → Q v H') → r x H Q
/-- values seen as data -/
inductive Views (w : Wd) (F H : Hp) : List V → List D → Prop
  | nil : Views w F H [] []
  | cons {v : V} {vs : List V} {d : D} {ds : List D} : View w F H v d → Views w F H vs ds → Views w F H (v :: vs) (d :: ds)
def OpDn (w : Wd) (r : List V → Hp → VK → Prop) (f : List D → Option Rv) : Prop := ∀ (F H : Hp) (xs : List V) (ds : List D) (o : Rv) (Q : VK), Le F H → Views w F H xs ds → f ds = some o →
  (∀ v H' F', New F H F' H' → ResN w F' [] H H' v o → Q v H') → r xs H Q
section
variable {X : Cx} {w : Wd} {W : WX} {a b c : Expr} {ca cb cc : M Rv} {es : List Expr} {cs : M (List Rv)} {pos : Pos}
theorem T.op {r : R2} {f : D → D → Option Rv} (hr : OpD w r f) : ∀ σ H Q, T w W (m2 f ca cb) σ H Q → tOp r (T w W ca) (T w W cb) σ H Q := by
  rintro σ H Q ⟨g, F, Γ, R, p⟩
  refine ⟨g, F, Γ, R, Post.bind (Step.refl ..) p fun r1 Γ1 _ p1 x H1 F1 S1 R1 q1 => ?_⟩
  refine ⟨g, F1, Γ1, R1, Post.bind S1 p1 fun r2 Γ2 _ p2 y H2 F2 S2 R2 q2 => ?_⟩
  obtain ⟨d, e1, p2⟩ := p2.opt
  obtain ⟨e, e2, p2⟩ := p2.opt
  obtain ⟨o, e3, p2⟩ := p2.opt
  refine hr F2 H2 x y d e o Q R2.sub (((q1.at R S1).step S2).view R2 e1) ((q2.at R1 S2).view R2 e2) e3 fun v H3 F3 N res => ?_
  exact p2 v H3 F3 ((S1.trans S2).trans N.step) (R2.new N) (res.noσ.early (S1.trans S2).th)
theorem T.op1 {r : V → Hp → VK → Prop} {f : D → Option Rv} (hr : OpD1 w r f) : ∀ σ H Q, T w W (m1 f ca) σ H Q → tUn r (T w W ca) σ H Q := by
  rintro σ H Q ⟨g, F, Γ, R, p⟩
  refine ⟨g, F, Γ, R, Post.bind (Step.refl ..) p fun r1 Γ1 _ p1 x H1 F1 S1 R1 q1 => ?_⟩
  obtain ⟨d, e1, p1⟩ := p1.opt
  obtain ⟨o, e3, p1⟩ := p1.opt
  refine hr F1 H1 x d o Q R1.sub ((q1.at R S1).view R1 e1) e3 fun v H3 F3 N res => ?_
  exact p1 v H3 F3 (S1.trans N.step) (R1.new N) (res.noσ.early S1.th)
/-! ### names, constants -/
theorem d_var {i : Nat} (h : PE X a (L2.tVar i)) : PE X a (T w W (mVar i)) := h.imp fun σ H Q ⟨g, F, Γ, R, p⟩ => by
  unfold mVar at p
  split at p
  · rename_i d e
    obtain ⟨v, e1, q⟩ := R.slot _ _ e
    exact ⟨v, e1, p v H F (Step.refl ..) R q⟩
  · rename_i d e
    obtain ⟨v, e1, q⟩ := R.slot _ _ e
    exact ⟨v, e1, p v H F (Step.refl ..) R q.1⟩
  · rename_i s n1 n2 e
    obtain ⟨v, e1, q⟩ := R.slot _ _ e
    exact ⟨v, e1, p v H F (Step.refl ..) R e1⟩
  · exact p.elim
/-- a value that bears nothing of the heap -/
inductive Flat : V → D → Prop
  | non : Flat .non .non
  | bl (b : Bool) : Flat (.bl b) (.bl b)
  | int (i : Int) : Flat (.int i) (.int i)
  | str (s : Str) : Flat (.str s) (.str s)
  | ty (s : String) : Flat (.ty s) (.ty s)
theorem Flat.rep {F : Hp} {v : V} {d : D} (h : Flat v d) : Rep w F v d := by
  cases h with
  | non => exact .non
  | bl b => exact .bl b
  | int i => exact .int i
  | str s => exact .str s
  | ty s => exact .ty s
theorem d_k {v : V} {d : D} (f : Flat v d) (h : PE X a (L2.tC v)) : PE X a (T w W (mK d)) := h.imp fun σ H Q ⟨g, F, Γ, R, p⟩ => p v H F (Step.refl ..) R f.rep
theorem d_int {i j} : PE X (.Constant (.int i) j pos) (T w W (mK (.int i))) := d_k (.int i) pe_int
theorem d_bl {b j} : PE X (.Constant (.bool b) j pos) (T w W (mK (.bl b))) := d_k (.bl b) pe_bl
theorem d_non {j} : PE X (.Constant .none j pos) (T w W (mK .non)) := d_k .non pe_non
theorem d_str {s j} : PE X (.Constant (.str s) j pos) (T w W (mK (.str s))) := d_k (.str s) pe_str
/-- a name of the module -/
theorem d_glob {n : Nat} {x : Str} (hg : Gl X x) (hm : X.mg x = some (.ref (w.adr n))) (hd : (x == ("__debug__" : Str)) = false := by decide) : PE X (.Name x pos) (T w W (mK (.glb n))) :=
  (pe_glob hg hm (v := .ref (w.adr n)) rfl hd).imp fun σ H Q ⟨g, F, Γ, R, p⟩ => p _ H F (Step.refl ..) R (.glb n)
theorem d_gint {i : Int} {t : Tok} {x : Str} (hg : Gl X x) (hm : X.mg x = some (.int i t)) (hd : (x == ("__debug__" : Str)) = false := by decide) : PE X (.Name x pos) (T w W (mK (.int i))) :=
  d_k (.int i) (pe_glob hg hm (v := .int i) ⟨_, rfl⟩ hd)
theorem d_gstr {s : Str} {t : Tok} {x : Str} (hg : Gl X x) (hm : X.mg x = some (.str s t)) (hd : (x == ("__debug__" : Str)) = false := by decide) : PE X (.Name x pos) (T w W (mK (.str s))) :=
  d_k (.str s) (pe_glob hg hm (v := .str s) ⟨_, rfl⟩ hd)
/-! ### operators -/
theorem d_bin {op : Operator} {r : R2} {f : D → D → Option Rv} (hr : OpD w r f) (ho : OpR X (binaryOp op) r) (ha : PE X a (T w W ca)) (hb : PE X b (T w W cb)) : PE X (.BinOp a op b pos) (T w W (m2 f ca cb)) :=
  (pe_op ho ha hb).imp (T.op hr)
theorem d_un {op : UnaryOp} {r : V → Hp → VK → Prop} {f : D → Option Rv} (hr : OpD1 w r f) (ho : UnR X (unaryOp op) r) (ha : PE X a (T w W ca)) : PE X (.UnaryOp op a pos) (T w W (m1 f ca)) :=
  (pe_un ho ha).imp (T.op1 hr)
theorem d_cmp {op : CmpOp} {r : R2} {f : D → D → Option Rv} (hr : OpD w r f) (ho : OpR X (compareOp op) r) (ha : PE X a (T w W ca)) (hb : PE X b (T w W cb)) (hm : behindInMarks op b = false) : PE X (.Compare a [op] [b] pos) (T w W (m2 f ca cb)) :=
  (pe_cmpR ho ha hb hm).imp (T.op hr)
/-! ### tests -/
/-- a bool's value as a test -/
theorem tTest_of : ∀ σ H Q, TB w W (tB ca) σ H Q → L2.tB (T w W ca) σ H Q := by
  rintro σ H Q ⟨g, F, Γ, R, p⟩
  refine ⟨g, F, Γ, R, Post.bind (Step.refl ..) p fun r1 Γ1 _ p1 x H1 F1 S1 R1 q1 => ?_⟩
  split at p1
  · have q1 : Rep w F1 x (.bl _) := q1
    cases q1
    exact ⟨_, rfl, p1 _ H1 F1 S1 R1 rfl⟩
  · exact p1.elim
/-- an expression that gives a bool, as a test -/
theorem d_tv (h : PE X a (T w W ca)) (he : ∀ whole, isTrue a X.env whole = (do let v ← whole; standAt a.pos; holding [v] (truthy v)) := by intro _; rfl) : PT X a (TB w W (tB ca)) :=
  (pt_val h he).imp tTest_of
theorem tTest_of' {op : CmpOp} {r : R2} {f : D → D → Option Rv} (hr : OpD w r f) : ∀ σ H Q, TB w W (tB (m2 f ca cb)) σ H Q → tTest (tOp r (T w W ca) (T w W cb)) σ H Q := fun σ H Q h => by
  have h2 := tTest_of σ H Q h
  exact T.op hr σ H _ h2
theorem d_tcmp {op : CmpOp} {r : R2} {f : D → D → Option Rv} (hr : OpD w r f) (ho : OpR X (compareOp op) r) (ha : PE X a (T w W ca)) (hb : PE X b (T w W cb)) (hm : behindInMarks op b = false) : PT X (.Compare a [op] [b] pos) (TB w W (tB (m2 f ca cb))) :=
  (pt_cmpR ho ha hb hm).imp (tTest_of' (op := op) hr)
theorem tv_truth {F H : Hp} {v : V} {d : D} {k : Bool} (s : Le F H) (h : View w F H v d) (e : truth d = some k) : TruV w.K v H k := by
  cases d with
  | non => cases e; rw [h.non]; rfl
  | bl b => cases e; rw [h.bl]; rfl
  | int i => cases e; rw [h.int]; rfl
  | lst l =>
    cases e
    obtain ⟨a, xs, rfl, hl, r, _⟩ := h.lst s
    refine .inl ⟨xs, hl, ?_⟩
    have := r.length
    cases xs <;> cases l <;> first | rfl | simp at this
  | tup l =>
    cases e
    obtain ⟨a, xs, rfl, _, hl, r, _⟩ := h.tup s
    refine .inr (.inl ⟨xs, hl, ?_⟩)
    have := r.length
    cases xs <;> cases l <;> first | rfl | simp at this
  | _ => cases e
end
end PD

/-! PD3: sharing, argument lists, displays, built-ins, and / or / not / if. -/
namespace PD
open PySem PySem.Spec L2
/-- what stands at a is shared from now on -/
def frzAt (F H : Hp) (a : Addr) : Hp := fun b => if b = a then H b else F b
theorem frzAt_same {F H : Hp} {a : Addr} : frzAt F H a a = H a := by unfold frzAt; rw [if_pos rfl]
theorem frzAt_ne {F H : Hp} {a b : Addr} (h : b ≠ a) : frzAt F H a b = F b := by unfold frzAt; rw [if_neg h]
theorem frzAt_le {F H : Hp} {a : Addr} (h : F a = none) : Le F (frzAt F H a) := fun b o e => by
  have n : b ≠ a := fun z => by rw [z, h] at e; cases e
  rw [frzAt_ne n]; exact e
section
variable {w : Wd} {W : WX} {g : Gx} {F F0 F' F1 : Hp} {Γ Γ0 Γ' Γ1 : EnD} {σ σ' : St} {H H0 H' H1 H2 : Hp} {v : V} {r : Rv} {a : Addr}
theorem Rel.frzAt (R : Rel w g F Γ σ H) (hx : ∀ u, H a = some u → NX u) (ha : ∃ o, H a = some o) (hF : F a = none) (hg : g.H0 a = none ∨ g.PO a) (hlen : Γ'.length = Γ.length)
    (hs : ∀ (j : Nat) (s' : Sl), Γ'[j]? = some (some s') → (Γ[j]? = some (some s') ∧ (s'.m.ow = true → σ[j]? ≠ some (some (.ref a)))) ∨ (s'.m.ow = false ∧ ∃ v, σ[j]? = some (some v) ∧ SRep w g (frzAt F H a) H j v s'))
    (hl : ∀ (i : Nat) (a : Addr) (d : D), g.L i = some (a, d) → Γ'[i]? = some (some ⟨.lck, d⟩)) : Rel w g (frzAt F H a) Γ' σ H where
  sub := fun b o e => by
    by_cases h : b = a
    · subst h; rw [frzAt_same] at e; exact e
    · rw [frzAt_ne h] at e; exact R.sub b o e
  base := R.base
  tab := ⟨R.tab.1, fun p hp => by
    obtain ⟨ps, h1, _⟩ := R.tab.1 p hp
    rw [frzAt_ne fun z => by subst z; exact hx _ h1]
    exact R.tab.2 p hp⟩
  there := R.there
  le0 := R.le0.trans (frzAt_le hF)
  nf0 := fun b e => by
    by_cases h : b = a
    · subst h; exact .inr hg
    · rw [frzAt_ne h] at e; exact R.nf0 b e
  len := hlen.trans R.len
  slot := fun j s' e => by
    rcases hs j s' e with ⟨e1, n⟩ | ⟨_, q⟩
    · obtain ⟨v, e2, q⟩ := R.slot j s' e1
      refine ⟨v, e2, ?_⟩
      have l : Le F (PD.frzAt F H a) := frzAt_le hF
      have no : s'.m.ow = true → ∀ b, v = .ref b → b ≠ a := fun o b e z => by
        subst z; rw [e] at e2; exact n o e2
      obtain ⟨m, d⟩ := s'
      cases m with
      | dat => exact Rep.le l q
      | pfz => exact ⟨q.1.le l, q.2⟩
      | lam => obtain ⟨a, cvs, ds, c, q, h1, h2, h3, h4⟩ := q; exact ⟨a, cvs, ds, c, q, h1, h2, h3.le l, h4⟩
      | own => obtain ⟨b, e, h1, h2, h3⟩ := q; exact ⟨b, e, by rw [frzAt_ne (no rfl b e)]; exact h1, h2, h3.keep l fun _ z _ => z⟩
      | par => obtain ⟨b, e, h1, h2, h4, h3⟩ := q; exact ⟨b, e, by rw [frzAt_ne (no rfl b e)]; exact h1, h2, h4, h3.keep l fun _ z _ => z⟩
      | lck => obtain ⟨b, e, h1, h3⟩ := q; exact ⟨b, e, by rw [frzAt_ne (no rfl b e)]; exact h1, h3.keep l fun _ z _ => z⟩
    · exact q
  dist := fun i j s t b e1 e2 o1 o2 q1 q2 => by
    rcases hs i s e1 with ⟨p1, _⟩ | ⟨z, _⟩
    · rcases hs j t e2 with ⟨p2, _⟩ | ⟨z, _⟩
      · exact R.dist i j s t b p1 p2 o1 o2 q1 q2
      · rw [o2] at z; cases z
    · rw [o1] at z; cases z
  lok := fun i b d e => ⟨hl i b d e, (R.lok i b d e).2⟩
theorem get_set_some {α : Type} {l : List (Option α)} {i j : Nat} {x : Option α} {y : α} (h : (l.set i x)[j]? = some (some y)) : (j = i ∧ x = some y ∧ i < l.length) ∨ (j ≠ i ∧ l[j]? = some (some y)) := by
  by_cases e : j = i
  · subst e
    by_cases hl : j < l.length
    · rw [List.getElem?_set_self hl] at h
      exact .inl ⟨rfl, Option.some.inj h, hl⟩
    · rw [List.getElem?_eq_none (by simpa using hl)] at h; cases h
  · rw [List.getElem?_set_ne (Ne.symm e)] at h
    exact .inr ⟨e, h⟩
/-- a slot's own thing shared -/
theorem frz_slot (R : Rel w g F Γ σ H) {i : Nat} {s s' : Sl} (hs : Γ[i]? = some (some s)) (hm : s.m.mut = true) (hs' : s'.m = .dat ∨ (s'.m = .pfz ∧ s.m = .par)) (hd : s'.d = s.d) :
    ∃ a, σ[i]? = some (some (.ref a)) ∧ Mu Γ σ a ∧ Rel w g (frzAt F H a) (Γ.set i (some s')) σ H ∧ Rep w (frzAt F H a) (.ref a) s.d ∧ F a = none ∧ Step Γ σ F H (Γ.set i (some s')) (frzAt F H a) H := by
  obtain ⟨v, e1, q⟩ := R.slot i s hs
  have key : ∃ a, v = .ref a ∧ F a = none ∧ (g.H0 a = none ∨ g.PO a) ∧ OwnAt w F H a s.d ∧ (s.m = .par → g.P[i]? = some v) := by
    obtain ⟨m, d⟩ := s
    cases m with
    | own => obtain ⟨a, e, h1, h2, h3⟩ := q; exact ⟨a, e, h1, .inl h2, h3, fun z => nomatch z⟩
    | par => obtain ⟨a, e, h1, h2, h4, h3⟩ := q; exact ⟨a, e, h1, .inr h2, h3, fun _ => h4⟩
    | _ => cases hm
  obtain ⟨a, rfl, hF, hg, ho, hp⟩ := key
  have hrep : Rep w (frzAt F H a) (.ref a) s.d := (ho.keep (frzAt_le hF) fun _ z _ => z).rep frzAt_same
  have mu : Mu Γ σ a := ⟨i, s, hs, hm, e1⟩
  have now : s'.m.ow = false := by rcases hs' with h | ⟨h, _⟩ <;> rw [h] <;> rfl
  have nomut : s'.m.mut = false := by rcases hs' with h | ⟨h, _⟩ <;> rw [h] <;> rfl
  refine ⟨a, e1, mu, R.frzAt (fun u e => ho.nx e) ho.some hF hg (by rw [List.length_set]) (fun j t e => ?_) (fun j b d e => ?_), hrep, hF, ⟨frzAt_le hF, fun _ _ h _ _ => h, fun b h => ?_, fun _ h => h, fun j t e o => ?_⟩⟩
  · rcases get_set_some e with ⟨rfl, e, _⟩ | ⟨n, e⟩
    · cases e
      refine .inr ⟨now, _, e1, ?_⟩
      obtain ⟨m', d'⟩ := s'
      have hd : d' = s.d := hd
      subst hd
      rcases hs' with h | ⟨h, h2⟩
      · have h : m' = .dat := h
        subst h; exact hrep
      · have h : m' = .pfz := h
        subst h; exact ⟨hrep, hp h2⟩
    · refine .inl ⟨e, fun o z => n ?_⟩
      exact R.dist j i t s a e hs o (Md.ow_of_mut hm) z e1
  · have ql := (R.lok j b d e).1
    by_cases n : j = i
    · subst n
      rw [hs] at ql; cases ql; cases hm
    · rw [List.getElem?_set_ne (Ne.symm n)]; exact ql
  · by_cases z : b = a
    · subst z; exact .inr (.inr mu)
    · rw [frzAt_ne z] at h; exact .inl h
  · rcases get_set_some e with ⟨rfl, e, _⟩ | ⟨n, e⟩
    · cases e; rw [now] at o; cases o
    · exact ⟨t, e, o, fun z => z⟩
theorem frz_ok (R0 : Rel w g F0 Γ0 σ H0) (S : Step Γ0 σ F0 H0 Γ F H) (R : Rel w g F Γ σ H) (h : ResN w F σ H0 H v r) {p : D × EnD} (e : frz Γ r = some p) :
    ∃ F', Step Γ0 σ F0 H0 p.2 F' H ∧ Rel w g F' p.2 σ H ∧ Rep w F' v p.1 := by
  cases r with
  | dat d => cases e; exact ⟨F, S, R, h⟩
  | own d =>
    cases e
    obtain ⟨a, rfl, h1, h2, h3⟩ := h
    have no : ¬ Ow Γ σ a := fun z => by
      obtain ⟨o, q⟩ := R0.owIn (S.ow z)
      rw [h1] at q; cases q
    refine ⟨PD.frzAt F H a, ⟨S.le.trans (frzAt_le h2), S.fr, fun b q => ?_, S.th, S.ol⟩, R.frzAt (fun u e => h3.nx e) h3.some h2 (.inl (R0.fresh h1)) rfl (fun j s' q => ?_) (fun j b d q => (R.lok j b d q).1), (h3.keep (frzAt_le h2) fun _ z _ => z).rep frzAt_same⟩
    · by_cases z : b = a
      · subst z; exact .inr (.inl h1)
      · rw [frzAt_ne z] at q; exact S.nf b q
    · exact .inl ⟨q, fun o z => no ⟨j, s', q, o, z⟩⟩
  | var i =>
    have hv : σ[i]? = some (some v) := h
    simp only [frz] at e
    split at e
    · rename_i d e1
      cases e
      obtain ⟨v', e2, q⟩ := R.slot _ _ e1
      rw [hv] at e2; cases e2
      exact ⟨F, S, R, q⟩
    · rename_i d e1
      cases e
      obtain ⟨v', e2, q⟩ := R.slot _ _ e1
      rw [hv] at e2; cases e2
      exact ⟨F, S, R, q.1⟩
    · rename_i d e1
      cases e
      obtain ⟨a, e2, mu, R', q, _, S'⟩ := frz_slot R (s := ⟨.own, d⟩) (s' := ⟨.dat, d⟩) e1 rfl (.inl rfl) rfl
      rw [hv] at e2; cases e2
      exact ⟨_, S.trans S', R', q⟩
    · rename_i d e1
      cases e
      obtain ⟨a, e2, mu, R', q, _, S'⟩ := frz_slot R (s := ⟨.par, d⟩) (s' := ⟨.pfz, d⟩) e1 rfl (.inr ⟨rfl, rfl⟩) rfl
      rw [hv] at e2; cases e2
      exact ⟨_, S.trans S', R', q⟩
    · cases e
/-! ### what is new -/
theorem New.lay {p : Addr} {o : HO} (s : Le F H) (h : H p = none) : New F H (upd F p o) (upd H p o) where
  keep := fun b u e => by rw [upd_ne (ne_of_none e h)]; exact e
  le := fun b u e => by rw [upd_ne (ne_of_none (s b u e) h)]; exact e
  sub := fun b u e => by
    by_cases q : b = p
    · subst q; rw [upd_same] at e ⊢; exact e
    · rw [upd_ne q] at e ⊢; exact s b u e
  nf := fun b e => by
    by_cases q : b = p
    · subst q; exact .inr h
    · rw [upd_ne q] at e; exact .inl e
theorem New.own {p : Addr} {o : HO} (s : Le F H) (h : H p = none) : New F H F (upd H p o) where
  keep := fun b u e => by rw [upd_ne (ne_of_none e h)]; exact e
  le := Le.refl _
  sub := fun b u e => by rw [upd_ne (ne_of_none (s b u e) h)]; exact s b u e
  nf := fun b e => .inl e
theorem Le.none (s : Le F H) {p : Addr} (h : H p = none) : F p = none := by
  cases e : F p with
  | none => rfl
  | some o => rw [s p o e] at h; cases h
end
section
variable {X : Cx} {w : Wd} {W : WX} {a b c : Expr} {ca cb cc : M Rv} {ka kb kc : M Bool} {e : Expr} {es : List Expr} {cs : M (List Rv)} {pos : Pos} {rest : List Expr}
theorem d_fz (h : PE X a (T w W ca)) : PE X a (T w W (mFz ca)) := h.imp fun σ H Q ⟨g, F, Γ, R, p⟩ => by
  refine ⟨g, F, Γ, R, Post.bind (Step.refl ..) p fun r1 Γ1 _ p1 x H1 F1 S1 R1 q1 => ?_⟩
  obtain ⟨d, e1, p1⟩ := p1.opt
  obtain ⟨F2, S2, R2, q2⟩ := frz_ok R S1 R1 q1 e1
  exact p1 x H1 F2 S2 R2 q2
/-! ### argument lists -/
theorem l_nil : PA X [] (TL w W aNil) := pa_nil.imp fun σ H Q ⟨g, F, Γ, R, p⟩ => p [] H F (Step.refl ..) R trivial
section
variable {g : Gx} {F F' F1 : Hp} {Γ Γ' Γ1 : EnD} {σ : St} {H H' H1 H2 : Hp}
theorem ownAs_some : ∀ {vs : List V} {rs : List Rv} {a : Addr}, ResNs w F σ H H1 vs rs → a ∈ ownAs vs rs → H a = none ∧ ∃ o, H1 a = some o
  | [], [], _, _, h => absurd h (by simp [ownAs])
  | v :: vs, r :: rs, a, q, h => by
    simp only [ownAs, List.mem_append] at h
    rcases h with h | h
    · cases r with
      | own d =>
        obtain ⟨b, rfl, h1, h2, h3⟩ := q.1
        have e : a = b := by simpa [ownA] using h
        subst e
        exact ⟨h1, h3.some⟩
      | dat d => cases v <;> simp [ownA] at h
      | var i => cases v <;> simp [ownA] at h
    · exact ownAs_some q.2.1 h
theorem ResNs.early : ∀ {vs : List V} {rs : List Rv}, (∀ b, H b ≠ none → H1 b ≠ none) → ResNs w F σ H1 H2 vs rs → ResNs w F σ H H2 vs rs
  | [], [], _, h => h
  | v :: vs, r :: rs, th, h => ⟨h.1.early th, ResNs.early th h.2.1, h.2.2⟩
theorem ResNs.noσ : ∀ {vs : List V} {rs : List Rv}, ResNs w F [] H1 H2 vs rs → ResNs w F σ H1 H2 vs rs
  | [], [], h => h
  | v :: vs, r :: rs, h => ⟨h.1.noσ, ResNs.noσ h.2.1, h.2.2⟩
end
theorem l_cons (ha : PE X e (T w W ca)) (hs : PA X es (TL w W cs)) (hst : starEach (e :: es) X.env = (false, eval e X.env) :: starEach es X.env := by rfl) : PA X (e :: es) (TL w W (aCons ca cs)) :=
  (pa_cons ha hs hst).imp fun σ H Q ⟨g, F, Γ, R, p⟩ => by
    refine ⟨g, F, Γ, R, Post.bind (Step.refl ..) p fun r1 Γ1 _ p1 x H1 F1 S1 R1 q1 => ?_⟩
    refine ⟨g, F1, Γ1, R1, Post.bind S1 p1 fun rs Γ2 _ p2 xs H2 F2 S2 R2 q2 => ?_⟩
    refine p2 (x :: xs) H2 F2 (S1.trans S2) R2 ⟨q1.later R S1 S2, q2.early S1.th, fun a ea hm => ?_⟩
    obtain ⟨n, _⟩ := ownAs_some q2 hm
    cases r1 with
    | own d =>
      obtain ⟨b, rfl, h1, h2, h3⟩ := q1
      cases ea
      obtain ⟨o, q⟩ := h3.some
      rw [n] at q; cases q
    | dat d => cases x <;> cases ea
    | var i => cases x <;> cases ea
section
variable {g : Gx} {F F' F1 : Hp} {Γ Γ' Γ1 : EnD} {σ : St} {H H' H1 H2 : Hp}
theorem ResNs.view (R : Rel w g F Γ σ H) (S : Step Γ σ F H Γ1 F1 H1) (R1 : Rel w g F1 Γ1 σ H1) : ∀ {vs : List V} {rs : List Rv} {ds : List D}, ResNs w F1 σ H H1 vs rs → looks Γ1 rs = some ds → Views w F1 H1 vs ds
  | [], [], ds, _, e => by cases e; exact .nil
  | v :: vs, r :: rs, ds, h, e => by
    simp only [looks] at e
    split at e
    · rename_i d ds' e1 e2
      cases e
      exact .cons ((h.1.at R S).view R1 e1) (ResNs.view R S R1 h.2.1 e2)
    · cases e
theorem ResNs.dats : ∀ {vs : List V} {rs : List Rv} {ds : List D}, ResNs w F1 σ H H1 vs rs → PD.dats rs = some ds → Reps w F1 vs ds
  | [], [], ds, _, e => by cases e; exact .nil
  | v :: vs, r :: rs, ds, h, e => by
    cases r with
    | dat d =>
      simp only [PD.dats] at e
      cases e2 : PD.dats rs with
      | none => rw [e2] at e; cases e
      | some ds' =>
        rw [e2] at e
        cases e
        exact .cons h.1 (ResNs.dats h.2.1 e2)
    | own d => cases e
    | var i => cases e
end
theorem T.opn {r : List V → Hp → VK → Prop} {f : List D → Option Rv} (hr : OpDn w r f) : ∀ σ H Q, T w W (mB f cs) σ H Q → tCB r (TL w W cs) σ H Q := by
  rintro σ H Q ⟨g, F, Γ, R, p⟩
  refine ⟨g, F, Γ, R, Post.bind (Step.refl ..) p fun rs Γ1 _ p1 xs H1 F1 S1 R1 q1 => ?_⟩
  obtain ⟨ds, e1, p1⟩ := p1.opt
  obtain ⟨o, e2, p1⟩ := p1.opt
  refine hr F1 H1 xs ds o Q R1.sub (q1.view R S1 R1 e1) e2 fun v H3 F3 N res => ?_
  exact p1 v H3 F3 (S1.trans N.step) (R1.new N) (res.noσ.early S1.th)
/-- a built-in function, a built-in class called -/
theorem d_cb {x : Str} {id : String} {p : Pos} {r : List V → Hp → VK → Prop} {f : List D → Option Rv} (hr : OpDn w r f) (hc : CallR X (.builtin id) r) (hg : Gl X x) (hm : X.mg x = none) (hv : bootBuiltins x = some (.builtin id)) (ha : PA X (e :: es) (TL w W cs))
    (hn : x ≠ "__name__" := by decide) (hd : (x == ("__debug__" : Str)) = false := by decide)
    (he : starEach (e :: es) X.env = (false, eval e X.env) :: starEach es X.env := by rfl) (hpl : (backTo pos (starEach es X.env)).any (·.1) = false := by rfl) :
    PE X (.Call (.Name x p) (e :: es) [] pos) (T w W (mB f cs)) := (pe_callB hc hg hm hv ha hn hd he hpl).imp (T.opn hr)
theorem d_ct {x : Str} {id : String} {p : Pos} {r : List V → Hp → VK → Prop} {f : List D → Option Rv} (hr : OpDn w r f) (hc : CallR X (.type id) r) (hg : Gl X x) (hm : X.mg x = none) (hv : bootBuiltins x = some (.type id)) (ha : PA X (e :: es) (TL w W cs))
    (hn : x ≠ "__name__" := by decide) (hd : (x == ("__debug__" : Str)) = false := by decide)
    (he : starEach (e :: es) X.env = (false, eval e X.env) :: starEach es X.env := by rfl) (hpl : (backTo pos (starEach es X.env)).any (·.1) = false := by rfl) :
    PE X (.Call (.Name x p) (e :: es) [] pos) (T w W (mB f cs)) := (pe_callTy hc hg hm hv ha hn hd he hpl).imp (T.opn hr)
/-! ### displays -/
theorem lim_line : LIM = sizeLine := by rw [sizeLine_eq]; rfl
theorem d_tup {k} (h : PA X es (TL w W cs)) : PE X (.Tuple es k pos) (T w W (mTup cs)) := (pe_tup h).imp fun σ H Q ⟨g, F, Γ, R, p⟩ => by
  refine ⟨g, F, Γ, R, Post.bind (Step.refl ..) p fun rs Γ1 _ p1 xs H1 F1 S1 R1 q1 => ?_⟩
  obtain ⟨ds, e1, p1⟩ := p1.opt
  have r := q1.dats e1
  by_cases hl : ds.length ≤ LIM
  · rw [if_pos hl] at p1
    refine ⟨by rw [r.length, ← lim_line]; exact hl, fun p hp => ?_⟩
    have N := New.lay (o := .tup xs) R1.sub hp
    exact p1 _ _ _ (S1.trans N.step) (R1.new N) (.tup (.inl (.inl upd_same)) (r.le N.le) hl)
  · rw [if_neg hl] at p1; exact p1.elim
theorem d_lst (h : PA X es (TL w W cs)) : PE X (.List es pos) (T w W (mLst cs)) := (pe_lst h).imp fun σ H Q ⟨g, F, Γ, R, p⟩ => by
  refine ⟨g, F, Γ, R, Post.bind (Step.refl ..) p fun rs Γ1 _ p1 xs H1 F1 S1 R1 q1 => ?_⟩
  obtain ⟨ds, e1, p1⟩ := p1.opt
  have r := q1.dats e1
  by_cases hl : ds.length ≤ LIM
  · rw [if_pos hl] at p1
    refine ⟨by rw [r.length, ← lim_line]; exact hl, fun p hp => ?_⟩
    have N := New.own (F := F1) (o := .lst xs) R1.sub hp
    refine p1 _ _ _ (S1.trans N.step) (R1.new N) ⟨p, rfl, ?_, R1.sub.none hp, xs, upd_same, r, hl⟩
    cases q : H p with
    | none => rfl
    | some o => exact absurd hp (S1.th p (by rw [q]; simp))
  · rw [if_neg hl] at p1; exact p1.elim
/-! ### tests put together -/
theorem d_and1 (ha : PT X a (TB w W ka)) : PW X (.BoolOp .And [a] pos) (TB w W ka) := pw_and1 ha
theorem d_or1 (ha : PT X a (TB w W ka)) : PW X (.BoolOp .Or [a] pos) (TB w W ka) := pw_or1 ha
theorem _root_.PD.Post.tail {α β : Type} {RR : Hp → St → Hp → Hp → β → α → Prop} {g : Gx} {F F1 H H1 : Hp} {Γ Γ1 : EnD} {σ : St} {Q : β → Hp → Prop} {m : R α} (S1 : Step Γ σ F H Γ1 F1 H1) (p : Post w W RR g F Γ σ H Q m)
    (k : ∀ v r H2 F2, RR F2 σ H1 H2 v r → RR F2 σ H H2 v r) : Post w W RR g F1 Γ1 σ H1 Q m := by
  cases m with
  | no => exact p
  | ex x Γ2 => exact fun cls d H2 F2 S2 R2 X => p cls d H2 F2 (S1.trans S2) R2 X
  | ok r Γ2 => exact fun v H2 F2 S2 R2 q => p v H2 F2 (S1.trans S2) R2 (k _ _ _ _ q)
theorem d_and (ha : PT X a (TB w W ka)) (hb : PW X (.BoolOp .And (b :: rest) pos) (TB w W kb)) : PW X (.BoolOp .And (a :: b :: rest) pos) (TB w W (tAnd ka kb)) := (pw_and ha hb).imp fun σ H Q ⟨g, F, Γ, R, p⟩ => by
  refine ⟨g, F, Γ, R, Post.bind (Step.refl ..) p fun k Γ1 _ p1 x H1 F1 S1 R1 q1 => ?_⟩
  subst q1
  cases x with
  | true => exact ⟨g, F1, Γ1, R1, Post.tail S1 p1 fun _ _ _ _ q => q⟩
  | false => exact p1 false H1 F1 S1 R1 rfl
theorem d_or (ha : PT X a (TB w W ka)) (hb : PW X (.BoolOp .Or (b :: rest) pos) (TB w W kb)) : PW X (.BoolOp .Or (a :: b :: rest) pos) (TB w W (tOr ka kb)) := (pw_or ha hb).imp fun σ H Q ⟨g, F, Γ, R, p⟩ => by
  refine ⟨g, F, Γ, R, Post.bind (Step.refl ..) p fun k Γ1 _ p1 x H1 F1 S1 R1 q1 => ?_⟩
  subst q1
  cases x with
  | true => exact p1 true H1 F1 S1 R1 rfl
  | false => exact ⟨g, F1, Γ1, R1, Post.tail S1 p1 fun _ _ _ _ q => q⟩
theorem d_not (ha : PT X a (TB w W ka)) : PT X (.UnaryOp .Not a pos) (TB w W (PD.tNot ka)) := (pt_not ha).imp fun σ H Q ⟨g, F, Γ, R, p⟩ => by
  refine ⟨g, F, Γ, R, Post.bind (Step.refl ..) p fun k Γ1 _ p1 x H1 F1 S1 R1 q1 => ?_⟩
  subst q1
  exact p1 _ H1 F1 S1 R1 rfl
theorem d_if (hc : PT X c (TB w W ka)) (ha : PE X a (T w W ca)) (hb : PE X b (T w W cb)) : PE X (.IfExp c a b pos) (T w W (mIf ka ca cb)) := (pe_ifExp hc ha hb).imp fun σ H Q ⟨g, F, Γ, R, p⟩ => by
  refine ⟨g, F, Γ, R, Post.bind (Step.refl ..) p fun k Γ1 _ p1 x H1 F1 S1 R1 q1 => ?_⟩
  subst q1
  cases x with
  | true => exact ⟨g, F1, Γ1, R1, Post.tail S1 p1 fun _ _ _ _ q => q.early S1.th⟩
  | false => exact ⟨g, F1, Γ1, R1, Post.tail S1 p1 fun _ _ _ _ q => q.early S1.th⟩
theorem d_one {op} (h : PE X a (T w W ca)) : PE X (.BoolOp op [a] pos) (T w W ca) := pe_one h
theorem d_vand (ha : PE X a (T w W ca)) (hb : PE X (.BoolOp .And (b :: rest) pos) (T w W cb)) : PE X (.BoolOp .And (a :: b :: rest) pos) (T w W (vAnd ca cb)) := (pe_and ha hb).imp fun σ H Q h => by
  refine tTest_of (Q := fun c H1 => if c = true then T w W cb σ H1 Q else Q (.bl false) H1) σ H ?_
  obtain ⟨g, F, Γ, R, p⟩ := h
  refine ⟨g, F, Γ, R, Post.bind (Step.refl ..) p fun k Γ1 _ p1 x H1 F1 S1 R1 q1 => ?_⟩
  subst q1
  cases x with
  | true => exact ⟨g, F1, Γ1, R1, Post.tail S1 p1 fun _ _ _ _ q => q.early S1.th⟩
  | false => exact p1 (.bl false) H1 F1 S1 R1 (.bl false)
theorem d_vor (ha : PE X a (T w W ca)) (hb : PE X (.BoolOp .Or (b :: rest) pos) (T w W cb)) : PE X (.BoolOp .Or (a :: b :: rest) pos) (T w W (vOr ca cb)) := (pe_or ha hb).imp fun σ H Q h => by
  refine tTest_of (Q := fun c H1 => if c = true then Q (.bl true) H1 else T w W cb σ H1 Q) σ H ?_
  obtain ⟨g, F, Γ, R, p⟩ := h
  refine ⟨g, F, Γ, R, Post.bind (Step.refl ..) p fun k Γ1 _ p1 x H1 F1 S1 R1 q1 => ?_⟩
  subst q1
  cases x with
  | true => exact p1 (.bl true) H1 F1 S1 R1 (.bl true)
  | false => exact ⟨g, F1, Γ1, R1, Post.tail S1 p1 fun _ _ _ _ q => q.early S1.th⟩
theorem d_vnot (ha : PE X a (T w W ca)) : PE X (.UnaryOp .Not a pos) (T w W (vNot ca)) := (pe_not ha).imp fun σ H Q h => by
  refine tTest_of (Q := fun c H1 => Q (.bl (!c)) H1) σ H ?_
  obtain ⟨g, F, Γ, R, p⟩ := h
  refine ⟨g, F, Γ, R, Post.bind (Step.refl ..) p fun k Γ1 _ p1 x H1 F1 S1 R1 q1 => ?_⟩
  subst q1
  exact p1 (.bl (!x)) H1 F1 S1 R1 (.bl _)
/-- a test by truth -/
theorem d_tt (h : PE X a (T w W ca)) (hK : w.K = X.K) (he : ∀ whole, isTrue a X.env whole = (do let v ← whole; standAt a.pos; holding [v] (truthy v)) := by intro _; rfl) : PT X a (TB w W (tT ca)) :=
  (pt_truth h he).imp fun σ H Q ⟨g, F, Γ, R, p⟩ => by
    refine ⟨g, F, Γ, R, Post.bind (Step.refl ..) p fun r1 Γ1 _ p1 x H1 F1 S1 R1 q1 => ?_⟩
    obtain ⟨d, e1, p1⟩ := p1.opt
    obtain ⟨b, e2, p1⟩ := p1.opt
    exact ⟨b, hK ▸ tv_truth R1.sub ((q1.at R S1).view R1 e1) e2, p1 b H1 F1 S1 R1 rfl⟩
/-- a < b < c -/
theorem d_chain {op op' : CmpOp} {r r' : R2} {f f' : D → D → Option Rv} (hr : OpD w r f) (hr' : OpD w r' f') (ho : OpR X (compareOp op) r) (ho' : OpR X (compareOp op') r') (ha : PE X a (T w W ca)) (hb : PE X b (T w W cb)) (hc : PE X c (T w W cc))
    (hm : lastMarks [op, op'] [b, c] = false := by with_unfolding_all rfl) : PE X (.Compare a [op, op'] [b, c] pos) (T w W (mChain f f' ca cb cc)) := (pe_chain ho ho' ha hb hc hm).imp fun σ H Q ⟨g, F, Γ, R, p⟩ => by
  refine ⟨g, F, Γ, R, Post.bind (Step.refl ..) p fun r1 Γ1 _ p1 x H1 F1 S1 R1 q1 => ?_⟩
  refine ⟨g, F1, Γ1, R1, Post.bind S1 p1 fun r2 Γ2 _ p2 y H2 F2 S2 R2 q2 => ?_⟩
  obtain ⟨d, e1, p2⟩ := p2.opt
  obtain ⟨e, e2, p2⟩ := p2.opt
  obtain ⟨o, e3, p2⟩ := p2.opt
  refine hr F2 H2 x y d e o _ R2.sub (((q1.at R S1).step S2).view R2 e1) ((q2.at R1 S2).view R2 e2) e3 fun v H3 F3 N res => ?_
  have S3 : Step Γ2 σ F2 H2 Γ2 F3 H3 := N.step
  have R3 := R2.new N
  split at p2
  · have res : Rep w F3 v (.bl true) := res
    cases res
    refine ⟨true, rfl, ?_⟩
    rw [if_pos rfl]
    refine ⟨g, F3, Γ2, R3, Post.bind ((S1.trans S2).trans S3) p2 fun r3 Γ4 _ p4 z H4 F4 S4 R4 q4 => ?_⟩
    obtain ⟨e', e5, p4⟩ := p4.opt
    obtain ⟨h, e6, p4⟩ := p4.opt
    obtain ⟨o', e7, p4⟩ := p4.opt
    refine hr' F4 H4 y z e' h o' Q R4.sub ((((q2.at R1 S2).step S3).step S4).view R4 e5) ((q4.at R3 S4).view R4 e6) e7 fun v' H5 F5 N5 res' => ?_
    exact p4 v' H5 F5 ((((S1.trans S2).trans S3).trans S4).trans N5.step) (R4.new N5) (res'.noσ.early (((S1.trans S2).trans S3).trans S4).th)
  · have res : Rep w F3 v (.bl false) := res
    cases res
    refine ⟨false, rfl, ?_⟩
    rw [if_neg Bool.false_ne_true]
    exact p2 (.bl false) H3 F3 ((S1.trans S2).trans S3) R3 (.bl false)
  · exact p2.elim
end
end PD

/-! PD4: stores, targets, statements, loops. -/
namespace PD
open PySem PySem.Spec L2
section
variable {w : Wd} {W : WX} {g : Gx} {F F0 F' F1 F2 : Hp} {Γ Γ0 Γ' Γ1 Γ2 : EnD} {σ σ' : St} {H H0 H' H1 H2 : Hp} {v : V} {r : Rv} {a : Addr}
/-! ### a slot is stored -/
theorem Rel.setS (R : Rel w g F Γ σ H) {i : Nat} {x : Option Sl} (hx : Γ[i]? = some x) (hl : ∀ d, x ≠ some ⟨.lck, d⟩) (s : Option Sl) (hs : ∀ t, s = some t → SRep w g F H i v t)
    (hd : ∀ t b j u, s = some t → t.m.ow = true → v = .ref b → j ≠ i → Γ[j]? = some (some u) → u.m.ow = true → σ[j]? ≠ some (some (.ref b))) : Rel w g F (Γ.set i s) (σ.set i (some v)) H := by
  have hi : i < Γ.length := (List.getElem?_eq_some_iff.mp hx).1
  have hi' : i < σ.length := by rw [← R.len]; exact hi
  have gs : ∀ {j : Nat}, j ≠ i → (σ.set i (some v))[j]? = σ[j]? := fun {j} n => List.getElem?_set_ne (Ne.symm n)
  have gi : (σ.set i (some v))[i]? = some (some v) := List.getElem?_set_self hi'
  refine ⟨R.sub, R.base, R.there, R.le0, R.nf0, by rw [List.length_set, List.length_set]; exact R.len, fun j t e => ?_, fun j k t u b e1 e2 o1 o2 q1 q2 => ?_, fun j b d e => ?_, R.tab⟩
  · rcases get_set_some e with ⟨rfl, e, _⟩ | ⟨n, e⟩
    · exact ⟨v, gi, hs t e⟩
    · rw [gs n]; exact R.slot j t e
  · rcases get_set_some e1 with ⟨z1, p1, _⟩ | ⟨n1, p1⟩
    · rcases get_set_some e2 with ⟨z2, p2, _⟩ | ⟨n2, p2⟩
      · exact z1.trans z2.symm
      · subst z1
        rw [gi] at q1
        rw [gs n2] at q2
        exact absurd q2 (hd t b k u p1 o1 (Option.some.inj (Option.some.inj q1)) n2 p2 o2)
    · rcases get_set_some e2 with ⟨z2, p2, _⟩ | ⟨n2, p2⟩
      · subst z2
        rw [gi] at q2
        rw [gs n1] at q1
        exact absurd q1 (hd u b j t p2 o2 (Option.some.inj (Option.some.inj q2)) n1 p1 o1)
      · rw [gs n1] at q1
        rw [gs n2] at q2
        exact R.dist j k t u b p1 p2 o1 o2 q1 q2
  · have q := R.lok j b d e
    have n : j ≠ i := fun z => by
      subst z
      rw [hx] at q
      exact hl d (Option.some.inj q.1)
    rw [gs n, List.getElem?_set_ne (Ne.symm n)]
    exact q
theorem isLck_no {x : Option Sl} (h : ¬ isLck x = true) : ∀ d, x ≠ some ⟨.lck, d⟩ := fun d z => by subst z; exact h rfl
/-- locked slots stay locked, no others are -/
theorem frz_lck {p : D × EnD} (e : frz Γ r = some p) {i : Nat} {d : D} (h : p.2[i]? = some (some ⟨.lck, d⟩)) : Γ[i]? = some (some ⟨.lck, d⟩) := by
  cases r with
  | dat d => cases e; exact h
  | own d => cases e; exact h
  | var j =>
    simp only [frz] at e
    split at e
    · cases e; exact h
    · cases e; exact h
    · cases e
      rcases get_set_some h with ⟨_, q, _⟩ | ⟨_, q⟩
      · cases q
      · exact q
    · cases e
      rcases get_set_some h with ⟨_, q, _⟩ | ⟨_, q⟩
      · cases q
      · exact q
    · cases e
theorem frz_len {p : D × EnD} (e : frz Γ r = some p) : p.2.length = Γ.length := by
  cases r with
  | dat d => cases e; rfl
  | own d => cases e; rfl
  | var j =>
    simp only [frz] at e
    split at e <;> cases e <;> first | rfl | rw [List.length_set]
theorem store_ok (R0 : Rel w g F0 Γ0 σ H0) (S : Step Γ0 σ F0 H0 Γ F H) (R : Rel w g F Γ σ H) (h : ResN w F σ H0 H v r) {i : Nat} {Γ' : EnD} (e : store i r Γ = some Γ') :
    ∃ F', Le F F' ∧ Rel w g F' Γ' (σ.set i (some v)) H := by
  unfold store at e
  cases hx : Γ[i]? with
  | none => rw [hx] at e; cases e
  | some x =>
    rw [hx] at e
    simp only at e
    split at e
    · cases e
    · rename_i hl
      have hl := isLck_no hl
      cases r with
      | dat d =>
        cases e
        exact ⟨F, Le.refl _, R.setS hx hl _ (fun t q => by cases q; exact h) fun t b j u q o => by cases q; cases o⟩
      | own d =>
        cases e
        obtain ⟨a, rfl, h1, h2, h3⟩ := h
        refine ⟨F, Le.refl _, R.setS hx hl _ (fun t q => by cases q; exact ⟨a, rfl, h2, R0.fresh h1, h3⟩) fun t b j u q o e n e2 o2 z => ?_⟩
        cases e
        obtain ⟨o, q⟩ := R0.owIn (S.ow ⟨j, u, e2, o2, z⟩)
        rw [h1] at q; cases q
      | var j =>
        simp only [storeR] at e
        cases hf : frz Γ (.var j) with
        | none => rw [hf] at e; cases e
        | some p =>
          rw [hf] at e
          cases e
          obtain ⟨F', S', R', q⟩ := frz_ok R (Step.refl ..) R (r := .var j) (v := v) h hf
          have hi : i < p.2.length := by rw [frz_len hf]; exact (List.getElem?_eq_some_iff.mp hx).1
          refine ⟨F', S'.le, R'.setS (List.getElem?_eq_getElem hi) (fun d z => ?_) _ (fun t q' => by cases q'; exact q) fun t b j u q o => by cases q; cases o⟩
          have z2 := frz_lck hf (show p.2[i]? = some (some ⟨.lck, d⟩) by rw [List.getElem?_eq_getElem hi, z])
          rw [hx] at z2
          exact hl d (Option.some.inj z2)
/-- a slot's own thing is changed -/
theorem Rel.mutS (R : Rel w g F Γ σ H) {i : Nat} {m : Md} {c c' : D} (hs : Γ[i]? = some (some ⟨m, c⟩)) (hm : m.mut = true) :
    ∃ a, σ[i]? = some (some (.ref a)) ∧ OwnAt w F H a c ∧ F a = none ∧ Mu Γ σ a ∧ ∀ o, OwnAt w F (upd H a o) a c' → Rel w g F (Γ.set i (some ⟨m, c'⟩)) σ (upd H a o) ∧ Step Γ σ F H (Γ.set i (some ⟨m, c'⟩)) F (upd H a o) := by
  obtain ⟨v, e1, q⟩ := R.slot i _ hs
  have key : ∃ a, v = .ref a ∧ F a = none ∧ OwnAt w F H a c ∧ (g.H0 a = none ∨ g.PO a) ∧ ∀ o, OwnAt w F (upd H a o) a c' → SRep w g F (upd H a o) i v ⟨m, c'⟩ := by
    cases m with
    | own => obtain ⟨a, e, h1, h2, h3⟩ := q; exact ⟨a, e, h1, h3, .inl h2, fun o z => ⟨a, e, h1, h2, z⟩⟩
    | par => obtain ⟨a, e, h1, h2, h4, h3⟩ := q; exact ⟨a, e, h1, h3, .inr h2, fun o z => ⟨a, e, h1, h2, h4, z⟩⟩
    | _ => cases hm
  obtain ⟨a, rfl, hF, ho, hg, hk⟩ := key
  have mu : Mu Γ σ a := ⟨i, _, hs, hm, e1⟩
  refine ⟨a, e1, ho, hF, mu, fun o hn => ⟨⟨fun b u e => ?_, fun b u e nt n => ?_, fun b e => ?_, R.le0, R.nf0, by rw [List.length_set]; exact R.len, fun j t e => ?_, fun j k t u b e1' e2 o1 o2 q1 q2 => ?_, fun j b d e => ?_, ⟨tabs_upd R.tab.1 fun u e => ho.nx e, R.tab.2⟩⟩, ⟨Le.refl _, fun b u e _ n => ?_, fun b e => .inl e, fun b e => ?_, fun j t e o => ?_⟩⟩⟩
  · have n : b ≠ a := fun z => by subst z; rw [hF] at e; cases e
    rw [upd_ne n]; exact R.sub b u e
  · have n2 : b ≠ a := fun z => by
      subst z
      rcases hg with z | z
      · rw [z] at e; cases e
      · exact n z
    rw [upd_ne n2]; exact R.base b u e nt n
  · by_cases n : b = a
    · subst n; rw [upd_same]; simp
    · rw [upd_ne n]; exact R.there b e
  · rcases get_set_some e with ⟨rfl, e, _⟩ | ⟨n, e⟩
    · cases e
      exact ⟨_, e1, hk o hn⟩
    · obtain ⟨v', e2, q'⟩ := R.slot j t e
      refine ⟨v', e2, ?_⟩
      have no : t.m.ow = true → ∀ b, v' = .ref b → b ≠ a := fun ot b z z2 => by
        subst z; subst z2
        exact n (R.dist j i t _ b e hs ot (Md.ow_of_mut hm) e2 e1)
      obtain ⟨m', d⟩ := t
      cases m' with
      | dat => exact q'
      | lam => obtain ⟨b, cvs, ds, c, q, h1, h2, h3, h4, h5⟩ := q'; exact ⟨b, cvs, ds, c, q, h1, h2, h3, h4, by rw [upd_ne (fun z => by subst z; exact ho.nx h5)]; exact h5⟩
      | pfz => exact q'
      | own => obtain ⟨b, e, h1, h2, h3⟩ := q'; exact ⟨b, e, h1, h2, h3.keep (Le.refl _) fun u z _ => by rw [upd_ne (no rfl b e)]; exact z⟩
      | par => obtain ⟨b, e, h1, h2, h4, h3⟩ := q'; exact ⟨b, e, h1, h2, h4, h3.keep (Le.refl _) fun u z _ => by rw [upd_ne (no rfl b e)]; exact z⟩
      | lck => obtain ⟨b, e, h1, h3⟩ := q'; exact ⟨b, e, h1, h3.keep (Le.refl _) fun u z _ => by rw [upd_ne (no rfl b e)]; exact z⟩
  · have old : ∀ {j : Nat} {t : Sl}, (Γ.set i (some ⟨m, c'⟩))[j]? = some (some t) → t.m.ow = true → ∃ t', Γ[j]? = some (some t') ∧ t'.m.ow = true := fun {j t} e o => by
      rcases get_set_some e with ⟨rfl, e, _⟩ | ⟨n, e⟩
      · exact ⟨_, hs, Md.ow_of_mut hm⟩
      · exact ⟨t, e, o⟩
    obtain ⟨t', p1, p2⟩ := old e1' o1
    obtain ⟨u', p3, p4⟩ := old e2 o2
    exact R.dist j k t' u' b p1 p3 p2 p4 q1 q2
  · obtain ⟨q1, q2⟩ := R.lok j b d e
    have n : j ≠ i := fun z => by
      subst z
      rw [hs] at q1; cases q1; cases hm
    rw [List.getElem?_set_ne (Ne.symm n)]
    exact ⟨q1, q2⟩
  · have n2 : b ≠ a := fun z => by subst z; exact n mu
    rw [upd_ne n2]; exact e
  · by_cases n : b = a
    · subst n; rw [upd_same]; simp
    · rw [upd_ne n]; exact e
  · rcases get_set_some e with ⟨rfl, e, _⟩ | ⟨n, e⟩
    · cases e
      exact ⟨_, hs, Md.ow_of_mut hm, fun z => hm⟩
    · exact ⟨t, e, o, fun z => z⟩
end
/-! ### statements -/
def RetR (w : Wd) (g : Gx) (F H : Hp) (v : V) : Rv → Prop
  | .dat d => Rep w F v d
  | .own d => ∃ a, v = .ref a ∧ g.H0 a = none ∧ F a = none ∧ OwnAt w F H a d
  | .var _ => False
def SPost (w : Wd) (W : WX) (g : Gx) (F : Hp) (D : Ends) : R Fl → Prop
  | .ok .nx Γ' => ∀ σ' H' F', Le F F' → Rel w g F' Γ' σ' H' → D.nx σ' H'
  | .ok .bk Γ' => ∀ σ' H' F', Le F F' → Rel w g F' Γ' σ' H' → D.bk σ' H'
  | .ok .ct Γ' => ∀ σ' H' F', Le F F' → Rel w g F' Γ' σ' H' → D.ct σ' H'
  | .ok (.rt r) Γ' => ∀ v σ' H' F', Le F F' → Rel w g F' Γ' σ' H' → RetR w g F' H' v r → D.rt v H'
  | .ex x Γ' => ∀ cls d σ' H' F', Le F F' → Rel w g F' Γ' σ' H' → XRep w F' H' x cls d → W cls d σ' H'
  | .no => False
def TSt (w : Wd) (W : WX) (c : M Fl) : TS := fun D σ H => ∃ g F Γ, Rel w g F Γ σ H ∧ SPost w W g F D (c Γ)
section
variable {α α' β β' : Type} {w : Wd} {W : WX} {RR' : Hp → St → Hp → Hp → β' → α' → Prop} {g : Gx} {F F1 : Hp} {Γ Γ1 : EnD} {σ : St} {H H1 : Hp} {D D' : Ends} {Q' : β' → Hp → Prop}
/-- an expression within a statement -/
theorem SPost.bind {m : R α'} {f : α' → M Fl} (l : Le F F1) (p : SPost w W g F D (m.bind f))
    (k : ∀ r Γ2, m = .ok r Γ2 → SPost w W g F D (f r Γ2) → ∀ v H2 F2, Step Γ1 σ F1 H1 Γ2 F2 H2 → Rel w g F2 Γ2 σ H2 → RR' F2 σ H1 H2 v r → Q' v H2) : Post w W RR' g F1 Γ1 σ H1 Q' m := by
  cases m with
  | no => exact p
  | ex x Γ2 => exact fun cls d H2 F2 S2 R2 X => p cls d σ H2 F2 (l.trans S2.le) R2 X
  | ok r Γ2 => exact fun v H2 F2 S2 R2 q => k r Γ2 rfl p v H2 F2 S2 R2 q
theorem SPost.opt {o : Option α'} {f : α' → R Fl} (p : SPost w W g F D (R.opt o f)) : ∃ a, o = some a ∧ SPost w W g F D (f a) := by
  cases o with
  | none => exact p.elim
  | some a => exact ⟨a, rfl, p⟩
theorem SPost.le {m : R Fl} (l : Le F F1) (p : SPost w W g F D m) : SPost w W g F1 D m := by
  cases m with
  | no => exact p
  | ex x Γ2 => exact fun cls d σ H2 F2 S2 R2 X => p cls d σ H2 F2 (l.trans S2) R2 X
  | ok r Γ2 =>
    cases r with
    | rt r => exact fun v σ H2 F2 S2 R2 X => p v σ H2 F2 (l.trans S2) R2 X
    | _ => exact fun σ H2 F2 S2 R2 => p σ H2 F2 (l.trans S2) R2
/-- a statement within a statement -/
theorem SPost.seq {m : R Fl} {f : Fl → M Fl} (p : SPost w W g F D (m.bind f))
    (hn : ∀ Γ2, m = .ok .nx Γ2 → SPost w W g F D (f .nx Γ2) → ∀ σ' H' F', Le F F' → Rel w g F' Γ2 σ' H' → D'.nx σ' H')
    (hb : ∀ Γ2, m = .ok .bk Γ2 → SPost w W g F D (f .bk Γ2) → ∀ σ' H' F', Le F F' → Rel w g F' Γ2 σ' H' → D'.bk σ' H')
    (hc : ∀ Γ2, m = .ok .ct Γ2 → SPost w W g F D (f .ct Γ2) → ∀ σ' H' F', Le F F' → Rel w g F' Γ2 σ' H' → D'.ct σ' H')
    (hr : ∀ r Γ2, m = .ok (.rt r) Γ2 → SPost w W g F D (f (.rt r) Γ2) → ∀ v σ' H' F', Le F F' → Rel w g F' Γ2 σ' H' → RetR w g F' H' v r → D'.rt v H') : SPost w W g F D' m := by
  cases m with
  | no => exact p
  | ex x Γ2 => exact p
  | ok r Γ2 =>
    cases r with
    | nx => exact fun σ H2 F2 S2 R2 => hn Γ2 rfl p σ H2 F2 S2 R2
    | bk => exact fun σ H2 F2 S2 R2 => hb Γ2 rfl p σ H2 F2 S2 R2
    | ct => exact fun σ H2 F2 S2 R2 => hc Γ2 rfl p σ H2 F2 S2 R2
    | rt r => exact fun v σ H2 F2 S2 R2 q => hr r Γ2 rfl p v σ H2 F2 S2 R2 q
end
/-- what is known of a plain target (names alone, these slots): only these slots are stored -/
def TInfo (sl : Option (List Nat)) (F : Hp) (Γ : EnD) (σ : St) (H : Hp) (F' : Hp) (Γ' : EnD) (σ' : St) (H' : Hp) : Prop := match sl with
  | none => True
  | some l => H' = H ∧ F' = F ∧ σ'.length = σ.length ∧ (∀ j, j ∉ l → σ'[j]? = σ[j]? ∧ Γ'[j]? = Γ[j]?) ∧ ∀ j ∈ l, ∀ s, Γ'[j]? = some (some s) → s.m = .dat
def optApp : Option (List Nat) → Option (List Nat) → Option (List Nat)
  | some a, some b => some (a ++ b)
  | _, _ => none
/-- a target's reading -/
def GPost (w : Wd) (W : WX) (sl : Option (List Nat)) (g : Gx) (F : Hp) (Γ : EnD) (σ : St) (H : Hp) (Q : St → Hp → Prop) : R Unit → Prop
  | .ok _ Γ' => ∀ σ' H' F', Le F F' → Rel w g F' Γ' σ' H' → TInfo sl F Γ σ H F' Γ' σ' H' → Q σ' H'
  | .ex x Γ' => ∀ cls d σ' H' F', Le F F' → Rel w g F' Γ' σ' H' → XRep w F' H' x cls d → W cls d σ' H'
  | .no => False
theorem GPost.imp {w : Wd} {W : WX} {sl sl' : Option (List Nat)} {g : Gx} {F F1 : Hp} {Γ Γ1 : EnD} {σ σ1 : St} {H H1 : Hp} {Q Q' : St → Hp → Prop} {m : R Unit} (l : Le F F1) (p : GPost w W sl g F Γ σ H Q m)
    (k : ∀ Γ' σ' H' F', Le F1 F' → Rel w g F' Γ' σ' H' → TInfo sl' F1 Γ1 σ1 H1 F' Γ' σ' H' → (TInfo sl F Γ σ H F' Γ' σ' H' → Q σ' H') → Q' σ' H') : GPost w W sl' g F1 Γ1 σ1 H1 Q' m := by
  cases m with
  | no => exact p
  | ex x Γ2 => exact fun cls d σ H2 F2 S2 R2 X => p cls d σ H2 F2 (l.trans S2) R2 X
  | ok r Γ2 => exact fun σ H2 F2 S2 R2 t => k Γ2 σ H2 F2 S2 R2 t fun t2 => p σ H2 F2 (l.trans S2) R2 t2
/-- a target within a statement -/
theorem SPost.tgt {w : Wd} {W : WX} {sl : Option (List Nat)} {g : Gx} {F F1 H1 : Hp} {Γ1 : EnD} {σ1 : St} {D : Ends} {Q : St → Hp → Prop} {m : R Unit} {f : Unit → M Fl} (l : Le F F1) (p : SPost w W g F D (m.bind f))
    (k : ∀ u Γ2, m = .ok u Γ2 → SPost w W g F D (f u Γ2) → ∀ σ2 H2 F2, Le F1 F2 → Rel w g F2 Γ2 σ2 H2 → Q σ2 H2) : GPost w W sl g F1 Γ1 σ1 H1 Q m := by
  cases m with
  | no => exact p
  | ex x Γ2 => exact fun cls d σ2 H2 F2 S2 R2 X => p cls d σ2 H2 F2 (l.trans S2) R2 X
  | ok r Γ2 => exact fun σ2 H2 F2 S2 R2 _ => k r Γ2 rfl p σ2 H2 F2 S2 R2
def TGr (w : Wd) (W : WX) (sl : Option (List Nat)) (G : G) : TG := fun v σ H Q => ∃ g F Γ d, Rel w g F Γ σ H ∧ Rep w F v d ∧ GPost w W sl g F Γ σ H Q (G d Γ)
def TGs' (w : Wd) (W : WX) (sl : Option (List Nat)) (G : List D → M Unit) : TGs := fun vs σ H Q => ∃ g F Γ ds, Rel w g F Γ σ H ∧ Reps w F vs ds ∧ GPost w W sl g F Γ σ H Q (G ds Γ)
section
variable {X : Cx} {w : Wd} {W : WX} {st : Stmt} {rest : List Stmt} {e c tg : Expr} {es : List Expr} {ce : M Rv} {cb : M Bool} {cs : M (List Rv)} {s1 s2 : M Fl} {pos : Pos} {a b : List Stmt} {G1 : G} {Gs : List D → M Unit}
theorem _root_.L2.PG.imp {t t' : TG} (h : PG X tg t) (k : ∀ v σ H Q, t' v σ H Q → t v σ H Q) : PG X tg t' := ⟨fun pins s σ H v u Q I r q => h.run pins s σ H v u Q I r (k _ _ _ _ q)⟩
theorem _root_.L2.PGs.imp {t t' : TGs} (h : PGs X es t) (k : ∀ v σ H Q, t' v σ H Q → t v σ H Q) : PGs X es t' := ⟨fun pins s σ H v u Q I r q => h.run pins s σ H v u Q I r (k _ _ _ _ q)⟩
theorem g_name {i : Nat} (h : PG X tg (gName i)) : PG X tg (TGr w W (some [i]) (gN i)) := h.imp fun v σ H Q ⟨g, F, Γ, d, R, r, p⟩ => by
  unfold gN at p
  cases e : store i (.dat d) Γ with
  | none => rw [e] at p; exact p.elim
  | some Γ' =>
    rw [e] at p
    unfold store at e
    cases hx : Γ[i]? with
    | none => rw [hx] at e; cases e
    | some x =>
      rw [hx] at e
      simp only at e
      split at e
      · cases e
      · rename_i hl
        cases e
        have hi : i < Γ.length := (List.getElem?_eq_some_iff.mp hx).1
        refine p _ _ F (Le.refl _) (R.setS hx (isLck_no hl) _ (fun t q => by cases q; exact r) fun t b j u q o => by cases q; cases o) ⟨rfl, rfl, by rw [List.length_set], fun j n => ?_, fun j m s q => ?_⟩
        · have n : j ≠ i := fun z => n (by rw [z]; exact List.mem_singleton.mpr rfl)
          exact ⟨List.getElem?_set_ne (Ne.symm n), List.getElem?_set_ne (Ne.symm n)⟩
        · have m : j = i := List.mem_singleton.mp m
          subst m
          rw [List.getElem?_set_self hi] at q
          cases q
          rfl
theorem g_nil : PGs X [] (TGs' w W (some []) gNil) := pgs_nil.imp fun vs σ H Q ⟨g, F, Γ, ds, R, r, p⟩ => by
  cases r with
  | nil => exact ⟨rfl, p σ H F (Le.refl _) R ⟨rfl, rfl, rfl, fun _ _ => ⟨rfl, rfl⟩, fun j m => absurd m (by simp)⟩⟩
  | cons _ _ => exact p.elim
theorem TInfo.app {sl sl2 : Option (List Nat)} {F Γ σ H F1 Γ1 σ1 H1 F2 Γ2 σ2 H2} (a : TInfo sl F Γ σ H F1 Γ1 σ1 H1) (b : TInfo sl2 F1 Γ1 σ1 H1 F2 Γ2 σ2 H2) : TInfo (optApp sl sl2) F Γ σ H F2 Γ2 σ2 H2 := by
  cases sl with
  | none => cases sl2 <;> trivial
  | some l =>
    cases sl2 with
    | none => trivial
    | some l2 =>
      obtain ⟨a1, a2, a5, a3, a4⟩ := a
      obtain ⟨b1, b2, b5, b3, b4⟩ := b
      refine ⟨b1.trans a1, b2.trans a2, b5.trans a5, fun j n => ?_, fun j m s q => ?_⟩
      · have n1 : j ∉ l := fun z => n (List.mem_append_left _ z)
        have n2 : j ∉ l2 := fun z => n (List.mem_append_right _ z)
        exact ⟨(b3 j n2).1.trans (a3 j n1).1, (b3 j n2).2.trans (a3 j n1).2⟩
      · by_cases h : j ∈ l2
        · exact b4 j h s q
        · rw [(b3 j h).2] at q
          rcases List.mem_append.mp m with z | z
          · exact a4 j z s q
          · exact absurd z h
theorem g_cons {sl1 sl2 : Option (List Nat)} (h1 : PG X e (TGr w W sl1 G1)) (h2 : PGs X es (TGs' w W sl2 Gs)) (hs : (assignEach (e :: es) X.env).map (·.2) = assign e X.env :: (assignEach es X.env).map (·.2) := by rfl) : PGs X (e :: es) (TGs' w W (optApp sl1 sl2) (gCons G1 Gs)) :=
  (pgs_cons h1 h2 hs).imp fun vs σ H Q ⟨g, F, Γ, ds, R, r, p⟩ => by
    cases r with
    | nil => exact p.elim
    | @cons v0 vs0 d0 ds0 r rs =>
      refine ⟨v0, vs0, rfl, g, F, Γ, d0, R, r, ?_⟩
      simp only [gCons] at p
      cases hg : G1 d0 Γ with
      | no => rw [hg] at p; exact p
      | ex x Γ2 => rw [hg] at p; exact p
      | ok u Γ2 =>
        rw [hg] at p
        intro σ' H' F' l R' t
        refine ⟨g, F', Γ2, ds0, R', rs.le l, GPost.imp l p fun Γ3 σ3 H3 F3 l3 R3 t3 k => k (t.app t3)⟩
theorem g_tup {k n : Nat} {sl : Option (List Nat)} (hK : w.K = X.K) (hc : X.calm = true) (h : PGs X es (TGs' w W sl Gs)) (hn : (assignEach es X.env).length = n := by rfl) (hst : (assignEach es X.env).findIdx? (·.1) = none := by rfl) : PG X (.Tuple es k pos) (TGr w W sl (gT n Gs)) :=
  (pg_tup hc h hn hst).imp fun v σ H Q ⟨g, F, Γ, d, R, r, p⟩ => by
    cases r with
    | @tup a xs ds hq rs _ =>
      by_cases hl : ds.length = n
      · simp only [gT, if_pos hl] at p
        exact ⟨a, xs, rfl, hK ▸ SqT.le R.sub hq, rs.length.trans hl, g, F, Γ, ds, R, rs, p⟩
      · simp only [gT, if_neg hl] at p
        exact p.elim
    | _ => exact p.elim
/-! ### blocks and small statements -/
theorem s_nil : PSs X [] (TSt w W sNx) := pss_nil.imp fun D σ H ⟨g, F, Γ, R, p⟩ => p σ H F (Le.refl _) R
theorem s_cons (h1 : PS X st (TSt w W s1)) (h2 : PSs X rest (TSt w W s2)) : PSs X (st :: rest) (TSt w W (sSeq s1 s2)) := (pss_cons h1 h2).imp fun D σ H ⟨g, F, Γ, R, p⟩ => by
  refine ⟨g, F, Γ, R, SPost.seq p (fun Γ2 _ p2 σ' H' F' l R' => ?_) (fun Γ2 _ p2 => p2) (fun Γ2 _ p2 => p2) fun r Γ2 _ p2 => p2⟩
  exact ⟨g, F', Γ2, R', p2.le l⟩
theorem s_one (h1 : PS X st (TSt w W s1)) : PSs X [st] (TSt w W s1) := pss_one h1
theorem s_pass : PS X (.Pass pos) (TSt w W sNx) := ps_pass.imp fun D σ H ⟨g, F, Γ, R, p⟩ => p σ H F (Le.refl _) R
theorem s_break : PS X (.Break pos) (TSt w W sBk) := ps_break.imp fun D σ H ⟨g, F, Γ, R, p⟩ => p σ H F (Le.refl _) R
theorem s_cont : PS X (.Continue pos) (TSt w W sCt) := ps_continue.imp fun D σ H ⟨g, F, Γ, R, p⟩ => p σ H F (Le.refl _) R
theorem s_expr (he : PE X e (T w W ce)) (hs : swapsWith e none pos.line X.env = pure false := by rfl) : PS X (.Expr e pos) (TSt w W (sDrop ce)) := (ps_expr he hs).imp fun D σ H ⟨g, F, Γ, R, p⟩ =>
  ⟨g, F, Γ, R, SPost.bind (Le.refl _) p fun r Γ1 _ p1 x H1 F1 S1 R1 q1 => p1 σ H1 F1 S1.le R1⟩
theorem ret_T : ∀ {D : Ends} {σ : St} {H : Hp}, TSt w W (sRet ce) D σ H → T w W ce σ H D.rt := fun {D σ H} ⟨g, F, Γ, R, p⟩ => by
  refine ⟨g, F, Γ, R, SPost.bind (Le.refl _) p fun r Γ1 _ p1 x H1 F1 S1 R1 q1 => ?_⟩
  obtain ⟨q, e1, p1⟩ := p1.opt
  cases r with
  | dat d => cases e1; exact p1 x σ H1 F1 S1.le R1 q1
  | own d =>
    cases e1
    obtain ⟨a, e, h1, h2, h3⟩ := q1
    exact p1 x σ H1 F1 S1.le R1 ⟨a, e, R.fresh h1, h2, h3⟩
  | var i =>
    have hv : σ[i]? = some (some x) := q1
    simp only [ret] at e1
    split at e1
    · rename_i d e2
      cases e1
      obtain ⟨v', e3, a, e4, h1, h2, h3⟩ := R1.slot _ _ e2
      rw [hv] at e3; cases e3
      have R2 : Rel w g F1 (Γ1.set i none) σ H1 := by
        have R2 := R1.setS (v := x) e2 (fun d z => by cases z) none (fun t z => nomatch z) (fun t b j u z => nomatch z)
        have e5 : σ.set i (some x) = σ := by
          apply List.ext_getElem?
          intro j
          by_cases n : j = i
          · subst n; rw [List.getElem?_set_self (List.getElem?_eq_some_iff.mp hv).1, hv]
          · rw [List.getElem?_set_ne (Ne.symm n)]
        rw [e5] at R2
        exact R2
      exact p1 x σ H1 F1 S1.le R2 ⟨a, e4, h2, h1, h3⟩
    · rename_i d e2
      cases e1
      obtain ⟨a, e3, mu, R', q, _, S'⟩ := frz_slot R1 (s := ⟨.par, d⟩) (s' := ⟨.pfz, d⟩) e2 rfl (.inr ⟨rfl, rfl⟩) rfl
      rw [hv] at e3; cases e3
      exact p1 _ σ H1 _ (S1.trans S').le R' q
    · rename_i d e2
      cases e1
      obtain ⟨v', e3, q⟩ := R1.slot _ _ e2
      rw [hv] at e3; cases e3
      exact p1 x σ H1 F1 S1.le R1 q
    · rename_i d e2
      cases e1
      obtain ⟨v', e3, q⟩ := R1.slot _ _ e2
      rw [hv] at e3; cases e3
      exact p1 x σ H1 F1 S1.le R1 q.1
    · cases e1
theorem s_ret (he : PE X e (T w W ce)) : PS X (.Return (some e) pos) (TSt w W (sRet ce)) := (ps_ret he).imp fun D σ H h => ret_T h
theorem s_retN : PS X (.Return none pos) (TSt w W sRetN) := ps_retN.imp fun D σ H ⟨g, F, Γ, R, p⟩ => p .non σ H F (Le.refl _) R .non
theorem s_if (hc : PT X c (TB w W cb)) (ha : PSs X a (TSt w W s1)) (hb : PSs X b (TSt w W s2)) : PS X (.If c a b pos) (TSt w W (sIf cb s1 s2)) := (ps_if hc ha hb).imp fun D σ H ⟨g, F, Γ, R, p⟩ => by
  refine ⟨g, F, Γ, R, SPost.bind (Le.refl _) p fun k Γ1 _ p1 x H1 F1 S1 R1 q1 => ?_⟩
  subst q1
  cases x with
  | true => exact ⟨g, F1, Γ1, R1, SPost.le S1.le p1⟩
  | false => exact ⟨g, F1, Γ1, R1, SPost.le S1.le p1⟩
theorem s_set {i : Nat} (h : PS X st (L2.tAsg (T w W ce) (gName i))) : PS X st (TSt w W (sSet i ce)) := h.imp fun D σ H ⟨g, F, Γ, R, p⟩ => by
  refine ⟨g, F, Γ, R, SPost.bind (Le.refl _) p fun r Γ1 _ p1 x H1 F1 S1 R1 q1 => ?_⟩
  obtain ⟨Γ2, e1, p1⟩ := p1.opt
  obtain ⟨F', l, R'⟩ := store_ok R S1 R1 q1 e1
  exact p1 _ _ F' (S1.le.trans l) R'
theorem s_asg {sl : Option (List Nat)} (h : PS X st (L2.tAsg (T w W ce) (TGr w W sl G1))) : PS X st (TSt w W (sAsg G1 ce)) := h.imp fun D σ H ⟨g, F, Γ, R, p⟩ => by
  refine ⟨g, F, Γ, R, SPost.bind (Le.refl _) p fun r Γ1 _ p1 x H1 F1 S1 R1 q1 => ?_⟩
  cases r with
  | dat d =>
    exact ⟨g, F1, Γ1, d, R1, q1, SPost.tgt S1.le p1 fun u Γ2 _ p2 σ2 H2 F2 l2 R2 => p2 σ2 H2 F2 (S1.le.trans l2) R2⟩
  | own d => exact p1.elim
  | var i => exact p1.elim
end
end PD

/-! PD5: changes of own things, several names at once, loops. -/
namespace PD
open PySem PySem.Spec L2
/-- a store c[k] = d by values does what f does on data -/
def SetD (w : Wd) (t : TSet) (f : D → D → D → Option D) : Prop := ∀ (F H : Hp) (a : Addr) (c k d c' : D) (y v : V) (Q : Hp → Prop), Le F H → OwnAt w F H a c → View w F H y k → Rep w F v d → f c k d = some c' →
  (∀ o, OwnAt w F (upd H a o) a c' → Q (upd H a o)) → t (.ref a) y v H Q
theorem setL_ok {w : Wd} : SetD w rSetL setL := by
  intro F H a c k d c' y v Q s ho hk hd e q
  cases c with
  | lst l =>
    cases k with
    | int i =>
      obtain ⟨xs, hx, r, z⟩ := ho
      cases hi : L2.ixN l.length i with
      | none => simp only [setL, hi] at e; cases e
      | some j =>
        simp only [setL, hi, Option.map_some, Option.some.injEq] at e
        subst e
        refine ⟨a, xs, i, j, rfl, hk.int, hx, by rw [r.length]; exact hi, q _ ⟨_, upd_same, r.set hd j, by rw [List.length_set]; exact z⟩⟩
    | _ => cases e
  | _ => cases e
section
variable {w : Wd} {W : WX} {g : Gx} {F F0 F' F1 F2 : Hp} {Γ Γ0 Γ' Γ1 Γ2 : EnD} {σ σ' : St} {H H0 H' H1 H2 : Hp} {v : V} {r : Rv} {a : Addr}
theorem mut1_ok (R : Rel w g F Γ σ H) {i : Nat} {f : D → Option D} {u : Unit} (e : mut1 i f Γ = .ok u Γ') :
    ∃ a c c', σ[i]? = some (some (.ref a)) ∧ OwnAt w F H a c ∧ f c = some c' ∧ ∀ o, OwnAt w F (upd H a o) a c' → Rel w g F Γ' σ (upd H a o) ∧ Step Γ σ F H Γ' F (upd H a o) := by
  unfold mut1 at e
  split at e
  · rename_i m c hs
    by_cases hm : m.mut = true
    · rw [if_pos hm] at e
      cases hf : f c with
      | none => rw [hf] at e; cases e
      | some c' =>
        rw [hf] at e
        cases e
        obtain ⟨a, e1, ho, _, _, k⟩ := R.mutS (c' := c') hs hm
        exact ⟨a, c, c', e1, ho, hf, k⟩
    · rw [if_neg hm] at e; cases e
  · cases e
theorem mut1_ex {i : Nat} {f : D → Option D} {x : Xn} (e : mut1 i f Γ = .ex x Γ') : False := by
  unfold mut1 at e
  split at e
  · split at e
    · rename_i m c hs hm
      cases hf : f c with
      | none => rw [hf] at e; cases e
      | some c' => rw [hf] at e; cases e
    · cases e
  · cases e
end
section
variable {X : Cx} {w : Wd} {W : WX} {st : Stmt} {rest : List Stmt} {o k e c tg iter : Expr} {es : List Expr} {ce ck : M Rv} {cb : M Bool} {cs : M (List Rv)} {s1 s2 : M Fl} {pos : Pos} {a b body : List Stmt} {G1 : G} {Gs : List D → M Unit}
/-- c[k] = value, c in the slot i -/
theorem g_sub {i : Nat} {t : TSet} {f : D → D → D → Option D} (hf : SetD w t f) (h : PG X tg (L2.gSub (L2.tVar i) (T w W ck) t)) : PG X tg (TGr w W none (PD.gSub f i ck)) := h.imp fun v σ H Q ⟨g, F, Γ, d, R, rd, p⟩ => by
  unfold PD.gSub at p
  split at p
  · rename_i s hs
    obtain ⟨ov, ho, _⟩ := R.slot i s hs
    refine ⟨ov, ho, g, F, Γ, R, ?_⟩
    cases hk : ck Γ with
    | no => rw [hk] at p; exact p
    | ex x Γ2 => rw [hk] at p; exact fun cls d H2 F2 S2 R2 X => p cls d σ H2 F2 S2.le R2 X
    | ok r Γ2 =>
      rw [hk] at p
      intro y H2 F2 S2 R2 q2
      simp only [PD.R.bind_ok] at p
      cases hl : look Γ2 r with
      | none => rw [hl] at p; exact p.elim
      | some kd =>
        rw [hl, PD.R.opt_some] at p
        cases hm : mut1 i (fun c => f c kd d) Γ2 with
        | no => rw [hm] at p; exact p.elim
        | ex x Γ3 => exact (mut1_ex hm).elim
        | ok u Γ3 =>
          rw [hm] at p
          obtain ⟨a, c, c', e1, oa, hc, kk⟩ := mut1_ok R2 hm
          rw [ho] at e1
          cases e1
          exact hf F2 H2 a c kd d c' y v _ R2.sub oa ((q2.at R S2).view R2 hl) (rd.le S2.le) hc fun o z => p σ _ F2 S2.le (kk o z).1 trivial
  · exact p.elim
/-! ### several names at once -/
def setAll : List Nat → List V → St → St
  | i :: is, v :: vs, σ => setAll is vs (σ.set i (some v))
  | _, _, σ => σ
theorem stores_ok {g : Gx} {F : Hp} {H H0 : Hp} : ∀ {is : List Nat} {vs : List V} {rs : List Rv} {Γ Γ' : EnD} {σ σ0 : St}, Rel w g F Γ σ H → (∀ b, g.H0 b ≠ none → H0 b ≠ none) → ResNs w F σ0 H0 H vs rs → noVar rs = true → (∀ a ∈ ownAs vs rs, ¬ Ow Γ σ a) → stores is rs Γ = some Γ' →
    Rel w g F Γ' (setAll is vs σ) H
  | [], [], [], _, _, _, _, R, _, _, _, _, e => by cases e; exact R
  | [], [], _ :: _, _, _, _, _, R, _, h, _, _, e => h.elim
  | [], _ :: _, [], _, _, _, _, R, _, h, _, _, e => h.elim
  | [], _ :: _, _ :: _, _, _, _, _, R, _, h, _, _, e => by cases e
  | _ :: _, [], [], _, _, _, _, R, _, h, _, _, e => by cases e
  | _ :: _, [], _ :: _, _, _, _, _, R, _, h, _, _, e => h.elim
  | _ :: _, _ :: _, [], _, _, _, _, R, _, h, _, _, e => h.elim
  | i :: is, v :: vs, r :: rs, Γ, Γ', σ, σ0, R, t0, h, nv, no, e => by
    simp only [stores] at e
    cases e1 : store i r Γ with
    | none => rw [e1] at e; cases e
    | some Γ1 =>
      rw [e1] at e
      obtain ⟨h1, h2, h3⟩ := h
      unfold store at e1
      cases hx : Γ[i]? with
      | none => rw [hx] at e1; cases e1
      | some x =>
        rw [hx] at e1
        simp only at e1
        split at e1
        · cases e1
        · rename_i hl
          have hl := isLck_no hl
          have hi : i < σ.length := by rw [← R.len]; exact (List.getElem?_eq_some_iff.mp hx).1
          cases r with
          | var j => cases nv
          | dat d =>
            cases e1
            refine stores_ok (is := is) (vs := vs) (rs := rs) (R.setS hx hl _ (fun t q => by cases q; exact h1) fun t b j u q o => by cases q; cases o) t0 h2 nv (fun a ha ⟨j, s, q1, q2, q3⟩ => ?_) e
            rcases get_set_some q1 with ⟨rfl, q1, _⟩ | ⟨n, q1⟩
            · cases q1; cases q2
            · rw [List.getElem?_set_ne (Ne.symm n)] at q3
              exact no a (by simp only [ownAs, List.mem_append]; exact .inr ha) ⟨j, s, q1, q2, q3⟩
          | own d =>
            cases e1
            obtain ⟨a, rfl, p1, p2, p3⟩ := h1
            have hna : ¬ Ow Γ σ a := no a (by simp [ownAs, ownA])
            have hg : g.H0 a = none := by
              cases q : g.H0 a with
              | none => rfl
              | some o => exact absurd p1 (t0 a (by rw [q]; simp))
            refine stores_ok (is := is) (vs := vs) (rs := rs) (R.setS hx hl _ (fun t q => by cases q; exact ⟨a, rfl, p2, hg, p3⟩) fun t b j u q o z n q1 q2 q3 => by cases z; exact hna ⟨j, u, q1, q2, q3⟩) t0 h2 nv (fun b hb ⟨j, s, q1, q2, q3⟩ => ?_) e
            rcases get_set_some q1 with ⟨rfl, q1, _⟩ | ⟨n, q1⟩
            · rw [List.getElem?_set_self hi] at q3
              cases q3
              exact h3 _ rfl hb
            · rw [List.getElem?_set_ne (Ne.symm n)] at q3
              exact no b (by simp only [ownAs, List.mem_append]; exact .inr hb) ⟨j, s, q1, q2, q3⟩
theorem stores_len {is : List Nat} : ∀ {rs : List Rv} {Γ Γ' : EnD}, stores is rs Γ = some Γ' → is.length = rs.length := by
  induction is with
  | nil =>
    intro rs Γ Γ' e
    cases rs with
    | nil => rfl
    | cons r rs => cases e
  | cons i is ih =>
    intro rs Γ Γ' e
    cases rs with
    | nil => cases e
    | cons r rs =>
      simp only [stores] at e
      cases e1 : store i r Γ with
      | none => rw [e1] at e; cases e
      | some Γ1 => rw [e1] at e; rw [List.length_cons, List.length_cons, ih e]
theorem ResNs.len {F : Hp} {σ : St} {H0 H : Hp} : ∀ {vs : List V} {rs : List Rv}, ResNs w F σ H0 H vs rs → vs.length = rs.length
  | [], [], _ => rfl
  | _ :: _, _ :: _, h => by rw [List.length_cons, List.length_cons, ResNs.len h.2.1]
/-- the values are there: the end of it -/
theorem par_end {is : List Nat} {σ : St} {H : Hp} {D : Ends} (h : TSt w W (sPar is cs) D σ H) : TL w W cs σ H fun vs H1 => vs.length = is.length ∧ ∀ H2, (∀ b o, H1 b = some o → H2 b = some o) → D.nx (setAll is vs σ) H2 := by
  obtain ⟨g, F, Γ, R, p⟩ := h
  refine ⟨g, F, Γ, R, SPost.bind (Le.refl _) p fun rs Γ1 _ p1 vs H1 F1 S1 R1 q1 => ?_⟩
  by_cases nv : noVar rs = true
  · rw [if_pos nv] at p1
    obtain ⟨Γ2, e, p1⟩ := p1.opt
    refine ⟨by rw [q1.len, stores_len e], fun H2 k => ?_⟩
    have N : New F1 H1 F1 H2 := ⟨k, Le.refl _, fun b o z => k b o (R1.sub b o z), fun b z => .inl z⟩
    have R2 := R1.new N
    have S2 := S1.trans (N.step (Γ := Γ1) (σ := σ))
    have q2 : ResNs w F1 σ H H2 vs rs := by
      have key : ∀ {vs : List V} {rs : List Rv}, ResNs w F1 σ H H1 vs rs → ResNs w F1 σ H H2 vs rs := by
        intro vs
        induction vs with
        | nil => intro rs h; cases rs with
          | nil => trivial
          | cons _ _ => exact h.elim
        | cons v vs ih => intro rs h; cases rs with
          | nil => exact h.elim
          | cons r rs => exact ⟨h.1.later R S1 N.step, ih h.2.1, h.2.2⟩
      exact key q1
    refine p1 _ _ F1 S1.le (stores_ok R2 R.there q2 nv (fun a ha z => ?_) e)
    obtain ⟨n, _⟩ := ownAs_some q2 ha
    obtain ⟨o, q⟩ := R.owIn (S2.ow z)
    rw [n] at q; cases q
  · rw [if_neg nv] at p1; exact p1.elim
theorem Tr.mono {α β : Type} {RR : Hp → St → Hp → Hp → β → α → Prop} {m : M α} {σ : St} {H : Hp} {Q Q' : β → Hp → Prop} (h : Tr w W RR m σ H Q) (k : ∀ v H, Q v H → Q' v H) : Tr w W RR m σ H Q' := by
  obtain ⟨g, F, Γ, R, p⟩ := h
  refine ⟨g, F, Γ, R, ?_⟩
  cases hm : m Γ with
  | no => rw [hm] at p; exact p
  | ex x Γ2 => rw [hm] at p; exact p
  | ok r Γ2 => rw [hm] at p; exact fun v H' F' S R' q => k _ _ (p v H' F' S R' q)
theorem s_par2 {i j : Nat} (h : PS X st (L2.tPar i j (TL w W cs))) : PS X st (TSt w W (sPar [i, j] cs)) := h.imp fun D σ H h => by
  refine (par_end h).mono fun vs H1 ⟨l, q⟩ => ?_
  match vs, l with
  | [v, u], _ => exact ⟨v, u, rfl, q H1 fun _ _ z => z⟩
theorem s_par3 {i j l : Nat} (h : PS X st (L2.tPar3 i j l (TL w W cs))) : PS X st (TSt w W (sPar [i, j, l] cs)) := h.imp fun D σ H h => by
  refine (par_end h).mono fun vs H1 ⟨l, q⟩ => ?_
  match vs, l with
  | [v, u, x], _ => exact ⟨v, u, x, rfl, q H1 fun _ _ z => z⟩
def gNames : List Nat → TGs
  | [] => L2.gNil
  | i :: is => L2.gCons (gName i) (gNames is)
theorem gNames_all : ∀ {is : List Nat} {vs : List V} {σ : St} {H : Hp} {Q : St → Hp → Prop}, vs.length = is.length → Q (setAll is vs σ) H → gNames is vs σ H Q
  | [], [], _, _, _, _, q => ⟨rfl, q⟩
  | [], _ :: _, _, _, _, l, _ => by simp at l
  | _ :: _, [], _, _, _, l, _ => by simp at l
  | i :: is, v :: vs, σ, H, Q, l, q => ⟨v, vs, rfl, gNames_all (by simpa using l) q⟩
theorem s_parN {is : List Nat} (hs : is.length ≤ 100) (h : PS X st (L2.tAsg (tTup (TL w W cs)) (gTup w.K is.length (gNames is)))) : PS X st (TSt w W (sPar is cs)) := h.imp fun D σ H h => by
  refine (par_end h).mono fun vs H1 ⟨l, q⟩ => ⟨?_, fun p hp => ⟨p, vs, rfl, .inl (.inl upd_same), l, gNames_all l (q _ fun b o z => by rw [upd_ne (ne_of_none z hp)]; exact z)⟩⟩
  rw [l, sizeLine_eq]
  omega
/-! ### for -/
/-- what is walked gives these data, as long as what is shared stays so -/
def WalksD (w : Wd) (F : Hp) (J : It) (ds : List D) : Prop := ds.length ≤ LIM ∧ ∃ (Gd : Hp → Prop) (Y : Nat → Hp → V → Hp → Prop), Walk J ds.length Gd Y ∧ (∀ H, Le F H → Gd H) ∧
  ∀ (i : Nat) (F2 H : Hp) (x : V) (H' : Hp), i < ds.length → Le F F2 → Le F2 H → Y i H x H' → ∃ F3 d, New F2 H F3 H' ∧ ds[i]? = some d ∧ Rep w F3 x d
/-- the reading of what is walked -/
def TI' (w : Wd) (W : WX) (c : M (List D)) : TI := fun σ H Rk => Tr w W (fun F' _ _ _ (J : It) ds => WalksD w F' J ds) c σ H Rk
theorem s_for' {sl : Option (List Nat)} {wi : M (List D)} {g1 : G} {b1 : M Fl} {D : Ends} {σ : St} {H : Hp} (h : TSt w W (sFor wi g1 b1) D σ H) : tFor (TI' w W wi) (TGr w W sl g1) (TSt w W b1) D σ H := by
  obtain ⟨g, F, Γ, R, p⟩ := h
  refine ⟨g, F, Γ, R, SPost.bind (Le.refl _) p fun ds Γ1 _ p1 J H1 F1 S1 R1 q1 => ?_⟩
  obtain ⟨_, Gd, Y, wk, hG, hY⟩ := q1
  refine for_it wk (fun i σ H => ∃ F2 Γ2, Le F1 F2 ∧ Rel w g F2 Γ2 σ H ∧ SPost w W g F2 D (forD g1 b1 (ds.drop i) Γ2)) ⟨F1, Γ1, Le.refl _, R1, p1.le S1.le⟩ (fun i σ H _ ⟨F2, Γ2, l, R2, _⟩ => hG H (l.trans R2.sub)) ?_ ?_
  · rintro i x σ H H' hi ⟨F2, Γ2, l, R2, p2⟩ y
    obtain ⟨F3, d, N, hd, rd⟩ := hY i F2 H x H' hi l R2.sub y
    have R3 := R2.new N
    have e : ds.drop i = d :: ds.drop (i + 1) := by
      obtain ⟨hlt, e⟩ := List.getElem?_eq_some_iff.mp hd
      rw [← e]
      exact List.drop_eq_getElem_cons hlt
    rw [e] at p2
    simp only [PD.forD] at p2
    refine ⟨g, F3, Γ2, d, R3, rd, SPost.tgt N.le p2 fun u Γ3 _ p3 σ4 H4 F4 l4 R4 => ?_⟩
    have l14 : Le F1 F4 := (l.trans N.le).trans l4
    exact ⟨g, F4, Γ3, R4, SPost.seq (p3.le (N.le.trans l4)) (fun Γ5 _ p5 σ6 H6 F6 l6 R6 => ⟨F6, Γ5, l14.trans l6, R6, p5.le l6⟩) (fun Γ5 _ p5 σ6 H6 F6 l6 R6 => p5 σ6 H6 F6 l6 R6) (fun Γ5 _ p5 σ6 H6 F6 l6 R6 => ⟨F6, Γ5, l14.trans l6, R6, p5.le l6⟩)
      (fun r Γ5 _ p5 v σ6 H6 F6 l6 R6 q => p5 v σ6 H6 F6 l6 R6 q)⟩
  · rintro σ H ⟨F2, Γ2, l, R2, p2⟩
    rw [List.drop_length] at p2
    exact p2 σ H F2 (Le.refl _) R2
theorem s_for {sl : Option (List Nat)} {wi : M (List D)} (hp : PassesOwn (model X.prog X.w) X.A X.env X.xe) (hc : X.calm = true) (hi : PI X tg iter (TI' w W wi)) (hg : PG X tg (TGr w W sl G1)) (hb : PSs X body (TSt w W s1))
    (hs : ∀ x, foldedSetIterable iter X.env x = pure x := by intro _; rfl) : PS X (.For tg iter body [] pos) (TSt w W (sFor wi G1 s1)) := (ps_for hp hc hi hg hb hs).imp fun D σ H h => s_for' h
/-! ### while -/
theorem s_while (hp : PassesOwn (model X.prog X.w) X.A X.env X.xe) (hc : PT X c (TB w W cb)) (hb : PSs X body (TSt w W s1)) : PS X (.While c body [] pos) (TSt w W (sWhile cb s1)) := (ps_while hp hc hb).imp fun D σ H ⟨g, F, Γ, R, p⟩ => by
  have hne : sWhile cb s1 Γ ≠ .no := fun z => by rw [z] at p; exact p
  obtain ⟨n, hn⟩ := sWhile_no hne
  rw [← hn] at p
  refine ⟨fun m σ H => ∃ F2 Γ2, Rel w g F2 Γ2 σ H ∧ SPost w W g F2 D (whileD cb s1 m Γ2), ⟨n, F, Γ, R, p⟩, ?_⟩
  rintro m σ H ⟨F2, Γ2, R2, p2⟩
  cases m with
  | zero => exact p2.elim
  | succ m =>
    simp only [whileD] at p2
    refine ⟨g, F2, Γ2, R2, SPost.bind (Le.refl _) p2 fun k Γ3 _ p3 x H3 F3 S3 R3 q3 => ?_⟩
    subst q3
    cases x with
    | false => exact p3 σ H3 F3 S3.le R3
    | true =>
      refine ⟨fun σ' H' => ∃ F2 Γ2, Rel w g F2 Γ2 σ' H' ∧ SPost w W g F2 D (whileD cb s1 m Γ2), fun σ' H' ⟨F4, Γ4, R4, p4⟩ => ⟨m, by omega, F4, Γ4, R4, p4⟩, ?_⟩
      exact ⟨g, F3, Γ3, R3, SPost.seq (SPost.le S3.le p3) (fun Γ5 _ p5 σ6 H6 F6 l6 R6 => ⟨F6, Γ5, R6, p5.le l6⟩) (fun Γ5 _ p5 σ6 H6 F6 l6 R6 => p5 σ6 H6 F6 l6 R6) (fun Γ5 _ p5 σ6 H6 F6 l6 R6 => ⟨F6, Γ5, R6, p5.le l6⟩)
        (fun r Γ5 _ p5 v σ6 H6 F6 l6 R6 q => p5 v σ6 H6 F6 l6 R6 q)⟩
end
end PD

/-! PD6: what is walked. -/
namespace PDw
open PySem PySem.Spec PyProof.Rows
theorem meets_enumerate_newC {v : Value} {o : Obj} {H : Heap → Prop} (B : Begins v o H) :
    Meets (Builtin.«enumerate.__new__» ⟨[.type "enumerate", v], []⟩) (fun _ R s => H s.heap ∧
      R (.ok (.ret (.ref (s.heap.push o).objs.size))) { s with heap := (s.heap.push o).push { cls := .type "enumerate", data := .fields #[.none, .bool false, .ref s.heap.objs.size, rawInt 0, .none, .none] } }) :=
  .of_wp fun prog w A R s h => by
    obtain ⟨hp, g, d, tk, os⟩ := s; obtain ⟨h1, h⟩ := h
    have hsub := sub_enumerate
    have q1 : ∀ {A' : Around} {E : Value → Shared → Prop} {Q : Value → Shared → Prop}, Q (.ref hp.objs.size) ⟨hp.push o, g, d, tk, os⟩ → wpAny (model prog w) A' (pyIter v) Q E ⟨hp, g, d, tk, os⟩ :=
      fun q => B.iter prog w _ _ ⟨hp, g, d, tk, os⟩ _ h1 q
    wp_walk using q1
    refine wpAny_stack_any fun st => wpAny_pure ?_
    split
    · rename_i c _ _ _ _ _
      cases (c == Value.type "enumerate")
      · wp_walk using q1
        exact ⟨_, rfl, h⟩
      · wp_walk using q1
        exact ⟨_, rfl, h⟩
    · wp_walk using q1
      exact ⟨_, rfl, h⟩
section
variable {prog : Program} {w : World} {A : Around} {E : Value → Shared → Prop} {s : Shared}
theorem enum_begins1 {v : Value} {o : Obj} {H : Heap → Prop} {Q : Value → Shared → Prop} (B : Begins v o H) (h1 : H s.heap)
    (h : ∀ h', IsEnum h' (s.heap.objs.size + 1) s.heap.objs.size 0 .none → h'.get? s.heap.objs.size = some o → h'.objs.size = s.heap.objs.size + 2 →
      (∀ b o, s.heap.get? b = some o → h'.get? b = some o) → Q (.ref (s.heap.objs.size + 1)) { s with heap := h' }) :
    wpAny (model prog w) A (call (.type "enumerate") [v]) Q E s := by
  refine callType_new F.called_enumerate (by decide) (F.typeCall_enumerate_1 _) (F.newCall_enumerate_1 _) (fun obj => F.args_object_init_2 obj _) F.entry_enumerate_new
    (meets_enumerate_newC B) ⟨h1, ?_⟩
  have hz : (s.heap.push o).objs.size = s.heap.objs.size + 1 := Heap.size_push ..
  show _ ∧ _
  rw [hz]
  have he : IsEnum ((s.heap.push o).push { cls := .type "enumerate", data := .fields #[.none, .bool false, .ref s.heap.objs.size, rawInt 0, .none, .none] }) (s.heap.objs.size + 1) s.heap.objs.size 0 .none := by
    have := Heap.get?_push_size (s.heap.push o) (o := { cls := .type "enumerate", data := .fields #[.none, .bool false, .ref s.heap.objs.size, rawInt 0, .none, .none] }) rfl
    rw [hz] at this; exact this
  refine ⟨⟨_, he, rfl⟩, h _ he (Heap.get?_push_of_some _ (Heap.get?_push_size _ B.free)) (by rw [Heap.size_push, hz]) fun b o x => Heap.get?_push_of_some _ (Heap.get?_push_of_some _ x)⟩
end
end PDw
namespace L2
open PySem PySem.Spec PyProof.Rows
/-- the tuple at a, the items in new pairs with their counts -/
def IteT (K : PySem.W.Frag) (a : Addr) : It :=
  ⟨fun i H => ∃ xs x, SqT K H a xs ∧ xs[i]? = some x, fun i H v H' => ∃ T x, v = .ref T ∧ H T = none ∧ H' = upd H T (.tup [.int (i : Nat), x]) ∧ ∀ xs, SqT K H a xs → xs[i]? = some x, fun i H => ∃ xs, SqT K H a xs ∧ xs.length = i⟩
theorem turn_enumT {P : Program} {w : World} {K : PySem.W.Frag} {elts : List Expr} {kk : Nat} {tpos : Pos} (a e it : Addr) :
    Turn P w K (.Tuple elts kk tpos) (IteT K a) [e, it] e (fun i h => (∃ old, IsEnum h e it ((i : Nat) : Int) old) ∧ h.IsTupleIter it a i ∧ e ≠ it) where
  mem := by simp
  obj := fun i h st b hb => by
    obtain ⟨⟨old, he⟩, ⟨o, ho, hc, hd⟩, _⟩ := st
    have e' : b = e ∨ b = it := by simpa using hb
    rcases e' with z | z
    · rw [z]; exact ⟨_, he, fun v q => nomatch q⟩
    · rw [z]; exact ⟨o, ho, fun v q => by rw [hd] at q; cases q⟩
  keep := fun i h h' st k => let ⟨⟨old, he⟩, hi, hne⟩ := st; ⟨⟨old, k e (by simp) _ he⟩, hi.at fun o q => k it (by simp) o q, hne⟩
  item := by
    intro X hP hw hK hc i pins s σ H E I hf st hg
    subst hP hw hK
    obtain ⟨⟨old, he⟩, hit, hne⟩ := st
    obtain ⟨xs, x, hq, hx⟩ := hg
    obtain ⟨its, rv, p, hz⟩ := I.tuple hq
    obtain ⟨u, hu, ru⟩ := rv.get hx
    have hel : e < s.heap.objs.size := Heap.lt_size he
    have hil : it < s.heap.objs.size := by obtain ⟨_, q, _⟩ := hit; exact Heap.lt_size q
    have pt : s.heap.IsTuple a its.toArray := p
    have hea : e ≠ a := fun z => by
      obtain ⟨o, ho, hc, _⟩ := pt
      rw [← z, he] at ho
      have q := congrArg Obj.cls (Option.some.inj ho)
      rw [hc] at q
      have q : Value.type "enumerate" = Value.type "tuple" := q
      exact absurd q (by decide)
    have hia : a ≠ it := fun z => by
      obtain ⟨o, ho, hc, _⟩ := pt
      obtain ⟨o2, ho2, hc2, _⟩ := hit
      rw [z, ho2] at ho
      have q := congrArg Obj.cls (Option.some.inj ho)
      rw [hc, hc2] at q
      exact absurd q (by decide)
    have hh : X.A.in1.handled = none := I.ok.hd hc
    have hlt : i < its.toArray.size := by
      obtain ⟨h1, _⟩ := List.getElem?_eq_some_iff.mp hu
      simpa using h1
    refine wpAny_pyNext_enum_itemC (Draws.tuple hh it a hia its.toArray) he ⟨hit, pt⟩ hlt hne (by simp [hne, hea]) fun x' h' tk hP ho hit' hT hsz hk => ?_
    have ex : x' = u := by
      have z : its.toArray[i]? = some x' := hP
      rw [show its.toArray[i]? = some u by simpa using hu] at z
      exact (Option.some.inj z).symm
    subst ex
    refine ⟨_, rfl, wpAny_letOwnedTupleGo_enum (s := { s with heap := h', toks := tk + 1 }) ho fun h'' he' sb => ?_⟩
    have hT2 : h''.get? s.heap.objs.size = some { cls := .type "tuple", data := .seq #[.int i tk, x'] } := (sb.2 _ (Nat.ne_of_gt hel)).trans hT
    have new : ObjOk X.prog X.w (upd H s.heap.objs.size (.tup [.int (i : Nat), x])) h'' s.heap.objs.size (.tup [.int (i : Nat), x]) :=
      ⟨by show 2 ≤ sizeLine; decide, [.int i tk, x'], .cons ⟨_, rfl⟩ (.cons ru .nil), ⟨_, hT2, rfl, _, rfl⟩⟩
    have I1 : Inv X pins σ (upd H s.heap.objs.size (.tup [.int (i : Nat), x])) { s with heap := h'', toks := tk + 1 } :=
      I.turnedNew (ch := [e, it]) (fun b ob hb q => (sb.2 b (fun z => hb (by simp [z]))).trans (hk b ob (fun z => hb (by simp [z])) (fun z => hb (by simp [z])) q)) hf (Nat.le_refl _) new
    refine ⟨.ref s.heap.objs.size, _, I1, rfl, ⟨_, x, rfl, I.hok.fresh (Nat.le_refl _), rfl, fun ys hy => by rw [I.tuple_inj hy hq]; exact hx⟩, ⟨⟨x', ?_⟩, hit'.1.at fun o q => (sb.2 it (Ne.symm hne)).trans q, hne⟩, fun b hb => ?_⟩
    · have e1 : ((i + 1 : Nat) : Int) = (i : Int) + 1 := by omega
      rw [e1]; exact he'
    · have hb' : b < s.heap.objs.size := by
        have e' : b = e ∨ b = it := by simpa using hb
        rcases e' with z | z
        · rw [z]; exact hel
        · rw [z]; exact hil
      rw [upd_ne (Nat.ne_of_lt hb')]
      exact (hf b hb).1
  done := by
    intro X hP hw hK hc i pins s σ H E I hf st hg
    subst hP hw hK
    obtain ⟨⟨old, he⟩, hit, hne⟩ := st
    obtain ⟨xs, hq, hx⟩ := hg
    obtain ⟨its, rv, p, hz⟩ := I.tuple hq
    obtain ⟨f0, f1, f2, f3, f4, f5⟩ := hf it (by simp)
    have hl := rv.length
    have pt : s.heap.IsTuple a its.toArray := p
    have hia : a ≠ it := fun z => by
      obtain ⟨o, ho, hc, _⟩ := pt
      obtain ⟨o2, ho2, hc2, _⟩ := hit
      rw [z, ho2] at ho
      have q := congrArg Obj.cls (Option.some.inj ho)
      rw [hc, hc2] at q
      exact absurd q (by decide)
    have hh : X.A.in1.handled = none := I.ok.hd hc
    have en : i = its.toArray.size := by
      rw [List.size_toArray]
      omega
    subst en
    exact wpAny_pyNext_enum_endD (Draws.tuple hh it a hia its.toArray) he ⟨hit, pt⟩ fun h' eb => ⟨rfl, I.turned (t' := s.toks) (fun b o hb q => eb b o hb q) f0 f1 f3 f4 f5⟩
  self := fun A i s Q E st h => let ⟨⟨_, he⟩, _⟩ := st; wpAny_pyIter_enum he h
theorem walk_enumT {K : PySem.W.Frag} {a : Addr} {xs : List V} : Walk (IteT K a) xs.length (fun H => SqT K H a xs) (YPair (fun i => some (.int (i : Nat))) (fun i => xs[i]?)) := by
  refine ⟨fun i _ hi q => ⟨xs, xs[i], q, by simp [hi]⟩, fun _ q => ⟨xs, q, rfl⟩, fun i H v H' _ q y => ?_⟩
  obtain ⟨T, x, h1, h2, h3, h4⟩ := y
  exact ⟨T, .int (i : Nat), x, h1, h2, h3, rfl, h4 xs q⟩
theorem walk_zipT {K : PySem.W.Frag} {a b : Addr} {xs ys : List V} {n : Nat} (hn : n = min xs.length ys.length) : Walk (RZ.ItzT K a b) n (fun H => SqT K H a xs ∧ SqT K H b ys) (YPair (fun i => xs[i]?) (fun i => ys[i]?)) := by
  subst hn
  refine ⟨fun i _ hi q => ?_, fun _ q => ⟨xs, ys, q.1, q.2, by omega⟩, fun i H v H' _ q y => ?_⟩
  · have h1 : i < xs.length := by omega
    have h2 : i < ys.length := by omega
    exact ⟨xs, ys, xs[i], ys[i], q.1, q.2, by simp [h1], by simp [h2]⟩
  · obtain ⟨T, x, z, h1, h2, h3, h4, h5⟩ := y
    exact ⟨T, x, z, h1, h2, h3, h4 xs q.1, h5 ys q.2⟩
/-- a list or a tuple; enumerated -/
def iSeq (K : PySem.W.Frag) (tl : TE) : TI := fun σ H R => tl σ H fun x H1 => ∃ a, x = .ref a ∧ ((∃ xs, SqL K H1 a xs ∧ R (Itl K a) H1) ∨ ∃ xs, SqT K H1 a xs ∧ R (Itt K a) H1)
def iEnumA (K : PySem.W.Frag) (ta : TA) : TI := fun σ H R => ta σ H fun vs H1 => ∃ a, vs = [.ref a] ∧ ((∃ xs, SqL K H1 a xs ∧ R (Ite K a) H1) ∨ ∃ xs, SqT K H1 a xs ∧ R (IteT K a) H1)
section
variable {X : Cx} {tg : Expr}
theorem pi_seq {l : Expr} {tl : TE} (hl : PE X l tl) : PI X tg l (iSeq X.K tl) := by
  refine ⟨fun pins s σ H R I h => ?_⟩
  refine thn (hl.run pins s σ H _ I h) fun v s1 ⟨x, H1, I1, r1, q1⟩ => ?_
  obtain ⟨a, e, q1⟩ := q1
  subst e
  cases r1
  rcases q1 with ⟨xs, hq, q⟩ | ⟨xs, hq, q⟩
  · obtain ⟨its, rv, p, hz⟩ := I1.list hq
    refine wpAny_pyIter_list p.isList ?_
    refine ⟨s1.heap.objs.size, [s1.heap.objs.size], _, _, H1, rfl, I1.kept (t' := s1.toks) fun b o e => Heap.get?_push_of_some _ e, turn_list a _, ⟨_, Heap.get?_push_size _ rfl, rfl, rfl⟩, fun b hb => ?_, q⟩
    have e : b = s1.heap.objs.size := by simpa using hb
    subst e
    exact I1.fpOk (Nat.le_refl _) (I1.hok.fresh (Nat.le_refl _))
  · obtain ⟨its, rv, p, hz⟩ := I1.tuple hq
    refine wpAny_pyIter_tuple (show s1.heap.IsTuple a its.toArray from p) ?_
    refine ⟨s1.heap.objs.size, [s1.heap.objs.size], _, _, H1, rfl, I1.kept (t' := s1.toks) fun b o e => Heap.get?_push_of_some _ e, turn_tuple a _, ⟨_, Heap.get?_push_size _ rfl, rfl, rfl⟩, fun b hb => ?_, q⟩
    have e : b = s1.heap.objs.size := by simpa using hb
    subst e
    exact I1.fpOk (Nat.le_refl _) (I1.hok.fresh (Nat.le_refl _))
theorem pi_enumA {e : Expr} {ta : TA} {p pos tpos : Pos} {elts : List Expr} {kk : Nat} (hg : Gl X "enumerate") (hm : X.mg "enumerate" = none) (ha : PA X [e] ta) (hs : starEach [e] X.env = [(false, eval e X.env)] := by rfl) :
    PI X (.Tuple elts kk tpos) (.Call (.Name "enumerate" p) [e] [] pos) (iEnumA X.K ta) := by
  refine ⟨fun pins s σ H R I h => ?_⟩
  refine Call_ (ld_blt I hg hm boot_enumerate (PyProof.Rows.callWith_type1 (thn (ha.run pos pins s σ H _ I h) fun us s1 ⟨vs, H1, I1, r1, q1⟩ => ?_) hs rfl))
  obtain ⟨a, ex, q1⟩ := q1
  subst ex
  cases r1 with
  | cons r rr =>
    cases rr
    cases r
    have fp2 : ∀ b ∈ [s1.heap.objs.size + 1, s1.heap.objs.size], FpOk X pins H1 b := fun b hb => by
      have e' : b = s1.heap.objs.size + 1 ∨ b = s1.heap.objs.size := by simpa using hb
      have hle : s1.heap.objs.size ≤ b := by
        rcases e' with z | z
        · rw [z]; exact Nat.le_add_right _ _
        · rw [z]; exact Nat.le_refl _
      exact I1.fpOk hle (I1.hok.fresh hle)
    rcases q1 with ⟨xs, hq, q⟩ | ⟨xs, hq, q⟩
    · obtain ⟨its, rv, p', hz⟩ := I1.list hq
      refine call_enumerate_list p'.isList fun h' he hit hsz hk => wpAny_pyIter_enum he ?_
      have I2 : Inv X pins σ H1 { s1 with heap := h' } := I1.kept (t' := s1.toks) hk
      exact ⟨s1.heap.objs.size + 1, [s1.heap.objs.size + 1, s1.heap.objs.size], _, _, H1, rfl, I2, turn_enum a (s1.heap.objs.size + 1) s1.heap.objs.size, ⟨⟨.none, he⟩, hit, Nat.succ_ne_self _⟩, fp2, q⟩
    · obtain ⟨its, rv, p', hz⟩ := I1.tuple hq
      refine PDw.enum_begins1 (begins_tuple a its.toArray) (show s1.heap.IsTuple a its.toArray from p') fun h' he hit hsz hk => wpAny_pyIter_enum he ?_
      have I2 : Inv X pins σ H1 { s1 with heap := h' } := I1.kept (t' := s1.toks) hk
      exact ⟨s1.heap.objs.size + 1, [s1.heap.objs.size + 1, s1.heap.objs.size], _, _, H1, rfl, I2, turn_enumT a (s1.heap.objs.size + 1) s1.heap.objs.size, ⟨⟨.none, he⟩, ⟨_, hit, rfl, rfl⟩, Nat.succ_ne_self _⟩, fp2, q⟩
end
end L2
namespace PD
open PySem PySem.Spec L2
section
variable {X : Cx} {w : Wd} {W : WX} {tg e e2 : Expr} {es : List Expr} {ce : M Rv} {cs : M (List Rv)} {pos : Pos}
theorem _root_.L2.PI.imp {t t' : TI} (h : PI X tg e t) (k : ∀ σ H R, t' σ H R → t σ H R) : PI X tg e t' := ⟨fun pins s σ H R I q => h.run pins s σ H R I (k _ _ _ q)⟩
/-- two of them stand in a new pair -/
theorem pair_rep {F H H' : Hp} {T : Addr} {x y : V} {d e : D} (s : Le F H) (h1 : H T = none) (h2 : H' = upd H T (.tup [x, y])) (rx : Rep w F x d) (ry : Rep w F y e) : ∃ F', New F H F' H' ∧ Rep w F' (.ref T) (.tup [d, e]) := by
  subst h2
  have N := New.lay (o := .tup [x, y]) s h1
  exact ⟨_, N, .tup (.inl (.inl upd_same)) (.cons (rx.le N.le) (.cons (ry.le N.le) .nil)) (by show 2 ≤ 16777216; decide)⟩
theorem walksD_at {F : Hp} {J : It} {ds : List D} {xs : List V} {Gd : Hp → Prop} (wk : Walk J xs.length Gd (YAt xs)) (hG : ∀ H, Le F H → Gd H) (r : Reps w F xs ds) (z : ds.length ≤ LIM) : WalksD w F J ds := by
  refine ⟨z, Gd, YAt xs, r.length ▸ wk, hG, fun i F2 H x H' hi l l2 y => ?_⟩
  obtain ⟨e1, e2⟩ := y
  subst e1
  obtain ⟨d, h1, h2⟩ := r.getV e2
  exact ⟨F2, d, New.refl l2, h1, h2.le l⟩
theorem enumD_get : ∀ (ds : List D) (k i : Nat) (d : D), ds[i]? = some d → (enumD k ds)[i]? = some (.tup [.int ((k + i : Nat) : Int), d])
  | [], _, _, _, h => by simp at h
  | x :: xs, k, 0, d, h => by
    simp at h
    subst h
    rfl
  | x :: xs, k, i + 1, d, h => by
    have ih := enumD_get xs (k + 1) i d (by simpa using h)
    simp only [enumD, List.getElem?_cons_succ]
    rw [ih]
    have e : k + 1 + i = k + (i + 1) := by omega
    rw [e]
theorem enumD_len : ∀ (ds : List D) (k : Nat), (enumD k ds).length = ds.length
  | [], _ => rfl
  | x :: xs, k => by rw [enumD, List.length_cons, List.length_cons, enumD_len]
theorem w_seq (hK : w.K = X.K) (h : PE X e (T w W ce)) : PI X tg e (TI' w W (wSeq ce)) := (pi_seq h).imp fun σ H Rk ⟨g, F, Γ, R, p⟩ => by
  refine ⟨g, F, Γ, R, Post.bind (Step.refl ..) p fun r Γ1 _ p1 x H1 F1 S1 R1 q1 => ?_⟩
  obtain ⟨q, e1, p1⟩ := p1.opt
  obtain ⟨ds, e2, p1⟩ := p1.opt
  obtain ⟨F2, S2, R2, rx⟩ := frz_ok R S1 R1 q1 e1
  obtain ⟨d, Γ2⟩ := q
  cases d with
  | lst l =>
    cases e2
    cases rx with
    | @lst a xs _ hl r z => exact ⟨a, rfl, .inl ⟨xs, hK ▸ SqL.le R2.sub hl, p1 _ H1 F2 S2 R2 (walksD_at (hK ▸ walk_list) (fun H l => hK ▸ SqL.le l hl) r z)⟩⟩
  | tup l =>
    cases e2
    cases rx with
    | @tup a xs _ hl r z => exact ⟨a, rfl, .inr ⟨xs, hK ▸ SqT.le R2.sub hl, p1 _ H1 F2 S2 R2 (walksD_at (hK ▸ walk_tup) (fun H l => hK ▸ SqT.le l hl) r z)⟩⟩
  | _ => cases e2
end
end PD

/-! PD7: enumerate, zip, range; comprehensions. -/
namespace PD
open PySem PySem.Spec L2
section
variable {X : Cx} {w : Wd} {W : WX} {tg e e2 : Expr} {es : List Expr} {ce : M Rv} {cs : M (List Rv)} {pos p tpos : Pos} {elts : List Expr} {kk : Nat}
theorem w_enum (hK : w.K = X.K) (hg : Gl X "enumerate") (hm : X.mg "enumerate" = none) (h : PE X e (T w W ce)) (hs : starEach [e] X.env = [(false, eval e X.env)] := by rfl) :
    PI X (.Tuple elts kk tpos) (.Call (.Name "enumerate" p) [e] [] pos) (TI' w W (wEnum ce)) := (pi_enumA hg hm (pa_cons h pa_nil hs) hs).imp fun σ H Rk ⟨g, F, Γ, R, p⟩ => by
  unfold wEnum wSeq at p
  refine ⟨g, F, Γ, R, ?_⟩
  cases hc : ce Γ with
  | no => rw [hc] at p; exact p
  | ex x Γ2 => rw [hc] at p; exact p
  | ok r Γ1 =>
    rw [hc] at p
    intro x H1 F1 S1 R1 q1
    simp only [PD.R.bind_ok] at p
    cases hz : frz Γ1 r with
    | none => rw [hz] at p; exact p.elim
    | some q =>
      rw [hz, PD.R.opt_some] at p
      cases hi : items q.1 with
      | none => rw [hi] at p; exact p.elim
      | some ds =>
        rw [hi] at p
        simp only [PD.R.opt_some, PD.R.bind_ok] at p
        obtain ⟨F2, S2, R2, rx⟩ := frz_ok R S1 R1 q1 hz
        have fin : ∀ {J : It} {xs : List V} {Gd : Hp → Prop}, Walk J xs.length Gd (YPair (fun i => some (.int (i : Nat))) (fun i => xs[i]?)) → (∀ H, Le F2 H → Gd H) → Reps w F2 xs ds → ds.length ≤ LIM → Rk J H1 := fun {J xs Gd} wk hG r z => by
          refine p _ H1 F2 S2 R2 ⟨by rw [enumD_len]; exact z, Gd, _, by rw [enumD_len, ← r.length]; exact wk, hG, fun i F3 H x H' hi l l2 y => ?_⟩
          obtain ⟨T, x', y', rfl, h1, h2, h3, h4⟩ := y
          obtain ⟨d, h5, h6⟩ := r.getV h4
          cases h3
          obtain ⟨F', N, rep⟩ := pair_rep (w := w) l2 h1 h2 (Rep.int (w := w) (F := F3) (i : Int)) (h6.le l)
          refine ⟨F', _, N, enumD_get ds 0 i d h5, ?_⟩
          rw [Nat.zero_add]
          exact rep
        obtain ⟨d, Γ2⟩ := q
        cases d with
        | lst l =>
          cases hi
          cases rx with
          | @lst a xs _ hl r z => exact ⟨a, rfl, .inl ⟨xs, hK ▸ SqL.le R2.sub hl, fin walk_enum (fun H l => hK ▸ SqL.le l hl) r z⟩⟩
        | tup l =>
          cases hi
          cases rx with
          | @tup a xs _ hl r z => exact ⟨a, rfl, .inr ⟨xs, hK ▸ SqT.le R2.sub hl, fin walk_enumT (fun H l => hK ▸ SqT.le l hl) r z⟩⟩
        | _ => cases hi
theorem zipW_get {xs ys : List V} {as bs : List D} {F : Hp} (r1 : Reps w F xs as) (r2 : Reps w F ys bs) {i : Nat} {x y : V} (h1 : xs[i]? = some x) (h2 : ys[i]? = some y) :
    ∃ d e, (List.zipWith (fun x y => D.tup [x, y]) as bs)[i]? = some (.tup [d, e]) ∧ Rep w F x d ∧ Rep w F y e := by
  obtain ⟨d, a1, a2⟩ := r1.getV h1
  obtain ⟨e, b1, b2⟩ := r2.getV h2
  exact ⟨d, e, by rw [List.getElem?_zipWith, a1, b1], a2, b2⟩
theorem w_zip (hK : w.K = X.K) (hg : Gl X "zip") (hm : X.mg "zip" = none) (h : PA X [e, e2] (TL w W cs)) (hs : starEach [e, e2] X.env = (false, eval e X.env) :: starEach [e2] X.env := by rfl) (hpl : (backTo pos (starEach [e2] X.env)).any (·.1) = false := by rfl) :
    PI X (.Tuple elts kk tpos) (.Call (.Name "zip" p) [e, e2] [] pos) (TI' w W (wZip cs)) := (RZ.pi_zipA hg hm h hs hpl).imp fun σ H Rk ⟨g, F, Γ, R, p⟩ => by
  refine ⟨g, F, Γ, R, Post.bind (Step.refl ..) p fun rs Γ1 _ p1 vs H1 F1 S1 R1 q1 => ?_⟩
  split at p1
  · rename_i d e hh
    clear hh
    obtain ⟨ds, e1, p1⟩ := p1.opt
    match vs, q1 with
    | [v, u], q1 =>
      obtain ⟨rd, ⟨re, _⟩, _⟩ := q1
      have rd : Rep w F1 v d := rd
      have re : Rep w F1 u e := re
      have fin : ∀ {J : It} {xs ys : List V} {as bs : List D} {n : Nat} {Gd : Hp → Prop}, n = min xs.length ys.length → Walk J n Gd (YPair (fun i => xs[i]?) (fun i => ys[i]?)) → (∀ H, Le F1 H → Gd H) → Reps w F1 xs as → Reps w F1 ys bs → as.length ≤ LIM → ds = List.zipWith (fun x y => D.tup [x, y]) as bs → Rk J H1 :=
        fun {J xs ys as bs n Gd} hn wk hG r1 r2 z ed => by
          subst ed
          refine p1 _ H1 F1 S1 R1 ⟨by rw [List.length_zipWith]; omega, Gd, _, by rw [List.length_zipWith, ← r1.length, ← r2.length, ← hn]; exact wk, hG, fun i F3 H x H' hi l l2 y => ?_⟩
          obtain ⟨T, x', y', rfl, h1, h2, h3, h4⟩ := y
          obtain ⟨d, e, h5, h6, h7⟩ := zipW_get r1 r2 h3 h4
          obtain ⟨F', N, rep⟩ := pair_rep (w := w) l2 h1 h2 (h6.le l) (h7.le l)
          exact ⟨F', _, N, h5, rep⟩
      cases d with
      | lst as =>
        cases e with
        | lst bs =>
          cases e1
          cases rd with
          | @lst a xs _ hl r z =>
            cases re with
            | @lst b ys _ hl2 r2 _ =>
              refine ⟨a, b, xs, ys, rfl, .inl ⟨hK ▸ SqL.le R1.sub hl, hK ▸ SqL.le R1.sub hl2, fin rfl (walk_zip rfl) (fun H l => ⟨hK ▸ SqL.le l hl, hK ▸ SqL.le l hl2⟩) r r2 z rfl⟩⟩
        | _ => cases e1
      | tup as =>
        cases e with
        | tup bs =>
          cases e1
          cases rd with
          | @tup a xs _ hl r z =>
            cases re with
            | @tup b ys _ hl2 r2 _ =>
              refine ⟨a, b, xs, ys, rfl, .inr ⟨hK ▸ SqT.le R1.sub hl, hK ▸ SqT.le R1.sub hl2, fin rfl (walk_zipT rfl) (fun H l => ⟨hK ▸ SqT.le l hl, hK ▸ SqT.le l hl2⟩) r r2 z rfl⟩⟩
        | _ => cases e1
      | _ => cases e1
  · exact p1.elim
theorem rngD_walk {F : Hp} {lo : Int} {n : Nat} (z : n ≤ LIM) : WalksD w F (Itr lo n) (rngD lo n) := by
  refine ⟨by rw [show (rngD lo n).length = n by simp [rngD]]; exact z, fun _ => True, YFn fun i => .int (lo + i), by rw [show (rngD lo n).length = n by simp [rngD]]; exact walk_range, fun _ _ => trivial, fun i F2 H x H' hi l l2 y => ?_⟩
  obtain ⟨e1, e2⟩ := y
  subst e1 e2
  have hi : i < n := by simpa [rngD] using hi
  exact ⟨F2, .int (lo + i), New.refl l2, by simp [rngD, hi], .int _⟩
theorem okR_lim {i : Int} (h : okR i = true) : -1000000 ≤ i ∧ i ≤ 1000000 := of_decide_eq_true h
theorem okR_of {i : Int} (h : okR i = true) : -(2 ^ 62) ≤ i ∧ i < 2 ^ 62 := by
  have := okR_lim h
  omega
theorem w_rng1 (hg : Gl X "range") (hm : X.mg "range" = none) (h : PA X [e] (TL w W cs)) (hs : starEach [e] X.env = [(false, eval e X.env)] := by rfl) : PI X tg (.Call (.Name "range" p) [e] [] pos) (TI' w W (wRng1 cs)) :=
  (pi_range1 hg hm h hs).imp fun σ H Rk ⟨g, F, Γ, R, p⟩ => by
    refine ⟨g, F, Γ, R, Post.bind (Step.refl ..) p fun rs Γ1 _ p1 vs H1 F1 S1 R1 q1 => ?_⟩
    split at p1
    · rename_i j hh
      clear hh
      by_cases ok : okR j = true
      · rw [if_pos ok] at p1
        match vs, q1 with
        | [v], ⟨q, _⟩ =>
          cases (show Rep w F1 v (.int j) from q)
          obtain ⟨a, b⟩ := okR_of ok
          have := okR_lim ok
          exact ⟨j, rfl, a, b, p1 _ H1 F1 S1 R1 (rngD_walk (by show j.toNat ≤ 16777216; omega))⟩
      · rw [if_neg ok] at p1; exact p1.elim
    · exact p1.elim
theorem w_rng2 (hg : Gl X "range") (hm : X.mg "range" = none) (h : PA X [e, e2] (TL w W cs)) (hs : starEach [e, e2] X.env = [(false, eval e X.env), (false, eval e2 X.env)] := by rfl) (hs2 : starEach [e2] X.env = [(false, eval e2 X.env)] := by rfl) :
    PI X tg (.Call (.Name "range" p) [e, e2] [] pos) (TI' w W (wRng2 cs)) :=
  (pi_range2 hg hm h hs hs2).imp fun σ H Rk ⟨g, F, Γ, R, p⟩ => by
    refine ⟨g, F, Γ, R, Post.bind (Step.refl ..) p fun rs Γ1 _ p1 vs H1 F1 S1 R1 q1 => ?_⟩
    split at p1
    · rename_i i j hh
      clear hh
      by_cases ok : okR i = true ∧ okR j = true
      · rw [if_pos ok] at p1
        match vs, q1 with
        | [v, u], ⟨q, ⟨q', _⟩, _⟩ =>
          cases (show Rep w F1 v (.int i) from q)
          cases (show Rep w F1 u (.int j) from q')
          obtain ⟨a, b⟩ := okR_of ok.1
          obtain ⟨a', b'⟩ := okR_of ok.2
          have := okR_lim ok.1
          have := okR_lim ok.2
          exact ⟨i, j, rfl, ⟨a, b, a', b'⟩, p1 _ H1 F1 S1 R1 (rngD_walk (by show (j - i).toNat ≤ 16777216; omega))⟩
      · rw [if_neg ok] at p1; exact p1.elim
    · exact p1.elim
end
end PD

/-! PD8: list comprehensions. -/
namespace PD
open PySem PySem.Spec L2
theorem wipeE_get : ∀ {vs : List Nat} {Γ : EnD} {j : Nat}, j ∉ vs → (wipeE Γ vs)[j]? = Γ[j]?
  | [], _, _, _ => rfl
  | v :: vs, Γ, j, h => by
    have h1 : v ≠ j := fun z => h (by rw [z]; exact List.mem_cons_self)
    rw [wipeE, List.getElem?_set_ne h1]
    exact wipeE_get fun z => h (List.mem_cons_of_mem _ z)
theorem wipeE_len : ∀ {vs : List Nat} {Γ : EnD}, (wipeE Γ vs).length = Γ.length
  | [], _ => rfl
  | v :: vs, Γ => by rw [wipeE, List.length_set]; exact wipeE_len
theorem wipeE_in : ∀ {vs : List Nat} {Γ : EnD} {j : Nat} {s : Sl}, (wipeE Γ vs)[j]? = some (some s) → j ∉ vs ∧ Γ[j]? = some (some s)
  | [], _, _, _, h => ⟨by simp, h⟩
  | v :: vs, Γ, j, s, h => by
    rw [wipeE] at h
    rcases get_set_some h with ⟨_, h, _⟩ | ⟨n, h⟩
    · cases h
    · obtain ⟨h1, h2⟩ := wipeE_in h
      exact ⟨fun z => (List.mem_cons.mp z).elim n h1, h2⟩
theorem wipe_get : ∀ {vs : List Nat} {σ : St} {j : Nat}, j ∉ vs → (wipe σ vs)[j]? = σ[j]?
  | [], _, _, _ => rfl
  | v :: vs, σ, j, h => by
    have h1 : v ≠ j := fun z => h (by rw [z]; exact List.mem_cons_self)
    rw [wipe, List.getElem?_set_ne h1]
    exact wipe_get fun z => h (List.mem_cons_of_mem _ z)
theorem wipe_at : ∀ {vs : List Nat} {σ : St} {j : Nat}, j ∈ vs → j < σ.length → (wipe σ vs)[j]? = some none
  | v :: vs, σ, j, h, hl => by
    rw [wipe]
    by_cases e : v = j
    · rw [e, List.getElem?_set_self (by rw [wipe_length]; exact hl)]
    · rw [List.getElem?_set_ne e]
      rcases List.mem_cons.mp h with z | z
      · exact absurd z.symm e
      · exact wipe_at z hl
theorem wipe_eq {vs : List Nat} {σ σ2 : St} (hl : σ2.length = σ.length) (h : ∀ j, j ∉ vs → σ2[j]? = σ[j]?) : wipe σ2 vs = wipe σ vs := by
  apply List.ext_getElem?
  intro j
  by_cases e : j ∈ vs
  · by_cases hj : j < σ.length
    · rw [wipe_at e hj, wipe_at e (by omega)]
    · rw [List.getElem?_eq_none (by rw [wipe_length]; omega), List.getElem?_eq_none (by rw [wipe_length]; omega)]
  · rw [wipe_get e, wipe_get e, h j e]
theorem wipe_wipe {vs : List Nat} {σ : St} : wipe (wipe σ vs) vs = wipe σ vs := wipe_eq (wipe_length σ vs) fun j h => wipe_get h
theorem backE_len : ∀ {vs : List Nat} {Γ0 Γ : EnD}, (backE Γ0 Γ vs).length = Γ.length
  | [], _, _ => rfl
  | v :: vs, Γ0, Γ => by rw [backE, List.length_set]; exact backE_len
theorem backE_get : ∀ {vs : List Nat} {Γ0 Γ : EnD} {j : Nat}, j ∉ vs → (backE Γ0 Γ vs)[j]? = Γ[j]?
  | [], _, _, _, _ => rfl
  | v :: vs, Γ0, Γ, j, h => by
    have h1 : v ≠ j := fun z => h (by rw [z]; exact List.mem_cons_self)
    rw [backE, List.getElem?_set_ne h1]
    exact backE_get fun z => h (List.mem_cons_of_mem _ z)
theorem backE_at : ∀ {vs : List Nat} {Γ0 Γ : EnD} {j : Nat} {s : Sl}, j ∈ vs → (backE Γ0 Γ vs)[j]? = some (some s) → Γ0[j]? = some (some s)
  | v :: vs, Γ0, Γ, j, s, h, e => by
    rw [backE] at e
    by_cases z : j = v
    · subst z
      rcases get_set_some e with ⟨_, e, _⟩ | ⟨n, e⟩
      · rw [List.getD_eq_getElem?_getD] at e
        cases q : Γ0[j]? with
        | none => rw [q] at e; cases e
        | some x => rw [q] at e; exact congrArg some e
      · exact absurd rfl n
    · rcases get_set_some e with ⟨z2, _, _⟩ | ⟨n, e⟩
      · exact absurd z2 z
      · exact backE_at ((List.mem_cons.mp h).resolve_left z) e
theorem plainAt_dat {Γ : EnD} {vs : List Nat} (h : plainAt Γ vs = true) {j : Nat} (hj : j ∈ vs) {s : Sl} (e : Γ[j]? = some (some s)) : s.m = .dat := by
  have := List.all_eq_true.mp h j hj
  rw [e] at this
  exact beq_iff_eq.mp this
section
variable {w : Wd} {W : WX} {g : Gx} {F F1 F2 : Hp} {Γ Γ1 Γ2 : EnD} {σ σ2 : St} {H H1 H2 : Hp} {vs : List Nat}
theorem Rel.wipe (R : Rel w g F Γ σ H) (hL : ∀ i ∈ vs, g.L i = none) : Rel w g F (wipeE Γ vs) (wipe σ vs) H where
  sub := R.sub
  base := R.base
  tab := R.tab
  there := R.there
  le0 := R.le0
  nf0 := R.nf0
  len := by rw [wipeE_len, wipe_length]; exact R.len
  slot := fun i s e => by
    obtain ⟨n, e⟩ := wipeE_in e
    rw [wipe_get n]
    exact R.slot i s e
  dist := fun i j s t a e1 e2 o1 o2 q1 q2 => by
    obtain ⟨n1, e1⟩ := wipeE_in e1
    obtain ⟨n2, e2⟩ := wipeE_in e2
    rw [wipe_get n1] at q1
    rw [wipe_get n2] at q2
    exact R.dist i j s t a e1 e2 o1 o2 q1 q2
  lok := fun i a d e => by
    have n : i ∉ vs := fun z => by rw [hL i z] at e; cases e
    rw [wipeE_get n, wipe_get n]
    exact R.lok i a d e
theorem plain_lok (R : Rel w g F Γ σ H) (h : plainAt Γ vs = true) : ∀ i ∈ vs, g.L i = none := fun i hi => by
  cases e : g.L i with
  | none => rfl
  | some p =>
    obtain ⟨a, d⟩ := p
    have z := plainAt_dat h hi (R.lok i a d e).1
    cases z
theorem Rel.back (R1 : Rel w g F1 Γ1 σ H1) (R2 : Rel w g F2 Γ2 (L2.wipe σ vs) H2) (l : Le F1 F2) (h : plainAt Γ1 vs = true) : Rel w g F2 (backE Γ1 Γ2 vs) σ H2 where
  sub := R2.sub
  base := R2.base
  tab := R2.tab
  there := R2.there
  le0 := R2.le0
  nf0 := R2.nf0
  len := by rw [backE_len, R2.len, wipe_length]
  slot := fun i s e => by
    by_cases hi : i ∈ vs
    · have e := backE_at hi e
      have hm := plainAt_dat h hi e
      obtain ⟨v, e1, q⟩ := R1.slot i s e
      obtain ⟨m, d⟩ := s
      cases hm
      exact ⟨v, e1, Rep.le l q⟩
    · rw [backE_get hi] at e
      obtain ⟨v, e1, q⟩ := R2.slot i s e
      rw [wipe_get hi] at e1
      exact ⟨v, e1, q⟩
  dist := fun i j s t a e1 e2 o1 o2 q1 q2 => by
    have no : ∀ {k : Nat} {u : Sl}, (backE Γ1 Γ2 vs)[k]? = some (some u) → u.m.ow = true → k ∉ vs := fun {k u} e o z => by
      have hm := plainAt_dat h z (backE_at z e)
      rw [hm] at o; cases o
    have n1 := no e1 o1
    have n2 := no e2 o2
    rw [backE_get n1] at e1
    rw [backE_get n2] at e2
    exact R2.dist i j s t a e1 e2 o1 o2 (by rw [wipe_get n1]; exact q1) (by rw [wipe_get n2]; exact q2)
  lok := fun i a d e => by
    have n : i ∉ vs := fun z => by rw [plain_lok R1 h i z] at e; cases e
    rw [backE_get n]
    refine ⟨(R2.lok i a d e).1, ?_⟩
    have q := (R2.lok i a d e).2
    rw [wipe_get n] at q
    exact q
theorem Step.back (S : Step (wipeE Γ1 vs) (L2.wipe σ vs) F1 H1 Γ2 F2 H2) (h : plainAt Γ1 vs = true) : Step Γ1 σ F1 H1 (backE Γ1 Γ2 vs) F2 H2 := by
  have mu : ∀ {b}, Mu (wipeE Γ1 vs) (L2.wipe σ vs) b → Mu Γ1 σ b := fun {b} ⟨i, s, e, m, q⟩ => by
    obtain ⟨n, e⟩ := wipeE_in e
    rw [wipe_get n] at q
    exact ⟨i, s, e, m, q⟩
  refine ⟨S.le, fun b o e t n => S.fr b o e t fun z => n (mu z), fun b e => ?_, S.th, fun i s' e o => ?_⟩
  · rcases S.nf b e with z | z | z
    · exact .inl z
    · exact .inr (.inl z)
    · exact .inr (.inr (mu z))
  · by_cases hi : i ∈ vs
    · exact ⟨s', backE_at hi e, o, fun z => z⟩
    · rw [backE_get hi] at e
      obtain ⟨s, e1, e2, e3⟩ := S.ol i s' e o
      exact ⟨s, (wipeE_in e1).2, e2, e3⟩
/-- a heap changed at an address that nobody holds -/
theorem Rel.updFree {D : Addr} {o : HO} (R : Rel w g F Γ σ H) (hF : F D = none) (no : ¬ Ow Γ σ D) (h0 : g.H0 D = none) (hx : ∀ u, H D = some u → NX u) : Rel w g F Γ σ (upd H D o) where
  sub := fun b u e => by
    have n : b ≠ D := fun z => by rw [z, hF] at e; cases e
    rw [upd_ne n]; exact R.sub b u e
  base := fun b u e nt n => by
    have n2 : b ≠ D := fun z => by rw [z, h0] at e; cases e
    rw [upd_ne n2]; exact R.base b u e nt n
  there := fun b e => by
    by_cases n : b = D
    · rw [n, upd_same]; simp
    · rw [upd_ne n]; exact R.there b e
  le0 := R.le0
  nf0 := R.nf0
  len := R.len
  slot := fun i s e => by
    obtain ⟨v, e1, q⟩ := R.slot i s e
    refine ⟨v, e1, ?_⟩
    have ne : s.m.ow = true → ∀ b, v = .ref b → b ≠ D := fun o b z z2 => by
      subst z; subst z2
      exact no ⟨i, s, e, o, e1⟩
    obtain ⟨m, d⟩ := s
    cases m with
    | dat => exact q
    | pfz => exact q
    | lam => obtain ⟨b, cvs, ds, c, q, h1, h2, h3, h4, h5⟩ := q; exact ⟨b, cvs, ds, c, q, h1, h2, h3, h4, by rw [upd_ne (fun z => by subst z; exact hx _ h5)]; exact h5⟩
    | own => obtain ⟨b, e, h1, h2, h3⟩ := q; exact ⟨b, e, h1, h2, h3.keep (Le.refl _) fun u z _ => by rw [upd_ne (ne rfl b e)]; exact z⟩
    | par => obtain ⟨b, e, h1, h2, h4, h3⟩ := q; exact ⟨b, e, h1, h2, h4, h3.keep (Le.refl _) fun u z _ => by rw [upd_ne (ne rfl b e)]; exact z⟩
    | lck => obtain ⟨b, e, h1, h3⟩ := q; exact ⟨b, e, h1, h3.keep (Le.refl _) fun u z _ => by rw [upd_ne (ne rfl b e)]; exact z⟩
  dist := R.dist
  lok := R.lok
  tab := ⟨tabs_upd R.tab.1 hx, R.tab.2⟩
theorem Step.updFree {D : Addr} {o : HO} (S : Step Γ σ F H Γ1 F1 H1) (h0 : H D = none) : Step Γ σ F H Γ1 F1 (upd H1 D o) where
  le := S.le
  fr := fun b u e t n => by rw [upd_ne (ne_of_none e h0)]; exact S.fr b u e t n
  nf := S.nf
  th := fun b e => by
    by_cases n : b = D
    · rw [n, upd_same]; simp
    · rw [upd_ne n]; exact S.th b e
  ol := S.ol
/-- no exception -/
abbrev W0 : WX := fun _ _ _ _ => False
theorem lc_main {wi : M (List D)} {g1 : G} {t1 : M Bool} {e1 : M Rv} {sl : List Nat} (hsl : ∀ i ∈ sl, i ∈ vs) {Q : VK} (h : T w W (mLc wi g1 t1 e1 vs) σ H Q) :
    tLc (TI' w W wi) (TGr w W0 (some sl) g1) (TB w W0 t1) (T w W0 (mFz e1)) vs σ H Q := by
  obtain ⟨g, F, Γ, R, p⟩ := h
  refine ⟨g, F, Γ, R, Post.bind (Step.refl ..) p fun ds Γ1 _ p1 J H1 F1 S1 R1 q1 => ?_⟩
  intro D hD
  by_cases hp : plainAt Γ1 vs = true
  · rw [if_pos hp] at p1
    obtain ⟨hlim, Gd, Y, wk, hG, hY⟩ := q1
    have hL := plain_lok R1 hp
    have R1w := R1.wipe hL
    have hg0 : g.H0 D = none := R1.fresh hD
    cases hc : compD g1 t1 e1 vs ds [] (wipeE Γ1 vs) with
    | no => rw [hc] at p1; exact p1.elim
    | ex x Γ' => rw [hc] at p1; exact p1.elim
    | ok accF ΓF =>
      rw [hc] at p1
      have noOw : ∀ {F2 H2 Γ2}, Step (wipeE Γ1 vs) (L2.wipe σ vs) F1 H1 Γ2 F2 H2 → ¬ Ow Γ2 (L2.wipe σ vs) D := fun {F2 H2 Γ2} S z => by
        obtain ⟨o, e⟩ := R1w.owIn (S.ow z)
        rw [hD] at e; cases e
      refine lc_it wk (fun i H2 => ∃ F2 Γ2 accD accV, Le F1 F2 ∧ Rel w g F2 Γ2 (L2.wipe σ vs) H2 ∧ H2 D = some (.lst accV) ∧ Reps w F2 accV accD ∧ F2 D = none ∧ accD.length ≤ i ∧ Step (wipeE Γ1 vs) (L2.wipe σ vs) F1 H1 Γ2 F2 H2 ∧
        compD g1 t1 e1 vs (ds.drop i) accD Γ2 = .ok accF ΓF) ?_ (fun i H2 _ ⟨F2, Γ2, _, _, l, R2, _⟩ => hG H2 (l.trans R2.sub)) ?_ ?_
      · have N := New.own (o := .lst []) R1.sub hD
        exact ⟨F1, wipeE Γ1 vs, [], [], Le.refl _, R1w.new N, upd_same, .nil, R1.sub.none hD, Nat.zero_le _, N.step, hc⟩
      · rintro i x H2 H3 hi ⟨F2, Γ2, accD, accV, l, R2, hDl, hacc, hFD, hle, S2, heq⟩ y
        obtain ⟨F3, d, N, hd, rd⟩ := hY i F2 H2 x H3 hi l R2.sub y
        have R3 := R2.new N
        have S3 := S2.trans (N.step (Γ := Γ2) (σ := L2.wipe σ vs))
        have e : ds.drop i = d :: ds.drop (i + 1) := by
          obtain ⟨hlt, e⟩ := List.getElem?_eq_some_iff.mp hd
          rw [← e]
          exact List.drop_eq_getElem_cons hlt
        rw [e] at heq
        simp only [compD] at heq
        have hD3 : H3 D = some (.lst accV) := N.keep D _ hDl
        have hF3 : F3 D = none := N.nof hFD ⟨_, hDl⟩
        refine ⟨g, F3, Γ2, d, R3, rd, ?_⟩
        cases hg1 : g1 d Γ2 with
        | no => rw [hg1] at heq; cases heq
        | ex x Γ3 => rw [hg1] at heq; cases heq
        | ok u Γ3 =>
          rw [hg1] at heq
          simp only [PD.R.bind_ok] at heq
          intro σ2 H4 F4 l4 R4 ti
          obtain ⟨t1', t2', t3', t4', t5'⟩ := ti
          have t1' := t1'.symm
          have t2' := t2'.symm
          subst t1' t2'
          have hout : ∀ j, j ∉ vs → σ2[j]? = (L2.wipe σ vs)[j]? := fun j n => (t4' j fun z => n (hsl j z)).1
          have hw : L2.wipe σ2 vs = L2.wipe σ vs := (wipe_eq t3' hout).trans wipe_wipe
          have datIn : ∀ j ∈ vs, ∀ s, Γ3[j]? = some (some s) → s.m = .dat := fun j hj s q => by
            by_cases hjs : j ∈ sl
            · exact t5' j hjs s q
            · rw [(t4' j hjs).2] at q
              exfalso
              obtain ⟨v, e1, _⟩ := R3.slot j s q
              rw [wipe_at hj (by
                have h1 := R3.len
                rw [wipe_length] at h1
                have h2 := (List.getElem?_eq_some_iff.mp q).1
                omega)] at e1
              cases e1
          have muIn : ∀ {b}, Mu Γ3 σ2 b → Mu Γ2 (L2.wipe σ vs) b := fun {b} ⟨j, s, q1, q2, q3⟩ => by
            have n : j ∉ vs := fun z => by
              rw [datIn j z s q1] at q2; cases q2
            have n2 : j ∉ sl := fun z => n (hsl j z)
            rw [(t4' j n2).2] at q1
            rw [(t4' j n2).1] at q3
            exact ⟨j, s, q1, q2, q3⟩
          have owIn : ∀ {b}, Ow Γ3 σ2 b → Ow Γ2 (L2.wipe σ vs) b := fun {b} ⟨j, s, q1, q2, q3⟩ => by
            have n : j ∉ vs := fun z => by
              rw [datIn j z s q1] at q2; cases q2
            have n2 : j ∉ sl := fun z => n (hsl j z)
            rw [(t4' j n2).2] at q1
            rw [(t4' j n2).1] at q3
            exact ⟨j, s, q1, q2, q3⟩
          have noD : ¬ Ow Γ3 σ2 D := fun z => noOw S3 (owIn z)
          -- a step in the block is a step of the block's
          have lift : ∀ {Γ5 F5 H5}, Step Γ3 σ2 F3 H3 Γ5 F5 H5 → Step (wipeE Γ1 vs) (L2.wipe σ vs) F1 H1 (wipeE Γ5 vs) F5 H5 := fun {Γ5 F5 H5} S => by
            refine S3.trans ⟨S.le, fun b o e t n => S.fr b o e t fun z => n (muIn z), fun b e => ?_, S.th, fun j s' e o => ?_⟩
            · rcases S.nf b e with z | z | z
              · exact .inl z
              · exact .inr (.inl z)
              · exact .inr (.inr (muIn z))
            · obtain ⟨n, e⟩ := wipeE_in e
              obtain ⟨s, q1, q2, q3⟩ := S.ol j s' e o
              rw [(t4' j fun z => n (hsl j z)).2] at q1
              exact ⟨s, q1, q2, q3⟩
          have wipeR : ∀ {Γ5 F5 H5}, Rel w g F5 Γ5 σ2 H5 → Rel w g F5 (wipeE Γ5 vs) (L2.wipe σ vs) H5 := fun {Γ5 F5 H5} R5 => by
            have z := R5.wipe hL
            rw [hw] at z
            exact z
          refine ⟨hw, g, F3, Γ3, R4, ?_⟩
          cases ht : t1 Γ3 with
          | no => rw [ht] at heq; cases heq
          | ex x Γ4 => rw [ht] at heq; cases heq
          | ok b Γ4 =>
            rw [ht] at heq
            simp only [PD.R.bind_ok] at heq
            intro b' H5 F5 S5 R5 eb
            subst eb
            have hD5 : H5 D = some (.lst accV) := S5.fr D _ hD3 (fun _ z => nomatch z) fun z => noD z.ow
            have hF5 : F5 D = none := by
              cases q : F5 D with
              | none => rfl
              | some o =>
                rcases S5.nf D (by rw [q]; simp) with z | z | z
                · exact absurd hF3 z
                · rw [hD3] at z; cases z
                · exact absurd z.ow noD
            cases b' with
            | false =>
              simp only [Bool.false_eq_true, if_false] at heq ⊢
              exact ⟨F5, wipeE Γ4 vs, accD, accV, (lift S5).le, wipeR R5, hD5, (hacc.le N.le).le S5.le, hF5, by omega, lift S5, heq⟩
            | true =>
              simp only [if_true] at heq ⊢
              refine ⟨g, F5, Γ4, R5, ?_⟩
              cases he : mFz e1 Γ4 with
              | no => rw [he] at heq; cases heq
              | ex x Γ5 => rw [he] at heq; cases heq
              | ok r Γ5 =>
                rw [he] at heq
                simp only [PD.R.bind_ok] at heq
                cases r with
                | own d => cases heq
                | var j => cases heq
                | dat de =>
                  intro yv H6 F6 S6 R6 ry
                  have S56 := S5.trans S6
                  have hD6 : H6 D = some (.lst accV) := S56.fr D _ hD3 (fun _ z => nomatch z) fun z => noD z.ow
                  have hF6 : F6 D = none := by
                    cases q : F6 D with
                    | none => rfl
                    | some o =>
                      rcases S56.nf D (by rw [q]; simp) with z | z | z
                      · exact absurd hF3 z
                      · rw [hD3] at z; cases z
                      · exact absurd z.ow noD
                  have hlen : accV.length < sizeLine := by
                    rw [hacc.length, ← lim_line]
                    omega
                  have S6l := lift S56
                  have R6w := wipeR R6
                  refine ⟨accV, hD6, hlen, F6, wipeE Γ5 vs, accD ++ [de], accV ++ [yv], S6l.le, R6w.updFree hF6 (noOw S6l) hg0 (fun u e => by rw [hD6] at e; cases e; trivial), upd_same, ((hacc.le N.le).le S56.le).append (.cons ry .nil), hF6, by rw [List.length_append]; simp; omega, S6l.updFree hD, heq⟩
      · rintro H2 ⟨F2, Γ2, accD, accV, l, R2, hDl, hacc, hFD, hle, S2, heq⟩
        rw [List.drop_length] at heq
        simp only [compD] at heq
        cases heq
        refine p1 (.ref D) H2 F2 (S1.trans (S2.back hp)) (R1.back R2 l hp) ⟨D, rfl, ?_, hFD, accV, hDl, hacc, by omega⟩
        cases q : H D with
        | none => rfl
        | some o => exact absurd hD (S1.th D (by rw [q]; simp))
  · rw [if_neg hp] at p1; exact p1.elim
end
end PD
namespace PD
open PySem PySem.Spec L2
section
variable {X : Cx} {w : Wd} {W : WX} {elt tg iter : Expr} {ifs : List Expr} {scope : Scope} {own : List (Str × Nat)} {pos : Pos} {wi : M (List D)} {g1 : G} {t1 : M Bool} {e1 : M Rv} {sl : List Nat}
theorem ts_nil : PTs X [] (TB w W tYes) := ⟨fun pins s σ H Q I ⟨g, F, Γ, R, p⟩ => pts_nil.run pins s σ H Q I (p true H F (Step.refl ..) R rfl)⟩
theorem ts_one {c : Expr} (h : PT X c (TB w W t1)) : PTs X [c] (TB w W t1) := pts_one h
theorem d_lc (hc : X.calm = true) (hN : X.N.Nodup) (hi : PI X tg iter (TI' w W wi)) (ok : BlkOk X.N X.env.scope scope own) (hsl : ∀ i ∈ sl, i ∈ own.map (·.2))
    (hg : ∀ (s : Shared) (H : Hp) (C : Addr) (cl : List (Str × Addr)) (fp : List Addr), PG (X.blk s H scope (compEnvC scope cl C X.env) fp) tg (TGr w W0 (some sl) g1)) (ht : ∀ (s : Shared) (H : Hp) (C : Addr) (cl : List (Str × Addr)) (fp : List Addr), PTs (X.blk s H scope (compEnvC scope cl C X.env) fp) ifs (TB w W0 t1))
    (he : ∀ (s : Shared) (H : Hp) (C : Addr) (cl : List (Str × Addr)) (fp : List Addr), PE (X.blk s H scope (compEnvC scope cl C X.env) fp) elt (T w W0 e1)) (hs : ∀ x, foldedSetIterable iter X.env x = pure x := by intro _; rfl) :
    PE X (.ListComp elt [⟨tg, iter, ifs, 0⟩] scope pos) (T w W (mLc wi g1 t1 e1 (own.map (·.2)))) :=
  (pe_lc hc hN hi ok hg ht (fun s H C cl fp => d_fz (he s H C cl fp)) hs).imp fun σ H Q h => lc_main hsl h
theorem s_setLc {i : Nat} {y : Str} {py spos : Pos} (hc : X.calm = true) (hN : X.N.Nodup) (hy : X.N[i]? = some y) (hyl : X.env.scope.names.lookup y = some .local)
    (hsw : swapsWith (.ListComp elt [⟨tg, iter, ifs, 0⟩] scope pos) (some (.Name y py)) spos.line X.env = pure true) (hi : PI X tg iter (TI' w W wi)) (ok : BlkOk X.N X.env.scope scope own) (hsl : ∀ i ∈ sl, i ∈ own.map (·.2))
    (hg : ∀ (s : Shared) (H : Hp) (C : Addr) (cl : List (Str × Addr)) (fp : List Addr), PG (X.blk s H scope (compEnvC scope cl C X.env) fp) tg (TGr w W0 (some sl) g1)) (ht : ∀ (s : Shared) (H : Hp) (C : Addr) (cl : List (Str × Addr)) (fp : List Addr), PTs (X.blk s H scope (compEnvC scope cl C X.env) fp) ifs (TB w W0 t1))
    (he : ∀ (s : Shared) (H : Hp) (C : Addr) (cl : List (Str × Addr)) (fp : List Addr), PE (X.blk s H scope (compEnvC scope cl C X.env) fp) elt (T w W0 e1)) (hs : ∀ x, foldedSetIterable iter X.env x = pure x := by intro _; rfl) :
    PS X (.Assign [.Name y py] (.ListComp elt [⟨tg, iter, ifs, 0⟩] scope pos) spos) (TSt w W (sSet i (mLc wi g1 t1 e1 (own.map (·.2))))) :=
  s_set ((ps_setLc hc hN hy hyl hsw hi ok hg ht (fun s H C cl fp => d_fz (he s H C cl fp)) hs).imp fun D σ H h => lc_main hsl h)
end
end PD

/-! PD9: defs: promises, calls. -/
namespace PD
open PySem PySem.Spec L2
def Arg1 (w : Wd) (F H : Hp) (v : V) (s : Sl) : Prop := match s.m with
  | .dat => Rep w F v s.d
  | .own => ∃ a, v = .ref a ∧ F a = none ∧ OwnAt w F H a s.d
  | _ => False
/-- an argument lent -/
def OwnArg (vs : List V) (ss : List Sl) (b : Addr) : Prop := ∃ (i : Nat) (s : Sl), vs[i]? = some (.ref b) ∧ ss[i]? = some s ∧ s.m = .own
structure ArgR (w : Wd) (F H : Hp) (vs : List V) (ss : List Sl) : Prop where
  len : vs.length = ss.length
  arg : ∀ (i : Nat) (s : Sl), ss[i]? = some s → ∃ v, vs[i]? = some v ∧ Arg1 w F H v s
  dist : ∀ (i j : Nat) (s t : Sl) (a : Addr), ss[i]? = some s → ss[j]? = some t → s.m = .own → t.m = .own → vs[i]? = some (.ref a) → vs[j]? = some (.ref a) → i = j
structure FStep (T : List (Addr × Str)) (F H : Hp) (vs : List V) (ss : List Sl) (F' H' : Hp) : Prop where
  sub : Le F' H'
  le : Le F F'
  fr : ∀ b o, H b = some o → NT o → ¬ OwnArg vs ss b → H' b = some o
  nf : ∀ b, F' b ≠ none → F b ≠ none ∨ H b = none ∨ OwnArg vs ss b
  th : ∀ b, H b ≠ none → H' b ≠ none
  tab : TabF T F' H'
def OutR (w : Wd) (F H : Hp) (vs : List V) (outs : List (Option Sl)) : Prop := ∀ (i : Nat) (s : Sl), outs[i]? = some (some s) → ∃ v, vs[i]? = some v ∧ Arg1 w F H v s
def RetF (w : Wd) (F H0 H : Hp) (v : V) : Rv → Prop
  | .dat d => Rep w F v d
  | .own d => ∃ a, v = .ref a ∧ H0 a = none ∧ F a = none ∧ OwnAt w F H a d
  | .var _ => False
def FPost (w : Wd) (F H : Hp) (vs : List V) (ss : List Sl) (Q : VK) (E : XK) : RF → Prop
  | .ok r outs => ∀ v H' F', FStep w.T F H vs ss F' H' → OutR w F' H' vs outs → RetF w F' H H' v r → Q v H'
  | .ex x outs => ∀ cls d H' F', FStep w.T F H vs ss F' H' → OutR w F' H' vs outs → XRep w F' H' x cls d → E cls d H'
  | .no => False
/-- a def does what f does on data -/
def spF (w : Wd) (n : Nat) (f : FS) : Sp := fun vs H Q E => vs.length = n ∧ ∃ F ss, Le F H ∧ TabF w.T F H ∧ ArgR w F H vs ss ∧ FPost w F H vs ss Q E (f ss)
section
variable {w : Wd} {F F' H H' : Hp} {vs : List V} {ss : List Sl}
theorem Arg1.inS {g : Gx} {i : Nat} {v : V} {s t : Sl} (h : Arg1 w F H v s) (hg : s.m = .own → ∀ a, v = .ref a → g.PO a) (hp : g.P[i]? = some v) (e : inS s = some t) : SRep w g F H i v t := by
  obtain ⟨m, d⟩ := s
  cases m with
  | dat => cases e; exact h
  | own =>
    cases e
    obtain ⟨a, e, h1, h2⟩ := h
    exact ⟨a, e, h1, hg rfl a e, hp, h2⟩
  | _ => exact h.elim
/-- a def's body -/
theorem body_ok {n np : Nat} {b : M Fl} {Q : VK} {E : XK} {N : List Str} (hN : N.length = n) (hl : vs.length = np) (hs : Le F H) (ht : TabF w.T F H) (A : ArgR w F H vs ss) (p : FPost w F H vs ss Q E (fnD np n b ss)) :
    TSt w (fun cls d _ H => E cls d H) b { nx := fun _ H' => Q .non H', rt := Q } (L2.start N vs) H := by
  unfold fnD at p
  split at p
  · rename_i hok
    obtain ⟨hln, hok⟩ := hok
    have hok : ∀ s ∈ ss, okArg s = true := List.all_eq_true.mp hok
    have modes : ∀ (i : Nat) (s : Sl), ss[i]? = some s → s.m = .dat ∨ s.m = .own := fun i s e => by
      have := hok s (List.mem_of_getElem? e)
      unfold okArg at this
      cases hm : s.m <;> rw [hm] at this <;> first | exact .inl rfl | exact .inr rfl | cases this
    let g : Gx := { H0 := H, F0 := F, P := vs, PO := OwnArg vs ss, L := fun _ => none }
    have σget : ∀ (i : Nat) (v : V), vs[i]? = some v → (L2.start N vs)[i]? = some (some v) := fun i v e => by
      have hi : i < vs.length := (List.getElem?_eq_some_iff.mp e).1
      unfold L2.start
      rw [List.getElem?_append_left (by simpa using hi), List.getElem?_map, e]
      rfl
    have σget2 : ∀ (i : Nat) (v : V), (L2.start N vs)[i]? = some (some v) → vs[i]? = some v := fun i v e => by
      unfold L2.start at e
      by_cases hi : i < vs.length
      · rw [List.getElem?_append_left (by simpa using hi), List.getElem?_map] at e
        cases q : vs[i]? with
        | none => rw [q] at e; cases e
        | some x => rw [q] at e; cases e; rfl
      · rw [List.getElem?_append_right (by simpa using hi)] at e
        have := List.mem_of_getElem? e
        simp at this
    have Γget : ∀ (i : Nat) (t : Sl), (ss.map inS ++ List.replicate (n - np) none)[i]? = some (some t) → ∃ s, ss[i]? = some s ∧ inS s = some t := fun i t e => by
      by_cases hi : i < ss.length
      · rw [List.getElem?_append_left (by simpa using hi), List.getElem?_map] at e
        cases q : ss[i]? with
        | none => rw [q] at e; cases e
        | some x => rw [q] at e; exact ⟨x, rfl, Option.some.inj e⟩
      · rw [List.getElem?_append_right (by simpa using hi)] at e
        have := List.mem_of_getElem? e
        simp at this
    have owOf : ∀ {s t : Sl}, inS s = some t → t.m.ow = true → (s.m = .dat ∨ s.m = .own) → s.m = .own := fun {s t} e o h => by
      obtain ⟨m, d⟩ := s
      rcases h with h | h
      · have h : m = .dat := h
        subst h; cases e; cases o
      · exact h
    have R0 : Rel w g F (ss.map inS ++ List.replicate (n - np) none) (L2.start N vs) H := by
      refine ⟨hs, fun _ _ h _ _ => h, fun _ h => h, Le.refl _, fun _ h => .inl h, ?_, fun i t e => ?_, fun i j s t a e1 e2 o1 o2 q1 q2 => ?_, fun i a d e => (nomatch e), ht⟩
      · have := A.len
        simp [L2.start]
        omega
      · obtain ⟨s, e1, e2⟩ := Γget i t e
        obtain ⟨v, e3, q⟩ := A.arg i s e1
        exact ⟨v, σget i v e3, Arg1.inS (g := g) q (fun hm a z => ⟨i, s, by rw [e3, z], e1, hm⟩) e3 e2⟩
      · obtain ⟨s', a1, a2⟩ := Γget i s e1
        obtain ⟨t', b1, b2⟩ := Γget j t e2
        exact A.dist i j s' t' a a1 b1 (owOf a2 o1 (modes i s' a1)) (owOf b2 o2 (modes j t' b1)) (σget2 _ _ q1) (σget2 _ _ q2)
    refine ⟨g, F, _, R0, ?_⟩
    have step : ∀ {Γ' σ' H' F'}, Rel w g F' Γ' σ' H' → FStep w.T F H vs ss F' H' := fun R' => ⟨R'.sub, R'.le0, R'.base, R'.nf0, R'.there, R'.tab⟩
    have out : ∀ {Γ' σ' H' F'}, Rel w g F' Γ' σ' H' → OutR w F' H' vs (outs np Γ') := fun {Γ' σ' H' F'} R' i s e => by
      unfold outs at e
      rw [List.getElem?_map, List.getElem?_take] at e
      split at e
      · cases q : Γ'[i]? with
        | none => rw [q] at e; cases e
        | some x =>
          rw [q] at e
          have e : outS x = some s := Option.some.inj e
          cases x with
          | none => cases e
          | some t =>
            obtain ⟨v, e1, z⟩ := R'.slot i t q
            obtain ⟨m, d⟩ := t
            cases m with
            | par => cases e; obtain ⟨a, e2, h1, h2, h3, h4⟩ := z; exact ⟨v, h3, a, e2, h1, h4⟩
            | pfz => cases e; exact ⟨v, z.2, z.1⟩
            | _ => cases e
      · cases e
    cases hb : b (ss.map inS ++ List.replicate (n - np) none) with
    | no => rw [hb] at p; exact p
    | ex x Γ' => rw [hb] at p; exact fun cls d σ' H' F' l R' X => p cls d H' F' (step R') (out R') X
    | ok f Γ' =>
      rw [hb] at p
      cases f with
      | nx => exact fun σ' H' F' l R' => p .non H' F' (step R') (out R') .non
      | bk => exact p.elim
      | ct => exact p.elim
      | rt r =>
        intro v σ' H' F' l R' q
        refine p v H' F' (step R') (out R') ?_
        cases r with
        | dat d => exact q
        | own d => exact q
        | var i => exact q.elim
  · exact p.elim
end
/-- a def keeps its promise where no repr is under way -/
structure FnG (P : Program) (wd : World) (K : PySem.W.Frag) (mg : Str → Option Value) (base : Heap) (k : Nat) (f : Addr) (fd : FuncData) (ps : List Str) (sp : Sp) : Prop where
  len : ∀ vs H Q E, sp vs H Q E → vs.length = ps.length
  run : ∀ (A : Around) (outer : List PySem.Env) (s : Shared) (H : Hp) (args : Args) (us : List Value) (vs : List V) (Q : VK) (E : XK), Room k A → A.guards = some [] → Env0 P wd K mg base A outer s H → BindsTo s fd args (ps.zip us) → Vals vs us → sp vs H Q E →
    codeAny (model P wd) A (.call (.ref f) args) (CR (L2.CX P wd) outer P wd H s Q E) s
theorem gd_deeper {A : Around} (h : A.guards = some []) (env : PySem.Env) : (A.deeper env).guards = some [] := by
  first
    | exact h
    | simpa [Around.deeper] using h
section
variable {P : Program} {wd : World} {K : PySem.W.Frag} {mg : Str → Option Value} {base : Heap}
/-- a def by its body's derivation -/
theorem mk_fn {w : Wd} {x qual : Str} {st : Stmt} {f : Addr} {fd : FuncData} {N ps : List Str} {k : Nat} {b : M Fl} (Fu : Fun K x qual st f fd) (S : FnScope N ps (defScope st))
    (hbody : ∀ (cdv : Value) (A : Around) (outer : List PySem.Env) (s : Shared) (H : Hp) (E : XK), Room k (A.deeper (PyProof.Rows.envOfC qual (defScope st) s.heap.objs.size f cdv)) → (A.deeper (PyProof.Rows.envOfC qual (defScope st) s.heap.objs.size f cdv)).guards = some [] → fd.code = cdv →
      PSs (cxOf (L2.CX P wd) P wd K mg base N qual (defScope st) f cdv A outer s H E) (defBody st) (TSt w (fun cls d _ H => E cls d H) b)) :
    FnG P wd K mg base (k + 1) f fd ps (spF w ps.length (fnD ps.length N.length b)) := by
  refine ⟨fun vs H Q E h => h.1, fun A outer s H args us vs Q E hr hg e0 hb r hsp => ?_⟩
  obtain ⟨oc, od, kV, doc, pm, an, cdv, ct, osl, rfl, lk, hcd⟩ := Fu.ex
  obtain ⟨hl, F, ss, hs, ht, A', p⟩ := hsp
  exact LamX.run_ofS lk hcd S hr e0 hb r hl fun hr' => ⟨_, hbody cdv A outer s H E hr' (gd_deeper hg _) rfl, body_ok rfl hl hs ht A' p⟩
end
end PD

/-! PD10: calls. -/
namespace PD
open PySem PySem.Spec L2
section
variable {Γ : EnD}
theorem back1_ne {r : Rv} {o : Option Sl} {i : Nat} (h : ∀ j, r = .var j → j ≠ i) : (back1 Γ r o)[i]? = Γ[i]? := by
  cases r with
  | dat d => rfl
  | own d => rfl
  | var j =>
    have n := h j rfl
    simp only [back1]
    split
    · rw [List.getElem?_set_ne n]
    · rw [List.getElem?_set_ne n]
    · rfl
theorem back1_len {r : Rv} {o : Option Sl} : (back1 Γ r o).length = Γ.length := by
  cases r with
  | dat d => rfl
  | own d => rfl
  | var j =>
    simp only [back1]
    split
    · rw [List.length_set]
    · rw [List.length_set]
    · rfl
theorem back_len : ∀ {rs : List Rv} {os : List (Option Sl)} {Γ : EnD}, (back Γ rs os).length = Γ.length
  | [], _, _ => rfl
  | r :: rs, [], Γ => by rw [back, back_len, back1_len]
  | r :: rs, o :: os, Γ => by rw [back, back_len, back1_len]
theorem back_out : ∀ {rs : List Rv} {os : List (Option Sl)} {Γ : EnD} {i : Nat}, (∀ r ∈ rs, ∀ j, r = .var j → j ≠ i) → (back Γ rs os)[i]? = Γ[i]?
  | [], _, _, _, _ => rfl
  | r :: rs, [], Γ, i, h => by
    rw [back, back_out fun r' hr => h r' (List.mem_cons_of_mem _ hr), back1_ne (h r List.mem_cons_self)]
  | r :: rs, o :: os, Γ, i, h => by
    rw [back, back_out fun r' hr => h r' (List.mem_cons_of_mem _ hr), back1_ne (h r List.mem_cons_self)]
/-- no other one is this slot -/
theorem once_cons {r : Rv} {rs : List Rv} (h : once (r :: rs) = true) : once rs = true ∧ ∀ i, r = .var i → ∀ r' ∈ rs, ∀ j, r' = .var j → j ≠ i := by
  cases r with
  | dat d => exact ⟨h, fun i e => nomatch e⟩
  | own d => exact ⟨h, fun i e => nomatch e⟩
  | var i =>
    simp only [once, Bool.and_eq_true, List.all_eq_true] at h
    refine ⟨h.2, fun j e r' hr k ek => ?_⟩
    cases e
    have := h.1 r' hr
    subst ek
    simp at this
    exact fun z => this z.symm
theorem back1_self_of {Γ Γ' : EnD} {i : Nat} {o : Option Sl} (h : Γ'[i]? = Γ[i]?) (hl : Γ'.length = Γ.length) : (back1 Γ' (.var i) o)[i]? = (back1 Γ (.var i) o)[i]? := by
  simp only [back1]
  rw [h]
  split
  · rename_i d e
    have hi : i < Γ.length := (List.getElem?_eq_some_iff.mp e).1
    rw [List.getElem?_set_self hi, List.getElem?_set_self (by omega)]
  · rename_i d e
    have hi : i < Γ.length := (List.getElem?_eq_some_iff.mp e).1
    rw [List.getElem?_set_self hi, List.getElem?_set_self (by omega)]
  · exact h
theorem back_in : ∀ {rs : List Rv} {os : List (Option Sl)} {Γ : EnD} {i k : Nat}, once rs = true → rs[k]? = some (.var i) → (back Γ rs os)[i]? = (back1 Γ (.var i) (os.getD k none))[i]?
  | [], _, _, _, _, _, h => by simp at h
  | r :: rs, os, Γ, i, 0, ho, h => by
    have e : r = .var i := by simpa using h
    subst e
    obtain ⟨o1, o2⟩ := once_cons ho
    cases os with
    | nil => rw [back, back_out (o2 i rfl)]; rfl
    | cons o os => rw [back, back_out (o2 i rfl)]; rfl
  | r :: rs, os, Γ, i, k + 1, ho, h => by
    obtain ⟨o1, o2⟩ := once_cons ho
    have h : rs[k]? = some (.var i) := by simpa using h
    have ne : ∀ j, r = .var j → j ≠ i := fun j e z => by
      subst z
      exact o2 j e (.var j) (List.mem_of_getElem? h) j rfl rfl
    cases os with
    | nil =>
      rw [back, back_in o1 h]
      exact back1_self_of (back1_ne ne) back1_len
    | cons o os =>
      rw [back, back_in o1 h]
      exact back1_self_of (back1_ne ne) back1_len
theorem pass_len : ∀ {rs : List Rv} {ss : List Sl}, pass Γ rs = some ss → rs.length = ss.length
  | [], ss, e => by cases e; rfl
  | r :: rs, ss, e => by
    simp only [pass] at e
    split at e
    · rename_i s ss' e1 e2
      cases e
      rw [List.length_cons, List.length_cons, pass_len e2]
    · cases e
theorem pass_get : ∀ {rs : List Rv} {ss : List Sl} {k : Nat} {s : Sl}, pass Γ rs = some ss → ss[k]? = some s → ∃ r, rs[k]? = some r ∧ pass1 Γ r = some s
  | [], ss, k, s, e, h => by cases e; simp at h
  | r :: rs, ss, k, s, e, h => by
    simp only [pass] at e
    split at e
    · rename_i s' ss' e1 e2
      cases e
      cases k with
      | zero => simp at h; subst h; exact ⟨r, rfl, e1⟩
      | succ k =>
        obtain ⟨r', a, b⟩ := pass_get (k := k) e2 (by simpa using h)
        exact ⟨r', by simpa using a, b⟩
    · cases e
end
section
variable {w : Wd} {g : Gx} {F F1 : Hp} {Γ : EnD} {σ : St} {H H1 : Hp}
theorem ResNs.get : ∀ {vs : List V} {rs : List Rv} {k : Nat} {r : Rv}, ResNs w F σ H H1 vs rs → rs[k]? = some r → ∃ v, vs[k]? = some v ∧ ResN w F σ H H1 v r
  | [], [], _, _, _, e => by simp at e
  | v :: vs, r :: rs, 0, r', h, e => by
    simp at e; subst e
    exact ⟨v, rfl, h.1⟩
  | v :: vs, r :: rs, k + 1, r', h, e => by
    obtain ⟨u, a, b⟩ := ResNs.get (k := k) h.2.1 (by simpa using e)
    exact ⟨u, by simpa using a, b⟩
theorem mem_ownAs : ∀ {vs : List V} {rs : List Rv} {k : Nat} {a : Addr} {d : D}, vs[k]? = some (.ref a) → rs[k]? = some (.own d) → a ∈ ownAs vs rs
  | [], _, _, _, _, h, _ => by simp at h
  | _ :: _, [], _, _, _, _, h => by simp at h
  | v :: vs, r :: rs, 0, a, d, h1, h2 => by
    simp at h1 h2
    subst h1 h2
    simp [ownAs, ownA]
  | v :: vs, r :: rs, k + 1, a, d, h1, h2 => by
    have := mem_ownAs (vs := vs) (rs := rs) (k := k) (a := a) (d := d) (by simpa using h1) (by simpa using h2)
    simp only [ownAs, List.mem_append]
    exact .inr this
theorem ResNs.dist : ∀ {vs : List V} {rs : List Rv} {i j : Nat} {a : Addr} {d e : D}, ResNs w F σ H H1 vs rs → rs[i]? = some (.own d) → rs[j]? = some (.own e) → vs[i]? = some (.ref a) → vs[j]? = some (.ref a) → i = j
  | [], _, _, _, _, _, _, _, _, _, h, _ => by simp at h
  | _ :: _, [], _, _, _, _, _, h, _, _, _, _ => h.elim
  | v :: vs, r :: rs, 0, 0, _, _, _, _, _, _, _, _ => rfl
  | v :: vs, r :: rs, 0, j + 1, a, d, e, h, h1, h2, h3, h4 => by
    simp at h1 h3
    subst h1 h3
    exact absurd (mem_ownAs (by simpa using h4) (by simpa using h2)) (h.2.2 a rfl)
  | v :: vs, r :: rs, i + 1, 0, a, d, e, h, h1, h2, h3, h4 => by
    simp at h2 h4
    subst h2 h4
    exact absurd (mem_ownAs (by simpa using h3) (by simpa using h1)) (h.2.2 a rfl)
  | v :: vs, r :: rs, i + 1, j + 1, a, d, e, h, h1, h2, h3, h4 => by
    rw [ResNs.dist (i := i) (j := j) h.2.1 (by simpa using h1) (by simpa using h2) (by simpa using h3) (by simpa using h4)]
end
section
variable {w : Wd} {W : WX} {g : Gx} {F F1 F2 : Hp} {Γ Γ1 : EnD} {σ : St} {H H1 H2 : Hp} {vs dvs : List V} {rs : List Rv} {ss : List Sl} {ds : List D} {os : List (Option Sl)}
/-- what an argument is -/
theorem pass1_cases {r : Rv} {s : Sl} (e : pass1 Γ1 r = some s) : (∃ d, r = .dat d ∧ s = ⟨.dat, d⟩) ∨ (∃ d, r = .own d ∧ s = ⟨.own, d⟩) ∨
    (∃ i m d, r = .var i ∧ Γ1[i]? = some (some ⟨m, d⟩) ∧ m.mut = true ∧ s = ⟨.own, d⟩) ∨ ∃ i m d, r = .var i ∧ Γ1[i]? = some (some ⟨m, d⟩) ∧ (m = .dat ∨ m = .pfz) ∧ s = ⟨.dat, d⟩ := by
  cases r with
  | dat d => cases e; exact .inl ⟨d, rfl, rfl⟩
  | own d => cases e; exact .inr (.inl ⟨d, rfl, rfl⟩)
  | var i =>
    simp only [pass1] at e
    split at e
    · rename_i d e1; cases e; exact .inr (.inr (.inl ⟨i, .own, d, rfl, e1, rfl, rfl⟩))
    · rename_i d e1; cases e; exact .inr (.inr (.inl ⟨i, .par, d, rfl, e1, rfl, rfl⟩))
    · rename_i d e1; cases e; exact .inr (.inr (.inr ⟨i, .dat, d, rfl, e1, .inl rfl, rfl⟩))
    · rename_i d e1; cases e; exact .inr (.inr (.inr ⟨i, .pfz, d, rfl, e1, .inr rfl, rfl⟩))
    · cases e
theorem mut_own (R : Rel w g F Γ σ H) {i : Nat} {m : Md} {d : D} {v : V} (e : Γ[i]? = some (some ⟨m, d⟩)) (hm : m.mut = true) (hv : σ[i]? = some (some v)) : ∃ a, v = .ref a ∧ F a = none ∧ OwnAt w F H a d ∧ Mu Γ σ a := by
  obtain ⟨v', e1, q⟩ := R.slot i _ e
  rw [hv] at e1; cases e1
  cases m with
  | own => obtain ⟨a, e2, h1, _, h3⟩ := q; subst e2; exact ⟨a, rfl, h1, h3, i, _, e, rfl, hv⟩
  | par => obtain ⟨a, e2, h1, _, _, h3⟩ := q; subst e2; exact ⟨a, rfl, h1, h3, i, _, e, rfl, hv⟩
  | _ => cases hm
theorem dat_rep (R : Rel w g F Γ σ H) {i : Nat} {m : Md} {d : D} {v : V} (e : Γ[i]? = some (some ⟨m, d⟩)) (hm : m = .dat ∨ m = .pfz) (hv : σ[i]? = some (some v)) : Rep w F v d := by
  obtain ⟨v', e1, q⟩ := R.slot i _ e
  rw [hv] at e1; cases e1
  rcases hm with rfl | rfl
  · exact q
  · exact q.1
/-- the arguments as they are handed over -/
theorem args_ok (R : Rel w g F Γ σ H) (S : Step Γ σ F H Γ1 F1 H1) (R1 : Rel w g F1 Γ1 σ H1) (q : ResNs w F1 σ H H1 vs rs) (ho : once rs = true) (hp : pass Γ1 rs = some ss) (hd : Reps w F1 dvs ds) :
    ArgR w F1 H1 (vs ++ dvs) (ss ++ ds.map fun d => ⟨.dat, d⟩) ∧ ∀ b, OwnArg (vs ++ dvs) (ss ++ ds.map fun d => ⟨.dat, d⟩) b → H b = none ∨ Mu Γ1 σ b := by
  have l1 : vs.length = rs.length := q.len
  have l2 := pass_len hp
  have at1 : ∀ {i : Nat} {s : Sl}, (ss ++ ds.map fun d => (⟨.dat, d⟩ : Sl))[i]? = some s → (i < ss.length ∧ ss[i]? = some s) ∨ (ss.length ≤ i ∧ ∃ d, ds[i - ss.length]? = some d ∧ s = ⟨.dat, d⟩) := fun {i s} e => by
    by_cases hi : i < ss.length
    · rw [List.getElem?_append_left hi] at e; exact .inl ⟨hi, e⟩
    · rw [List.getElem?_append_right (by omega), List.getElem?_map] at e
      cases q : ds[i - ss.length]? with
      | none => rw [q] at e; cases e
      | some d => rw [q] at e; cases e; exact .inr ⟨by omega, d, rfl, rfl⟩
  have vAt : ∀ {i : Nat}, i < ss.length → (vs ++ dvs)[i]? = vs[i]? := fun {i} h => List.getElem?_append_left (by omega)
  have info : ∀ {i : Nat} {s : Sl}, ss[i]? = some s → ∃ v r, vs[i]? = some v ∧ rs[i]? = some r ∧ ResN w F1 σ H H1 v r ∧ pass1 Γ1 r = some s := fun {i s} e => by
    obtain ⟨r, a, b⟩ := pass_get hp e
    obtain ⟨v, c, d⟩ := q.get a
    exact ⟨v, r, c, a, d, b⟩
  have ow : ∀ {i : Nat} {s : Sl} {a : Addr}, (ss ++ ds.map fun d => (⟨.dat, d⟩ : Sl))[i]? = some s → s.m = .own → (vs ++ dvs)[i]? = some (.ref a) → (∃ d, rs[i]? = some (.own d) ∧ vs[i]? = some (.ref a) ∧ H a = none) ∨ ∃ j m d, rs[i]? = some (.var j) ∧ Γ1[j]? = some (some ⟨m, d⟩) ∧ m.mut = true ∧ σ[j]? = some (some (.ref a)) := fun {i s a} e hm hv => by
    rcases at1 e with ⟨hi, e⟩ | ⟨_, d, _, e⟩
    · obtain ⟨v, r, h1, h2, h3, h4⟩ := info e
      rw [vAt hi, h1] at hv
      cases hv
      rcases pass1_cases h4 with ⟨d, rfl, rfl⟩ | ⟨d, rfl, rfl⟩ | ⟨j, m, d, rfl, e1, em, rfl⟩ | ⟨j, m, d, rfl, e1, em, rfl⟩
      · cases hm
      · obtain ⟨b, eb, hb, _⟩ := h3
        cases eb
        exact .inl ⟨d, h2, h1, hb⟩
      · exact .inr ⟨j, m, d, h2, e1, em, h3⟩
      · cases hm
    · rw [e] at hm; cases hm
  refine ⟨⟨?_, fun i s e => ?_, fun i j s t a e1 e2 o1 o2 v1 v2 => ?_⟩, fun b ⟨i, s, hv, e, hm⟩ => ?_⟩
  · rw [List.length_append, List.length_append, List.length_map, hd.length]
    omega
  · rcases at1 e with ⟨hi, e⟩ | ⟨hi, d, hdi, rfl⟩
    · obtain ⟨v, r, h1, h2, h3, h4⟩ := info e
      refine ⟨v, by rw [vAt hi]; exact h1, ?_⟩
      rcases pass1_cases h4 with ⟨d, rfl, rfl⟩ | ⟨d, rfl, rfl⟩ | ⟨j, m, d, rfl, e1, em, rfl⟩ | ⟨j, m, d, rfl, e1, em, rfl⟩
      · exact h3
      · obtain ⟨a, e1, _, e3, e4⟩ := h3
        exact ⟨a, e1, e3, e4⟩
      · obtain ⟨a, e2, e3, e4, _⟩ := mut_own R1 e1 em h3
        exact ⟨a, e2, e3, e4⟩
      · exact dat_rep R1 e1 em h3
    · obtain ⟨v, a, b⟩ := hd.get hdi
      refine ⟨v, ?_, b⟩
      rw [List.getElem?_append_right (by omega)]
      rw [show vs.length = ss.length by omega]
      exact a
  · rcases ow e1 o1 v1 with ⟨d1, a1, a2, a3⟩ | ⟨k1, m1, d1, a1, a2, a3, a4⟩
    · rcases ow e2 o2 v2 with ⟨d2, b1, b2, b3⟩ | ⟨k2, m2, d2, b1, b2, b3, b4⟩
      · exact q.dist a1 b1 a2 b2
      · obtain ⟨o, z⟩ := R.owIn (S.ow ⟨k2, _, b2, Md.ow_of_mut b3, b4⟩)
        rw [a3] at z; cases z
    · rcases ow e2 o2 v2 with ⟨d2, b1, b2, b3⟩ | ⟨k2, m2, d2, b1, b2, b3, b4⟩
      · obtain ⟨o, z⟩ := R.owIn (S.ow ⟨k1, _, a2, Md.ow_of_mut a3, a4⟩)
        rw [b3] at z; cases z
      · have ek : k1 = k2 := R1.dist k1 k2 _ _ a a2 b2 (Md.ow_of_mut a3) (Md.ow_of_mut b3) a4 b4
        subst ek
        -- one slot is handed over once
        clear e1 e2 o1 o2 v1 v2
        have key : ∀ {rs : List Rv} {i j : Nat}, once rs = true → rs[i]? = some (.var k1) → rs[j]? = some (.var k1) → i = j := by
          intro rs
          induction rs with
          | nil => intro i j _ h; simp at h
          | cons r rs ih =>
            intro i j ho h1 h2
            obtain ⟨o1, o2⟩ := once_cons ho
            cases i with
            | zero =>
              cases j with
              | zero => rfl
              | succ j =>
                have e : r = .var k1 := by simpa using h1
                exact absurd rfl (o2 k1 e _ (List.mem_of_getElem? (show rs[j]? = some (.var k1) by simpa using h2)) k1 rfl)
            | succ i =>
              cases j with
              | zero =>
                have e : r = .var k1 := by simpa using h2
                exact absurd rfl (o2 k1 e _ (List.mem_of_getElem? (show rs[i]? = some (.var k1) by simpa using h1)) k1 rfl)
              | succ j =>
                have := ih (i := i) (j := j) o1 (by simpa using h1) (by simpa using h2)
                omega
        exact key ho a1 b1
  · rcases ow e hm hv with ⟨d1, a1, a2, a3⟩ | ⟨k1, m1, d1, a1, a2, a3, a4⟩
    · exact .inl a3
    · exact .inr ⟨k1, _, a2, a3, a4⟩
/-- a code object is no argument lent -/
theorem codeArg {w : Wd} {F H : Hp} {vs : List V} {ss : List Sl} {c : Addr} {q : Str} (A : ArgR w F H vs ss) (e : H c = some (LamX.CodeO c q)) (z : OwnArg vs ss c) : False := by
  obtain ⟨i, s, h1, h2, h3⟩ := z
  obtain ⟨v, h4, h5⟩ := A.arg i s h2
  rw [h1] at h4
  cases h4
  obtain ⟨m, d⟩ := s
  cases h3
  obtain ⟨b, e1, e2, e3⟩ := h5
  cases e1
  exact e3.nx e
/-- behind a call -/
theorem back_ok (R : Rel w g F Γ σ H) (S : Step Γ σ F H Γ1 F1 H1) (R1 : Rel w g F1 Γ1 σ H1) (q : ResNs w F1 σ H H1 vs rs) (ho : once rs = true) (hp : pass Γ1 rs = some ss) (hd : Reps w F1 dvs ds)
    (fs : FStep w.T F1 H1 (vs ++ dvs) (ss ++ ds.map fun d => ⟨.dat, d⟩) F2 H2) (hout : OutR w F2 H2 (vs ++ dvs) os) : Rel w g F2 (back Γ1 rs os) σ H2 ∧ Step Γ σ F H (back Γ1 rs os) F2 H2 := by
  obtain ⟨ar, oa⟩ := args_ok R S R1 q ho hp hd
  have l1 : vs.length = rs.length := q.len
  have l2 := pass_len hp
  have oa' : ∀ b, OwnArg (vs ++ dvs) (ss ++ ds.map fun d => ⟨.dat, d⟩) b → H b = none ∨ Mu Γ σ b := fun b z => (oa b z).elim .inl fun z => .inr (S.mu z)
  -- a slot behind the call
  have slot : ∀ (i : Nat) (s : Sl), (back Γ1 rs os)[i]? = some (some s) → (∃ v, σ[i]? = some (some v) ∧ SRep w g F2 H2 i v s) ∧ (s.m.ow = true → ∃ s1, Γ1[i]? = some (some s1) ∧ s1.m.ow = true ∧ (s.m.mut = true → s1.m.mut = true)) := fun i s e => by
    by_cases hi : ∃ k : Nat, rs[k]? = some (.var i)
    · obtain ⟨k, hk⟩ := hi
      rw [back_in ho hk] at e
      obtain ⟨v, hvk, hσ⟩ := q.get hk
      have hσ : σ[i]? = some (some v) := hσ
      have hkl : k < rs.length := (List.getElem?_eq_some_iff.mp hk).1
      have gi : ∀ {x : Option Sl}, Γ1[i]? = some x → i < Γ1.length := fun h => (List.getElem?_eq_some_iff.mp h).1
      have got : ∀ {m : Md} {d : D}, os.getD k none = some ⟨m, d⟩ → Arg1 w F2 H2 v ⟨m, d⟩ := fun {m d} z => by
        have z2 : os[k]? = some (some ⟨m, d⟩) := by
          rw [List.getD_eq_getElem?_getD] at z
          cases y : os[k]? with
          | none => rw [y] at z; cases z
          | some o => rw [y] at z; exact congrArg some z
        obtain ⟨v', a, b⟩ := hout k _ z2
        rw [List.getElem?_append_left (by omega), hvk] at a
        cases a
        exact b
      simp only [back1] at e
      split at e
      · rename_i d e1
        rw [List.getElem?_set_self (gi e1)] at e
        have e := Option.some.inj e
        obtain ⟨v', e2, a, e3, h1, h2, h3⟩ := R1.slot i _ e1
        rw [hσ] at e2; cases e2
        split at e
        · rename_i d' e4
          cases e
          obtain ⟨a', e5, h4, h5⟩ := got e4
          rw [e3] at e5; cases e5
          exact ⟨⟨v, hσ, a, e3, h4, h2, h5⟩, fun _ => ⟨_, e1, rfl, fun _ => rfl⟩⟩
        · rename_i d' e4
          cases e
          exact ⟨⟨v, hσ, got e4⟩, fun z => nomatch z⟩
        · cases e
      · rename_i d e1
        rw [List.getElem?_set_self (gi e1)] at e
        have e := Option.some.inj e
        obtain ⟨v', e2, a, e3, h1, h2, h6, h3⟩ := R1.slot i _ e1
        rw [hσ] at e2; cases e2
        split at e
        · rename_i d' e4
          cases e
          obtain ⟨a', e5, h4, h5⟩ := got e4
          rw [e3] at e5; cases e5
          exact ⟨⟨v, hσ, a, e3, h4, h2, h6, h5⟩, fun _ => ⟨_, e1, rfl, fun _ => rfl⟩⟩
        · rename_i d' e4
          cases e
          exact ⟨⟨v, hσ, got e4, h6⟩, fun z => nomatch z⟩
        · cases e
      · -- a shared one
        rename_i n1 n2
        obtain ⟨v', e2, q2⟩ := R1.slot i s e
        obtain ⟨m, d⟩ := s
        cases m with
        | own => exact absurd e (n1 d)
        | par => exact absurd e (n2 d)
        | dat => exact ⟨⟨v', e2, Rep.le fs.le q2⟩, fun z => nomatch z⟩
        | pfz => exact ⟨⟨v', e2, q2.1.le fs.le, q2.2⟩, fun z => nomatch z⟩
        | lck =>
          -- a locked one is not handed over
          exfalso
          obtain ⟨r, hr, hps⟩ := pass_get hp (List.getElem?_eq_getElem (show k < ss.length by omega))
          rw [hk] at hr
          cases hr
          simp only [pass1, e] at hps
          cases hps
        | lam =>
          -- such a one is not handed over
          exfalso
          obtain ⟨r, hr, hps⟩ := pass_get hp (List.getElem?_eq_getElem (show k < ss.length by omega))
          rw [hk] at hr
          cases hr
          simp only [pass1, e] at hps
          cases hps
    · rw [back_out fun r hr j ej z => by subst z; subst ej; exact hi (List.getElem?_of_mem hr)] at e
      obtain ⟨v, e2, q2⟩ := R1.slot i s e
      refine ⟨⟨v, e2, ?_⟩, fun o => ⟨s, e, o, fun z => z⟩⟩
      have keep : s.m.ow = true → ∀ a, v = .ref a → ¬ OwnArg (vs ++ dvs) (ss ++ ds.map fun d => ⟨.dat, d⟩) a := fun o a ev z => by
        subst ev
        obtain ⟨k, t, hv, et, em⟩ := z
        -- the argument is a slot's or a temporary
        by_cases hk : k < ss.length
        · rw [List.getElem?_append_left hk] at et
          rw [List.getElem?_append_left (by omega)] at hv
          obtain ⟨r, hr, hps⟩ := pass_get hp et
          obtain ⟨v', hv', hres⟩ := q.get hr
          rw [hv] at hv'; cases hv'
          rcases pass1_cases hps with ⟨d, rfl, rfl⟩ | ⟨d, rfl, rfl⟩ | ⟨j, m, d, rfl, e1, em', rfl⟩ | ⟨j, m, d, rfl, e1, em', rfl⟩
          · cases em
          · obtain ⟨b, eb, hb, _⟩ := hres
            cases eb
            obtain ⟨o', z⟩ := R.owIn (S.ow ⟨i, s, e, o, e2⟩)
            rw [hb] at z; cases z
          · have ei : i = j := R1.dist i j s _ a e e1 o (Md.ow_of_mut em') e2 hres
            exact hi ⟨k, by rw [ei]; exact hr⟩
          · cases em
        · rw [List.getElem?_append_right (by omega), List.getElem?_map] at et
          cases q : ds[k - ss.length]? with
          | none => rw [q] at et; cases et
          | some d => rw [q] at et; cases et; cases em
      have noF : s.m.ow = true → ∀ a, v = .ref a → F1 a = none → (∃ o, H1 a = some o) → F2 a = none := fun o a ev hF ⟨u, hu⟩ => by
        cases z : F2 a with
        | none => rfl
        | some x =>
          rcases fs.nf a (by rw [z]; simp) with y | y | y
          · exact absurd hF y
          · rw [hu] at y; cases y
          · exact absurd y (keep o a ev)
      have kp : s.m.ow = true → ∀ a, v = .ref a → ∀ o, H1 a = some o → NT o → H2 a = some o := fun o a ev u hu nt => fs.fr a u hu nt (keep o a ev)
      obtain ⟨m, d⟩ := s
      cases m with
      | dat => exact Rep.le fs.le q2
      | pfz => exact ⟨q2.1.le fs.le, q2.2⟩
      | own => obtain ⟨a, e, h1, h2, h3⟩ := q2; exact ⟨a, e, noF rfl a e h1 h3.some, h2, h3.keep fs.le (kp rfl a e)⟩
      | par => obtain ⟨a, e, h1, h2, h4, h3⟩ := q2; exact ⟨a, e, noF rfl a e h1 h3.some, h2, h4, h3.keep fs.le (kp rfl a e)⟩
      | lck => obtain ⟨a, e, h1, h3⟩ := q2; exact ⟨a, e, noF rfl a e h1 h3.some, h3.keep fs.le (kp rfl a e)⟩
      | lam => obtain ⟨a, cvs, ds, c, q, h1, h2, h3, h4, h5⟩ := q2; exact ⟨a, cvs, ds, c, q, h1, h2, h3.le fs.le, h4, fs.fr _ _ h5 (fun _ z => LamX.codeO_ne _ z) fun z => codeArg ar h5 z⟩
  have th1 : ∀ {b}, H1 b = none → H b = none := fun {b} z => by
    cases e : H b with
    | none => rfl
    | some o => exact absurd z (S.th b (by rw [e]; simp))
  refine ⟨⟨fs.sub, fun b o e nt n => ?_, fun b e => fs.th b (R1.there b e), R1.le0.trans fs.le, fun b e => ?_, by rw [back_len]; exact R1.len, fun i s e => (slot i s e).1, fun i j s t a e1 e2 o1 o2 q1 q2 => ?_, fun i a d e => ?_, fs.tab⟩, ⟨S.le.trans fs.le, fun b o e nt n => ?_, fun b e => ?_, fun b e => fs.th b (S.th b e), fun i s e o => ?_⟩⟩
  · refine fs.fr b o (R1.base b o e nt n) nt fun z => ?_
    rcases oa b z with y | y
    · exact R.there b (by rw [e]; simp) y
    · obtain ⟨k, t, z1, z2, z3⟩ := y
      obtain ⟨v, z4, z5⟩ := R1.slot k t z1
      rw [z3] at z4; cases z4
      obtain ⟨m, d⟩ := t
      cases m with
      | own => obtain ⟨a, ea, _, h2, _⟩ := z5; cases ea; rw [h2] at e; cases e
      | par => obtain ⟨a, ea, _, h2, _⟩ := z5; cases ea; exact n h2
      | _ => cases z2
  · rcases fs.nf b e with z | z | z
    · exact R1.nf0 b z
    · exact .inr (.inl (R.fresh (th1 z)))
    · rcases oa b z with y | y
      · exact .inr (.inl (R.fresh y))
      · obtain ⟨k, t, z1, z2, z3⟩ := y
        obtain ⟨v, z4, z5⟩ := R1.slot k t z1
        rw [z3] at z4; cases z4
        obtain ⟨m, d⟩ := t
        cases m with
        | own => obtain ⟨a, ea, _, h2, _⟩ := z5; cases ea; exact .inr (.inl h2)
        | par => obtain ⟨a, ea, _, h2, _⟩ := z5; cases ea; exact .inr (.inr h2)
        | _ => cases z2
  · obtain ⟨s1, a1, a2, _⟩ := (slot i s e1).2 o1
    obtain ⟨t1, b1, b2, _⟩ := (slot j t e2).2 o2
    exact R1.dist i j s1 t1 a a1 b1 a2 b2 q1 q2
  · obtain ⟨z1, z2⟩ := R1.lok i a d e
    refine ⟨?_, z2⟩
    rw [back_out]
    · exact z1
    · intro r hr j ej z
      subst z
      subst ej
      obtain ⟨k, hk⟩ := List.getElem?_of_mem hr
      obtain ⟨r', hr', hps⟩ := pass_get hp (List.getElem?_eq_getElem (show k < ss.length by
        have := (List.getElem?_eq_some_iff.mp hk).1
        omega))
      rw [hk] at hr'
      cases hr'
      simp only [pass1, z1] at hps
      cases hps
  · refine fs.fr b o (S.fr b o e nt n) nt fun z => ?_
    rcases oa' b z with y | y
    · rw [y] at e; cases e
    · exact n y
  · rcases fs.nf b e with z | z | z
    · exact S.nf b z
    · exact .inr (.inl (th1 z))
    · exact .inr (oa' b z)
  · obtain ⟨s1, a1, a2, a3⟩ := (slot i s e).2 o
    obtain ⟨s0, b1, b2, b3⟩ := S.ol i s1 a1 a2
    exact ⟨s0, b1, b2, fun z => b3 (a3 z)⟩
end
section
variable {X : Cx} {w : Wd} {W : WX} {e : Expr} {es : List Expr} {cs : M (List Rv)} {fn : FS} {ds : List D} {dvs : List V} {n k : Nat} {f : Addr} {fd : FuncData} {ps : List Str} {dus : List Value} {x : Str} {p pos : Pos}
/-- a call from here on: the arguments are there -/
theorem call_core {g : Gx} {F F1 H H1 : Hp} {Γ Γ1 : EnD} {σ : St} {vs : List V} {rs : List Rv} {Q : VK} (hfn : ∀ ss, fn ss ≠ .no → ss.length = n) (R : Rel w g F Γ σ H) (S1 : Step Γ σ F H Γ1 F1 H1) (R1 : Rel w g F1 Γ1 σ H1) (q1 : ResNs w F1 σ H H1 vs rs)
    (hdv : Reps w F1 dvs ds) (p1 : Post w W (ResN w) g F Γ σ H Q (mCallR fn ds rs Γ1)) : spF w n fn (vs ++ dvs) H1 Q (fun cls d H => W cls d σ H) := by
  unfold mCallR at p1
  by_cases ho : once rs = true
  · rw [if_pos ho] at p1
    obtain ⟨ss, hp, p1⟩ := p1.opt
    have hl : fn (ss ++ ds.map fun d => ⟨.dat, d⟩) ≠ .no → (vs ++ dvs).length = n := fun z => by
      have := hfn _ z
      rw [List.length_append, List.length_map] at this
      rw [List.length_append, q1.len, pass_len hp, hdv.length]
      exact this
    cases hf : fn (ss ++ ds.map fun d => ⟨.dat, d⟩) with
    | no => rw [hf] at p1; exact p1.elim
    | ex x outs =>
      rw [hf] at p1
      refine ⟨hl (by rw [hf]; exact fun z => nomatch z), F1, _, R1.sub, R1.tab, (args_ok R S1 R1 q1 ho hp hdv).1, ?_⟩
      rw [hf]
      intro cls d H2 F2 fs ho2 X2
      obtain ⟨R2, S2⟩ := back_ok R S1 R1 q1 ho hp hdv fs ho2
      exact p1 cls d H2 F2 S2 R2 X2
    | ok r outs =>
      rw [hf] at p1
      refine ⟨hl (by rw [hf]; exact fun z => nomatch z), F1, _, R1.sub, R1.tab, (args_ok R S1 R1 q1 ho hp hdv).1, ?_⟩
      rw [hf]
      intro v H2 F2 fs ho2 rt
      obtain ⟨R2, S2⟩ := back_ok R S1 R1 q1 ho hp hdv fs ho2
      refine p1 v H2 F2 S2 R2 ?_
      cases r with
      | dat d => exact rt
      | var i => exact rt.elim
      | own d =>
        obtain ⟨a, ea, h1, h2, h3⟩ := rt
        refine ⟨a, ea, ?_, h2, h3⟩
        cases q : H a with
        | none => rfl
        | some o => exact absurd h1 (S1.th a (by rw [q]; simp))
  · rw [if_neg ho] at p1; exact p1.elim
theorem call_main (hfn : ∀ ss, fn ss ≠ .no → ss.length = n) (hdv : ∀ F, Reps w F dvs ds) : ∀ σ H Q, T w W (mCall fn ds cs) σ H Q → tCallSD (spF w n fn) dvs (fun σ cls d H => W cls d σ H) (TL w W cs) σ H Q := by
  rintro σ H Q ⟨g, F, Γ, R, p⟩
  exact ⟨g, F, Γ, R, Post.bind (Step.refl ..) p fun rs Γ1 _ p1 vs H1 F1 S1 R1 q1 => call_core hfn R S1 R1 q1 (hdv F1) p1⟩
end
end PD

/-! PD11: calls of the text's defs: by place, by name, with defaults. -/
namespace PD
open PySem PySem.Spec L2
theorem fnD_len {np n : Nat} {b : M Fl} : ∀ ss, fnD np n b ss ≠ .no → ss.length = np := fun ss h => by
  unfold fnD at h
  split at h
  · rename_i q; exact q.1
  · exact absurd rfl h
section
variable {w : Wd} {F : Hp} {σ : St} {H H1 H2 : Hp}
theorem mem_ownAs_get : ∀ {vs : List V} {rs : List Rv} {a : Addr}, a ∈ ownAs vs rs → ∃ (k : Nat) (d : D), vs[k]? = some (.ref a) ∧ rs[k]? = some (.own d)
  | [], _, a, h => by cases h
  | _ :: _, [], a, h => by cases h
  | v :: vs, r :: rs, a, h => by
    simp only [ownAs, List.mem_append] at h
    rcases h with h | h
    · cases v <;> cases r <;> simp [ownA] at h
      subst h
      exact ⟨0, _, rfl, rfl⟩
    · obtain ⟨k, d, h1, h2⟩ := mem_ownAs_get h
      exact ⟨k + 1, d, by simpa using h1, by simpa using h2⟩
theorem ResNs.of : ∀ {vs : List V} {rs : List Rv}, vs.length = rs.length → (∀ (k : Nat) (r : Rv), rs[k]? = some r → ∃ v, vs[k]? = some v ∧ ResN w F σ H H1 v r) →
    (∀ (i j : Nat) (a : Addr) (d e : D), rs[i]? = some (.own d) → rs[j]? = some (.own e) → vs[i]? = some (.ref a) → vs[j]? = some (.ref a) → i = j) → ResNs w F σ H H1 vs rs
  | [], [], _, _, _ => trivial
  | [], _ :: _, h, _, _ => by cases h
  | _ :: _, [], h, _, _ => by cases h
  | v :: vs, r :: rs, hl, hg, hd => by
    refine ⟨?_, ResNs.of (by simpa using hl) (fun k r' e => by simpa using hg (k + 1) r' (by simpa using e)) (fun i j a d e h1 h2 h3 h4 => ?_), fun a ea hm => ?_⟩
    · obtain ⟨v', e, q⟩ := hg 0 r rfl
      cases e; exact q
    · have := hd (i + 1) (j + 1) a d e (by simpa using h1) (by simpa using h2) (by simpa using h3) (by simpa using h4)
      omega
    · obtain ⟨k, d, h1, h2⟩ := mem_ownAs_get hm
      cases v <;> cases r <;> simp [ownA] at ea
      subst ea
      have := hd 0 (k + 1) _ _ d rfl (by simpa using h2) rfl (by simpa using h1)
      omega
theorem permL_get {α : Type} {l : List α} : ∀ {p : List Nat} {k : Nat} {x : α}, (∀ i ∈ p, i < l.length) → (permL p l)[k]? = some x → ∃ i, p[k]? = some i ∧ l[i]? = some x
  | [], k, x, _, h => by simp [permL] at h
  | i :: p, k, x, hp, h => by
    have hi : i < l.length := hp i List.mem_cons_self
    have e : permL (i :: p) l = l[i] :: permL p l := by
      unfold permL
      rw [List.filterMap_cons, List.getElem?_eq_getElem hi]
    rw [e] at h
    cases k with
    | zero => simp at h; subst h; exact ⟨i, rfl, List.getElem?_eq_getElem hi⟩
    | succ k =>
      obtain ⟨j, h1, h2⟩ := permL_get (p := p) (k := k) (fun j hj => hp j (List.mem_cons_of_mem _ hj)) (by simpa using h)
      exact ⟨j, by simpa using h1, h2⟩
theorem permL_len {α : Type} {l : List α} : ∀ {p : List Nat}, (∀ i ∈ p, i < l.length) → (permL p l).length = p.length
  | [], _ => rfl
  | i :: p, hp => by
    have hi : i < l.length := hp i List.mem_cons_self
    have e : permL (i :: p) l = l[i] :: permL p l := by
      unfold permL
      rw [List.filterMap_cons, List.getElem?_eq_getElem hi]
    rw [e, List.length_cons, List.length_cons, permL_len fun j hj => hp j (List.mem_cons_of_mem _ hj)]
theorem permL_at {α : Type} {l : List α} {p : List Nat} {k i : Nat} (hp : ∀ i ∈ p, i < l.length) (h : p[k]? = some i) : (permL p l)[k]? = l[i]? := by
  have hk : k < p.length := (List.getElem?_eq_some_iff.mp h).1
  have hk2 : k < (permL p l).length := by rw [permL_len hp]; exact hk
  obtain ⟨j, h1, h2⟩ := permL_get hp (List.getElem?_eq_getElem hk2)
  rw [h] at h1; cases h1
  rw [h2, List.getElem?_eq_getElem hk2]
theorem perm_vals {p : List Nat} {n : Nat} : ∀ {vs : List V} {us : List Value}, Vals vs us → Vals (permL p vs) (permL p us) := fun {vs us} r => by
  induction p with
  | nil => exact .nil
  | cons i p ih =>
    unfold permL
    rw [List.filterMap_cons, List.filterMap_cons]
    by_cases hi : i < vs.length
    · rw [List.getElem?_eq_getElem hi]
      obtain ⟨u, hu, ru⟩ := r.get (List.getElem?_eq_getElem hi)
      rw [hu]
      exact .cons ru ih
    · rw [List.getElem?_eq_none (by omega), List.getElem?_eq_none (by have := r.length; omega)]
      exact ih
/-- arguments put in another order -/
theorem ResNs.perm {p : List Nat} {vs : List V} {rs : List Rv} (h : ResNs w F σ H H1 vs rs) (hn : p.Nodup) (hp : ∀ i ∈ p, i < rs.length) : ResNs w F σ H H1 (permL p vs) (permL p rs) := by
  have hp' : ∀ i ∈ p, i < vs.length := fun i hi => by rw [h.len]; exact hp i hi
  refine ResNs.of (by rw [permL_len hp, permL_len hp']) (fun k r e => ?_) (fun i j a d e h1 h2 h3 h4 => ?_)
  · obtain ⟨i, e1, e2⟩ := permL_get hp e
    obtain ⟨v, e3, q⟩ := h.get e2
    exact ⟨v, by rw [permL_at hp' e1]; exact e3, q⟩
  · obtain ⟨i', a1, a2⟩ := permL_get hp h1
    obtain ⟨j', b1, b2⟩ := permL_get hp h2
    rw [permL_at hp' a1] at h3
    rw [permL_at hp' b1] at h4
    have := h.dist a2 b2 h3 h4
    subst this
    have hi : i < p.length := (List.getElem?_eq_some_iff.mp a1).1
    have hj : j < p.length := (List.getElem?_eq_some_iff.mp b1).1
    rw [List.getElem?_eq_getElem hi] at a1
    rw [List.getElem?_eq_getElem hj] at b1
    exact (List.getElem_inj hn).mp (by rw [Option.some.inj a1, Option.some.inj b1])
theorem ResNs.ofD : ∀ {vs : List V} {ds : List D}, Reps w F vs ds → ResNs w F σ H H1 vs (ds.map Rv.dat)
  | _, _, .nil => trivial
  | _, _, .cons r t => ⟨r, ResNs.ofD t, fun a ea => by rename_i v vs d ds; cases v <;> cases ea⟩
/-- arguments one behind another -/
theorem ResNs.app {g : Gx} {F1 F2 : Hp} {Γ Γ1 Γ2 : EnD} {F0 : Hp} {vs zs : List V} {rs qs : List Rv} (R : Rel w g F0 Γ σ H) (S1 : Step Γ σ F0 H Γ1 F1 H1) (S2 : Step Γ1 σ F1 H1 Γ2 F2 H2) (h : ResNs w F1 σ H H1 vs rs) (k : ResNs w F2 σ H1 H2 zs qs) : ResNs w F2 σ H H2 (vs ++ zs) (rs ++ qs) := by
  have l1 := h.len
  have l2 := k.len
  have atL : ∀ {i : Nat} {r : Rv}, (rs ++ qs)[i]? = some r → (i < rs.length ∧ rs[i]? = some r) ∨ (rs.length ≤ i ∧ qs[i - rs.length]? = some r) := fun {i r} e => by
    by_cases hi : i < rs.length
    · rw [List.getElem?_append_left hi] at e; exact .inl ⟨hi, e⟩
    · rw [List.getElem?_append_right (by omega)] at e; exact .inr ⟨by omega, e⟩
  have vL : ∀ {i}, i < rs.length → (vs ++ zs)[i]? = vs[i]? := fun {i} h => List.getElem?_append_left (by omega)
  have vR : ∀ {i}, rs.length ≤ i → (vs ++ zs)[i]? = zs[i - rs.length]? := fun {i} h => by rw [List.getElem?_append_right (by omega), l1]
  have frs : ∀ {i : Nat} {d : D} {a : Addr}, qs[i]? = some (.own d) → zs[i]? = some (.ref a) → H1 a = none := fun {i d a} e1 e2 => by
    obtain ⟨v, e3, b, e4, e5, _⟩ := k.get e1
    rw [e2] at e3; cases e3; cases e4; exact e5
  have old : ∀ {i : Nat} {d : D} {a : Addr}, rs[i]? = some (.own d) → vs[i]? = some (.ref a) → ∃ o, H1 a = some o := fun {i d a} e1 e2 => by
    obtain ⟨v, e3, b, e4, e5, e6, e7⟩ := h.get e1
    rw [e2] at e3; cases e3; cases e4; exact e7.some
  refine ResNs.of (by rw [List.length_append, List.length_append, l1, l2]) (fun i r e => ?_) (fun i j a d e h1 h2 h3 h4 => ?_)
  · rcases atL e with ⟨hi, e⟩ | ⟨hi, e⟩
    · obtain ⟨v, a, b⟩ := h.get e
      exact ⟨v, by rw [vL hi]; exact a, b.later R S1 S2⟩
    · obtain ⟨v, a, b⟩ := k.get e
      exact ⟨v, by rw [vR hi]; exact a, b.early S1.th⟩
  · rcases atL h1 with ⟨i1, e1⟩ | ⟨i1, e1⟩
    · rw [vL i1] at h3
      rcases atL h2 with ⟨j1, e2⟩ | ⟨j1, e2⟩
      · rw [vL j1] at h4
        exact h.dist e1 e2 h3 h4
      · rw [vR j1] at h4
        obtain ⟨o, q⟩ := old e1 h3
        rw [frs e2 h4] at q; cases q
    · rw [vR i1] at h3
      rcases atL h2 with ⟨j1, e2⟩ | ⟨j1, e2⟩
      · rw [vL j1] at h4
        obtain ⟨o, q⟩ := old e2 h4
        rw [frs e1 h3] at q; cases q
      · rw [vR j1] at h4
        have := k.dist e1 e2 h3 h4
        omega
end
/-! ### the rules -/
section
variable {X : Cx} {w : Wd} {W : WX} {e : Expr} {es : List Expr} {cs cs2 : M (List Rv)} {ce : M Rv} {fn : FS} {ds : List D} {dvs : List V} {n m k j : Nat} {f : Addr} {fd : FuncData} {ps ks : List Str} {dus : List Value} {x : Str} {p pos kpos : Pos} {kws : List Keyword} {nm : Option Str}
theorem run_fnG {pins : List (Addr × Obj)} {σ : St} {H : Hp} {s : Shared} {Q : VK} {us : List Value} {vs : List V} {sp : Sp} {E : XK} (Fk : FnG X.prog X.w X.K X.mg X.base k f fd ps sp) (hr : Room k X.A) (gd : X.A.guards = some []) (hb : Binds X.K fd ps dus) (hd : Vals dvs dus) (hx : PassesAt (L2.CX X.prog X.w) X σ E)
    (I : Inv X pins σ H s) (r : Vals vs us) (h : sp (vs ++ dvs) H Q E) : wpAny (model X.prog X.w) X.A (call (.ref f) us) (EP X pins σ Q) X.xe s := by
  have r2 : Vals (vs ++ dvs) (us ++ dus) := r.append hd
  have hl : (us ++ dus).length = ps.length := by rw [← r2.length]; exact Fk.len _ _ _ _ h
  refine wpAny_call (codeAny_mono (Fk.run X.A X.stack s H ⟨us, []⟩ (us ++ dus) (vs ++ dvs) Q E hr gd I.env0 (hb s us I.kIn hl) r2 h) fun r s' hq => ?_)
  cases r with
  | error e => exact hx pins H s e s' I hq
  | ok fl =>
    cases fl with
    | ret u => exact I.after hq
    | next => exact False.elim hq
    | brk => exact False.elim hq
    | cont => exact False.elim hq
theorem pe_callSG {sp : Sp} {E : St → XK} {t : TA} (Fk : FnG X.prog X.w X.K X.mg X.base k f fd ps sp) (hr : Room k X.A) (gd : X.A.guards = some []) (hg : Gl X x) (hm : X.mg x = some (.ref f)) (hk : PySem.W.keepIn X.K (.ref f) = true) (hb : Binds X.K fd ps dus) (hd : Vals dvs dus) (hx : ∀ σ, PassesAt (L2.CX X.prog X.w) X σ (E σ))
    (ha : PA X (e :: es) t) (hdb : (x == ("__debug__" : Str)) = false := by decide) (he : starEach (e :: es) X.env = (false, eval e X.env) :: starEach es X.env := by rfl) (hpl : (backTo pos (starEach es X.env)).any (·.1) = false := by rfl) :
    PE X (.Call (.Name x p) (e :: es) [] pos) (tCallSD sp dvs E t) := by
  refine ⟨fun pins s σ H Q I h => ?_⟩
  refine wpAny_Call_Name_kw (ld_glob I hg hm ?_ hdb)
  refine PySem.W.callWith_K (h₀ := X.base) I.ok.mod.kin hk (thn (ha.run pos pins s σ H _ I h) fun us s1 ⟨vs, H1, I1, r, q⟩ => ⟨I1.kIn, ?_⟩) he hpl
  exact run_fnG Fk hr gd hb hd (hx σ) I1 r q
/-- f(e, ..), the defaults ds fill up -/
theorem d_callD (tk : Takes X W) (Fk : FnG X.prog X.w X.K X.mg X.base k f fd ps (spF w n fn)) (hr : Room j X.A) (gd : X.A.guards = some []) (hkj : k ≤ j) (hg : Gl X x) (hm : X.mg x = some (.ref f)) (hk : PySem.W.keepIn X.K (.ref f) = true) (hb : Binds X.K fd ps dus) (hd : Vals dvs dus) (hdv : ∀ F, Reps w F dvs ds) (hfn : ∀ ss, fn ss ≠ .no → ss.length = n)
    (ha : PA X (e :: es) (TL w W cs)) (hdb : (x == ("__debug__" : Str)) = false := by decide) (he : starEach (e :: es) X.env = (false, eval e X.env) :: starEach es X.env := by rfl) (hpl : (backTo pos (starEach es X.env)).any (·.1) = false := by rfl) :
    PE X (.Call (.Name x p) (e :: es) [] pos) (T w W (mCall fn ds cs)) :=
  (pe_callSG (E := fun σ cls d H => W cls d σ H) Fk (hr.mono hkj) gd hg hm hk hb hd (fun σ => passAt tk σ) ha hdb he hpl).imp (call_main hfn hdv)
/-- f(e, ..) -/
theorem d_call (tk : Takes X W) (Fk : FnG X.prog X.w X.K X.mg X.base k f fd ps (spF w n fn)) (hr : Room j X.A) (gd : X.A.guards = some []) (hkj : k ≤ j) (hg : Gl X x) (hm : X.mg x = some (.ref f)) (hk : PySem.W.keepIn X.K (.ref f) = true) (hb : Binds X.K fd ps []) (hfn : ∀ ss, fn ss ≠ .no → ss.length = n)
    (ha : PA X (e :: es) (TL w W cs)) (hdb : (x == ("__debug__" : Str)) = false := by decide) (he : starEach (e :: es) X.env = (false, eval e X.env) :: starEach es X.env := by rfl) (hpl : (backTo pos (starEach es X.env)).any (·.1) = false := by rfl) :
    PE X (.Call (.Name x p) (e :: es) [] pos) (T w W (mCall fn [] cs)) := d_callD tk Fk hr gd hkj hg hm hk hb .nil (fun _ => .nil) hfn ha hdb he hpl
/-! by name -/
theorem k_nil : PK X [] (TL w W aNil) := ⟨fun pos pins s σ H Q I ⟨g, F, Γ, R, h⟩ => pk_nil.run pos pins s σ H Q I (h [] H F (Step.refl ..) R trivial)⟩
theorem k_cons (ha : PE X e (T w W ce)) (hs : PK X kws (TL w W cs)) : PK X (⟨nm, e, kpos⟩ :: kws) (TL w W (aCons ce cs)) := by
  refine ⟨fun pos pins s σ H Q I h => (pk_cons ha hs).run pos pins s σ H Q I ?_⟩
  obtain ⟨g, F, Γ, R, p⟩ := h
  refine ⟨g, F, Γ, R, Post.bind (Step.refl ..) p fun r1 Γ1 _ p1 x H1 F1 S1 R1 q1 => ?_⟩
  refine ⟨g, F1, Γ1, R1, Post.bind S1 p1 fun rs Γ2 _ p2 xs H2 F2 S2 R2 q2 => ?_⟩
  refine p2 (x :: xs) H2 F2 (S1.trans S2) R2 ⟨q1.later R S1 S2, q2.early S1.th, fun a ea hm => ?_⟩
  obtain ⟨n, _⟩ := ownAs_some q2 hm
  cases r1 with
  | own d =>
    obtain ⟨b, rfl, h1, h2, h3⟩ := q1
    cases ea
    obtain ⟨o, q⟩ := h3.some
    rw [n] at q; cases q
  | dat d => cases x <;> cases ea
  | var i => cases x <;> cases ea
variable {g : List Value → List Value → List Value} {gV : List V → List V → List V}
def tCallKS (n m : Nat) (sp : Sp) (gV : List V → List V → List V) (E : St → XK) (t tk : TA) : TE := fun σ H Q => t σ H fun vs H1 => tk σ H1 fun zs H2 => vs.length = n ∧ zs.length = m ∧ sp (gV vs zs) H2 Q (E σ)
theorem run_fnKS {pins : List (Addr × Obj)} {σ : St} {H : Hp} {s : Shared} {Q : VK} {us ws : List Value} {vs zs : List V} {sp : Sp} {E : XK} (Fk : FnG X.prog X.w X.K X.mg X.base k f fd ps sp) (hr : Room k X.A) (gd : X.A.guards = some []) (hb : KBn X.K fd ps n ks g gV) (hx : PassesAt (L2.CX X.prog X.w) X σ E)
    (I : Inv X pins σ H s) (r : Vals vs us) (rz : Vals zs ws) (l1 : vs.length = n) (l2 : zs.length = ks.length) (h : sp (gV vs zs) H Q E) : wpAny (model X.prog X.w) X.A (call (.ref f) us (ks.zip ws)) (EP X pins σ Q) X.xe s := by
  have r2 := hb.rel r rz
  refine wpAny_call (codeAny_mono (Fk.run X.A X.stack s H ⟨us, ks.zip ws⟩ (g us ws) (gV vs zs) Q E hr gd I.env0 (hb.to s us ws I.kIn (r.length.symm.trans l1) (rz.length.symm.trans l2)) r2 h) fun r s' hq => ?_)
  cases r with
  | error e => exact hx pins H s e s' I hq
  | ok fl =>
    cases fl with
    | ret u => exact I.after hq
    | next => exact False.elim hq
    | brk => exact False.elim hq
    | cont => exact False.elim hq
theorem pe_callKS0 {sp : Sp} {E : St → XK} {tk : TA} (Fk : FnG X.prog X.w X.K X.mg X.base k f fd ps sp) (hr : Room k X.A) (gd : X.A.guards = some []) (hg : Gl X x) (hm : X.mg x = some (.ref f)) (hk : PySem.W.keepIn X.K (.ref f) = true) (hb : KBn X.K fd ps 0 ks g gV) (hx : ∀ σ, PassesAt (L2.CX X.prog X.w) X σ (E σ))
    (hkw : PK X kws tk) (hall : (backToKw pos (keywordEach kws X.env)).all (·.1.isSome) = true := by rfl) (hks : (backToKw pos (keywordEach kws X.env)).filterMap (·.1) = ks := by rfl)
    (hdb : (x == ("__debug__" : Str)) = false := by decide)
    (hpl : ((backTo pos (starEach [] X.env)).any (·.1) || (backToKw pos (keywordEach kws X.env)).any (·.1.isNone)) = false := by rfl) :
    PE X (.Call (.Name x p) [] kws pos) (tCallKS 0 ks.length sp gV E tNil tk) := by
  refine ⟨fun pins s σ H Q I h => ?_⟩
  refine wpAny_Call_Name_kw (ld_glob I hg hm ?_ hdb)
  refine PySem.W.callWith_KW0 (h₀ := X.base) I.ok.mod.kin hk hall ?_ hpl
  refine thn (hkw.run pos pins s σ H _ I h) fun ws s2 ⟨zs, H2, I2, rz, l1, l2, q2⟩ => ⟨I2.kIn, ?_⟩
  rw [hks]
  exact run_fnKS (us := []) (vs := []) Fk hr gd hb (hx σ) I2 .nil rz rfl l2 q2
theorem pe_callKS {sp : Sp} {E : St → XK} {t tk : TA} (Fk : FnG X.prog X.w X.K X.mg X.base k f fd ps sp) (hr : Room k X.A) (gd : X.A.guards = some []) (hg : Gl X x) (hm : X.mg x = some (.ref f)) (hk : PySem.W.keepIn X.K (.ref f) = true) (hb : KBn X.K fd ps n ks g gV) (hx : ∀ σ, PassesAt (L2.CX X.prog X.w) X σ (E σ))
    (ha : PA X (e :: es) t) (hkw : PK X kws tk) (hall : (backToKw pos (keywordEach kws X.env)).all (·.1.isSome) = true := by rfl) (hks : (backToKw pos (keywordEach kws X.env)).filterMap (·.1) = ks := by rfl)
    (hdb : (x == ("__debug__" : Str)) = false := by decide) (he : starEach (e :: es) X.env = (false, eval e X.env) :: starEach es X.env := by rfl)
    (hpl : ((backTo pos (starEach (e :: es) X.env)).any (·.1) || (backToKw pos (keywordEach kws X.env)).any (·.1.isNone)) = false := by rfl) :
    PE X (.Call (.Name x p) (e :: es) kws pos) (tCallKS n ks.length sp gV E t tk) := by
  refine ⟨fun pins s σ H Q I h => ?_⟩
  refine wpAny_Call_Name_kw (ld_glob I hg hm ?_ hdb)
  refine PySem.W.callWith_KW (h₀ := X.base) I.ok.mod.kin hk hall (thn (ha.run pos pins s σ H _ I h) fun us s1 ⟨vs, H1, I1, r, q⟩ => ?_) hpl he
  refine thn (hkw.run pos pins s1 σ H1 _ I1 q) fun ws s2 ⟨zs, H2, I2, rz, l1, l2, q2⟩ => ⟨I2.kIn, ?_⟩
  rw [hks]
  exact run_fnKS Fk hr gd hb (hx σ) I2 r rz l1 l2 q2
theorem callK_main {pp : List Nat} (hpn : pp.Nodup) (hpp : ∀ i ∈ pp, i < n + (m + ds.length)) (hfn : ∀ ss, fn ss ≠ .no → ss.length = j) (hdv : ∀ F, Reps w F dvs ds) : ∀ σ H Q, T w W (mCallK pp n m fn ds cs cs2) σ H Q →
    tCallKS n m (spF w j fn) (fun vs zs => permL pp (vs ++ (zs ++ dvs))) (fun σ cls d H => W cls d σ H) (TL w W cs) (TL w W cs2) σ H Q := by
  rintro σ H Q ⟨g, F, Γ, R, p⟩
  refine ⟨g, F, Γ, R, Post.bind (Step.refl ..) p fun rs Γ1 _ p1 vs H1 F1 S1 R1 q1 => ?_⟩
  refine ⟨g, F1, Γ1, R1, Post.bind S1 p1 fun qs Γ2 _ p2 zs H2 F2 S2 R2 q2 => ?_⟩
  by_cases hl : rs.length = n ∧ qs.length = m
  · rw [if_pos hl] at p2
    refine ⟨q1.len.trans hl.1, q2.len.trans hl.2, ?_⟩
    have A := ResNs.app R S1 S2 q1 q2
    have B : ResNs w F2 σ H H2 ((vs ++ zs) ++ dvs) ((rs ++ qs) ++ ds.map Rv.dat) := ResNs.app R (S1.trans S2) (Step.refl ..) A (ResNs.ofD (hdv F2))
    rw [List.append_assoc, List.append_assoc] at B
    have C := call_core (dvs := []) (ds := []) hfn R (S1.trans S2) R2 (B.perm hpn fun i hi => by
      rw [List.length_append, List.length_append, List.length_map, hl.1, hl.2]
      exact hpp i hi) .nil p2
    rw [List.append_nil] at C
    exact C
  · rw [if_neg hl] at p2; exact p2.elim
/-- f(k = v, ..) -/
theorem d_callK0 {pp : List Nat} {k2 j2 : Nat} (tk : Takes X W) (Fk : FnG X.prog X.w X.K X.mg X.base k f fd ps (spF w j fn)) (hr : Room j2 X.A) (gd : X.A.guards = some []) (hkj : k ≤ j2) (hg : Gl X x) (hm : X.mg x = some (.ref f)) (hk : PySem.W.keepIn X.K (.ref f) = true) (hb : KBn X.K fd ps 0 ks g (fun vs zs => permL pp (vs ++ (zs ++ dvs))))
    (hpn : pp.Nodup) (hpp : ∀ i ∈ pp, i < 0 + (ks.length + ds.length)) (hdv : ∀ F, Reps w F dvs ds) (hfn : ∀ ss, fn ss ≠ .no → ss.length = j)
    (hkw : PK X kws (TL w W cs2)) (hall : (backToKw pos (keywordEach kws X.env)).all (·.1.isSome) = true := by rfl) (hks : (backToKw pos (keywordEach kws X.env)).filterMap (·.1) = ks := by rfl)
    (hdb : (x == ("__debug__" : Str)) = false := by decide)
    (hpl : ((backTo pos (starEach [] X.env)).any (·.1) || (backToKw pos (keywordEach kws X.env)).any (·.1.isNone)) = false := by rfl) :
    PE X (.Call (.Name x p) [] kws pos) (T w W (mCallK pp 0 ks.length fn ds aNil cs2)) :=
  (pe_callKS0 (E := fun σ cls d H => W cls d σ H) Fk (hr.mono hkj) gd hg hm hk hb (fun σ => passAt tk σ) hkw hall hks hdb hpl).imp fun σ H Q h => by
    obtain ⟨g, F, Γ, R, p⟩ := callK_main hpn hpp hfn hdv σ H Q h
    exact p [] H F (Step.refl ..) R trivial
/-- f(e, .., k = v, ..) -/
theorem d_callK {pp : List Nat} {k2 j2 : Nat} (tk : Takes X W) (Fk : FnG X.prog X.w X.K X.mg X.base k f fd ps (spF w j fn)) (hr : Room j2 X.A) (gd : X.A.guards = some []) (hkj : k ≤ j2) (hg : Gl X x) (hm : X.mg x = some (.ref f)) (hk : PySem.W.keepIn X.K (.ref f) = true) (hb : KBn X.K fd ps n ks g (fun vs zs => permL pp (vs ++ (zs ++ dvs))))
    (hpn : pp.Nodup) (hpp : ∀ i ∈ pp, i < n + (ks.length + ds.length)) (hdv : ∀ F, Reps w F dvs ds) (hfn : ∀ ss, fn ss ≠ .no → ss.length = j)
    (ha : PA X (e :: es) (TL w W cs)) (hkw : PK X kws (TL w W cs2)) (hall : (backToKw pos (keywordEach kws X.env)).all (·.1.isSome) = true := by rfl) (hks : (backToKw pos (keywordEach kws X.env)).filterMap (·.1) = ks := by rfl)
    (hdb : (x == ("__debug__" : Str)) = false := by decide) (he : starEach (e :: es) X.env = (false, eval e X.env) :: starEach es X.env := by rfl)
    (hpl : ((backTo pos (starEach (e :: es) X.env)).any (·.1) || (backToKw pos (keywordEach kws X.env)).any (·.1.isNone)) = false := by rfl) :
    PE X (.Call (.Name x p) (e :: es) kws pos) (T w W (mCallK pp n ks.length fn ds cs cs2)) :=
  (pe_callKS (E := fun σ cls d H => W cls d σ H) Fk (hr.mono hkj) gd hg hm hk hb (fun σ => passAt tk σ) ha hkw hall hks hdb he hpl).imp (callK_main hpn hpp hfn hdv)
/-- how a def without defaults binds keywords -/
theorem kb0 {K : PySem.W.Frag} {qual : Str} {st : Stmt} {pp : List Nat} (Fu : Fun K x qual st f fd) (h : ∀ (kV doc pm : Value) (an : Option Addr) (cdv ct : Value) (us ws : List Value), us.length = n → ws.length = ks.length →
      bindArgs (PySem.W.fnOf x qual (defArgs st) (defBody st) (defScope st) .none kV doc pm an cdv ct) ⟨us, ks.zip ws⟩ = pure (ps.zip (permL pp (us ++ (ws ++ []))))) :
    KBn K fd ps n ks (fun us ws => permL pp (us ++ (ws ++ []))) (fun vs zs => permL pp (vs ++ (zs ++ []))) := by
  obtain ⟨oc, od, kV, doc, pm, an, cdv, ct, osl, rfl, lk, hcd⟩ := Fu.ex
  exact ⟨fun s us ws _ l1 l2 => .of_eq (h kV doc pm an cdv ct us ws l1 l2), fun r1 r2 => perm_vals (n := 0) (r1.append (r2.append .nil))⟩
end
end PD

/-! PD12: own classes. -/
namespace PD
open PySem PySem.Spec L2
/-- c(..): a new thing, then __init__ -/
def mMake (c : Nat) (fn : FS) (ds : List D) (as : M (List Rv)) : M Rv := fun Γ => (as Γ).bind fun rs Γ => if once rs = true then R.opt (pass Γ rs) fun ss => match fn (⟨.own, .obj c []⟩ :: (ss ++ ds.map fun d => ⟨.dat, d⟩)) with
  | .ok (.dat .non) (some ⟨.own, o⟩ :: outs) => .ok (.own o) (back Γ rs outs)
  | .ex x (_ :: outs) => .ex x (back Γ rs outs)
  | _ => .no else .no
/-- d.f -/
def fld (c : Nat) (f : Str) : D → Option Rv
  | .obj c' l => if c' = c then (l.lookup f).map .dat else none
  | _ => none
def putD (f : Str) (y : D) : List (Str × D) → List (Str × D)
  | [] => [(f, y)]
  | (g, v) :: r => if g = f then (g, y) :: r else (g, v) :: putD f y r
def setF (c : Nat) (f : Str) (y : D) : D → Option D
  | .obj c' l => if c' = c ∧ l.length < 1000 then some (.obj c' (putD f y l)) else none
  | _ => none
/-- slot.f = value -/
def sFldS (c : Nat) (f : Str) (i : Nat) (a : M Rv) : M Fl := fun Γ => (mFz a Γ).bind fun r Γ => match r with
  | .dat d => (mut1 i (setF c f d) Γ).bind fun _ Γ => .ok .nx Γ
  | _ => .no
section
variable {w : Wd} {F : Hp}
theorem NReps.lookup : ∀ {fs : List (Str × V)} {ds : List (Str × D)} {f : Str} {d : D}, NReps w F fs ds → ds.lookup f = some d → ∃ v, fs.lookup f = some v ∧ Rep w F v d
  | _, _, f, d, .nil, e => by cases e
  | _, _, f, d, .cons (k := k) r t, e => by
    rw [List.lookup] at e ⊢
    cases h : f == k with
    | true => rw [h] at e; cases e; exact ⟨_, rfl, r⟩
    | false => rw [h] at e; exact NReps.lookup t e
theorem NReps.put {y : V} {d : D} {f : Str} (r : Rep w F y d) : ∀ {fs : List (Str × V)} {ds : List (Str × D)}, NReps w F fs ds → NReps w F (putF f y fs) (putD f d ds)
  | _, _, .nil => .cons r .nil
  | _, _, .cons (k := k) q t => by
    unfold putF putD
    by_cases h : k = f
    · rw [if_pos h, if_pos h]; exact .cons r t
    · rw [if_neg h, if_neg h]; exact .cons q (NReps.put r t)
theorem NReps.length : ∀ {fs : List (Str × V)} {ds : List (Str × D)}, NReps w F fs ds → fs.length = ds.length
  | _, _, .nil => rfl
  | _, _, .cons _ t => by rw [List.length_cons, List.length_cons, t.length]
end
section
variable {X : Cx} {w : Wd} {W : WX} {e o value : Expr} {es : List Expr} {ce ca : M Rv} {cs : M (List Rv)} {fn : FS} {ds : List D} {dvs : List V} {n k j c : Nat} {fa : Addr} {fd : FuncData} {ps : List Str} {dus : List Value} {x f : Str} {p pos pos' : Pos}
/-- e.f -/
theorem d_fld (hK : w.K = X.K) (hc : Cls X.K (w.adr c)) (hn : NoAttr X.K (w.adr c) f) (he : PE X e (T w W ce)) (hb : attributeBase e f X.env (eval e X.env) = eval e X.env) : PE X (.Attribute e f pos) (T w W (m1 (fld c f) ce)) :=
  (pe_fld he hb).imp fun σ H Q ⟨g, F, Γ, R, p⟩ => by
    refine ⟨g, F, Γ, R, Post.bind (Step.refl ..) p fun r1 Γ1 _ p1 x H1 F1 S1 R1 q1 => ?_⟩
    obtain ⟨d, e1, p1⟩ := p1.opt
    obtain ⟨o, e2, p1⟩ := p1.opt
    have vw := (q1.at R S1).view R1 e1
    cases d with
    | obj c' l =>
      simp only [fld] at e2
      by_cases hcc : c' = c
      · rw [if_pos hcc] at e2
        subst hcc
        obtain ⟨d', hl, e2⟩ := Option.map_eq_some_iff.mp e2
        subst e2
        obtain ⟨a, dx, fs, rfl, hH, nr⟩ := vw.obj R1.sub
        obtain ⟨v, hv, rv⟩ := nr.lookup hl
        exact ⟨a, _, dx, fs, v, rfl, hH, hc, hn, hv, p1 v H1 F1 S1 R1 rv⟩
      · rw [if_neg hcc] at e2; cases e2
    | _ => cases e2
/-- name.f = value -/
theorem s_fld {i : Nat} (hc : Cls X.K (w.adr c)) (hn : NoAttr X.K (w.adr c) f) (ho : PE X o (L2.tVar i)) (hv : PE X value (T w W ca)) (hs : swapsWith value (some (.Attribute o f pos')) pos.line X.env = pure false) :
    PS X (.Assign [.Attribute o f pos'] value pos) (TSt w W (sFldS c f i ca)) :=
  (ps_fld ho (d_fz hv) hs).imp fun D σ H ⟨g, F, Γ, R, p⟩ => by
    refine ⟨g, F, Γ, R, SPost.bind (Le.refl _) p fun r1 Γ1 _ p1 y H1 F1 S1 R1 q1 => ?_⟩
    cases r1 with
    | own d => exact p1.elim
    | var j => exact p1.elim
    | dat d =>
      have p2 : SPost w W g F D ((mut1 i (setF c f d) Γ1).bind fun _ Γ => .ok .nx Γ) := p1
      clear p1
      cases hm : mut1 i (setF c f d) Γ1 with
      | no => rw [hm] at p2; exact p2.elim
      | ex x Γ3 => exact (mut1_ex hm).elim
      | ok u Γ3 =>
        rw [hm] at p2
        obtain ⟨a, d0, d1, e1, oa, hf, kk⟩ := mut1_ok R1 hm
        refine ⟨_, e1, ?_⟩
        cases d0 with
        | obj c' l =>
          simp only [setF] at hf
          by_cases hcc : c' = c ∧ l.length < 1000
          · rw [if_pos hcc] at hf
            obtain ⟨hcc, hl⟩ := hcc
            subst hcc
            cases hf
            obtain ⟨dx, fs, hH, nr⟩ := oa
            refine ⟨a, _, dx, fs, rfl, hH, hc, hn, by rw [nr.length]; exact hl, ?_⟩
            obtain ⟨R3, S3⟩ := kk (.ins (w.adr c') dx (putF f y fs)) ⟨dx, _, upd_same, nr.put q1⟩
            exact p2 σ _ F1 S1.le R3
          · rw [if_neg hcc] at hf; cases hf
        | _ => cases hf
/-! ### a new thing -/
theorem gd_make {A : Around} (h : A.guards = some []) (C : Addr) (us : List Value) (kw : List (Str × Value)) : (A.under (.builtin "type.__call__" ⟨.ref C :: us, kw⟩)).guards = some [] := by
  first
    | exact h
    | simpa [Around.under, Code.guards, Code.isGuard, pushGuards] using h
theorem pe_makeS {C : Addr} {E : St → XK} {sp : Sp} {t : TA} (M : Mk X.K C fa) (Fk : FnG X.prog X.w X.K X.mg X.base k fa fd ps sp) (hr : Room (k + 1) X.A) (gd : X.A.guards = some []) (hg : Gl X x) (hm : X.mg x = some (.ref C)) (hb : Binds X.K fd ps dus) (hd : Vals dvs dus) (hx : ∀ σ, PassesAt (L2.CX X.prog X.w) X σ (E σ))
    (ha : PA X (e :: es) t) (hdb : (x == ("__debug__" : Str)) = false := by decide) (he : starEach (e :: es) X.env = (false, eval e X.env) :: starEach es X.env := by rfl) (hpl : (backTo pos (starEach es X.env)).any (·.1) = false := by rfl) :
    PE X (.Call (.Name x p) (e :: es) [] pos) (fun σ H Q => tMake C sp dvs (E σ) t σ H Q) := by
  refine ⟨fun pins s σ H Q I h => ?_⟩
  refine wpAny_Call_Name_kw (ld_glob I hg hm ?_ hdb)
  refine PySem.W.callWith_K (h₀ := X.base) I.ok.mod.kin M.kp (thn (ha.run pos pins s σ H _ I h) fun us s1 ⟨vs, H1, I1, r, q⟩ => ⟨I1.kIn, ?_⟩) he hpl
  have hq := q (s1.heap.objs.size + 1) s1.heap.objs.size (I1.hok.fresh (Nat.le_succ _)) (I1.hok.fresh (Nat.le_refl _)) (Nat.ne_of_lt (Nat.lt_succ_self _))
  have I2 := Inv.made (C := C) I1
  have r2 : Vals (V.ref (s1.heap.objs.size + 1) :: (vs ++ dvs)) (Value.ref (s1.heap.objs.size + 1) :: (us ++ dus)) := .cons rfl (r.append hd)
  have hl : (Value.ref (s1.heap.objs.size + 1) :: us ++ dus).length = ps.length := by
    have e := r2.length
    rw [Fk.len _ _ _ _ hq] at e
    exact e.symm
  refine wpAny_call (make_map (f := fa) I1.kIn M.makes M.init (beq_iff_eq.mp M.fn) (codeAny_mono (Fk.run _ X.stack _ _ ⟨Value.ref (s1.heap.objs.size + 1) :: us, []⟩ (Value.ref (s1.heap.objs.size + 1) :: (us ++ dus)) _ _ (E σ) (hr.make C us []) (gd_make gd C us [])
    (I2.env0.make C us []) (hb _ (Value.ref (s1.heap.objs.size + 1) :: us) I2.kIn hl) r2 hq) fun r s' hq' => ?_))
  cases r with
  | error e => exact hx σ pins _ _ e s' I2 hq'
  | ok fl =>
    cases fl with
    | ret u =>
      obtain ⟨v, H', I3, rv, ev, q3⟩ := I2.after hq'
      subst ev
      exact ⟨rv, ⟨V.ref (s1.heap.objs.size + 1), H', I3, rfl, q3⟩⟩
    | next => exact False.elim hq'
    | brk => exact False.elim hq'
    | cont => exact False.elim hq'
/-- c(e, ..) -/
theorem d_make (tk : Takes X W) (M : Mk X.K (w.adr c) fa) (Fk : FnG X.prog X.w X.K X.mg X.base k fa fd ps (spF w n fn)) (hr : Room j X.A) (gd : X.A.guards = some []) (hkj : k + 1 ≤ j) (hg : Gl X x) (hm : X.mg x = some (.ref (w.adr c))) (hb : Binds X.K fd ps dus) (hd : Vals dvs dus) (hdv : ∀ F, Reps w F dvs ds) (hfn : ∀ ss, fn ss ≠ .no → ss.length = n)
    (ha : PA X (e :: es) (TL w W cs)) (hdb : (x == ("__debug__" : Str)) = false := by decide) (he : starEach (e :: es) X.env = (false, eval e X.env) :: starEach es X.env := by rfl) (hpl : (backTo pos (starEach es X.env)).any (·.1) = false := by rfl) :
    PE X (.Call (.Name x p) (e :: es) [] pos) (T w W (mMake c fn ds cs)) :=
  (pe_makeS (E := fun σ cls d H => W cls d σ H) M Fk (hr.mono hkj) gd hg hm hb hd (fun σ => passAt tk σ) ha hdb he hpl).imp fun σ H Q ⟨g, F, Γ, R, p⟩ => by
    refine ⟨g, F, Γ, R, Post.bind (Step.refl ..) p fun rs Γ1 _ p1 vs H1 F1 S1 R1 q1 => ?_⟩
    intro a dx na nd ne
    by_cases ho : once rs = true
    · rw [if_pos ho] at p1
      obtain ⟨ss, hp, p1⟩ := p1.opt
      obtain ⟨A0, oa⟩ := args_ok R S1 R1 q1 ho hp (hdv F1)
      have ups : ∀ {b}, b ≠ a → b ≠ dx → upd (upd H1 dx (.own a)) a (.ins (w.adr c) dx []) b = H1 b := fun h1 h2 => by rw [upd_ne h1, upd_ne h2]
      have keep : Le H1 (upd (upd H1 dx (.own a)) a (.ins (w.adr c) dx [])) := fun b o e => by rw [ups (ne_of_none e na) (ne_of_none e nd)]; exact e
      have Fa : F1 a = none := by
        cases q : F1 a with
        | none => rfl
        | some o => rw [R1.sub a o q] at na; cases na
      have Fdx : F1 dx = none := by
        cases q : F1 dx with
        | none => rfl
        | some o => rw [R1.sub dx o q] at nd; cases nd
      have sub' : Le F1 (upd (upd H1 dx (.own a)) a (.ins (w.adr c) dx [])) := R1.sub.trans keep
      have tab' : TabF w.T F1 (upd (upd H1 dx (.own a)) a (.ins (w.adr c) dx [])) := ⟨R1.tab.1.ext keep, R1.tab.2⟩
      have arg1 : ∀ {v : V} {s : Sl}, Arg1 w F1 H1 v s → Arg1 w F1 (upd (upd H1 dx (.own a)) a (.ins (w.adr c) dx [])) v s := fun {v s} h => by
        obtain ⟨m, d⟩ := s
        cases m with
        | dat => exact h
        | own => obtain ⟨b, e1, e2, e3⟩ := h; exact ⟨b, e1, e2, e3.keep (Le.refl _) fun o z _ => keep b o z⟩
        | _ => exact h.elim
      have notA : ∀ {i : Nat} {s : Sl}, (ss ++ ds.map fun d => (⟨.dat, d⟩ : Sl))[i]? = some s → s.m = .own → (vs ++ dvs)[i]? ≠ some (.ref a) := fun {i s} e1 hm e2 => by
        obtain ⟨v, e3, q⟩ := A0.arg i s e1
        rw [e2] at e3; cases e3
        obtain ⟨m, d⟩ := s
        cases hm
        obtain ⟨b, e4, e5, e6⟩ := q
        cases e4
        obtain ⟨o, z⟩ := e6.some
        rw [na] at z; cases z
      have A1 : ArgR w F1 (upd (upd H1 dx (.own a)) a (.ins (w.adr c) dx [])) (.ref a :: (vs ++ dvs)) (⟨.own, .obj c []⟩ :: (ss ++ ds.map fun d => ⟨.dat, d⟩)) := by
        refine ⟨by rw [List.length_cons, List.length_cons, A0.len], fun i s e => ?_, fun i j s t b e1 e2 o1 o2 v1 v2 => ?_⟩
        · cases i with
          | zero =>
            cases (show (⟨.own, .obj c []⟩ : Sl) = s by simpa using e)
            exact ⟨.ref a, rfl, a, rfl, Fa, dx, [], upd_same, .nil⟩
          | succ i =>
            obtain ⟨v, e1, q⟩ := A0.arg i s (by simpa using e)
            exact ⟨v, by simpa using e1, arg1 q⟩
        · cases i with
          | zero =>
            have eb : a = b := by simpa using v1
            subst eb
            cases j with
            | zero => rfl
            | succ j => exact absurd (by simpa using v2) (notA (i := j) (by simpa using e2) o2)
          | succ i =>
            cases j with
            | zero =>
              have eb : a = b := by simpa using v2
              subst eb
              exact absurd (by simpa using v1) (notA (i := i) (by simpa using e1) o1)
            | succ j =>
              have := A0.dist i j s t b (by simpa using e1) (by simpa using e2) o1 o2 (by simpa using v1) (by simpa using v2)
              omega
      have oa1 : ∀ b, OwnArg (.ref a :: (vs ++ dvs)) (⟨.own, .obj c []⟩ :: (ss ++ ds.map fun d => ⟨.dat, d⟩)) b → b = a ∨ OwnArg (vs ++ dvs) (ss ++ ds.map fun d => ⟨.dat, d⟩) b := fun b ⟨i, s, e1, e2, hm⟩ => by
        cases i with
        | zero => exact .inl (by simpa using e1.symm)
        | succ i => exact .inr ⟨i, s, by simpa using e1, by simpa using e2, hm⟩
      have step : ∀ {F2 H2}, FStep w.T F1 (upd (upd H1 dx (.own a)) a (.ins (w.adr c) dx [])) (.ref a :: (vs ++ dvs)) (⟨.own, .obj c []⟩ :: (ss ++ ds.map fun d => ⟨.dat, d⟩)) F2 H2 → FStep w.T F1 H1 (vs ++ dvs) (ss ++ ds.map fun d => ⟨.dat, d⟩) F2 H2 := fun {F2 H2} fs => by
        refine ⟨fs.sub, fs.le, fun b o e nt n => fs.fr b o (keep b o e) nt fun z => ?_, fun b e => ?_, fun b e => ?_, fs.tab⟩
        · rcases oa1 b z with y | y
          · subst y; rw [na] at e; cases e
          · exact n y
        · rcases fs.nf b e with z | z | z
          · exact .inl z
          · refine .inr (.inl ?_)
            cases q : H1 b with
            | none => rfl
            | some o => rw [keep b o q] at z; cases z
          · rcases oa1 b z with y | y
            · subst y; exact .inr (.inl na)
            · exact .inr (.inr y)
        · refine fs.th b fun z => e ?_
          cases q : H1 b with
          | none => rfl
          | some o => rw [keep b o q] at z; cases z
      have na0 : H a = none := by
        cases q : H a with
        | none => rfl
        | some o => exact absurd na (S1.th a (by rw [q]; simp))
      have hl : fn (⟨.own, .obj c []⟩ :: (ss ++ ds.map fun d => ⟨.dat, d⟩)) ≠ .no → (V.ref a :: (vs ++ dvs)).length = n := fun z => by
        have := hfn _ z
        rw [List.length_cons, ← A0.len] at this
        rw [List.length_cons]
        exact this
      cases hf : fn (⟨.own, .obj c []⟩ :: (ss ++ ds.map fun d => ⟨.dat, d⟩)) with
      | no => rw [hf] at p1; exact p1.elim
      | ex xn outs =>
        rw [hf] at p1
        cases outs with
        | nil => exact p1.elim
        | cons o0 outs =>
          refine ⟨hl (by rw [hf]; exact fun z => nomatch z), F1, _, sub', tab', A1, ?_⟩
          rw [hf]
          intro cls d H2 F2 fs ho2 X2
          obtain ⟨R2, S2⟩ := back_ok R S1 R1 q1 ho hp (hdv F1) (step fs) fun i s e => by
            obtain ⟨v, e1, q⟩ := ho2 (i + 1) s (by simpa using e)
            exact ⟨v, by simpa using e1, q⟩
          exact p1 cls d H2 F2 S2 R2 X2
      | ok r outs =>
        rw [hf] at p1
        cases r with
        | own d => exact p1.elim
        | var i => exact p1.elim
        | dat d =>
          cases d with
          | non =>
            cases outs with
            | nil => exact p1.elim
            | cons o0 outs =>
              cases o0 with
              | none => exact p1.elim
              | some s0 =>
                obtain ⟨m0, d0⟩ := s0
                cases m0 with
                | own =>
                  refine ⟨hl (by rw [hf]; exact fun z => nomatch z), F1, _, sub', tab', A1, ?_⟩
                  rw [hf]
                  intro v H2 F2 fs ho2 rt
                  cases rt
                  refine ⟨rfl, ?_⟩
                  obtain ⟨R2, S2⟩ := back_ok R S1 R1 q1 ho hp (hdv F1) (step fs) fun i s e => by
                    obtain ⟨v, e1, q⟩ := ho2 (i + 1) s (by simpa using e)
                    exact ⟨v, by simpa using e1, q⟩
                  obtain ⟨v, e1, b, e2, e3, e4⟩ := ho2 0 _ rfl
                  cases e1
                  cases e2
                  exact p1 (.ref a) H2 F2 S2 R2 ⟨a, rfl, na0, e3, e4⟩
                | _ => exact p1.elim
          | _ => exact p1.elim
    · rw [if_neg ho] at p1; exact p1.elim
end
end PD

/-! PD13: a lambda with parameters, handed to a def. -/
namespace PD
open PySem PySem.Spec L2
/-! ### data under another world that names the same things -/
section
variable {w w' : Wd} {F : Hp}
mutual
theorem Rep.wd (hK : w'.K = w.K) (ha : w'.adr = w.adr) : ∀ {v : V} {d : D}, Rep w F v d → Rep w' F v d
  | _, _, .non => .non
  | _, _, .bl b => .bl b
  | _, _, .int i => .int i
  | _, _, .str s => .str s
  | _, _, .tup h r z => .tup (by rw [hK]; exact h) (Reps.wd hK ha r) z
  | _, _, .lst h r z => .lst (by rw [hK]; exact h) (Reps.wd hK ha r) z
  | _, _, .dct h r => .dct h (KReps.wd hK ha r)
  | _, _, .set h a b c => .set h a b c
  | _, _, .obj h r => .obj (by rw [ha]; exact h) (NReps.wd hK ha r)
  | _, _, .glb n => by rw [← ha]; exact .glb n
  | _, _, .ty s => .ty s
  | _, _, .rg h => .rg h
theorem Reps.wd (hK : w'.K = w.K) (ha : w'.adr = w.adr) : ∀ {vs : List V} {ds : List D}, Reps w F vs ds → Reps w' F vs ds
  | _, _, .nil => .nil
  | _, _, .cons r t => .cons (Rep.wd hK ha r) (Reps.wd hK ha t)
theorem KReps.wd (hK : w'.K = w.K) (ha : w'.adr = w.adr) : ∀ {vs : List (Key × V)} {ds : List (Key × D)}, KReps w F vs ds → KReps w' F vs ds
  | _, _, .nil => .nil
  | _, _, .cons r t => .cons (Rep.wd hK ha r) (KReps.wd hK ha t)
theorem NReps.wd (hK : w'.K = w.K) (ha : w'.adr = w.adr) : ∀ {vs : List (Str × V)} {ds : List (Str × D)}, NReps w F vs ds → NReps w' F vs ds
  | _, _, .nil => .nil
  | _, _, .cons r t => .cons (Rep.wd hK ha r) (NReps.wd hK ha t)
end
theorem OwnAt.wd (hK : w'.K = w.K) (ha : w'.adr = w.adr) {H : Hp} {a : Addr} {d : D} (h : OwnAt w F H a d) : OwnAt w' F H a d := by
  cases d with
  | lst ds => obtain ⟨xs, h, r, z⟩ := h; exact ⟨xs, h, r.wd hK ha, z⟩
  | dct ds => obtain ⟨xs, h, r⟩ := h; exact ⟨xs, h, r.wd hK ha⟩
  | set ds => exact h
  | obj c ds => obtain ⟨dx, fs, h, r⟩ := h; exact ⟨dx, fs, by rw [ha]; exact h, r.wd hK ha⟩
  | _ => exact h.elim
end
/-! ### the denotation -/
/-- a call of the lambda that stands in the slot i -/
def mCallL (i : Nat) (fn : FS) (cs : M (List Rv)) : M Rv := fun Γ => match Γ[i]? with
  | some (some ⟨.lam, .tup ds⟩) => mCall fn ds cs Γ
  | _ => .no
def caps (Γ : EnD) : List Nat → Option (List D)
  | [] => some []
  | j :: js => match Γ[j]?, caps Γ js with
    | some (some ⟨.dat, d⟩), some ds => some (d :: ds)
    | some (some ⟨.pfz, d⟩), some ds => some (d :: ds)
    | _, _ => none
/-- a def that is given a value and a lambda -/
def fnL2 (n : Nat) (b : M Fl) : D → List D → Option (Option Rv) := fun d ds => match b (some ⟨.dat, d⟩ :: some ⟨.lam, .tup ds⟩ :: List.replicate (n - 2) none) with
  | .ok (.rt r) _ => some (some r)
  | .ok .nx _ => some none
  | _ => none
def mLam (f : D → List D → Option (Option Rv)) (js : List Nat) (c1 : M Rv) : M Rv := fun Γ => (mFz c1 Γ).bind fun r Γ => match r with
  | .dat d => R.opt (caps Γ js) fun ds => match f d ds with
    | some (some (.dat e)) => .ok (.dat e) Γ
    | some none => .ok (.dat .non) Γ
    | _ => .no
  | _ => .no
/-! ### the lambda made -/
section
variable {X : Cx} {pins : List (Addr × Obj)} {σ : L2.St} {H : Hp} {s : Shared}
open LamX in
theorem lam_make3 {T : List (Addr × Str)} {c P : Addr} {params : Arguments} {body : Expr} {scope : Scope} {pos : Pos} {E : Value → Shared → Prop} {Q : Value → Shared → Prop} (I : Inv X pins σ H s) (TB : TabB X.base X.mg c P) (hcode : X.env.code = .ref c)
    (hm : (P, X.env.qual ++ "<lambda>") ∈ T) (hu : ∀ p ∈ T, p.1 = P → p.2 = X.env.qual ++ "<lambda>") (hT : Tabs T H) (hdef : defaultsOf params X.env = ([], [])) (hfree : ∀ y ∈ scope.names, y.2 = .free → ∃ c, X.env.cells.lookup y.1 = some c)
    (h : ∀ (f c' : Addr) (pm ctv : Value) (H1 : Hp) (s' : Shared), Inv X pins σ H1 s' → (∀ b o, b ≠ P → H b = some o → H1 b = some o) → (∀ b, H1 b = none → H b = none) → Tabs T H1 →
      s'.heap.get? f = some (PySem.W.kla_obj "<lambda>" (X.env.qual ++ "<lambda>") params body scope (cloFrom X.env.cells scope.names []) pm c' ctv) → H1 f = none → f ∉ frs X.stack → H1 c' = some (CodeO c' (X.env.qual ++ "<lambda>")) → Q (.ref f) s') :
    wpAny (model X.prog X.w) X.A (eval (.Lambda params body scope pos) X.env) Q E s := by
  obtain ⟨ps, hP, ht, ha⟩ := hT _ hm
  refine PySem.W.kla_eval hdef ?_
  have bP : s.heap.BuiltinsAt X.mg P := TB.bm.keeps I.bk
  have hP' : s.heap.get? P = some { cls := .none, data := .fields ps } := I.hok P _ hP
  have nofr : ∀ f, s.heap.objs.size ≤ f → f ∉ frs X.stack := fun f hf z => by
    rcases List.mem_cons.mp (I.stkSub _ z) with e | e
    · have h1 := I.lt
      rw [← e] at h1
      exact absurd (Nat.lt_of_lt_of_le h1 hf) (Nat.lt_irrefl _)
    · exact I.nofs hf e
  cases hc : codeAmong pos ps.toList with
  | none =>
    refine PySem.W.kla_makeFunction (mg := X.mg) (c := c) (P := P) (ps := ps) (closure_ok hfree) I.ok.glob (I.mod.glob.keeps I.bk) hcode (TB.code.keeps I.bk) hP' ht hc TB.gP bP fun c' ctv h' tk hx hge hlt hrec htb => ?_
    obtain ⟨c2, oc, vs, t, e2, hoc, hd, hv⟩ := hrec
    cases e2
    have hsz : s.heap.objs.size ≤ h'.objs.size := by omega
    have nC : H c' = none := I.hok.fresh hge
    have I1 := inv_table (t' := tk) (more := #[rawInt pos.line, rawInt pos.col, .ref c']) (h' := h'.push (PySem.W.kla_obj "<lambda>" (X.env.qual ++ "<lambda>") params body scope (cloFrom X.env.cells scope.names []) ((X.mg "__name__").getD .none) c' ctv)) I hP
      (fun b o hb e => Heap.get?_push_of_some _ (hx b o hb e)) (Heap.get?_push_of_some _ htb) hge ⟨oc, vs, t, Heap.get?_push_of_some _ hoc, hd, hv⟩
    have hE : ExtN H (upd (upd H P (.tbl (ps ++ #[rawInt pos.line, rawInt pos.col, .ref c']))) c' (CodeO c' (X.env.qual ++ "<lambda>"))) := fun b o e n => by
      rw [upd_ne (ne_of_none e nC), upd_ne (fun z => n ps (Option.some.inj (e.symm.trans (by rw [z]; exact hP))))]
      exact e
    have eL : (ps ++ #[rawInt pos.line, rawInt pos.col, .ref c']).toList = ps.toList ++ [rawInt pos.line, rawInt pos.col, .ref c'] := by simp
    have hN : ∀ b, upd (upd H P (.tbl (ps ++ #[rawInt pos.line, rawInt pos.col, .ref c']))) c' (CodeO c' (X.env.qual ++ "<lambda>")) b = none → H b = none := fun b e => NdefX.upd_none (NdefX.upd_none e)
    refine h h'.objs.size c' ((X.mg "__name__").getD .none) ctv _ _ I1 (fun b o hb e => by rw [upd_ne (ne_of_none e nC), upd_ne hb]; exact e) hN (fun p hp => ?_) (Heap.get?_push_size _ rfl) ?_ (nofr _ hsz) upd_same
    · by_cases hb : p.1 = P
      · rw [hu p hp hb, hb]
        refine ⟨_, by rw [upd_ne (ne_of_none hP nC), upd_same], by rw [eL]; exact PySem.TriplesOk_snoc _ _ _ _ ht, fun p' cv hcv => ?_⟩
        rw [eL] at hcv
        rcases among_app _ ht hcv with z | z
        · obtain ⟨c0, e1, e2⟩ := ha p' cv z
          exact ⟨c0, e1, hE _ _ e2 codeO_ne⟩
        · exact ⟨c', z, upd_same⟩
      · obtain ⟨ps', a1, a2, a3⟩ := hT p hp
        refine ⟨ps', by rw [upd_ne (ne_of_none a1 nC), upd_ne hb]; exact a1, a2, fun p' cv hcv => ?_⟩
        obtain ⟨c0, e1, e2⟩ := a3 p' cv hcv
        exact ⟨c0, e1, hE _ _ e2 codeO_ne⟩
    · have n1 : h'.objs.size ≠ c' := (Nat.ne_of_lt hlt).symm
      have n2 : h'.objs.size ≠ P := Nat.ne_of_gt (Nat.lt_of_lt_of_le (Heap.lt_size hP') hsz)
      rw [upd_ne n1, upd_ne n2]
      exact I.hok.fresh hsz
  | some cv =>
    obtain ⟨c', e, hco⟩ := ha pos cv hc
    subst e
    refine PySem.W.kla_makeFunctionHit (mg := X.mg) (c := c) (P := P) (ps := ps) (closure_ok hfree) I.ok.glob (I.mod.glob.keeps I.bk) hcode (TB.code.keeps I.bk) hP' ht hc bP fun ctv h' tk hx hsz => ?_
    have I1 : Inv X pins σ H { s with heap := h'.push (PySem.W.kla_obj "<lambda>" (X.env.qual ++ "<lambda>") params body scope (cloFrom X.env.cells scope.names []) ((X.mg "__name__").getD .none) c' ctv), toks := tk } := I.kept fun b o e => Heap.get?_push_of_some _ (hx b o e)
    exact h h'.objs.size c' ((X.mg "__name__").getD .none) ctv H _ I1 (fun _ _ _ e => e) (fun _ e => e) hT (Heap.get?_push_size _ rfl) (I.hok.fresh hsz) (nofr _ hsz) hco
end
/-! ### the lambda called -/
section
variable {P : Program} {wd : World} {K : PySem.W.Frag} {mg : Str → Option Value} {base : Heap} {N ps fr : List Str} {f c : Addr} {qual : Str} {params : Arguments} {body : Expr} {scope : Scope} {cl : List (Str × Addr)}
open NdefX LamX in
theorem lam_run {CX : CXT} {A : Around} {outer : List PySem.Env} {s : Shared} {H : Hp} {E : XK} {us : List Value} {vs : List V} {ws : List (Option V)} {Q : VK} {tb : TE} {k : Nat} {pm ctv : Value} (S : NScope N ps fr scope)
    (hb : bindArgs (PySem.W.kla_fn "<lambda>" qual params body scope cl pm (.ref c) ctv) ⟨us, []⟩ = pure (ps.zip us)) (hr : Room (k + 1) A) (e0 : Env0 P wd K mg base A outer s H)
    (ho : s.heap.get? f = some (PySem.W.kla_obj "<lambda>" qual params body scope cl pm c ctv)) (hc : H c = some (CodeO c qual)) (C : CellsAt cl fr ws s.heap H) (r : Vals vs us) (hl : vs.length = ps.length)
    (hbody : PE (ncx CX P wd K mg base N ⟨"<lambda>", qual, params, [], scope, cl, c⟩ f A outer s H E) body tb) (q : tb (startF N vs ws) H Q) : codeAny (model P wd) A (.call (.ref f) ⟨us, []⟩) (CR CX outer P wd H s Q E) s := by
  have lim : s.heap.NoLimit := e0.mod.nolimit.keeps fun b o e => (e0.bs b o e).1
  refine PySem.W.kla_callFunE hr.depth ho rfl S.co S.gen rfl (codeO_at e0.hok hc) ?_
  rw [hb]
  refine wpAny_pure (wpAny_newFunctionEnv S.nocell (fun ⟨n, _⟩ hy => S.par n (List.of_mem_zip hy).1) (fun h₁ hns hsb => ⟨lim.fresh _ hsb, ?_⟩) S.kind)
  show codeAny _ _ (.expr body (envF ⟨"<lambda>", qual, params, [], scope, cl, c⟩ f s.heap.objs.size)) _ _
  have kp : ∀ b o, s.heap.get? b = some o → h₁.get? b = some o := fun b o e => hsb.extBut b o (Nat.ne_of_lt (Heap.lt_size e)) (Heap.get?_push_of_some _ e)
  have I : Inv (ncx CX P wd K mg base N ⟨"<lambda>", qual, params, [], scope, cl, c⟩ f A outer s H E) [] (startF N vs ws) H { s with heap := h₁, toks := s.toks + (ps.zip us).length } := inv_startN S hr.hd e0 hl r C hns kp
  refine PySem.W.kla_codeExpr (wpAny_mono (hbody.run [] _ _ H Q I q) (fun v s' hq => ?_) fun e s' hq => hq)
  obtain ⟨v', H', J, rv, q2⟩ := hq
  exact ⟨v', H', J.os, J.bare, J.base, J.hok, rv, q2⟩
end
end PD

/-! PD14: the call of the lambda, the call of the def that is given it. -/
namespace PD
open PySem PySem.Spec L2
section
variable {w w' : Wd} {F : Hp}
theorem Arg1.wd (hK : w'.K = w.K) (ha : w'.adr = w.adr) {F H : Hp} {v : V} {s : Sl} (h : Arg1 w F H v s) : Arg1 w' F H v s := by
  obtain ⟨m, d⟩ := s
  cases m with
  | dat => exact Rep.wd hK ha h
  | own => obtain ⟨a, e, h1, h2⟩ := h; exact ⟨a, e, h1, h2.wd hK ha⟩
  | _ => exact h.elim
theorem spF_wd (hK : w'.K = w.K) (ha : w'.adr = w.adr) (hT : w'.T = w.T) {n : Nat} {fn : FS} {vs : List V} {H : Hp} {Q : VK} (h : spF w' n fn vs H Q (fun _ _ _ => False)) : spF w n fn vs H Q (fun _ _ _ => False) := by
  obtain ⟨hl, F, ss, hs, ht, A, p⟩ := h
  refine ⟨hl, F, ss, hs, by rw [← hT]; exact ht, ⟨A.len, fun i s e => ?_, A.dist⟩, ?_⟩
  · obtain ⟨v, e1, q⟩ := A.arg i s e
    exact ⟨v, e1, q.wd hK.symm ha.symm⟩
  · cases hf : fn ss with
    | no => rw [hf] at p; exact p
    | ex x outs =>
      rw [hf] at p
      intro cls d H' F' fs ho hx
      refine p cls d H' F' (by rw [hT]; exact fs) (fun i s e => ?_) ?_
      · obtain ⟨v, e1, q⟩ := ho i s e
        exact ⟨v, e1, q.wd hK ha⟩
      · unfold XRep at hx ⊢
        rw [ha]
        obtain ⟨x1, x2⟩ := hx
        refine ⟨x1, ?_⟩
        cases q : x.d with
        | none => trivial
        | some e =>
          rw [q] at x2
          obtain ⟨dd, v, e1, e2, e3⟩ := x2
          exact ⟨dd, v, e1, e2, e3.wd hK ha⟩
    | ok r outs =>
      rw [hf] at p
      intro v H' F' fs ho hr
      refine p v H' F' (by rw [hT]; exact fs) (fun i s e => ?_) ?_
      · obtain ⟨v, e1, q⟩ := ho i s e
        exact ⟨v, e1, q.wd hK ha⟩
      · cases r with
        | dat d => exact Rep.wd hK ha hr
        | var i => exact hr
        | own d => obtain ⟨a, e, h1, h2, h3⟩ := hr; exact ⟨a, e, h1, h2, h3.wd hK ha⟩
end
/-! ### far: all but the tables stand -/
structure Far (T : List (Addr × Str)) (F H F' H' : Hp) : Prop where
  keep : ∀ b o, H b = some o → NT o → H' b = some o
  le : Le F F'
  sub : Le F' H'
  nf : ∀ b, F' b ≠ none → F b ≠ none ∨ H b = none
  th : ∀ b, H b ≠ none → H' b ≠ none
  tab : TabF T F' H'
section
variable {w : Wd} {g : Gx} {Γ : EnD} {σ : St} {F H F' H' : Hp}
theorem Far.step (n : Far w.T F H F' H') : Step Γ σ F H Γ F' H' := ⟨n.le, fun b o h t _ => n.keep b o h t, fun b h => (n.nf b h).elim .inl fun z => .inr (.inl z), n.th, fun i s h o => ⟨s, h, o, fun z => z⟩⟩
theorem Far.nof (n : Far w.T F H F' H') {a : Addr} (h : F a = none) (hH : ∃ o, H a = some o) : F' a = none := by
  cases e : F' a with
  | none => rfl
  | some o =>
    rcases n.nf a (by rw [e]; simp) with q | q
    · exact absurd h q
    · obtain ⟨o', e'⟩ := hH
      rw [q] at e'; cases e'
theorem Rel.far (r : Rel w g F Γ σ H) (n : Far w.T F H F' H') : Rel w g F' Γ σ H' where
  sub := n.sub
  base := fun b o h t p => n.keep b o (r.base b o h t p) t
  there := fun b h => n.th b (r.there b h)
  le0 := r.le0.trans n.le
  nf0 := fun b h => by
    rcases n.nf b h with q | q
    · exact r.nf0 b q
    · exact .inr (.inl (r.fresh q))
  len := r.len
  slot := fun i s e => by
    obtain ⟨v, h1, h⟩ := r.slot i s e
    refine ⟨v, h1, ?_⟩
    obtain ⟨m, d⟩ := s
    cases m with
    | dat => exact Rep.le n.le h
    | own => obtain ⟨a, e, h1, h2, h3⟩ := h; exact ⟨a, e, n.nof h1 h3.some, h2, h3.keep n.le fun o z t => n.keep a o z t⟩
    | par => obtain ⟨a, e, h1, h2, h4, h3⟩ := h; exact ⟨a, e, n.nof h1 h3.some, h2, h4, h3.keep n.le fun o z t => n.keep a o z t⟩
    | pfz => exact ⟨h.1.le n.le, h.2⟩
    | lck => obtain ⟨a, e, h1, h3⟩ := h; exact ⟨a, e, n.nof h1 h3.some, h3.keep n.le fun o z t => n.keep a o z t⟩
    | lam => obtain ⟨a, cvs, ds, c, q, h1, h2, h3, h4, h5⟩ := h; exact ⟨a, cvs, ds, c, q, h1, h2, h3.le n.le, h4, n.keep _ _ h5 fun _ z => LamX.codeO_ne _ z⟩
  dist := r.dist
  lok := r.lok
  tab := n.tab
end
theorem caps_some {Γ : EnD} : ∀ {js : List Nat} {ds : List D}, caps Γ js = some ds → ∀ {w : Wd} {g : Gx} {F H : Hp} {σ : St}, Rel w g F Γ σ H → ∃ cvs, Reps w F cvs ds ∧ js.map (NdefX.slotAt σ) = cvs.map some
  | [], ds, e, w, g, F, H, σ, R => by cases e; exact ⟨[], .nil, rfl⟩
  | j :: js, ds, e, w, g, F, H, σ, R => by
    simp only [caps] at e
    split at e
    · rename_i d ds' h1 h2
      cases e
      obtain ⟨cvs, r, m⟩ := caps_some h2 R
      obtain ⟨v, hv, q⟩ := R.slot j _ h1
      exact ⟨v :: cvs, .cons q r, by rw [List.map_cons, List.map_cons, m, NdefX.slotAt_of hv]⟩
    · rename_i d ds' h1 h2
      cases e
      obtain ⟨cvs, r, m⟩ := caps_some h2 R
      obtain ⟨v, hv, q⟩ := R.slot j _ h1
      exact ⟨v :: cvs, .cons q.1 r, by rw [List.map_cons, List.map_cons, m, NdefX.slotAt_of hv]⟩
    · cases e
section
variable {X : Cx} {w : Wd} {W : WX} {e : Expr} {es : List Expr} {cs : M (List Rv)} {c1 : M Rv} {fn : FS} {n i : Nat} {a : Str} {f : Addr} {cvs : List V} {p1 p2 : Pos}
/-- a(e, ..), a the slot that holds the lambda -/
theorem d_callL {c' : Addr} {q : Str} (hlam : ∀ f' cvs' c2 q2, w.lam f' cvs' c2 q2 → f' = f ∧ cvs' = cvs ∧ c2 = c' ∧ q2 = q) (hN : X.N[i]? = some a) (hv : Vis X.env.scope a) (hfn : ∀ ss, fn ss ≠ .no → ss.length = n) (hat : ∀ pins σ H s, Inv X pins σ H s → PySem.W.FnAt f s.heap)
    (hrun : ∀ pins σ H s Q us vs, Inv X pins σ H s → H c' = some (LamX.CodeO c' q) → Vals vs us → vs.length + cvs.length = n → spF w n fn (vs ++ cvs) H Q (fun _ _ _ => False) → wpAny (model X.prog X.w) X.A (call (.ref f) us) (EP X pins σ Q) X.xe s)
    (hno : ∀ ss x outs, fn ss ≠ .ex x outs)
    (ha : PA X (e :: es) (TL w W cs)) (hd : (a == ("__debug__" : Str)) = false := by decide) (hcd : (a == ("__classdict__" : Str)) = false := by decide)
    (he : starEach (e :: es) X.env = (false, eval e X.env) :: starEach es X.env := by rfl) (hpl : (backTo p2 (starEach es X.env)).any (·.1) = false := by rfl) :
    PE X (.Call (.Name a p1) (e :: es) [] p2) (T w W (mCallL i fn cs)) := by
  refine ⟨fun pins s σ H Q I h => ?_⟩
  obtain ⟨g, F, Γ, R, p⟩ := h
  unfold mCallL at p
  split at p
  · rename_i ds hs
    obtain ⟨v0, hσ, f', cvs', ds', c2, q2, e1, e2, e3, e4, e5⟩ := R.slot i _ hs
    cases e2
    obtain ⟨rfl, rfl, rfl, rfl⟩ := hlam _ _ _ _ e4
    subst e1
    refine wpAny_Call_Name_kw (thn ((pe_var (pos := p1) hN hv hd hcd).run pins s σ H (fun v H1 => v = .ref f' ∧ H1 = H) I ⟨.ref f', hσ, rfl, rfl⟩) fun u s1 ⟨v, H1, I1, r1, q1⟩ => ?_)
    obtain ⟨ev, eH⟩ := q1
    subst ev
    rw [eH] at I1
    obtain rfl : u = Value.ref f' := r1
    have ht : TL w W cs σ H fun vs H1 => ∃ F1 Γ1 rs, Step Γ σ F H Γ1 F1 H1 ∧ Rel w g F1 Γ1 σ H1 ∧ ResNs w F1 σ H H1 vs rs ∧ Post w W (ResN w) g F Γ σ H Q (mCallR fn ds rs Γ1) :=
      ⟨g, F, Γ, R, Post.bind (Step.refl ..) p fun rs Γ1 _ pp vs H1 F1 S1 R1 q1 => ⟨F1, Γ1, rs, S1, R1, q1, pp⟩⟩
    refine PySem.W.callWith_F (first := []) (hat _ _ _ _ I1) (thn (ha.run p2 pins s1 σ H _ I1 ht) fun us s2 ⟨vs, H2, I2, r, F1, Γ1, rs, S1, R1, q1, pp⟩ => ⟨hat _ _ _ _ I2, ?_⟩) he hpl
    show wpAny _ _ (call (.ref f') us) _ _ _
    have sp := call_core (n := n) hfn R S1 R1 q1 (e3.le S1.le) pp
    refine hrun pins σ H2 s2 Q us vs I2 ?_ r (by have := sp.1; rw [List.length_append] at this; exact this) ?_
    · obtain ⟨v9, h9, f9, cvs9, ds9, c9, q9, k1, k2, k3, k4, k5⟩ := R.slot i _ hs
      obtain ⟨k6, k7, k8, k10⟩ := hlam _ _ _ _ k4
      subst k8 k10
      exact S1.fr _ _ k5 (fun _ z => LamX.codeO_ne _ z) fun z => by
        obtain ⟨j, s, z1, z2, z3⟩ := z
        obtain ⟨b, z4, z5, z6, z7⟩ := mut_own R z1 z2 z3
        cases z4
        exact z6.nx k5
    · obtain ⟨l, F9, ss, s1', s2', s3, s4⟩ := sp
      refine ⟨l, F9, ss, s1', s2', s3, ?_⟩
      cases hf : fn ss with
      | no => rw [hf] at s4; exact s4
      | ex x outs => exact (hno ss x outs hf).elim
      | ok r outs => rw [hf] at s4; exact s4
  · exact p.elim
end
/-- no exception leaves it -/
def noEx (fn : FS) : FS := fun ss => match fn ss with
  | .ex _ _ => .no
  | r => r
theorem noEx_no {fn : FS} {ss : List Sl} (h : noEx fn ss ≠ .no) : fn ss ≠ .no := fun z => h (by unfold noEx; rw [z])
theorem noEx_ex (fn : FS) : ∀ ss x outs, noEx fn ss ≠ .ex x outs := fun ss x outs z => by
  unfold noEx at z
  split at z
  · cases z
  · rename_i r h
    exact h _ _ z
theorem noEx_sp {w : Wd} {n : Nat} {fn : FS} {vs : List V} {H : Hp} {Q : VK} {E : XK} (h : spF w n (noEx fn) vs H Q E) : spF w n fn vs H Q E := by
  obtain ⟨l, F, ss, h1, h2, h3, h4⟩ := h
  refine ⟨l, F, ss, h1, h2, h3, ?_⟩
  cases hf : fn ss with
  | no => unfold noEx at h4; rw [hf] at h4; exact h4
  | ex x outs => unfold noEx at h4; rw [hf] at h4; exact h4.elim
  | ok r outs => unfold noEx at h4; rw [hf] at h4; exact h4
/-! ### the def that is given a lambda -/
open NdefX LamX in
/-- x(e, lambda ..: ..) -/
theorem d_fw {X : Cx} {w : Wd} {W : WX} {e1 : Expr} {c1 : M Rv} {x : Str} {g c P : Addr} {stg : Stmt} {fdg : FuncData} {Ng NL psL frL : List Str} {js : List Nat} {params : Arguments} {body : Expr} {scope : Scope} {cbL : M Rv} {bodyD : FS → M Fl} {pa pb : Str} {k k2 : Nat} {p pos lpos : Pos}
    (hK : w.K = X.K) (Fg : Fun X.K x x stg g fdg) (hg : Gl X x) (hm : X.mg x = some (.ref g)) (bg : Binds X.K fdg [pa, pb] []) (Sg : FnScope Ng [pa, pb] (defScope stg)) (hNg : 2 ≤ Ng.length) (hNg1 : Ng[1]? = some pb) (hvb : Vis (defScope stg) pb)
    (TB : TabB X.base X.mg c P) (hcode : X.env.code = .ref c) (hmT : (P, X.env.qual ++ "<lambda>") ∈ w.T) (hu : ∀ p ∈ w.T, p.1 = P → p.2 = X.env.qual ++ "<lambda>") (hr : Room k X.A) (gd : X.A.guards = some []) (hrk : k2 + 2 ≤ k)
    (hdef : defaultsOf params X.env = ([], [])) (hbind : ∀ (q : Str) (cl : List (Str × Addr)) (pm cv ctv : Value) (us : List Value), us.length = psL.length → bindArgs (PySem.W.kla_fn "<lambda>" q params body scope cl pm cv ctv) ⟨us, []⟩ = pure (psL.zip us))
    (SL : NScope NL psL frL scope) (hNL : NL = psL ++ frL) (hfree : ∀ y ∈ scope.names, y.2 = .free → X.env.scope.names.lookup y.1 = some .cell ∨ X.env.scope.names.lookup y.1 = some .free) (hfr : ∀ y ∈ frL, (y, NameKind.free) ∈ scope.names) (hjs : js.map (fun j => X.N[j]?) = frL.map some)
    (hbody : ∀ (f c' : Addr) (cl : List (Str × Addr)) (A : Around) (outer : List PySem.Env) (s : Shared) (H : Hp), Room k2 (A.deeper (envF ⟨"<lambda>", X.env.qual ++ "<lambda>", params, [], scope, cl, c'⟩ f s.heap.objs.size)) → (A.deeper (envF ⟨"<lambda>", X.env.qual ++ "<lambda>", params, [], scope, cl, c'⟩ f s.heap.objs.size)).guards = some [] →
      PE (ncx (L2.CX X.prog X.w) X.prog X.w X.K X.mg X.base NL ⟨"<lambda>", X.env.qual ++ "<lambda>", params, [], scope, cl, c'⟩ f A outer s H (fun _ _ _ => False)) body (T w W0 cbL))
    (hG : ∀ (w' : Wd) (cdv : Value) (A : Around) (outer : List PySem.Env) (s : Shared) (H : Hp), w'.K = X.K → Room (k2 + 1) (A.deeper (PyProof.Rows.envOfC x (defScope stg) s.heap.objs.size g cdv)) → (A.deeper (PyProof.Rows.envOfC x (defScope stg) s.heap.objs.size g cdv)).guards = some [] →
      (∀ {e : Expr} {es : List Expr} {cs : M (List Rv)} {p1 p2 : Pos}, PA (cxOf (L2.CX X.prog X.w) X.prog X.w X.K X.mg X.base Ng x (defScope stg) g cdv A outer s H (fun _ _ _ => False)) (e :: es) (TL w' W0 cs) →
        starEach (e :: es) (PyProof.Rows.envOfC x (defScope stg) s.heap.objs.size g cdv) = (false, eval e (PyProof.Rows.envOfC x (defScope stg) s.heap.objs.size g cdv)) :: starEach es (PyProof.Rows.envOfC x (defScope stg) s.heap.objs.size g cdv) → (backTo p2 (starEach es (PyProof.Rows.envOfC x (defScope stg) s.heap.objs.size g cdv))).any (·.1) = false →
        PE (cxOf (L2.CX X.prog X.w) X.prog X.w X.K X.mg X.base Ng x (defScope stg) g cdv A outer s H (fun _ _ _ => False)) (.Call (.Name pb p1) (e :: es) [] p2) (T w' W0 (mCallL 1 (noEx (fnD NL.length NL.length (sRet cbL))) cs))) →
      PSs (cxOf (L2.CX X.prog X.w) X.prog X.w X.K X.mg X.base Ng x (defScope stg) g cdv A outer s H (fun _ _ _ => False)) (defBody stg) (TSt w' W0 (bodyD (noEx (fnD NL.length NL.length (sRet cbL))))))
    (he1 : PE X e1 (T w W c1)) (hdb : (x == ("__debug__" : Str)) = false := by decide) (hd : (pb == ("__debug__" : Str)) = false := by decide) (hcd : (pb == ("__classdict__" : Str)) = false := by decide) (hst : starEach [e1, .Lambda params body scope lpos] X.env = (false, eval e1 X.env) :: starEach [.Lambda params body scope lpos] X.env := by rfl) :
    PE X (.Call (.Name x p) [e1, .Lambda params body scope lpos] [] pos) (T w W (mLam (fnL2 Ng.length (bodyD (noEx (fnD NL.length NL.length (sRet cbL))))) js c1)) := by
  refine ⟨fun pins s σ H Q I h => ?_⟩
  obtain ⟨gx, F, Γ, R0, p⟩ := h
  obtain ⟨oc, od, kV, doc, pm0, an, cdv, ct, osl, rfl, lk, hcg⟩ := Fg.ex
  refine wpAny_Call_Name_kw (ld_glob I hg hm ?_ hdb)
  have hfr0 : ∀ y ∈ scope.names, y.2 = .free → ∃ c, X.env.cells.lookup y.1 = some c := fun y hy e => (hfree y hy e).elim (fun z => I.ok.has _ (.inl z)) fun z => I.ok.has _ (.inr z)
  have h1 : T w W (mFz c1) σ H fun v H1 => ∃ F1 Γ1 r, Step Γ σ F H Γ1 F1 H1 ∧ Rel w gx F1 Γ1 σ H1 ∧ ResN w F1 σ H H1 v r ∧ Post w W (ResN w) gx F Γ σ H Q ((fun r Γ => match r with
      | Rv.dat d => R.opt (caps Γ js) fun ds => match fnL2 Ng.length (bodyD (noEx (fnD NL.length NL.length (sRet cbL)))) d ds with
        | some (some (.dat e)) => PD.R.ok (.dat e) Γ
        | some none => PD.R.ok (.dat .non) Γ
        | _ => PD.R.no
      | _ => PD.R.no : Rv → EnD → R Rv) r Γ1) :=
    ⟨gx, F, Γ, R0, Post.bind (Step.refl ..) p fun r Γ1 _ p1 v H1 F1 S1 R1 q1 => ⟨F1, Γ1, r, S1, R1, q1, p1⟩⟩
  refine PySem.W.callWith_K (h₀ := X.base) I.ok.mod.kin Fg.kp ?_ hst (by rfl)
  rw [hst]
  show wpAny _ _ (spliced ((false, eval e1 X.env) :: backTo pos (starEach [.Lambda params body scope lpos] X.env))) _ _ s
  refine Calls.spliced_cons (thn ((d_fz he1).run pins s σ H _ I h1) fun u1 s1 ⟨v1, H1, I1, r1, F1, Γ1, r, S1, R1, q1, p1⟩ => ?_)
  cases r with
  | own d => exact p1.elim
  | var j => exact p1.elim
  | dat d =>
    obtain ⟨ds, hcaps, p1⟩ := p1.opt
    show wpAny _ _ (spliced ((false, eval (.Lambda params body scope lpos) X.env) :: backTo pos (starEach [] X.env))) _ _ s1
    refine Calls.spliced_cons (lam_make3 I1 TB hcode hmT hu R1.tab.1 hdef hfr0 fun f c' pm ctv H2 s2 I2 kpH nn T2 hf hfn hfr' hco => ?_)
    refine Calls.spliced_nil ⟨I2.kIn, ?_⟩
    show wpAny _ _ (call (.ref g) [u1, .ref f]) _ _ s2
    obtain ⟨cvs, rcv, mcv⟩ := caps_some hcaps R1
    have F1P : F1 P = none := R1.tab.2 _ hmT
    have notP : ∀ {b o}, H1 b = some o → NT o → b ≠ P := fun {b o} e nt z => by
      obtain ⟨ps, h9, _⟩ := R1.tab.1 _ hmT
      subst z
      rw [show H1 b = _ from h9] at e
      cases e
      exact nt _ rfl
    have keepH : ∀ b o, H1 b = some o → NT o → H2 b = some o := fun b o e nt => kpH b o (notP e nt) e
    have sub2 : Le F1 H2 := fun b o e => kpH b o (fun z => by subst z; rw [F1P] at e; cases e) (R1.sub b o e)
    let w' : Wd := { w with lam := fun a2 cv2 c2 q2 => a2 = f ∧ cv2 = cvs ∧ c2 = c' ∧ q2 = X.env.qual ++ "<lambda>" }
    have rc : codeAny (model X.prog X.w) X.A (.call (.ref g) ⟨[u1, .ref f], []⟩) (CR (L2.CX X.prog X.w) X.stack X.prog X.w H2 s2 Q (fun _ _ _ => False)) s2 := by
      refine run_ofS (k := k2 + 1) (N := Ng) (ps := [pa, pb]) (us := [u1, .ref f]) (vs := [v1, .ref f]) lk hcg Sg (hr.mono hrk) I2.env0 ?_ (.cons r1 (.cons rfl .nil)) rfl fun hr' => ?_
      · have b := bg s2 [u1, .ref f] I2.kIn rfl
        rw [List.append_nil] at b
        exact b
      refine ⟨_, hG w' cdv X.A X.stack s2 H2 hK hr' (gd_deeper gd _) (fun {e es cs p1 p2} hpa hs1 hs2 => ?_), ?_⟩
      · -- the lambda's call
        refine d_callL (f := f) (cvs := cvs) (c' := c') (q := X.env.qual ++ "<lambda>") (n := NL.length) (fun _ _ _ _ z => z) hNg1 hvb (fun ss z => fnD_len ss (noEx_no z)) (fun pins3 σ3 H3 s3 I3 => ⟨_, _, _, _, I3.base.keep f _ hf hfn hfr' (fun z => nomatch (show f ∈ ([] : List Addr) from z))⟩) (fun pins3 σ3 H3 s3 Q3 us vs I3 hc3 rv hl3 sp3 => ?_) (noEx_ex _) hpa hd hcd hs1 hs2
        have un : Un (frs X.stack) [] H2 H3 s2.heap s3.heap := I3.base
        have C2 := cells_of I2 (Caps.made (scope := scope) I2.ok hfree hfr hjs)
        have C3 : CellsAt (cloFrom X.env.cells scope.names []) frL (js.map (slotAt σ)) s3.heap H3 := by
          have ck : ∀ {c : Addr} {v : Option Value}, H2 c = none → s2.heap.IsCell c v → s3.heap.IsCell c v ∧ H3 c = none := fun {c v} n ⟨o, ho, hd⟩ => by
            obtain ⟨sl, q⟩ := un.any ho n (by simp)
            exact ⟨⟨_, q, hd⟩, un.free c o ho n (by simp)⟩
          refine ⟨C2.len, fun y c e => ?_, C2.inj, fun i y e => ?_⟩
          · obtain ⟨n, v, z⟩ := C2.all y c e
            exact ⟨(ck n z).2, v, (ck n z).1⟩
          · obtain ⟨c, hc, hv⟩ := C2.has i y e
            refine ⟨c, hc, fun v ev => ?_⟩
            obtain ⟨u, r, z⟩ := hv v ev
            exact ⟨u, r, (ck (C2.all y c hc).1 z).1⟩
        rw [mcv] at C3
        have lcv : cvs.length = frL.length := by
          have := C3.len
          rw [List.length_map] at this
          exact this
        have hl4 : vs.length = psL.length := by
          rw [hNL, List.length_append] at hl3
          omega
        have o3 := I3.base.keep f _ hf hfn hfr' (fun z => nomatch (show f ∈ ([] : List Addr) from z))
        have est : startF NL vs (cvs.map some) = L2.start NL (vs ++ cvs) := by
          unfold startF L2.start
          rw [List.map_append, List.append_assoc, List.length_map, List.length_append, Nat.sub_sub]
        have sp4 := noEx_sp (spF_wd (w := w) (w' := w') rfl rfl rfl sp3)
        obtain ⟨l5, F5, ss5, hs5, ht5, A5, p5⟩ := sp4
        have tq := ret_T (body_ok (N := NL) rfl l5 hs5 ht5 A5 p5)
        rw [← est] at tq
        refine wpAny_call (codeAny_mono (lam_run (k := k2) (E := fun _ _ _ => False) (Q := Q3) SL (hbind _ _ _ _ _ us (by rw [← rv.length]; exact hl4)) hr' I3.env0 o3 hc3 C3 rv hl4 (hbody f c' _ _ _ s3 H3 (hr'.deeper _) (gd_deeper (gd_deeper gd _) _)) tq) fun r s' hq => ?_)
        cases r with
        | error e =>
          obtain ⟨_, _, _, _, _, _, _, _, _, _, _, _, z⟩ := hq
          exact z.elim
        | ok fl =>
          cases fl with
          | ret u => exact I3.after hq
          | next => exact False.elim hq
          | brk => exact False.elim hq
          | cont => exact False.elim hq
      · -- its body
        let g2 : Gx := { H0 := H2, F0 := F1, P := [v1, .ref f], PO := fun _ => False, L := fun _ => none }
        have low : ∀ {i : Nat} {s : Sl}, (some (⟨.dat, d⟩ : Sl) :: some ⟨.lam, .tup ds⟩ :: List.replicate (Ng.length - 2) none)[i]? = some (some s) → (i = 0 ∧ s = ⟨.dat, d⟩) ∨ (i = 1 ∧ s = ⟨.lam, .tup ds⟩) := fun {i s} e => by
          match i with
          | 0 => simp at e; exact .inl ⟨rfl, e.symm⟩
          | 1 => simp at e; exact .inr ⟨rfl, e.symm⟩
          | i + 2 =>
            simp only [List.getElem?_cons_succ] at e
            have := List.mem_of_getElem? e
            simp at this
        have noOw : ∀ {i : Nat} {s : Sl}, (some (⟨.dat, d⟩ : Sl) :: some ⟨.lam, .tup ds⟩ :: List.replicate (Ng.length - 2) none)[i]? = some (some s) → s.m.ow = true → False := fun {i s} e o => by
          rcases low e with ⟨_, rfl⟩ | ⟨_, rfl⟩ <;> cases o
        have R2 : Rel w' g2 F1 (some (⟨.dat, d⟩ : Sl) :: some ⟨.lam, .tup ds⟩ :: List.replicate (Ng.length - 2) none) (L2.start Ng [v1, .ref f]) H2 := by
          refine ⟨sub2, fun _ _ h _ _ => h, fun _ h => h, Le.refl _, fun _ h => .inl h, ?_, fun i s e => ?_, fun i j s t a e1 e2 o1 o2 _ _ => (noOw e1 o1).elim, fun i a d e => (nomatch e), ⟨T2, R1.tab.2⟩⟩
          · simp [L2.start]
          · rcases low e with ⟨rfl, rfl⟩ | ⟨rfl, rfl⟩
            · exact ⟨v1, rfl, Rep.wd (w := w) (w' := w') rfl rfl (show Rep w F1 v1 d from q1)⟩
            · exact ⟨.ref f, rfl, f, cvs, ds, c', _, rfl, rfl, Reps.wd (w := w) (w' := w') rfl rfl rcv, ⟨rfl, rfl, rfl, rfl⟩, hco⟩
        refine ⟨g2, F1, _, R2, ?_⟩
        have fin : ∀ {v : V} {H' : Hp} {F' : Hp} {σ' : St} {Γ' : EnD} {e : D}, Rel w' g2 F' Γ' σ' H' → Rep w' F' v e → Post w W (ResN w) gx F Γ σ H Q (PD.R.ok (.dat e) Γ1) → Q v H' := fun {v H' F' σ' Γ' e} R' rv pp => by
          have fr : Far w.T F1 H1 F' H' := ⟨fun b o e nt => R'.base b o (keepH b o e nt) nt (fun z => z), R'.le0, R'.sub, fun b e => ?_, fun b e => ?_, R'.tab⟩
          · exact pp v H' F' (S1.trans fr.step) (R1.far fr) (Rep.wd (w := w') (w' := w) rfl rfl rv)
          · rcases R'.nf0 b e with z | z | z
            · exact .inl z
            · exact .inr (nn b z)
            · exact z.elim
          · exact R'.there b fun z => e (nn b z)
        unfold fnL2 at p1
        cases hb : bodyD (noEx (fnD NL.length NL.length (sRet cbL))) (some (⟨.dat, d⟩ : Sl) :: some ⟨.lam, .tup ds⟩ :: List.replicate (Ng.length - 2) none) with
        | no => rw [hb] at p1; exact p1.elim
        | ex x Γ' => rw [hb] at p1; exact p1.elim
        | ok fl Γ' =>
          rw [hb] at p1
          cases fl with
          | bk => exact p1.elim
          | ct => exact p1.elim
          | nx => exact fun σ' H' F' l R' => fin R' (Rep.non (w := w') (F := F')) p1
          | rt rr =>
            cases rr with
            | own d => exact p1.elim
            | var j => exact p1.elim
            | dat e => exact fun v σ' H' F' l R' rv => fin R' rv p1
    refine wpAny_call (codeAny_mono rc fun r s' hq => ?_)
    cases r with
    | error e =>
      obtain ⟨_, _, _, _, _, _, _, _, _, _, _, _, z⟩ := hq
      exact z.elim
    | ok fl =>
      cases fl with
      | ret u => exact I2.after hq
      | next => exact False.elim hq
      | brk => exact False.elim hq
      | cont => exact False.elim hq
end PD

/-! PD15: operations on data. -/
namespace PD
open PySem PySem.Spec L2
/-! ### operations -/
def big (i : Int) : Bool := decide (i.natAbs < 2 ^ 2048)
def addD : D → D → Option Rv
  | .int i, .int j => some (.dat (.int (i + j)))
  | .tup a, .tup b => if a.length + b.length ≤ LIM then some (.dat (.tup (a ++ b))) else none
  | _, _ => none
def subD : D → D → Option Rv
  | .int i, .int j => some (.dat (.int (i - j)))
  | _, _ => none
/-- one side is small -/
def CMulB (i j : Int) : Bool := (decide (-(2 ^ 64) < i) && decide (i < 2 ^ 64)) || (decide (-(2 ^ 64) < j) && decide (j < 2 ^ 64))
def mulD : D → D → Option Rv
  | .int i, .int j => if (CMulB i j || (big i && big j)) = true then some (.dat (.int (i * j))) else none
  | _, _ => none
def modD : D → D → Option Rv
  | .int i, .int j => if 0 < j then some (.dat (.int (i % j))) else none
  | _, _ => none
def fdivD : D → D → Option Rv
  | .int i, .int j => if 0 < j ∧ j < 1073741824 then some (.dat (.int (i / j))) else none
  | _, _ => none
def powD : D → D → Option Rv
  | .int i, .int j => if 0 ≤ j ∧ j ≤ 1000000 ∧ i.natAbs < 2 ^ 64 then some (.dat (.int (i ^ j.toNat))) else none
  | _, _ => none
def negD : D → Option Rv
  | .int i => some (.dat (.int (-i)))
  | _ => none
def cmpD (f : Int → Int → Bool) : D → D → Option Rv
  | .int i, .int j => some (.dat (.bl (f i j)))
  | _, _ => none
def ltD : D → D → Option Rv := cmpD fun i j => decide (i < j)
def leD : D → D → Option Rv := cmpD fun i j => decide (i ≤ j)
def gtD : D → D → Option Rv := cmpD fun i j => decide (j < i)
def geD : D → D → Option Rv := cmpD fun i j => decide (j ≤ i)
def isNonD : D → Bool
  | .non => true
  | _ => false
def isD : D → D → Option Rv
  | d, .non => some (.dat (.bl (isNonD d)))
  | _, _ => none
def isntD : D → D → Option Rv
  | d, .non => some (.dat (.bl (!isNonD d)))
  | _, _ => none
/-- equality of scalars -/
def eqS : D → D → Option Bool
  | .int i, .int j => some (decide (i = j))
  | .bl i, .bl j => some (decide (i = j))
  | .str i, .str j => some (decide (i = j))
  | .non, .non => some true
  | .non, .int _ => some false
  | .int _, .non => some false
  | .non, .str _ => some false
  | .str _, .non => some false
  | .non, .bl _ => some false
  | .bl _, .non => some false
  | _, _ => none
/-- data as the library has them -/
def pd : D → Option PyData
  | .non => some .none
  | .bl b => some (.bool b)
  | .int i => some (.int i)
  | .str s => some (.str s)
  | .tup ds => (pds ds).map .tuple
  | .lst ds => (pds ds).map .list
  | _ => none
where pds : List D → Option (List PyData)
  | [] => some []
  | d :: ds => match pd d, pds ds with
    | some p, some ps => some (p :: ps)
    | _, _ => none
def eqP (d e : D) : Option Bool := match pd d, pd e with
  | some p, some q => if SeqAt.shaped p = true ∧ SeqAt.shaped q = true then some (PyData.eqv p q) else none
  | _, _ => none
def eqB (d e : D) : Option Bool := match eqS d e with
  | some b => some b
  | none => eqP d e
def eqD (d e : D) : Option Rv := (eqB d e).map fun b => .dat (.bl b)
def neD (d e : D) : Option Rv := (eqB d e).map fun b => .dat (.bl (!b))
def ixD : D → D → Option Rv
  | .lst l, .int i => (L2.atI l i).map .dat
  | .tup l, .int i => (L2.atI l i).map .dat
  | _, _ => none
def keyD : D → Option Key
  | .int i => some (.inl i)
  | .str s => some (.inr s)
  | _ => none
def dgetD : D → D → Option Rv
  | .dct l, k => (keyD k).bind fun k => ((l.find? fun q => decide (q.1 = k)).map (·.2)).map .dat
  | _, _ => none
def cutD (l : List D) (lo hi : Option Int) : List D := (l.drop (HT.sIx l.length 0 lo)).take (HT.sIx l.length l.length hi - HT.sIx l.length 0 lo)
def slD : D → Option Int → Option Int → Option Rv
  | .lst l, lo, hi => some (.own (.lst (cutD l lo hi)))
  | .tup l, lo, hi => some (.dat (.tup (cutD l lo hi)))
  | _, _, _ => none
def partD (Γ : EnD) : Option Rv → Option (Option Int)
  | none => some none
  | some r => match look Γ r with
    | some (.int i) => some (some i)
    | _ => none
def mPart : Option (M Rv) → M (Option Int)
  | none => fun Γ => .ok none Γ
  | some c => fun Γ => (c Γ).bind fun r Γ => match look Γ r with
    | some (.int i) => .ok (some i) Γ
    | _ => .no
def mSl (c : M Rv) (lo hi : Option (M Rv)) : M Rv := fun Γ => (c Γ).bind fun r Γ => (mPart lo Γ).bind fun a Γ => (mPart hi Γ).bind fun b Γ => R.opt (look Γ r) fun d => R.opt (slD d a b) fun o => .ok o Γ
/-! ### they are so -/
section
variable {w : Wd}
theorem View.ref_of {F H : Hp} {v : V} {d : D} (h : View w F H v d) : (match d with | .tup _ => True | .lst _ => True | .dct _ => True | .set _ => True | .obj _ _ => True | .glb _ => True | _ => False) → ∃ a, v = .ref a := fun z => by
  rcases h with h | ⟨a, rfl, _⟩
  · cases h <;> first | exact ⟨_, rfl⟩ | exact z.elim
  · exact ⟨a, rfl⟩
theorem o_int {C : Int → Int → Prop} {g : Int → Int → V} {f : D → D → Option Rv} (h : ∀ i j o, f (.int i) (.int j) = some o → C i j ∧ ∃ d, o = .dat d ∧ ∀ F, Rep w F (g i j) d) (hn : ∀ d e o, f d e = some o → ∃ i j, d = .int i ∧ e = .int j) : OpD w (rI C g) f := fun F H x y d e o Q s vx vy ho k => by
  obtain ⟨i, j, rfl, rfl⟩ := hn d e o ho
  obtain ⟨c, d', rfl, r⟩ := h i j o ho
  exact ⟨i, j, vx.int, vy.int, c, k _ H F (New.refl s) (r F)⟩
theorem o_int0 {g : Int → Int → V} {f : D → D → Option Rv} (h : ∀ i j o, f (.int i) (.int j) = some o → ∃ d, o = .dat d ∧ ∀ F, Rep w F (g i j) d) (hn : ∀ d e o, f d e = some o → ∃ i j, d = .int i ∧ e = .int j) : OpD w (rI0 g) f := fun F H x y d e o Q s vx vy ho k => by
  obtain ⟨i, j, rfl, rfl⟩ := hn d e o ho
  obtain ⟨d', rfl, r⟩ := h i j o ho
  exact ⟨i, j, vx.int, vy.int, k _ H F (New.refl s) (r F)⟩
/-- a new shared tuple -/
theorem new_tup {F H : Hp} {xs : List V} {ds : List D} {p : Addr} (s : Le F H) (hp : H p = none) (r : Reps w F xs ds) (hl : ds.length ≤ LIM) : New F H (upd F p (.tup xs)) (upd H p (.tup xs)) ∧ Rep w (upd F p (.tup xs)) (.ref p) (.tup ds) := by
  have Fp : F p = none := by
    cases q : F p with
    | none => rfl
    | some o => rw [s p o q] at hp; cases hp
  have le : Le F (upd F p (.tup xs)) := fun b o e => by rw [upd_ne (ne_of_none e Fp)]; exact e
  refine ⟨⟨fun b o e => by rw [upd_ne (ne_of_none e hp)]; exact e, le, fun b o e => ?_, fun b e => ?_⟩, .tup (.inl (.inl upd_same)) (r.le le) hl⟩
  · by_cases z : b = p
    · subst z; rw [upd_same] at e ⊢; exact e
    · rw [upd_ne z] at e ⊢; exact s b o e
  · by_cases z : b = p
    · subst z; exact .inr hp
    · rw [upd_ne z] at e; exact .inl e
/-- a new list of one's own -/
theorem new_lst {F H : Hp} {xs : List V} {ds : List D} {p : Addr} (s : Le F H) (hp : H p = none) (r : Reps w F xs ds) (hl : ds.length ≤ LIM) : New F H F (upd H p (.lst xs)) ∧ ResN w F [] H (upd H p (.lst xs)) (.ref p) (.own (.lst ds)) := by
  have Fp : F p = none := by
    cases q : F p with
    | none => rfl
    | some o => rw [s p o q] at hp; cases hp
  exact ⟨⟨fun b o e => by rw [upd_ne (ne_of_none e hp)]; exact e, Le.refl _, fun b o e => by rw [upd_ne (ne_of_none e Fp)]; exact s b o e, fun b e => .inl e⟩, p, rfl, hp, Fp, xs, upd_same, r, hl⟩
theorem o_add {K : PySem.W.Frag} (hK : w.K = K) : OpD w (fun x y H Q => rI0 (fun i j => .int (i + j)) x y H Q ∨ rCatA K x y H Q) addD := fun F H x y d e o Q s vx vy ho k => by
  subst hK
  cases d with
  | int i =>
    cases e with
    | int j => cases ho; exact .inl ⟨i, j, vx.int, vy.int, k _ H F (New.refl s) (.int _)⟩
    | _ => cases ho
  | tup a =>
    cases e with
    | tup b =>
      by_cases hl : a.length + b.length ≤ LIM
      · simp only [addD, if_pos hl, Option.some.injEq] at ho
        subst ho
        obtain ⟨p, xs, rfl, hF1, hx, rx, zx⟩ := vx.tup s
        obtain ⟨q, ys, rfl, hF2, hy, ry, zy⟩ := vy.tup s
        have l1 := rx.length
        have l2 := ry.length
        refine .inr ⟨p, q, xs, ys, rfl, rfl, hx, hy, by rw [l1, l2, ← lim_line]; exact hl, fun ex => ?_, fun _ ey => ?_, fun _ _ l hp => ?_⟩
        · subst ex
          cases a with
          | nil => exact k _ H F (New.refl s) (.tup hF2 ry zy)
          | cons _ _ => cases rx
        · subst ey
          cases b with
          | nil =>
            refine k _ H F (New.refl s) ?_
            show Rep w F _ (.tup (a ++ []))
            rw [List.append_nil]
            exact .tup hF1 rx zx
          | cons _ _ => cases ry
        · obtain ⟨N, r⟩ := new_tup s hp (rx.append ry) (by rw [List.length_append]; exact hl)
          exact k _ _ _ N r
      · simp only [addD, if_neg hl] at ho; cases ho
    | _ => cases ho
  | _ => cases ho
theorem ints_only {f : Int → Int → Option Rv} {g : D → D → Option Rv} (h : ∀ d e, g d e = match d, e with | .int i, .int j => f i j | _, _ => none) : ∀ d e o, g d e = some o → ∃ i j, d = .int i ∧ e = .int j := fun d e o z => by
  rw [h] at z
  cases d with
  | int i => cases e with
    | int j => exact ⟨i, j, rfl, rfl⟩
    | _ => cases z
  | _ => cases z
theorem o_sub : OpD w (rI0 fun i j => .int (i - j)) subD := o_int0 (fun i j o h => by cases h; exact ⟨_, rfl, fun F => .int _⟩) (ints_only fun d e => by cases d <;> cases e <;> rfl)
theorem big_mul {i j : Int} (h1 : big i = true) (h2 : big j = true) : CMulX i j := by
  have b : ∀ {k : Int}, big k = true → Builtin.Int.intBits k ≤ 2048 := fun {k} h => by
    have h := of_decide_eq_true h
    unfold Builtin.Int.intBits
    by_cases z : k = 0
    · simp [z]
    · have z2 : k.natAbs ≠ 0 := by omega
      have h3 := (Nat.log2_lt z2).mpr h
      rw [if_neg (by simpa using z)]
      omega
  have := b h1
  have := b h2
  unfold CMulX
  omega
theorem o_mul : OpD w (fun x y H Q => rI CMul (fun i j => .int (i * j)) x y H Q ∨ rI CMulX (fun i j => .int (i * j)) x y H Q) mulD := fun F H x y d e o Q s vx vy ho k => by
  cases d with
  | int i =>
    cases e with
    | int j =>
      simp only [mulD] at ho
      split at ho
      · rename_i z
        cases ho
        rw [Bool.or_eq_true] at z
        rcases z with z | z
        · refine .inl ⟨i, j, vx.int, vy.int, ?_, k _ H F (New.refl s) (.int _)⟩
          unfold CMulB at z
          unfold CMul
          simp only [Bool.or_eq_true, Bool.and_eq_true, decide_eq_true_eq] at z
          exact z
        · rw [Bool.and_eq_true] at z
          exact .inr ⟨i, j, vx.int, vy.int, big_mul z.1 z.2, k _ H F (New.refl s) (.int _)⟩
      · cases ho
    | _ => cases ho
  | _ => cases ho
theorem o_mod : OpD w (rI (fun _ j => 0 < j) fun i j => .int (i % j)) modD := o_int (fun i j o h => by
  by_cases z : 0 < j
  · simp only [modD, if_pos z, Option.some.injEq] at h
    exact ⟨z, _, h.symm, fun F => .int _⟩
  · simp only [modD, if_neg z] at h; cases h) (ints_only fun d e => by cases d <;> cases e <;> rfl)
theorem o_fdiv : OpD w (rI CDiv fun i j => .int (i / j)) fdivD := o_int (fun i j o h => by
  by_cases z : 0 < j ∧ j < 1073741824
  · simp only [fdivD, if_pos z, Option.some.injEq] at h
    exact ⟨z, _, h.symm, fun F => .int _⟩
  · simp only [fdivD, if_neg z] at h; cases h) (ints_only fun d e => by cases d <;> cases e <;> rfl)
theorem o_pow : OpD w (rI CPow fun i j => .int (i ^ j.toNat)) powD := o_int (fun i j o h => by
  by_cases z : 0 ≤ j ∧ j ≤ 1000000 ∧ i.natAbs < 2 ^ 64
  · simp only [powD, if_pos z, Option.some.injEq] at h
    exact ⟨z, _, h.symm, fun F => .int _⟩
  · simp only [powD, if_neg z] at h; cases h) (ints_only fun d e => by cases d <;> cases e <;> rfl)
theorem o_neg : OpD1 w (rU fun i => .int (-i)) negD := fun F H x d o Q s vx ho k => by
  cases d with
  | int i => cases ho; exact ⟨i, vx.int, k _ H F (New.refl s) (.int _)⟩
  | _ => cases ho
theorem o_cmp {f : Int → Int → Bool} : OpD w (rI0 fun i j => .bl (f i j)) (cmpD f) := o_int0 (fun i j o h => by cases h; exact ⟨_, rfl, fun F => .bl _⟩) (ints_only fun d e => by cases d <;> cases e <;> rfl)
theorem o_lt : OpD w (rI0 fun i j => .bl (decide (i < j))) ltD := o_cmp
theorem o_le : OpD w (rI0 fun i j => .bl (decide (i ≤ j))) leD := o_cmp
theorem o_gt : OpD w (rI0 fun i j => .bl (decide (j < i))) gtD := o_cmp
theorem o_ge : OpD w (rI0 fun i j => .bl (decide (j ≤ i))) geD := o_cmp
theorem non_of {F H : Hp} {v : V} {d : D} (h : View w F H v d) : decide (v = .non) = isNonD d := by
  rcases h with h | ⟨a, rfl, h⟩
  · cases h <;> rfl
  · cases d <;> first | exact h.elim | rfl
theorem o_is : OpD w (fun x y H Q => y = .non ∧ Q (.bl (decide (x = .non))) H) isD := fun F H x y d e o Q s vx vy ho k => by
  cases e with
  | non =>
    have ho : some (Rv.dat (.bl (isNonD d))) = some o := by cases d <;> exact ho
    cases ho
    exact ⟨vy.non, by rw [non_of vx]; exact k _ H F (New.refl s) (.bl _)⟩
  | _ => cases d <;> cases ho
theorem o_isnt : OpD w (fun x y H Q => y = .non ∧ Q (.bl (!decide (x = .non))) H) isntD := fun F H x y d e o Q s vx vy ho k => by
  cases e with
  | non =>
    have ho : some (Rv.dat (.bl (!isNonD d))) = some o := by cases d <;> exact ho
    cases ho
    exact ⟨vy.non, by rw [non_of vx]; exact k _ H F (New.refl s) (.bl _)⟩
  | _ => cases d <;> cases ho
end
end PD

/-! PD16: equality, subscripts, slices, built-ins. -/
namespace PD
open PySem PySem.Spec L2
section
variable {w : Wd}
/-! ### == -/
theorem pds_len : ∀ {ds : List D} {ps : List PyData}, pd.pds ds = some ps → ds.length = ps.length
  | [], ps, e => by simp only [pd.pds, Option.some.injEq] at e; subst e; rfl
  | d :: ds, ps, e => by
    simp only [pd.pds] at e
    split at e
    · rename_i p qs h1 h2
      cases e
      rw [List.length_cons, List.length_cons, pds_len h2]
    · cases e
mutual
theorem rep_dp {F H : Hp} (s : Le F H) : ∀ {v : V} {d : D} {p : PyData}, Rep w F v d → pd d = some p → Dp w.K H v p
  | _, _, p, .non, e => by cases e; exact .non
  | _, _, p, .bl b, e => by cases e; exact .bl b
  | _, _, p, .int i, e => by cases e; exact .int i
  | _, _, p, .str x, e => by cases e; exact .str x
  | _, _, p, .tup h r z, e => by
    simp only [pd] at e
    obtain ⟨ps, e1, e2⟩ := Option.map_eq_some_iff.mp e
    subst e2
    exact .tup (SqT.le s h) (reps_dp s r e1)
  | _, _, p, .lst h r z, e => by
    simp only [pd] at e
    obtain ⟨ps, e1, e2⟩ := Option.map_eq_some_iff.mp e
    subst e2
    exact .lst (SqL.le s h) (reps_dp s r e1)
  | _, _, p, .dct h r, e => by cases e
  | _, _, p, .set h a b c, e => by cases e
  | _, _, p, .obj h r, e => by cases e
  | _, _, p, .glb n, e => by cases e
  | _, _, p, .ty x, e => by cases e
  | _, _, p, .rg h, e => by cases e
theorem reps_dp {F H : Hp} (s : Le F H) : ∀ {vs : List V} {ds : List D} {ps : List PyData}, Reps w F vs ds → pd.pds ds = some ps → DpAll w.K H vs ps
  | _, _, ps, .nil, e => by simp only [pd.pds, Option.some.injEq] at e; subst e; exact .nil
  | _, _, ps, .cons r t, e => by
    simp only [pd.pds] at e
    split at e
    · rename_i p qs h1 h2
      cases e
      exact .cons (rep_dp s r h1) (reps_dp s t h2)
    · cases e
end
theorem view_dp {F H : Hp} (s : Le F H) {v : V} {d : D} {p : PyData} (h : View w F H v d) (e : pd d = some p) : Dp w.K H v p := by
  rcases h with h | ⟨a, rfl, h⟩
  · exact rep_dp s h e
  · cases d with
    | lst ds =>
      obtain ⟨xs, hx, r, z⟩ := h
      simp only [pd] at e
      obtain ⟨ps, e1, e2⟩ := Option.map_eq_some_iff.mp e
      subst e2
      exact .lst (.inl (.inl hx)) (reps_dp s r e1)
    | dct ds => cases e
    | set ds => cases e
    | obj c ds => cases e
    | _ => exact h.elim
theorem scal_of {F H : Hp} {x y : V} {d e : D} {b : Bool} (hx : View w F H x d) (hy : View w F H y e) (h : eqS d e = some b) : scal x y = true ∧ decide (x = y) = b := by
  cases d <;> cases e <;> first
    | (cases h; done)
    | skip
  · cases hx.non; cases hy.non; cases h; exact ⟨rfl, by simp⟩
  · cases hx.non; cases hy.bl; cases h; exact ⟨rfl, by simp⟩
  · cases hx.non; cases hy.int; cases h; exact ⟨rfl, by simp⟩
  · cases hx.non; cases hy.str; cases h; exact ⟨rfl, by simp⟩
  · cases hx.bl; cases hy.non; cases h; exact ⟨rfl, by simp⟩
  · cases hx.bl; cases hy.bl; cases h; exact ⟨rfl, by simp⟩
  · cases hx.int; cases hy.non; cases h; exact ⟨rfl, by simp⟩
  · cases hx.int; cases hy.int; cases h; exact ⟨rfl, by simp⟩
  · cases hx.str; cases hy.non; cases h; exact ⟨rfl, by simp⟩
  · cases hx.str; cases hy.str; cases h; exact ⟨rfl, by simp⟩
theorem eqP_some {d e : D} {b : Bool} (h : eqP d e = some b) : ∃ p q, pd d = some p ∧ pd e = some q ∧ SeqAt.shaped p = true ∧ SeqAt.shaped q = true ∧ PyData.eqv p q = b := by
  unfold eqP at h
  split at h
  · rename_i p q h1 h2
    split at h
    · rename_i z
      cases h
      exact ⟨p, q, h1, h2, z.1, z.2, rfl⟩
    · cases h
  · cases h
theorem o_eq {K : PySem.W.Frag} (hK : w.K = K) : OpD w (fun x y H Q => rEq x y H Q ∨ rEqD K x y H Q) eqD := fun F H x y d e o Q s vx vy ho k => by
  subst hK
  obtain ⟨b, hb, rfl⟩ := Option.map_eq_some_iff.mp ho
  unfold eqB at hb
  cases hs : eqS d e with
  | some b' =>
    rw [hs] at hb
    cases hb
    obtain ⟨h1, h2⟩ := scal_of vx vy hs
    exact .inl ⟨h1, by rw [h2]; exact k _ H F (New.refl s) (.bl _)⟩
  | none =>
    rw [hs] at hb
    obtain ⟨p, q, e1, e2, e3, e4, e5⟩ := eqP_some hb
    exact .inr ⟨p, q, view_dp s vx e1, view_dp s vy e2, e3, e4, by rw [e5]; exact k _ H F (New.refl s) (.bl _)⟩
theorem o_ne {K : PySem.W.Frag} (hK : w.K = K) : OpD w (fun x y H Q => rNe x y H Q ∨ rNeD K x y H Q) neD := fun F H x y d e o Q s vx vy ho k => by
  subst hK
  obtain ⟨b, hb, rfl⟩ := Option.map_eq_some_iff.mp ho
  unfold eqB at hb
  cases hs : eqS d e with
  | some b' =>
    rw [hs] at hb
    cases hb
    obtain ⟨h1, h2⟩ := scal_of vx vy hs
    exact .inl ⟨h1, by rw [h2]; exact k _ H F (New.refl s) (.bl _)⟩
  | none =>
    rw [hs] at hb
    obtain ⟨p, q, e1, e2, e3, e4, e5⟩ := eqP_some hb
    exact .inr ⟨p, q, view_dp s vx e1, view_dp s vy e2, e3, e4, by rw [e5]; exact k _ H F (New.refl s) (.bl _)⟩
/-! ### subscripts -/
theorem atI_rep {F : Hp} {xs : List V} {ds : List D} (r : Reps w F xs ds) {i : Int} {d : D} (h : atI ds i = some d) : ∃ v, atI xs i = some v ∧ Rep w F v d := by
  unfold atI at h ⊢
  rw [r.length]
  cases hn : ixN ds.length i with
  | none => rw [hn] at h; cases h
  | some j =>
    rw [hn] at h
    exact r.get h
theorem o_ix {K : PySem.W.Frag} (hK : w.K = K) : OpD w (fun x y H Q => rIxL K x y H Q ∨ rIxT K x y H Q) ixD := fun F H x y d e o Q s vx vy ho k => by
  subst hK
  cases d with
  | lst l =>
    cases e with
    | int i =>
      obtain ⟨d', h1, rfl⟩ := Option.map_eq_some_iff.mp (show (atI l i).map Rv.dat = some o from ho)
      obtain ⟨p, xs, rfl, hx, r, z⟩ := vx.lst s
      obtain ⟨v, hv, rv⟩ := atI_rep r h1
      exact .inl ⟨p, xs, i, v, rfl, vy.int, hx, hv, k v H F (New.refl s) rv⟩
    | _ => cases ho
  | tup l =>
    cases e with
    | int i =>
      obtain ⟨d', h1, rfl⟩ := Option.map_eq_some_iff.mp (show (atI l i).map Rv.dat = some o from ho)
      obtain ⟨p, xs, rfl, _, hx, r, z⟩ := vx.tup s
      obtain ⟨v, hv, rv⟩ := atI_rep r h1
      exact .inr ⟨p, xs, i, v, rfl, vy.int, hx, hv, k v H F (New.refl s) rv⟩
    | _ => cases ho
  | _ => cases ho
end
section
variable {X : Cx} {w : Wd} {W : WX} {a b e : Expr} {es : List Expr} {ca cb ce : M Rv} {cs : M (List Rv)} {pos p2 : Pos} {lo hi : Option Expr} {cl ch : Option (M Rv)}
theorem d_ix (hK : w.K = X.K) (ha : PE X a (T w W ca)) (hb : PE X b (T w W cb)) (hs : PlainIx b := by intro _ _; rfl) : PE X (.Subscript a b pos) (T w W (m2 ixD ca cb)) := (pe_ix (IxR.or ix_list ix_tup) ha hb hs).imp (T.op (o_ix hK))
theorem KReps.find {F : Hp} {k : Key} : ∀ {kvs : List (Key × V)} {ds : List (Key × D)} {d : D}, KReps w F kvs ds → (ds.find? fun q => decide (q.1 = k)).map (·.2) = some d → ∃ v, (kvs.find? fun q => decide (q.1 = k)).map (·.2) = some v ∧ Rep w F v d
  | _, _, d, .nil, e => by cases e
  | _, _, d, .cons (k := j) r t, e => by
    simp only [List.find?_cons] at e ⊢
    by_cases h : j = k
    · simp only [h, decide_true] at e ⊢
      cases e
      exact ⟨_, rfl, r⟩
    · simp only [h, decide_false] at e ⊢
      exact KReps.find t e
/-- d[k] of a dict -/
theorem d_dget (hu : X.A.units + 1 < cLine) (ha : PE X a (T w W ca)) (hb : PE X b (T w W cb)) (hs : NoSl b) : PE X (.Subscript a b pos) (T w W (m2 dgetD ca cb)) := (pe_dget hu ha hb hs).imp fun σ H Q ⟨g, F, Γ, R, p⟩ => by
  refine ⟨g, F, Γ, R, Post.bind (Step.refl ..) p fun r1 Γ1 _ p1 x H1 F1 S1 R1 q1 => ?_⟩
  refine ⟨g, F1, Γ1, R1, Post.bind S1 p1 fun r2 Γ2 _ p2 y H2 F2 S2 R2 q2 => ?_⟩
  obtain ⟨d, e1, p2⟩ := p2.opt
  obtain ⟨e, e2, p2⟩ := p2.opt
  obtain ⟨o, e3, p2⟩ := p2.opt
  have vx := ((q1.at R S1).step S2).view R2 e1
  have vy := (q2.at R1 S2).view R2 e2
  cases d with
  | dct l =>
    obtain ⟨k, hk, e3⟩ := Option.bind_eq_some_iff.mp (show (keyD e).bind _ = some o from e3)
    obtain ⟨d', hf, rfl⟩ := Option.map_eq_some_iff.mp e3
    obtain ⟨a', kvs, rfl, hH, kr⟩ := vx.dct R2.sub
    obtain ⟨v, hv, rv⟩ := kr.find hf
    have hy : y = kV k := by
      cases e with
      | int i => cases hk; exact vy.int
      | str s => cases hk; exact vy.str
      | _ => cases hk
    refine ⟨a', v, rfl, ?_, p2 v H2 F2 (S1.trans S2) R2 rv⟩
    rw [hy, ← hv]
    exact DGet.k hH
  | _ => cases e3
/-! ### slices -/
theorem Reps.cut {F : Hp} {xs : List V} {l : List D} (r : Reps w F xs l) (lo hi : Option Int) : Reps w F (cutV xs lo hi) (cutD l lo hi) := by
  unfold cutV cutD
  rw [r.length]
  exact (r.drop _).take _
theorem cutD_len (l : List D) (lo hi : Option Int) : (cutD l lo hi).length ≤ l.length := by
  unfold cutD
  rw [List.length_take, List.length_drop]
  omega
/-- the parts of a slice -/
inductive PartD (X : Cx) (w : Wd) (W : WX) : Option Expr → Option (M Rv) → Prop
  | no : PartD X w W none none
  | of {e : Expr} {c : M Rv} : PE X e (T w W c) → PartD X w W (some e) (some c)
theorem PartD.po {oe : Option Expr} {oc : Option (M Rv)} (h : PartD X w W oe oc) : ∃ t, PO X oe t ∧ ∀ {σ H} {Q : Option Int → Hp → Prop} {g F Γ}, Rel w g F Γ σ H → Post w W (fun _ _ _ _ o o' => o = o') g F Γ σ H Q (mPart oc Γ) → t σ H Q := by
  cases h with
  | no => exact ⟨_, po_none, fun {σ H Q g F Γ} R p => p none H F (Step.refl ..) R rfl⟩
  | of he =>
    refine ⟨_, po_some he, fun {σ H Q g F Γ} R p => ?_⟩
    refine ⟨g, F, Γ, R, Post.bind (Step.refl ..) p fun r1 Γ1 _ p1 x H1 F1 S1 R1 q1 => ?_⟩
    cases hl : look Γ1 r1 with
    | none => simp only [hl] at p1; exact p1.elim
    | some d =>
      cases d with
      | int i =>
        simp only [hl] at p1
        have vx := (q1.at R S1).view R1 hl
        exact ⟨i, vx.int, p1 (some i) H1 F1 S1 R1 rfl⟩
      | _ => simp only [hl] at p1; exact p1.elim
theorem d_slice (hK : w.K = X.K) (he : PE X e (T w W ce)) (hl : PartD X w W lo cl) (hh : PartD X w W hi ch) : PE X (.Subscript e (.Slice lo hi none p2) pos) (T w W (mSl ce cl ch)) := by
  obtain ⟨t1, h1, k1⟩ := hl.po
  obtain ⟨t2, h2, k2⟩ := hh.po
  refine (pe_slice (SlR.or sl_list sl_tupA) he h1 h2).imp fun σ H Q ⟨g, F, Γ, R, p⟩ => ?_
  refine ⟨g, F, Γ, R, Post.bind (Step.refl ..) p fun r1 Γ1 _ p1 x H1 F1 S1 R1 q1 => ?_⟩
  refine k1 R1 (Post.bind S1 p1 fun a Γ2 _ p2 a' H2 F2 S2 R2 ea => ?_)
  subst ea
  refine k2 R2 (Post.bind (S1.trans S2) p2 fun b Γ3 _ p3 b' H3 F3 S3 R3 eb => ?_)
  subst eb
  obtain ⟨d, e1, p3⟩ := p3.opt
  obtain ⟨o, e2, p3⟩ := p3.opt
  have vx := (((q1.at R S1).step S2).step S3).view R3 e1
  have S123 := (S1.trans S2).trans S3
  cases d with
  | lst l =>
    cases e2
    obtain ⟨p', xs, rfl, hx, r, z⟩ := vx.lst R3.sub
    refine .inl ⟨p', xs, rfl, by rw [← hK]; exact hx, fun q hq => ?_⟩
    obtain ⟨N, rn⟩ := new_lst R3.sub hq (r.cut a' b') (Nat.le_trans (cutD_len l a' b') z)
    exact p3 _ _ _ (S123.trans N.step) (R3.new N) (rn.noσ.early S123.th)
  | tup l =>
    cases e2
    obtain ⟨p', xs, rfl, hF, hx, r, z⟩ := vx.tup R3.sub
    refine .inr ⟨p', xs, rfl, by rw [← hK]; exact hx, fun ⟨z1, z2⟩ => ?_, fun _ q hq => ?_⟩
    · have el : cutD l a' b' = l := by
        unfold cutD
        rw [r.length] at z1 z2
        rw [z1, z2, List.drop_zero, Nat.sub_zero, List.take_length]
      rw [el] at p3
      exact p3 _ H3 F3 S123 R3 (.tup hF r z)
    · obtain ⟨N, rn⟩ := new_tup R3.sub hq (r.cut a' b') (Nat.le_trans (cutD_len l a' b') z)
      exact p3 _ _ _ (S123.trans N.step) (R3.new N) rn
  | _ => cases e2
end
end PD

/-! PD17: built-in functions on data. -/
namespace PD
open PySem PySem.Spec L2
/-! ### what they do -/
def lenD : List D → Option Rv
  | [.lst l] => some (.dat (.int l.length))
  | [.tup l] => some (.dat (.int l.length))
  | _ => none
def tyN : D → Option String
  | .non => some "NoneType"
  | .bl _ => some "bool"
  | .int _ => some "int"
  | .str _ => some "str"
  | .tup _ => some "tuple"
  | .lst _ => some "list"
  | .dct _ => some "dict"
  | .set _ => some "set"
  | _ => none
def tnames : List String := ["NoneType", "bool", "int", "str", "tuple", "list", "dict", "set"]
def isTb (a u : String) : Bool := a == u || (a == "bool" && u == "int")
def isiD (cl : List Nat) : List D → Option Rv
  | [d, .ty u] => match tyN d with
    | some a => if tnames.contains u = true then some (.dat (.bl (isTb a u))) else none
    | none => none
  | [.obj c _, .glb c'] => if c = c' ∧ c ∈ cl then some (.dat (.bl true)) else none
  | _ => none
def bools : List D → Option (List Bool)
  | [] => some []
  | .bl b :: r => (bools r).map (b :: ·)
  | _ => none
def intsD : List D → Option (List Int)
  | [] => some []
  | .int i :: r => (intsD r).map (i :: ·)
  | _ => none
def allD : List D → Option Rv
  | [.lst l] => (bools l).map fun bs => .dat (.bl (bs.all id))
  | _ => none
def anyD : List D → Option Rv
  | [.lst l] => (bools l).map fun bs => .dat (.bl (bs.any id))
  | _ => none
def sumD : List D → Option Rv
  | [.lst l] => (intsD l).map fun is => .dat (.int is.sum)
  | _ => none
def minI : List Int → Int
  | [] => 0
  | [i] => i
  | i :: r => if minI r < i then minI r else i
def maxI : List Int → Int
  | [] => 0
  | [i] => i
  | i :: r => if maxI r > i then maxI r else i
def minD : List D → Option Rv
  | [.int i, .int j] => some (.dat (.int (if j < i then j else i)))
  | [.lst l] => (intsD l).bind fun is => if is = [] then none else some (.dat (.int (minI is)))
  | _ => none
def maxD : List D → Option Rv
  | [.int i, .int j] => some (.dat (.int (if j > i then j else i)))
  | [.lst l] => (intsD l).bind fun is => if is = [] then none else some (.dat (.int (maxI is)))
  | _ => none
def absD : List D → Option Rv
  | [.int i] => some (.dat (.int (if i < 0 then -i else i)))
  | _ => none
def intD : List D → Option Rv
  | [.int i] => some (.dat (.int i))
  | [.bl b] => some (.dat (.int (if b then 1 else 0)))
  | _ => none
def dvmD : List D → Option Rv
  | [.int i, .int j] => if 0 < j ∧ j < 1073741824 then some (.dat (.tup [.int (i / j), .int (i % j)])) else none
  | _ => none
def tupD : List D → Option Rv
  | [.lst l] => some (.dat (.tup l))
  | [.tup l] => some (.dat (.tup l))
  | _ => none
def lstD : List D → Option Rv
  | [.lst l] => some (.own (.lst l))
  | [.tup l] => some (.own (.lst l))
  | _ => none
/-- the ints in order -/
def ins (i : Int) : List Int → List Int
  | [] => [i]
  | j :: r => if i ≤ j then i :: j :: r else j :: ins i r
def srt : List Int → List Int
  | [] => []
  | i :: r => ins i (srt r)
def sortedD : List D → Option Rv
  | [.lst l] => (intsD l).map fun is => .own (.lst ((srt is).map .int))
  | _ => none
def reprB : D → Option Str
  | .non => some "None"
  | .bl b => some (if b then "True" else "False")
  | .int i => if i.natAbs.log2 < 1920 then some (toString i) else none
  | .str _ => none
  | d => match pd d with
    | some p => if p.showable = true ∧ p.hasDict = false ∧ p.depth ≤ 16 ∧ p.shown.length ≤ LIM then some p.shown else none
    | none => none
def reprD : List D → Option Rv
  | [d] => (reprB d).map fun s => .dat (.str s)
  | _ => none
/-! ### they are so -/
section
variable {w : Wd}
theorem Views.one {F H : Hp} {xs : List V} {d : D} (h : Views w F H xs [d]) : ∃ x, xs = [x] ∧ View w F H x d := by
  cases h with
  | cons r t => cases t; exact ⟨_, rfl, r⟩
theorem Views.two {F H : Hp} {xs : List V} {d e : D} (h : Views w F H xs [d, e]) : ∃ x y, xs = [x, y] ∧ View w F H x d ∧ View w F H y e := by
  cases h with
  | cons r t =>
    obtain ⟨y, rfl, q⟩ := Views.one t
    exact ⟨_, y, rfl, r, q⟩
theorem of_bools {F : Hp} : ∀ {l : List D} {bs : List Bool} {xs : List V}, bools l = some bs → Reps w F xs l → xs = bs.map V.bl
  | [], bs, _, e, .nil => by cases e; rfl
  | d :: l, bs, _, e, .cons r t => by
    cases d with
    | bl b =>
      simp only [bools] at e
      obtain ⟨cs, e1, e2⟩ := Option.map_eq_some_iff.mp e
      subst e2
      cases r
      rw [List.map_cons, of_bools e1 t]
    | _ => cases e
theorem of_intsD {F : Hp} : ∀ {l : List D} {bs : List Int} {xs : List V}, intsD l = some bs → Reps w F xs l → xs = bs.map V.int
  | [], bs, _, e, .nil => by cases e; rfl
  | d :: l, bs, _, e, .cons r t => by
    cases d with
    | int b =>
      simp only [intsD] at e
      obtain ⟨cs, e1, e2⟩ := Option.map_eq_some_iff.mp e
      subst e2
      cases r
      rw [List.map_cons, of_intsD e1 t]
    | _ => cases e
theorem intsD_len : ∀ {l : List D} {bs : List Int}, intsD l = some bs → bs.length = l.length
  | [], bs, e => by cases e; rfl
  | d :: l, bs, e => by
    cases d with
    | int b =>
      simp only [intsD] at e
      obtain ⟨cs, e1, e2⟩ := Option.map_eq_some_iff.mp e
      subst e2
      rw [List.length_cons, List.length_cons, intsD_len e1]
    | _ => cases e
theorem o_len {K : PySem.W.Frag} (hK : w.K = K) : OpDn w (fun xs H Q => ∃ x n, xs = [x] ∧ LenV K x H n ∧ Q (.int n) H) lenD := fun F H xs ds o Q s vs ho k => by
  subst hK
  unfold lenD at ho
  split at ho
  · rename_i l
    cases ho
    obtain ⟨x, rfl, vx⟩ := vs.one
    obtain ⟨a, ys, rfl, hx, r, z⟩ := vx.lst s
    exact ⟨_, ys.length, rfl, .inl ⟨ys, hx, rfl⟩, by rw [r.length]; exact k _ H F (New.refl s) (.int _)⟩
  · rename_i l
    cases ho
    obtain ⟨x, rfl, vx⟩ := vs.one
    obtain ⟨a, ys, rfl, _, hx, r, z⟩ := vx.tup s
    exact ⟨_, ys.length, rfl, .inr ⟨ys, hx, rfl⟩, by rw [r.length]; exact k _ H F (New.refl s) (.int _)⟩
  · cases ho
theorem isT_ok : ∀ a ∈ tnames, ∀ u ∈ tnames, kitB a u = some (isTb a u) := by decide +kernel
theorem tyN_mem {d : D} {a : String} (h : tyN d = some a) : a ∈ tnames := by
  cases d <;> cases h <;> decide
theorem ty_of {F H : Hp} (s : Le F H) {v : V} {d : D} {a : String} (h : View w F H v d) (e : tyN d = some a) : TyX w.K H v (.type a) := by
  cases d with
  | non => cases h.non; cases e; exact .base .non
  | bl b => cases h.bl; cases e; exact .base (.bl b)
  | int b => cases h.int; cases e; exact .base (.int b)
  | str b => cases h.str; cases e; exact .base (.str b)
  | tup l =>
    cases e
    obtain ⟨p, xs, rfl, _, hx, _⟩ := h.tup s
    rcases hx with (hx | ⟨o, hx⟩) | ⟨o, its, n, h1, h2, _⟩
    · exact .base (.tup hx)
    · exact .fTuple hx
    · exact .kTuple h1 h2
  | lst l =>
    cases e
    obtain ⟨p, xs, rfl, hx, _⟩ := h.lst s
    rcases hx with (hx | ⟨o, hx⟩) | ⟨o, its, n, h1, h2, _⟩
    · exact .base (.lst hx)
    · exact .base (.frz hx)
    · exact .kList h1 h2
  | dct l =>
    cases e
    obtain ⟨p, xs, rfl, hx, _⟩ := h.dct s
    exact .base (.dK hx)
  | set l =>
    cases e
    obtain ⟨p, S, n, rfl, hx, _⟩ := h.set s
    exact .set hx
  | _ => cases e
theorem o_isi {K : PySem.W.Frag} (hK : w.K = K) {cl : List Nat} (hI : ∀ c ∈ cl, C8.InsC w.K (w.adr c)) : OpDn w (rIsi K) (isiD cl) := fun F H xs ds o Q s vs ho k => by
  subst hK
  unfold isiD at ho
  split at ho
  · rename_i d u
    obtain ⟨x, y, rfl, vx, vy⟩ := vs.two
    cases ht : tyN d with
    | none => rw [ht] at ho; cases ho
    | some a =>
      rw [ht] at ho
      split at ho
      · rename_i a' e1
        cases e1
        by_cases hu : tnames.contains u = true
        · rw [if_pos hu] at ho
          cases ho
          exact ⟨x, y, .type a, .type u, isTb a u, rfl, by rw [vy.ty]; exact .ty u, ty_of s vx ht, kit_ty (isT_ok a (tyN_mem ht) u (by simpa using hu)), k _ H F (New.refl s) (.bl _)⟩
        · rw [if_neg hu] at ho; cases ho
      · cases ho
  · rename_i c l c'
    obtain ⟨x, y, rfl, vx, vy⟩ := vs.two
    by_cases hc : c = c' ∧ c ∈ cl
    · rw [if_pos hc] at ho
      cases ho
      obtain ⟨hc, hcl⟩ := hc
      subst hc
      have I := hI c hcl
      obtain ⟨a, dx, fs, rfl, hx, _⟩ := vx.obj s
      exact ⟨_, y, .ref (w.adr c), .ref (w.adr c), true, rfl, by rw [vy.glb]; exact .own _, .base (.ins hx I.cl I.ha I.hn I.htk I.hm), I.me, k _ H F (New.refl s) (.bl _)⟩
    · rw [if_neg hc] at ho; cases ho
  · cases ho
theorem o_all {K : PySem.W.Frag} (hK : w.K = K) : OpDn w (rAll K) allD := fun F H xs ds o Q s vs ho k => by
  subst hK
  unfold allD at ho
  split at ho
  · obtain ⟨bs, e1, rfl⟩ := Option.map_eq_some_iff.mp ho
    obtain ⟨x, rfl, vx⟩ := vs.one
    obtain ⟨a, ys, rfl, hx, r, z⟩ := vx.lst s
    rw [of_bools e1 r] at hx
    exact ⟨a, bs, rfl, hx, k _ H F (New.refl s) (.bl _)⟩
  · cases ho
theorem o_any {K : PySem.W.Frag} (hK : w.K = K) : OpDn w (rAny K) anyD := fun F H xs ds o Q s vs ho k => by
  subst hK
  unfold anyD at ho
  split at ho
  · obtain ⟨bs, e1, rfl⟩ := Option.map_eq_some_iff.mp ho
    obtain ⟨x, rfl, vx⟩ := vs.one
    obtain ⟨a, ys, rfl, hx, r, z⟩ := vx.lst s
    rw [of_bools e1 r] at hx
    exact ⟨a, bs, rfl, hx, k _ H F (New.refl s) (.bl _)⟩
  · cases ho
theorem o_sum {K : PySem.W.Frag} (hK : w.K = K) : OpDn w (rSum K) sumD := fun F H xs ds o Q s vs ho k => by
  subst hK
  unfold sumD at ho
  split at ho
  · obtain ⟨bs, e1, rfl⟩ := Option.map_eq_some_iff.mp ho
    obtain ⟨x, rfl, vx⟩ := vs.one
    obtain ⟨a, ys, rfl, hx, r, z⟩ := vx.lst s
    rw [of_intsD e1 r] at hx
    exact ⟨a, bs, rfl, hx, k _ H F (New.refl s) (.int _)⟩
  · cases ho
theorem minI_is : ∀ (l : List Int), l ≠ [] → minI l ∈ l ∧ ∀ y ∈ l, minI l ≤ y
  | [], h => absurd rfl h
  | [i], _ => ⟨by simp [minI], fun y hy => by simp at hy; subst hy; simp [minI]⟩
  | i :: j :: r, _ => by
    obtain ⟨h1, h2⟩ := minI_is (j :: r) (by simp)
    simp only [minI] at h1 h2 ⊢
    split
    · exact ⟨List.mem_cons_of_mem _ h1, fun y hy => by
        rcases List.mem_cons.mp hy with z | z
        · omega
        · exact h2 y z⟩
    · refine ⟨List.mem_cons_self, fun y hy => ?_⟩
      rcases List.mem_cons.mp hy with z | z
      · omega
      · have := h2 y z; omega
theorem maxI_is : ∀ (l : List Int), l ≠ [] → maxI l ∈ l ∧ ∀ y ∈ l, y ≤ maxI l
  | [], h => absurd rfl h
  | [i], _ => ⟨by simp [maxI], fun y hy => by simp at hy; subst hy; simp [maxI]⟩
  | i :: j :: r, _ => by
    obtain ⟨h1, h2⟩ := maxI_is (j :: r) (by simp)
    simp only [maxI] at h1 h2 ⊢
    split
    · exact ⟨List.mem_cons_of_mem _ h1, fun y hy => by
        rcases List.mem_cons.mp hy with z | z
        · omega
        · exact h2 y z⟩
    · refine ⟨List.mem_cons_self, fun y hy => ?_⟩
      rcases List.mem_cons.mp hy with z | z
      · omega
      · have := h2 y z; omega
theorem o_min {K : PySem.W.Frag} (hK : w.K = K) : OpDn w (fun xs H Q => (∃ i j, xs = [.int i, .int j] ∧ Q (.int (if j < i then j else i)) H) ∨ rMin K xs H Q) minD := fun F H xs ds o Q s vs ho k => by
  subst hK
  unfold minD at ho
  split at ho
  · rename_i i j
    cases ho
    obtain ⟨x, y, rfl, vx, vy⟩ := vs.two
    exact .inl ⟨i, j, by rw [vx.int, vy.int], k _ H F (New.refl s) (.int _)⟩
  · rename_i l
    obtain ⟨is, e1, ho⟩ := Option.bind_eq_some_iff.mp ho
    by_cases hn : is = []
    · rw [if_pos hn] at ho; cases ho
    · rw [if_neg hn] at ho
      cases ho
      obtain ⟨x, rfl, vx⟩ := vs.one
      obtain ⟨a, ys, rfl, hx, r, z⟩ := vx.lst s
      rw [of_intsD e1 r] at hx
      refine .inr ⟨a, is, rfl, hx, List.length_pos_iff.mpr hn, fun m hm hle => ?_⟩
      obtain ⟨h1, h2⟩ := minI_is is hn
      have : m = minI is := by
        have := hle _ h1
        have := h2 _ hm
        omega
      rw [this]
      exact k _ H F (New.refl s) (.int _)
  · cases ho
theorem o_max {K : PySem.W.Frag} (hK : w.K = K) : OpDn w (fun xs H Q => (∃ i j, xs = [.int i, .int j] ∧ Q (.int (if j > i then j else i)) H) ∨ rMax K xs H Q) maxD := fun F H xs ds o Q s vs ho k => by
  subst hK
  unfold maxD at ho
  split at ho
  · rename_i i j
    cases ho
    obtain ⟨x, y, rfl, vx, vy⟩ := vs.two
    exact .inl ⟨i, j, by rw [vx.int, vy.int], k _ H F (New.refl s) (.int _)⟩
  · rename_i l
    obtain ⟨is, e1, ho⟩ := Option.bind_eq_some_iff.mp ho
    by_cases hn : is = []
    · rw [if_pos hn] at ho; cases ho
    · rw [if_neg hn] at ho
      cases ho
      obtain ⟨x, rfl, vx⟩ := vs.one
      obtain ⟨a, ys, rfl, hx, r, z⟩ := vx.lst s
      rw [of_intsD e1 r] at hx
      refine .inr ⟨a, is, rfl, hx, List.length_pos_iff.mpr hn, fun m hm hle => ?_⟩
      obtain ⟨h1, h2⟩ := maxI_is is hn
      have : m = maxI is := by
        have := hle _ h1
        have := h2 _ hm
        omega
      rw [this]
      exact k _ H F (New.refl s) (.int _)
  · cases ho
theorem CallR.or {X : Cx} {f : Value} {r r' : List V → Hp → VK → Prop} (h : CallR X f r) (h' : CallR X f r') : CallR X f (fun xs H Q => r xs H Q ∨ r' xs H Q) := by
  intro pins s σ H xs us Q I rv q
  rcases q with q | q
  · exact h pins s σ H xs us Q I rv q
  · exact h' pins s σ H xs us Q I rv q
theorem o_abs : OpDn w (fun xs H Q => ∃ i, xs = [.int i] ∧ Q (.int (if i < 0 then -i else i)) H) absD := fun F H xs ds o Q s vs ho k => by
  unfold absD at ho
  split at ho
  · cases ho
    obtain ⟨x, rfl, vx⟩ := vs.one
    exact ⟨_, by rw [vx.int], k _ H F (New.refl s) (.int _)⟩
  · cases ho
theorem o_int1 : OpDn w (fun xs H Q => (∃ i, xs = [.int i] ∧ Q (.int i) H) ∨ ∃ k, xs = [.bl k] ∧ Q (.int (if k then 1 else 0)) H) intD := fun F H xs ds o Q s vs ho k => by
  unfold intD at ho
  split at ho
  · cases ho
    obtain ⟨x, rfl, vx⟩ := vs.one
    exact .inl ⟨_, by rw [vx.int], k _ H F (New.refl s) (.int _)⟩
  · cases ho
    obtain ⟨x, rfl, vx⟩ := vs.one
    exact .inr ⟨_, by rw [vx.bl], k _ H F (New.refl s) (.int _)⟩
  · cases ho
theorem o_dvm : OpDn w (fun xs H Q => ∃ i j, xs = [.int i, .int j] ∧ CDiv i j ∧ ∀ p, H p = none → Q (.ref p) (upd H p (.tup [.int (i / j), .int (i % j)]))) dvmD := fun F H xs ds o Q s vs ho k => by
  unfold dvmD at ho
  split at ho
  · rename_i i j
    split at ho
    · rename_i hc
      cases ho
      obtain ⟨x, y, rfl, vx, vy⟩ := vs.two
      refine ⟨i, j, by rw [vx.int, vy.int], hc, fun p hp => ?_⟩
      obtain ⟨N, r⟩ := new_tup (w := w) (ds := [.int (i / j), .int (i % j)]) s hp (.cons (.int _) (.cons (.int _) .nil)) (by show 2 ≤ LIM; decide)
      exact k _ _ _ N r
    · cases ho
  · cases ho
theorem o_tuple {K : PySem.W.Frag} (hK : w.K = K) : OpDn w (fun xs H Q => ∃ p ys, xs = [.ref p] ∧ ((SqL K H p ys ∧ ∀ l, H l = none → Q (.ref l) (upd H l (.tup ys))) ∨ (SqT K H p ys ∧ Q (.ref p) H))) tupD := fun F H xs ds o Q s vs ho k => by
  subst hK
  unfold tupD at ho
  split at ho
  · cases ho
    obtain ⟨x, rfl, vx⟩ := vs.one
    obtain ⟨a, ys, rfl, hx, r, z⟩ := vx.lst s
    refine ⟨a, ys, rfl, .inl ⟨hx, fun p hp => ?_⟩⟩
    obtain ⟨N, rn⟩ := new_tup s hp r z
    exact k _ _ _ N rn
  · cases ho
    obtain ⟨x, rfl, vx⟩ := vs.one
    obtain ⟨a, ys, rfl, hF, hx, r, z⟩ := vx.tup s
    exact ⟨a, ys, rfl, .inr ⟨hx, k _ H F (New.refl s) (.tup hF r z)⟩⟩
  · cases ho
theorem o_list {K : PySem.W.Frag} (hK : w.K = K) : OpDn w (fun xs H Q => ∃ p ys, xs = [.ref p] ∧ (SqL K H p ys ∨ SqT K H p ys) ∧ ∀ l, H l = none → Q (.ref l) (upd H l (.lst ys))) lstD := fun F H xs ds o Q s vs ho k => by
  subst hK
  unfold lstD at ho
  split at ho
  · cases ho
    obtain ⟨x, rfl, vx⟩ := vs.one
    obtain ⟨a, ys, rfl, hx, r, z⟩ := vx.lst s
    refine ⟨a, ys, rfl, .inl hx, fun p hp => ?_⟩
    obtain ⟨N, rn⟩ := new_lst s hp r z
    exact k _ _ _ N rn
  · cases ho
    obtain ⟨x, rfl, vx⟩ := vs.one
    obtain ⟨a, ys, rfl, hF, hx, r, z⟩ := vx.tup s
    refine ⟨a, ys, rfl, .inr hx, fun p hp => ?_⟩
    obtain ⟨N, rn⟩ := new_lst s hp r z
    exact k _ _ _ N rn
  · cases ho
/-! ### sorted -/
theorem ins_perm (i : Int) : ∀ l, (ins i l).Perm (i :: l)
  | [] => .refl _
  | j :: r => by
    unfold ins
    split
    · exact .refl _
    · exact ((ins_perm i r).cons j).trans (List.Perm.swap ..)
theorem srt_perm : ∀ l, (srt l).Perm l
  | [] => .refl _
  | i :: r => (ins_perm i _).trans ((srt_perm r).cons i)
theorem ins_sorted (i : Int) : ∀ l, l.Pairwise (· ≤ ·) → (ins i l).Pairwise (· ≤ ·)
  | [], _ => by simp [ins]
  | j :: r, h => by
    unfold ins
    obtain ⟨h1, h2⟩ := List.pairwise_cons.mp h
    split
    · rename_i hij
      refine List.pairwise_cons.mpr ⟨fun x hx => ?_, h⟩
      rcases List.mem_cons.mp hx with z | z
      · omega
      · have := h1 x z; omega
    · rename_i hij
      refine List.pairwise_cons.mpr ⟨fun x hx => ?_, ins_sorted i r h2⟩
      rcases List.mem_cons.mp ((ins_perm i r).mem_iff.mp hx) with z | z
      · omega
      · exact h1 x z
theorem srt_sorted : ∀ l, (srt l).Pairwise (· ≤ ·)
  | [] => .nil
  | i :: r => ins_sorted i _ (srt_sorted r)
theorem perm_sorted : ∀ {a b : List Int}, a.Perm b → a.Pairwise (· ≤ ·) → b.Pairwise (· ≤ ·) → a = b
  | [], b, p, _, _ => (List.Perm.nil_eq p)
  | x :: a, [], p, _, _ => by have := p.length_eq; simp at this
  | x :: a, y :: b, p, h1, h2 => by
    obtain ⟨a1, a2⟩ := List.pairwise_cons.mp h1
    obtain ⟨b1, b2⟩ := List.pairwise_cons.mp h2
    have hx : x = y := by
      have m1 : x ∈ y :: b := p.mem_iff.mp List.mem_cons_self
      have m2 : y ∈ x :: a := p.mem_iff.mpr List.mem_cons_self
      rcases List.mem_cons.mp m1 with z | z
      · exact z
      · rcases List.mem_cons.mp m2 with z2 | z2
        · exact z2.symm
        · have := b1 x z; have := a1 y z2; omega
    subst hx
    rw [perm_sorted (List.perm_cons x |>.mp p) a2 b2]
theorem srt_eq {l m : List Int} (p : m.Perm l) (h : m.Pairwise (· ≤ ·)) : m = srt l := perm_sorted (p.trans (srt_perm l).symm) h (srt_sorted l)
theorem reps_ints {F : Hp} (l : List Int) : Reps w F (l.map V.int) (l.map D.int) := Reps.ints l
theorem o_sorted {K : PySem.W.Frag} (hK : w.K = K) : OpDn w (rSortedI K) sortedD := fun F H xs ds o Q s vs ho k => by
  subst hK
  unfold sortedD at ho
  split at ho
  · obtain ⟨is, e1, rfl⟩ := Option.map_eq_some_iff.mp ho
    obtain ⟨x, rfl, vx⟩ := vs.one
    obtain ⟨a, ys, rfl, hx, r, z⟩ := vx.lst s
    rw [of_intsD e1 r] at hx
    refine ⟨a, is, rfl, hx, fun ns' p hp hs hn => ?_⟩
    have e := srt_eq hp hs
    subst e
    obtain ⟨N, rn⟩ := new_lst (w := w) s hn (reps_ints (srt is)) (by rw [List.length_map, (srt_perm is).length_eq, intsD_len e1]; exact z)
    exact k _ _ _ N rn
  · cases ho
/-! ### repr -/
def rRepr (K : PySem.W.Frag) : List V → Hp → VK → Prop := fun xs H Q => (xs = [.non] ∧ Q (.str "None") H) ∨ (∃ b, xs = [.bl b] ∧ Q (.str (if b then "True" else "False")) H) ∨ (∃ i : Int, xs = [.int i] ∧ i.natAbs.log2 < 1920 ∧ Q (.str (toString i)) H) ∨
  ∃ a p, xs = [.ref a] ∧ Dp K H (.ref a) p ∧ p.showable = true ∧ p.hasDict = false ∧ p.depth ≤ 16 ∧ p.shown.length ≤ LIM ∧ Q (.str p.shown) H
theorem call_repr {X : Cx} (gd : X.A.guards = some []) (hu : X.A.units + 64 < cLine) : CallR X (.builtin "repr") (rRepr X.K) := by
  intro pins s σ H xs us Q I r h
  rcases h with ⟨rfl, q⟩ | ⟨b, rfl, q⟩ | ⟨i, rfl, hz, q⟩ | ⟨a, p, rfl, hd, h1, h2, h3, h4, q⟩
  · obtain ⟨u, rfl, ru⟩ := Vals.one r
    cases ru
    exact PySem.P.repr_of_none ⟨.str _, H, I.tok _, ⟨_, rfl⟩, q⟩
  · obtain ⟨u, rfl, ru⟩ := Vals.one r
    cases ru
    refine PySem.P.repr_of_bool ⟨.str (if b then "True" else "False"), H, I.tok _, ⟨s.toks, ?_⟩, q⟩
    cases b <;> rfl
  · obtain ⟨u, rfl, ru⟩ := Vals.one r
    obtain ⟨t, rfl⟩ := ru
    exact PySem.P.repr_of_int hz ⟨.str _, H, I.tok _, ⟨_, rfl⟩, q⟩
  · obtain ⟨u, rfl, ru⟩ := Vals.one r
    obtain ⟨as, rd⟩ := Dp.reads I p (.ref a) u hd ru
    cases ru
    refine repr_of_reads' rd h1 (fun h' => absurd h' (by rw [h2]; simp)) gd (by omega) (fun _ _ e => e) (fun h' u tk hk => ?_) (by rw [← lim_line]; exact h4)
    exact ⟨.str p.shown, H, I.kept hk, ⟨_, rfl⟩, q⟩
theorem o_repr {K : PySem.W.Frag} (hK : w.K = K) : OpDn w (rRepr K) reprD := fun F H xs ds o Q s vs ho k => by
  subst hK
  unfold reprD at ho
  split at ho
  · rename_i d
    obtain ⟨t, e1, rfl⟩ := Option.map_eq_some_iff.mp ho
    obtain ⟨x, rfl, vx⟩ := vs.one
    have deep : (∃ a, x = .ref a) → (match pd d with
        | some p => if p.showable = true ∧ p.hasDict = false ∧ p.depth ≤ 16 ∧ p.shown.length ≤ LIM then some p.shown else none
        | none => none) = some t → rRepr w.K [x] H Q := fun ⟨a, ea⟩ e => by
      subst ea
      cases hp : pd d with
      | none => rw [hp] at e; cases e
      | some p =>
        rw [hp] at e
        simp only at e
        split at e
        · rename_i hc
          cases e
          exact .inr (.inr (.inr ⟨a, p, rfl, view_dp s vx hp, hc.1, hc.2.1, hc.2.2.1, hc.2.2.2, k _ H F (New.refl s) (.str _)⟩))
        · cases e
    cases d with
    | non => cases e1; exact .inl ⟨by rw [vx.non], k _ H F (New.refl s) (.str _)⟩
    | bl b => cases e1; exact .inr (.inl ⟨b, by rw [vx.bl], k _ H F (New.refl s) (.str _)⟩)
    | int i =>
      simp only [reprB] at e1
      split at e1
      · rename_i hz
        cases e1
        exact .inr (.inr (.inl ⟨i, by rw [vx.int], hz, k _ H F (New.refl s) (.str _)⟩))
      · cases e1
    | str x => cases e1
    | tup l => exact deep (vx.ref_of trivial) e1
    | lst l => exact deep (vx.ref_of trivial) e1
    | dct l => exact deep (vx.ref_of trivial) e1
    | set l => exact deep (vx.ref_of trivial) e1
    | obj c l => exact deep (vx.ref_of trivial) e1
    | glb n => exact deep (vx.ref_of trivial) e1
    | ty y => cases e1
    | rg n => cases e1
  · cases ho
end
end PD

/-! PD18: lists that grow, sums of lists, dicts written out, the ints of a set in order. -/
namespace PD
open PySem PySem.Spec L2
/-- a list of one's own -/
def ownL (Γ : EnD) : Rv → Option (List D)
  | .own (.lst l) => some l
  | .var j => match Γ[j]? with
    | some (some ⟨.own, .lst l⟩) => some l
    | some (some ⟨.par, .lst l⟩) => some l
    | some (some ⟨.lck, .lst l⟩) => some l
    | _ => none
  | _ => none
/-- a + b -/
def mAdd (a b : M Rv) : M Rv := fun Γ => (a Γ).bind fun r Γ => (b Γ).bind fun q Γ => match ownL Γ r, ownL Γ q with
  | some l, some m => if l.length + m.length ≤ LIM then .ok (.own (.lst (l ++ m))) Γ else .no
  | _, _ => R.opt (look Γ r) fun d => R.opt (look Γ q) fun e => R.opt (addD d e) fun o => .ok o Γ
def appD (d : D) : D → Option D
  | .lst l => if l.length < LIM then some (.lst (l ++ [d])) else none
  | _ => none
def isL (Γ : EnD) (i : Nat) : Bool := match Γ[i]? with
  | some (some ⟨.own, .lst _⟩) => true
  | some (some ⟨.par, .lst _⟩) => true
  | _ => false
/-- name.append(a) -/
def mApp (i : Nat) (a : M Rv) : M Rv := fun Γ => if isL Γ i = true then (mFz a Γ).bind fun r Γ => match r with
  | .dat d => (mut1 i (appD d) Γ).bind fun _ Γ => .ok (.dat .non) Γ
  | _ => .no else .no
def extD (m : List D) : D → Option D
  | .lst l => if l.length + m.length ≤ LIM then some (.lst (l ++ m)) else none
  | _ => none
/-- name.extend(a) -/
def mExt (i : Nat) (a : M Rv) : M Rv := fun Γ => if isL Γ i = true then (a Γ).bind fun r Γ => R.opt (ownL Γ r) fun m => (mut1 i (extD m) Γ).bind fun _ Γ => .ok (.dat .non) Γ else .no
/-- {k: a, l: b} -/
def mDct2 (k l : Str) (a b : M Rv) : M Rv := fun Γ => (mFz a Γ).bind fun r Γ => (mFz b Γ).bind fun q Γ => match r, q with
  | .dat d, .dat e => .ok (.own (.dct [(.inr k, d), (.inr l, e)])) Γ
  | _, _ => .no
def dd : List Int → List Int
  | [] => []
  | i :: r => if i ∈ r then dd r else i :: dd r
/-- sorted(set(a)) -/
def sortSet : List D → Option Rv
  | [.lst l] => (intsD l).bind fun is => if is.length < 4000 ∧ (dd is).length < 64 then some (.own (.lst ((srt (dd is)).map .int))) else none
  | _ => none
section
variable {X : Cx} {w : Wd} {W : WX} {g : Gx} {F F1 H H1 H0 : Hp} {Γ Γ1 : EnD} {σ : St} {a b : Expr} {ca cb : M Rv} {pos : Pos}
theorem ownL_at (R1 : Rel w g F1 Γ1 σ H1) {v : V} {r : Rv} {l : List D} (q : ResA w g F1 Γ1 σ H1 v r) (e : ownL Γ1 r = some l) : ∃ p xs, v = .ref p ∧ H1 p = some (.lst xs) ∧ Reps w F1 xs l ∧ l.length ≤ LIM := by
  cases r with
  | dat d => cases e
  | own d =>
    cases d with
    | lst m =>
      cases e
      obtain ⟨p, e, _, _, _, xs, h, r, z⟩ := q
      exact ⟨p, xs, e, h, r, z⟩
    | _ => cases e
  | var j =>
    have hσ : σ[j]? = some (some v) := q
    simp only [ownL] at e
    split at e
    · rename_i m h
      cases e
      obtain ⟨v', e1, p, e2, _, _, xs, h, r, z⟩ := R1.slot j _ h
      rw [hσ] at e1; cases e1
      exact ⟨p, xs, e2, h, r, z⟩
    · rename_i m h
      cases e
      obtain ⟨v', e1, p, e2, _, _, _, xs, h, r, z⟩ := R1.slot j _ h
      rw [hσ] at e1; cases e1
      exact ⟨p, xs, e2, h, r, z⟩
    · rename_i m h
      cases e
      obtain ⟨v', e1, p, e2, _, xs, h, r, z⟩ := R1.slot j _ h
      rw [hσ] at e1; cases e1
      exact ⟨p, xs, e2, h, r, z⟩
    · cases e
/-- a + b -/
theorem d_add (hK : w.K = X.K) (ha : PE X a (T w W ca)) (hb : PE X b (T w W cb)) : PE X (.BinOp a .Add b pos) (T w W (mAdd ca cb)) :=
  (pe_op (OpR.or (OpR.or op_add op_catA) op_cat) ha hb).imp fun σ H Q ⟨g, F, Γ, R, p⟩ => by
    refine ⟨g, F, Γ, R, Post.bind (Step.refl ..) p fun r1 Γ1 _ p1 x H1 F1 S1 R1 q1 => ?_⟩
    refine ⟨g, F1, Γ1, R1, Post.bind S1 p1 fun r2 Γ2 _ p2 y H2 F2 S2 R2 q2 => ?_⟩
    have A1 := (q1.at R S1).step S2
    have A2 := q2.at R1 S2
    have other : (∀ l m, ownL Γ2 r1 = some l → ownL Γ2 r2 = some m → False) → Post w W (ResN w) g F Γ σ H Q (PD.R.opt (look Γ2 r1) fun d => PD.R.opt (look Γ2 r2) fun e => PD.R.opt (addD d e) fun o => .ok o Γ2) → (rI0 (fun i j => .int (i + j)) x y H2 Q ∨ rCatA X.K x y H2 Q) ∨ rCat x y H2 Q := fun _ p2 => by
      obtain ⟨d, e1, p2⟩ := p2.opt
      obtain ⟨e, e2, p2⟩ := p2.opt
      obtain ⟨o, e3, p2⟩ := p2.opt
      refine .inl (o_add hK F2 H2 x y d e o Q R2.sub (A1.view R2 e1) (A2.view R2 e2) e3 fun v H3 F3 N res => ?_)
      exact p2 v H3 F3 ((S1.trans S2).trans N.step) (R2.new N) (res.noσ.early (S1.trans S2).th)
    cases e1 : ownL Γ2 r1 with
    | none =>
      simp only [e1] at p2
      exact other (fun l m z => by rw [e1] at z; cases z) p2
    | some l =>
      cases e2 : ownL Γ2 r2 with
      | none =>
        simp only [e1, e2] at p2
        exact other (fun l m _ z => by rw [e2] at z; cases z) p2
      | some m =>
        simp only [e1, e2] at p2
        by_cases hl : l.length + m.length ≤ LIM
        · rw [if_pos hl] at p2
          obtain ⟨p', xs, rfl, hx, rx, zx⟩ := ownL_at R2 A1 e1
          obtain ⟨q', ys, rfl, hy, ry, zy⟩ := ownL_at R2 A2 e2
          refine .inr ⟨p', q', xs, ys, rfl, rfl, hx, hy, by rw [rx.length, ry.length, ← lim_line]; exact hl, fun c hc => ?_⟩
          obtain ⟨N, rn⟩ := new_lst R2.sub hc (rx.append ry) (by rw [List.length_append]; exact hl)
          exact p2 _ _ _ ((S1.trans S2).trans N.step) (R2.new N) (rn.noσ.early (S1.trans S2).th)
        · rw [if_neg hl] at p2; exact p2.elim
theorem isL_at (R : Rel w g F Γ σ H) {i : Nat} (h : isL Γ i = true) : ∃ p xs, σ[i]? = some (some (.ref p)) ∧ H p = some (.lst xs) := by
  unfold isL at h
  split at h
  · rename_i l e
    obtain ⟨v, e1, p, e2, _, _, xs, h, _⟩ := R.slot i _ e
    subst e2
    exact ⟨p, xs, e1, h⟩
  · rename_i l e
    obtain ⟨v, e1, p, e2, _, _, _, xs, h, _⟩ := R.slot i _ e
    subst e2
    exact ⟨p, xs, e1, h⟩
  · cases h
variable {o e : Expr} {apos cpos : Pos} {i : Nat}
theorem d_app (ho : PE X o (L2.tVar i)) (ha : PE X a (T w W ca)) (hbase : attributeBase o "append" X.env (eval o X.env) = eval o X.env := by rfl)
    (hfew : ((backTo cpos (starEach [a] X.env)).all (fun x => !x.1) && (backToKw cpos (keywordEach [] X.env)).all (fun x => x.1.isSome)
      && decide ([a].length + ([] : List Keyword).length + (if ([] : List Keyword).isEmpty then 0 else 1) < 30)) = true := by rfl)
    (hline : (apos.endLine == cpos.line) = true := by rfl) (hs : starEach [a] X.env = (false, eval a X.env) :: starEach [] X.env := by rfl) :
    PE X (.Call (.Attribute o "append" apos) [a] [] cpos) (T w W (mApp i ca)) :=
  (pe_bm PySem.F.plainAttrs_list PySem.F.slot_list_append PySem.F.type_list_append mt_append ho (pa_cons (d_fz ha) pa_nil hs) hbase hfew hline hs (by rfl)).imp fun σ H Q ⟨g, F, Γ, R, p⟩ => by
    unfold mApp at p
    split at p
    · rename_i hl
      obtain ⟨pp, xs0, e1, h1⟩ := isL_at R hl
      refine ⟨_, e1, .inl ⟨rfl, xs0, .inl (.inl h1)⟩, ?_⟩
      refine ⟨g, F, Γ, R, Post.bind (Step.refl ..) p fun r1 Γ1 _ p1 y H1 F1 S1 R1 q1 => ?_⟩
      cases r1 with
      | own d => exact p1.elim
      | var j => exact p1.elim
      | dat d =>
        have p2 : Post w W (ResN w) g F Γ σ H Q ((mut1 i (appD d) Γ1).bind fun _ Γ => .ok (.dat .non) Γ) := p1
        clear p1
        cases hm : mut1 i (appD d) Γ1 with
        | no => rw [hm] at p2; exact p2.elim
        | ex x Γ3 => exact (mut1_ex hm).elim
        | ok u Γ3 =>
          rw [hm] at p2
          obtain ⟨a', d0, d1, e2, oa, hf, kk⟩ := mut1_ok R1 hm
          rw [e1] at e2
          cases e2
          cases d0 with
          | lst l =>
            simp only [appD] at hf
            split at hf
            · rename_i hlen
              cases hf
              obtain ⟨xs, hx, r, z⟩ := oa
              refine ⟨pp, xs, y, rfl, rfl, hx, by rw [r.length, ← lim_line]; exact hlen, ?_⟩
              obtain ⟨R3, S3⟩ := kk (.lst (xs ++ [y])) ⟨xs ++ [y], upd_same, r.append (.cons q1 .nil), by rw [List.length_append]; exact hlen⟩
              exact p2 _ _ _ (S1.trans S3) R3 .non
            · cases hf
          | _ => cases hf
    · exact p.elim
theorem d_ext (ho : PE X o (L2.tVar i)) (ha : PE X a (T w W ca)) (hbase : attributeBase o "extend" X.env (eval o X.env) = eval o X.env := by rfl)
    (hfew : ((backTo cpos (starEach [a] X.env)).all (fun x => !x.1) && (backToKw cpos (keywordEach [] X.env)).all (fun x => x.1.isSome)
      && decide ([a].length + ([] : List Keyword).length + (if ([] : List Keyword).isEmpty then 0 else 1) < 30)) = true := by rfl)
    (hline : (apos.endLine == cpos.line) = true := by rfl) (hs : starEach [a] X.env = (false, eval a X.env) :: starEach [] X.env := by rfl) :
    PE X (.Call (.Attribute o "extend" apos) [a] [] cpos) (T w W (mExt i ca)) :=
  (pe_bm PySem.F.plainAttrs_list PySem.F.slot_list_extend PySem.F.type_list_extend mt_extend ho (pa_cons ha pa_nil hs) hbase hfew hline hs (by rfl)).imp fun σ H Q ⟨g, F, Γ, R, p⟩ => by
    unfold mExt at p
    split at p
    · rename_i hl
      obtain ⟨pp, xs0, e1, h1⟩ := isL_at R hl
      refine ⟨_, e1, .inl ⟨rfl, xs0, .inl (.inl h1)⟩, ?_⟩
      refine ⟨g, F, Γ, R, Post.bind (Step.refl ..) p fun r1 Γ1 _ p1 y H1 F1 S1 R1 q1 => ?_⟩
      obtain ⟨m, em, p2⟩ := p1.opt
      obtain ⟨qq, ys, rfl, hy, ry, zy⟩ := ownL_at R1 (q1.at R S1) em
      cases hm : mut1 i (extD m) Γ1 with
      | no => rw [hm] at p2; exact p2.elim
      | ex x Γ3 => exact (mut1_ex hm).elim
      | ok u Γ3 =>
        rw [hm] at p2
        obtain ⟨a', d0, d1, e2, oa, hf, kk⟩ := mut1_ok R1 hm
        rw [e1] at e2
        cases e2
        cases d0 with
        | lst l =>
          simp only [extD] at hf
          split at hf
          · rename_i hlen
            cases hf
            obtain ⟨xs, hx, r, z⟩ := oa
            refine ⟨pp, qq, xs, ys, rfl, rfl, hx, hy, by rw [r.length, ry.length, ← lim_line]; exact hlen, ?_⟩
            obtain ⟨R3, S3⟩ := kk (.lst (xs ++ ys)) ⟨xs ++ ys, upd_same, r.append ry, by rw [List.length_append]; exact hlen⟩
            exact p2 _ _ _ (S1.trans S3) R3 .non
          · cases hf
        | _ => cases hf
    · exact p.elim
/-! ### {k: a, l: b} -/
theorem d_dct2 {k l : Str} {j1 j2 : Nat} {p1 p2 : Pos} (hkl : k ≠ l) (ha : PE X a (T w W ca)) (hb : PE X b (T w W cb)) : PE X (.Dict [some (.Constant (.str k) j1 p1), some (.Constant (.str l) j2 p2)] [a, b] pos) (T w W (mDct2 k l ca cb)) :=
  (pe_disp (pps_cons pe_str (d_fz ha) (pps_cons pe_str (d_fz hb) pps_nil)) rfl rfl (by simp) (by show 2 ≤ 15; decide)).imp fun σ H Q ⟨g, F, Γ, R, p⟩ => by
    intro q hq
    have Fq : F q = none := by
      cases z : F q with
      | none => rfl
      | some o => rw [R.sub q o z] at hq; cases hq
    have N : New F H F (upd H q (.dK [])) := ⟨fun b o e => by rw [upd_ne (ne_of_none e hq)]; exact e, Le.refl _, fun b o e => by rw [upd_ne (ne_of_none e Fq)]; exact R.sub b o e, fun b e => .inl e⟩
    have R0 := R.new N
    have notMu : ∀ {g' F' Γ' H'}, Rel w g' F' Γ' σ H' → Step Γ σ F (upd H q (.dK [])) Γ' F' H' → ¬ Ow Γ' σ q := fun {g' F' Γ' H'} R' S' z => by
      obtain ⟨o, e⟩ := R.owIn (S'.ow z)
      rw [hq] at e; cases e
    refine ⟨g, F, Γ, R0, Post.bind N.step p fun r1 Γ1 _ p1 x H1 F1 S1 R1 q1 => ?_⟩
    refine ⟨g, F1, Γ1, R1, Post.bind (N.step.trans S1) p1 fun r2 Γ2 _ p2 y H2 F2 S2 R2 q2 => ?_⟩
    have S12 := S1.trans S2
    cases r1 with
    | own d => exact p2.elim
    | var j => exact p2.elim
    | dat d =>
      cases r2 with
      | own d => exact p2.elim
      | var j => exact p2.elim
      | dat e =>
        have p3 : Post w W (ResN w) g F Γ σ H Q (.ok (.own (.dct [(.inr k, d), (.inr l, e)])) Γ2) := p2
        have hq2 : H2 q = some (.dK []) := S12.fr q _ upd_same (fun _ z => nomatch z) fun z => notMu R0 (Step.refl ..) z.ow
        have Fq2 : F2 q = none := by
          cases z : F2 q with
          | none => rfl
          | some o =>
            rcases S12.nf q (by rw [z]; simp) with y | y | y
            · exact absurd Fq y
            · rw [upd_same] at y; cases y
            · exact absurd y.ow (notMu R0 (Step.refl ..))
        refine ⟨hq2, [(.inr k, x), (.inr l, y)], rfl, by show 2 ≤ 15; decide, ?_⟩
        have em : mergeK [] [((.inr k : Key), x), (.inr l, y)] = [(.inr k, x), (.inr l, y)] := by
          have hn : ¬ ((.inr k : Key) = .inr l) := fun z => hkl (Sum.inr.inj z)
          simp [mergeK, putK, hn]
        rw [em]
        have g0 : g.H0 q = none := R.fresh hq
        have noOw : ¬ Ow Γ2 σ q := notMu R2 S12
        have RR := R2.updFree (o := .dK [(.inr k, x), (.inr l, y)]) Fq2 noOw g0 (fun u e => by rw [hq2] at e; cases e; trivial)
        have SS : Step Γ σ F H Γ2 F2 (upd H2 q (.dK [(.inr k, x), (.inr l, y)])) := (N.step.trans S12).updFree hq
        exact p3 _ _ _ SS RR ⟨q, rfl, hq, Fq2, _, upd_same, .cons (Rep.le S2.le q1) (.cons q2 .nil)⟩
end
end PD

/-! PD19: set(list of ints), put in order. -/
namespace PDset
open PySem PySem.Spec PyProof.Rows L2
section
variable {P : Program} {w : World} {A : Around} {E : Value → Shared → Prop} {s : Shared}
set_option maxRecDepth 100000 in
set_option maxHeartbeats 3200000 in
theorem call_set_lstI {l : Addr} {items : Array Value} (ns : List Int) {Q : Value → Shared → Prop} (hh : A.handled = none) (hl : s.heap.IsList l items) (hit : IntsAre items.toList ns) (hb : ns.length + 1 < scanBound)
    (h : ∀ (h' : Heap) (tk c : Nat), SetR w h' s.heap.objs.size (fun j => decide (j ∈ ns)) c → c ≤ ns.length → (∀ b o, s.heap.get? b = some o → h'.get? b = some o) → Q (.ref s.heap.objs.size) { s with heap := h', toks := tk }) :
    wpAny (model P w) A (call (.type "set") [.ref l]) Q E s := by
  have hisz : items.size = ns.length := by
    have q := IntsAre.length hit
    rw [Array.length_toList] at q
    exact q
  obtain ⟨c, tl, hmro⟩ := F.called_set.mro
  have hmade := F.called_set.made
  have hsub := F.called_set.sub
  refine wpAny_call (codeAny_of_tree ?_)
  show wpAny _ _ (callAny (.type "set") _) _ _ _
  refine wpAny_pure ⟨Code.quiet_builtin _ (by decide +kernel), codeAny_builtin F.entry_type_call ?_⟩
  rw [Around.under_plain (weight_type_call_type "set" [.ref l] []) rfl]
  have h1 := F.called_set.notType
  have h2 := F.called_set.canCreate
  have hct := F.typeCall_set_1 (.ref l)
  repeat (any_goals (first | assumption | wp_step))

  refine codeAny_mono (code_set_led1 (.ref l) (E := E) (Q₁ := fun obj s₁ => obj = .ref s.heap.objs.size ∧ s₁ = { s with heap := s.heap.push { cls := .type "set", dict := none, data := .set #[] 0 (.fresh 0 0 (!w.params.followText "set-order")) } }) ⟨rfl, rfl⟩) fun r s₁ hr => ?_
  cases r with
  | error e => exact hr
  | ok fl =>
    cases fl with
    | ret obj =>
      obtain ⟨rfl, rfl⟩ := hr
      have hS : (s.heap.push { cls := .type "set", dict := none, data := .set #[] 0 (.fresh 0 0 (!w.params.followText "set-order")) }).get? s.heap.objs.size = some { cls := .type "set", dict := none, data := .set #[] 0 (.fresh 0 0 (!w.params.followText "set-order")) } := Heap.get?_push_size _ rfl
      have hT : Shared.TypeIs { s with heap := s.heap.push { cls := .type "set", dict := none, data := .set #[] 0 (.fresh 0 0 (!w.params.followText "set-order")) } } (.ref s.heap.objs.size) "set" := ⟨_, hS, rfl⟩
      have hli := F.called_set.init.lookup
      have hbi := F.called_set.init.bind (.ref s.heap.objs.size)
      repeat (any_goals (first | assumption | wp_step))

      refine codeAny_mono (codeAny_call_builtin (R := wants (fun r s₂ => r = .none ∧ ∃ h' tk c, s₂ = { s with heap := h', toks := tk } ∧ SetR w h' s.heap.objs.size (fun j => decide (j ∈ ns)) c ∧ c ≤ ns.length ∧
          (∀ b o, s.heap.get? b = some o → h'.get? b = some o)) E) F.called_set.init.plain F.entry_set_init (check_set_init_1 hT ?_)) fun r₂ s₂ hr₂ => ?_
      · obtain ⟨ol, hol, hcl, nl, hdl⟩ := hl
        obtain ⟨ocls, odict, odata, oslots⟩ := ol
        simp only at hcl hdl
        subst hcl; subst hdl
        have hol' : (s.heap.push { cls := .type "set", dict := none, data := .set #[] 0 (.fresh 0 0 (!w.params.followText "set-order")) }).get? l = some { cls := .type "list", dict := odict, data := .seq items nl, slots := oslots } := Heap.get?_push_of_some _ hol
        have hsls := F.sub_list_set
        have hslf := F.sub_list_frozenset
        have hne : (Value.type "list" == Value.type "dict") = false := by decide
        have hl1 : (s.heap.push { cls := .type "set", dict := none, data := .set #[] 0 (.fresh 0 0 (!w.params.followText "set-order")) }).IsList l items := ⟨_, hol', rfl, nl, rfl⟩
        unfold Builtin.«set.__init__» noKeywords Builtin.Frozenset.updateFrom
        generalize hPI : pyIter = PI
        wp_walk
        subst hPI

        refine wpAny_pyIter_list hl1 ?_
        refine wpAny_bind (wpAny_runValue ?_)
        have hlS : l < s.heap.objs.size := Heap.lt_size hol
        have hh3 : A.in1.in1.in1.handled = none := by simp [hh]
        have hz1 : (s.heap.push { cls := .type "set", dict := none, data := .set #[] 0 (.fresh 0 0 (!w.params.followText "set-order")) }).objs.size = s.heap.objs.size + 1 := Heap.size_push ..
        have hneI : l ≠ (s.heap.push { cls := .type "set", dict := none, data := .set #[] 0 (.fresh 0 0 (!w.params.followText "set-order")) }).objs.size := by
          rw [Heap.size_push]; exact Nat.ne_of_lt (Nat.lt_succ_of_lt hlS)
        have hSf : s.heap.objs.size ∉ [(s.heap.push { cls := .type "set", dict := none, data := .set #[] 0 (.fresh 0 0 (!w.params.followText "set-order")) }).objs.size, l] := by
          rw [Heap.size_push]; simp only [List.mem_cons, List.mem_singleton, List.not_mem_nil, or_false, not_or]
          exact ⟨Nat.ne_of_lt (Nat.lt_succ_self _), Nat.ne_of_gt hlS⟩
        have hval : ∀ (i : Nat) (v : Value), items[i]? = some v → ∃ k t, ns[i]? = some k ∧ v = .int k t := fun i v hv => by
          have hi : i < ns.length := by rw [← hisz]; exact (Array.getElem?_eq_some_iff.mp hv).1
          obtain ⟨t, e⟩ := PyProof.Rows.IntsAre.int_at hit i v (by rw [Array.getElem?_toList]; exact hv)
          refine ⟨ns[i], t, List.getElem?_eq_getElem hi, ?_⟩
          rw [e, List.getD_eq_getElem?_getD, List.getElem?_eq_getElem hi] <;> rfl
        refine set_update_ints ((Walks.list hh3 _ l hneI items).toS) s.heap.objs.size
          hSf ns hisz hb hval (items.size - 0) 0 _ (by omega) (Nat.zero_le _)
          ⟨⟨_, Heap.get?_push_size _ rfl, rfl, rfl⟩, (hl1.push _)⟩ ?hS0 ?hR
        case hS0 =>
          have hget : ((s.heap.push { cls := .type "set", dict := none, data := .set #[] 0 (.fresh 0 0 (!w.params.followText "set-order")) }).push { cls := .type "list_iterator", data := .fields #[.ref l, .int 0 0] }).get? s.heap.objs.size
              = some { cls := .type "set", dict := none, data := .set #[] 0 (.fresh 0 0 (!w.params.followText "set-order")) } := Heap.get?_push_of_some _ hS
          exact ⟨0, Nat.le_refl 0, setR_new_at hget⟩
        case hR =>
          intro s' c' hm hc' hS'
          obtain ⟨h', g2, d', tk', os'⟩ := s'
          have eg : g2 = s.gens := hm.gens
          have ed : d' = s.drawn := hm.drawn
          have eo : os' = s.os := hm.os
          subst eg; subst ed; subst eo
          show wpAny _ _ _ _ _ _
          refine wpAny_pure ?_
          show wpAny _ _ (ret Value.none) _ _ _
          rw [hisz] at hc'
          refine wpAny_pure ⟨rfl, h', tk', c', rfl, hS', hc', fun b o e => ?_⟩
          have hb0 : b < s.heap.objs.size := Heap.lt_size e
          have hb1 : b ≠ s.heap.objs.size := Nat.ne_of_lt hb0
          have hb2 : b ≠ (s.heap.push { cls := .type "set", dict := none, data := .set #[] 0 (.fresh 0 0 (!w.params.followText "set-order")) }).objs.size := by
            rw [Heap.size_push]; exact Nat.ne_of_lt (Nat.lt_succ_of_lt hb0)
          exact hm.heap b o (by simp only [List.mem_cons, List.mem_singleton, List.not_mem_nil, or_false, not_or]; exact ⟨hb1, hb2⟩) (Heap.get?_push_of_some _ (Heap.get?_push_of_some _ e))

      · cases r₂ with
        | error e => exact hr₂
        | ok fl₂ =>
          cases fl₂ with
          | ret r =>
            obtain ⟨rfl, h', tk, c', rfl, hS', hc', hk'⟩ := hr₂
            repeat (any_goals (first | assumption | wp_step))
            exact h _ _ _ hS' hc' hk'
          | _ => exact hr₂.elim
    | _ => exact hr.elim

end
end PDset

/-! PD20: sorted(set(list of ints)). -/
namespace PD
open PySem PySem.Spec L2
section
variable {X : Cx}
theorem dd_mem : ∀ {l : List Int} {k : Int}, k ∈ dd l ↔ k ∈ l
  | [], k => by simp [dd]
  | i :: r, k => by
    unfold dd
    split
    · rename_i h
      rw [dd_mem, List.mem_cons]
      constructor
      · exact .inr
      · rintro (z | z)
        · subst z; exact h
        · exact z
    · rw [List.mem_cons, List.mem_cons, dd_mem]
theorem dd_nodup : ∀ (l : List Int), (dd l).Nodup
  | [] => .nil
  | i :: r => by
    unfold dd
    split
    · exact dd_nodup r
    · rename_i h
      exact List.nodup_cons.mpr ⟨fun z => h (dd_mem.mp z), dd_nodup r⟩
/-- set(l), a list of ints -/
def rSetI (K : PySem.W.Frag) (w : World) : List V → Hp → VK → Prop := fun xs H Q => ∃ (l : Addr) (ns : List Int), xs = [.ref l] ∧ SqL K H l (ns.map V.int) ∧ ns.length + 1 < scanBound ∧
  ∀ (p : Addr), H p = none → Q (.ref p) (upd H p (SetO w p (fun j => decide (j ∈ ns)) (dd ns).length))
theorem cr_setI (hc : X.calm = true) : CallR X (.type "set") (rSetI X.K X.w) := by
  intro pins s σ H xs us Q I r h
  obtain ⟨l, ns, rfl, hs, hb, q⟩ := h
  obtain ⟨u, rfl, ru⟩ := Vals.one r
  cases ru
  obtain ⟨its, rv, pl, hz⟩ := I.list hs
  have hi := ints_of_vals rv
  refine PDset.call_set_lstI ns (I.ok.hd hc) pl.isList (by simpa using hi) hb fun h' tk c R hcn k => ?_
  have hc' : c = (dd ns).length := by
    obtain ⟨o, es, ep, t, ho, h1, h2, h3, nd, hm, h4, h5, hn, _⟩ := R
    have hp : (es.toList.map keyOf).Perm (dd ns) := (List.perm_ext_iff_of_nodup nd (dd_nodup ns)).mpr fun k => by rw [← hm k, dd_mem]; simp
    rw [← hp.length_eq, List.length_map, ← hn, Array.length_toList]
  subst hc'
  exact ⟨.ref _, _, I.laid (t' := tk) (fun b o e => k b o e) (Nat.le_refl _) (setO_new R), rfl, q _ (I.hok.fresh (Nat.le_refl _))⟩
theorem lt_eq_srt {m l : List Int} (h1 : m.Pairwise (· < ·)) (h2 : ∀ k, k ∈ m ↔ k ∈ l) : m = srt (dd l) := by
  have hm : m.Nodup := h1.imp fun h e => by omega
  have hp : m.Perm (dd l) := (List.perm_ext_iff_of_nodup hm (dd_nodup l)).mpr fun k => by rw [h2, dd_mem]
  exact srt_eq hp (h1.imp fun h => by omega)
variable {w : Wd} {W : WX} {a : Expr} {ca : M Rv} {p1 p2 p3 p4 : Pos}
theorem pe_sortset (hc : X.calm = true) (hg : Gl X "sorted") (hm : X.mg "sorted" = none) (hg2 : Gl X "set") (hm2 : X.mg "set" = none) (ha : PE X a (T w W ca)) (hK : w.K = X.K)
    (hs : starEach [a] X.env = (false, eval a X.env) :: starEach [] X.env := by rfl) (hpl : (backTo p4 (starEach [] X.env)).any (·.1) = false := by rfl)
    (hs2 : starEach [.Call (.Name "set" p2) [a] [] p4] X.env = (false, eval (.Call (.Name "set" p2) [a] [] p4) X.env) :: starEach [] X.env := by rfl) (hpl2 : (backTo p3 (starEach [] X.env)).any (·.1) = false := by rfl) :
    PE X (.Call (.Name "sorted" p1) [.Call (.Name "set" p2) [a] [] p4] [] p3) (T w W (mB sortSet (aCons ca aNil))) :=
  (pe_callB (cr_sortedSet hc) hg hm PyProof.Rows.boot_sorted (pa_cons (pe_callTy (cr_setI hc) hg2 hm2 (by decide +kernel) (l_cons ha l_nil hs) (by decide) (by decide) hs hpl) pa_nil hs2) (by decide) (by decide) hs2 hpl2).imp fun σ H Q ⟨g, F, Γ, R, p⟩ => by
    refine ⟨g, F, Γ, R, Post.bind (Step.refl ..) p fun rs Γ1 _ p1 vs H1 F1 S1 R1 q1 => ?_⟩
    obtain ⟨ds, e1, p1⟩ := p1.opt
    obtain ⟨o, e2, p1⟩ := p1.opt
    have vw := q1.view R S1 R1 e1
    unfold sortSet at e2
    split at e2
    · rename_i l
      obtain ⟨is, e3, e2⟩ := Option.bind_eq_some_iff.mp e2
      split at e2
      · rename_i hz
        cases e2
        obtain ⟨x, rfl, vx⟩ := vw.one
        obtain ⟨a', ys, rfl, hx, r, z⟩ := vx.lst R1.sub
        rw [of_intsD e3 r] at hx
        refine ⟨a', is, rfl, by rw [← hK]; exact hx, by unfold scanBound; omega, fun q hq => ?_⟩
        -- the set stands for itself alone; then the list
        refine ⟨q, _, _, rfl, upd_same, hz.2, fun ns b h1 h2 _ hb => ?_⟩
        have en : ns = srt (dd is) := lt_eq_srt h1 fun k => by rw [h2 k]; simp
        subst en
        have Fq : F1 q = none := by
          cases y : F1 q with
          | none => rfl
          | some u => rw [R1.sub q u y] at hq; cases hq
        have N1 : New F1 H1 F1 (upd H1 q (SetO X.w q (fun j => decide (j ∈ is)) (dd is).length)) :=
          ⟨fun b o e => by rw [upd_ne (ne_of_none e hq)]; exact e, Le.refl _, fun b o e => by rw [upd_ne (ne_of_none e Fq)]; exact R1.sub b o e, fun b e => .inl e⟩
        have dl : ∀ (l : List Int), (dd l).length ≤ l.length := fun l => by
          induction l with
          | nil => exact Nat.le_refl _
          | cons i r ih => unfold dd; split <;> simp <;> omega
        obtain ⟨N2, rn⟩ := new_lst (w := w) N1.sub hb (reps_ints (srt (dd is))) (by
          rw [List.length_map, (srt_perm _).length_eq]
          have := dl is
          have := intsD_len e3
          omega)
        have N := N1.trans N2
        exact p1 _ _ _ (S1.trans N.step) (R1.new N) ((rn.early fun b => N1.th).noσ.early S1.th)
      · cases e2
    · cases e2
end
end PD

/-! PD21: short words for printed derivations. -/
namespace PD
open PySem PySem.Spec L2
/-- a def of the text, with or without defaults -/
structure FunR (K : PySem.W.Frag) (x qual : Str) (st : Stmt) (f : Addr) (fd : FuncData) : Prop where
  ex : ∃ (oc : Value) (od : Option Addr) (dV kV doc pm : Value) (an : Option Addr) (cdv ct : Value) (osl : Array (Option Value)),
    fd = PySem.W.fnOf x qual (defArgs st) (defBody st) (defScope st) dV kV doc pm an cdv ct ∧ K.lookup f = some ⟨oc, od, .func fd, osl⟩ ∧ PySem.W.codeIn K cdv qual = true
theorem FunR.of {K : PySem.W.Frag} {x qual : Str} {st : Stmt} {f : Addr} {fd : FuncData} (F : Fun K x qual st f fd) : FunR K x qual st f fd := by
  obtain ⟨oc, od, kV, doc, pm, an, cdv, ct, osl, h1, h2, h3⟩ := F.ex
  exact ⟨oc, od, .none, kV, doc, pm, an, cdv, ct, osl, h1, h2, h3⟩
theorem FunR.ofD {K : PySem.W.Frag} {x qual : Str} {st : Stmt} {f : Addr} {fd : FuncData} {dvs : List V} {kws : List (Str × V)} (F : FunD K x qual (defArgs st) (defBody st) (defScope st) dvs kws f fd) : FunR K x qual st f fd := by
  obtain ⟨oc, od, dV, kV, doc, pm, an, cdv, ct, osl, h1, h2, h3, _⟩ := F.ex
  exact ⟨oc, od, dV, kV, doc, pm, an, cdv, ct, osl, h1, h2, h3⟩
section
variable {P : Program} {wd : World} {K : PySem.W.Frag} {mg : Str → Option Value} {base : Heap}
/-- a def by its body, no exception -/
theorem mk0 {w : Wd} {x qual : Str} {st : Stmt} {f : Addr} {fd : FuncData} {N ps : List Str} {k : Nat} {b : M Fl} (Fu : FunR K x qual st f fd) (S : FnScope N ps (defScope st))
    (hbody : ∀ (cdv : Value) (A : Around) (outer : List PySem.Env) (s : Shared) (H : Hp), Room k (A.deeper (PyProof.Rows.envOfC qual (defScope st) s.heap.objs.size f cdv)) → (A.deeper (PyProof.Rows.envOfC qual (defScope st) s.heap.objs.size f cdv)).guards = some [] → fd.code = cdv →
      PSs (cxOf (L2.CX P wd) P wd K mg base N qual (defScope st) f cdv A outer s H (fun _ _ _ => False)) (defBody st) (TSt w W0 b)) :
    FnG P wd K mg base (k + 1) f fd ps (spF w ps.length (noEx (fnD ps.length N.length b))) := by
  refine ⟨fun vs H Q E h => h.1, fun A outer s H args us vs Q E hr hg e0 hb r hsp => ?_⟩
  obtain ⟨oc, od, dV, kV, doc, pm, an, cdv, ct, osl, rfl, lk, hcd⟩ := Fu.ex
  have hsp0 : spF w ps.length (noEx (fnD ps.length N.length b)) vs H Q (fun _ _ _ => False) := by
    obtain ⟨hl, F, ss, hs, ht, A', p⟩ := hsp
    refine ⟨hl, F, ss, hs, ht, A', ?_⟩
    cases hf : noEx (fnD ps.length N.length b) ss with
    | no => rw [hf] at p; exact p
    | ex x outs => exact (noEx_ex _ _ _ _ hf).elim
    | ok r outs => rw [hf] at p; exact p
  obtain ⟨hl, F, ss, hs, ht, A', p⟩ := noEx_sp hsp0
  have rc : codeAny (model P wd) A (.call (.ref f) args) (CR (L2.CX P wd) outer P wd H s Q (fun _ _ _ => False)) s :=
    LamX.run_ofS lk hcd S hr e0 hb r hl fun hr' => ⟨_, hbody cdv A outer s H hr' (gd_deeper hg _) rfl, body_ok rfl hl hs ht A' p⟩
  refine codeAny_mono rc fun r s' hq => ?_
  cases r with
  | error e =>
    obtain ⟨_, _, _, _, _, _, _, _, _, _, _, _, z⟩ := hq
    exact z.elim
  | ok fl =>
    cases fl with
    | ret u => exact hq
    | next => exact hq
    | brk => exact hq
    | cont => exact hq
/-- a def that may be called by its name -/
structure Ok (P : Program) (wd : World) (K : PySem.W.Frag) (mg : Str → Option Value) (base : Heap) (w : Wd) (k : Nat) (x : Str) (st : Stmt) (ps : List Str) (F : FS) : Prop where
  ex : ∃ f fd, FnG P wd K mg base k f fd ps (spF w ps.length F) ∧ mg x = some (.ref f) ∧ Fun K x x st f fd ∧ Binds K fd ps []
  len : ∀ ss, F ss ≠ .no → ss.length = ps.length
theorem noEx_len {np n : Nat} {b : M Fl} : ∀ ss, noEx (fnD np n b) ss ≠ .no → ss.length = np := fun ss h => fnD_len ss (noEx_no h)
theorem own_cx {N : List Str} {qual : Str} {scope : Scope} {f : Addr} {cd : Value} {A : Around} {outer : List PySem.Env} {s : Shared} {H : Hp} {E : XK} : PassesOwn (model P wd) (cxOf (L2.CX P wd) P wd K mg base N qual scope f cd A outer s H E).A (cxOf (L2.CX P wd) P wd K mg base N qual scope f cd A outer s H E).env (cxOf (L2.CX P wd) P wd K mg base N qual scope f cd A outer s H E).xe :=
  passes_of (X := cxOf (L2.CX P wd) P wd K mg base N qual scope f cd A outer s H E) (K := fun e s'' => L2.CX P wd outer H s E e s'') (E₁ := fun e' s'' => L2.CX P wd outer H s E e' s'') rfl
end
section
variable {X : Cx} {w : Wd} {e : Expr} {es : List Expr} {cs cs2 : M (List Rv)} {fn : FS} {k j : Nat} {ps ks : List Str} {x : Str} {p pos : Pos} {kws : List Keyword} {st : Stmt} {c : Expr} {a b : Expr} {ca cb cc : M Rv} {s1 : M Fl}
/-- f(e, ..) -/
theorem d_c (c : Ok X.prog X.w X.K X.mg X.base w k x st ps fn) (hr : Room j X.A) (gd : X.A.guards = some []) (hkj : k ≤ j) (hg : Gl X x) (ha : PA X (e :: es) (TL w W0 cs)) (hdb : (x == ("__debug__" : Str)) = false := by decide)
    (he : starEach (e :: es) X.env = (false, eval e X.env) :: starEach es X.env := by rfl) (hpl : (backTo pos (starEach es X.env)).any (·.1) = false := by rfl) : PE X (.Call (.Name x p) (e :: es) [] pos) (T w W0 (mCall fn [] cs)) := by
  obtain ⟨f, fd, G, hm, Fu, hb⟩ := c.ex
  exact d_call takes0 G hr gd hkj hg hm Fu.kp hb c.len ha hdb he hpl
/-- f(k = v, ..) -/
theorem d_ck {pp : List Nat} (c : Ok X.prog X.w X.K X.mg X.base w k x st ps fn) (hr : Room j X.A) (gd : X.A.guards = some []) (hkj : k ≤ j) (hg : Gl X x) (hks2 : ks.length = ps.length)
    (hbind : ∀ (kV doc pm : Value) (an : Option Addr) (cdv ct : Value) (us ws : List Value), us.length = 0 → ws.length = ks.length → bindArgs (PySem.W.fnOf x x (defArgs st) (defBody st) (defScope st) .none kV doc pm an cdv ct) ⟨us, ks.zip ws⟩ = pure (ps.zip (permL pp (us ++ (ws ++ [])))))
    (hpn : pp.Nodup) (hpp : ∀ i ∈ pp, i < 0 + (ks.length + ([] : List D).length))
    (hkw : PK X kws (TL w W0 cs2)) (hall : (backToKw pos (keywordEach kws X.env)).all (·.1.isSome) = true := by rfl) (hks : (backToKw pos (keywordEach kws X.env)).filterMap (·.1) = ks := by rfl)
    (hdb : (x == ("__debug__" : Str)) = false := by decide)
    (hpl : ((backTo pos (starEach [] X.env)).any (·.1) || (backToKw pos (keywordEach kws X.env)).any (·.1.isNone)) = false := by rfl) : PE X (.Call (.Name x p) [] kws pos) (T w W0 (mCallK pp 0 ks.length fn [] aNil cs2)) := by
  obtain ⟨f, fd, G, hm, Fu, hb⟩ := c.ex
  exact d_callK0 (k2 := 0) takes0 G hr gd hkj hg hm Fu.kp (kb0 Fu hbind) hpn hpp (fun _ => .nil) c.len hkw hall hks hdb hpl
/-- a type of Python's -/
theorem d_bty {W : WX} {T : String} (hg : Gl X x) (hm : X.mg x = none) (hv : bootBuiltins x = some (.type T)) (hn : x ≠ "__name__" := by decide) (hd : (x == ("__debug__" : Str)) = false := by decide) : PE X (.Name x pos) (PD.T w W (mK (.ty T))) :=
  d_k (.ty T) (pe_bltn hg hm hv rfl hn hd)
theorem d_gi {W : WX} {i : Int} (hg : Gl X x) (hm : ∃ t, X.mg x = some (.int i t)) (hd : (x == ("__debug__" : Str)) = false := by decide) : PE X (.Name x pos) (T w W (mK (.int i))) := by
  obtain ⟨t, h⟩ := hm
  exact d_gint hg h hd
/-- a < b < c, as a test -/
theorem d_tchain {W : WX} {op op' : CmpOp} {r r' : R2} {f f' : D → D → Option Rv} (hr : OpD w r f) (hr' : OpD w r' f') (ho : OpR X (compareOp op) r) (ho' : OpR X (compareOp op') r') (ha : PE X a (T w W ca)) (hb : PE X b (T w W cb)) (hc : PE X c (T w W cc))
    (hm : lastMarks [op, op'] [b, c] = false := by with_unfolding_all rfl) : PT X (.Compare a [op, op'] [b, c] pos) (TB w W (tB (mChain f f' ca cb cc))) := by
  refine (pt_chain ho ho' ha hb hc hm).imp fun σ H Q h => ?_
  have h2 := tTest_of σ H Q h
  have key : ∀ σ H Q, T w W (mChain f f' ca cb cc) σ H Q → tChain r r' (T w W ca) (T w W cb) (T w W cc) σ H Q := fun σ H Q ⟨g, F, Γ, R, p⟩ => by
    refine ⟨g, F, Γ, R, Post.bind (Step.refl ..) p fun r1 Γ1 _ p1 x H1 F1 S1 R1 q1 => ?_⟩
    refine ⟨g, F1, Γ1, R1, Post.bind S1 p1 fun r2 Γ2 _ p2 y H2 F2 S2 R2 q2 => ?_⟩
    obtain ⟨d, e1, p2⟩ := p2.opt
    obtain ⟨e, e2, p2⟩ := p2.opt
    obtain ⟨o, e3, p2⟩ := p2.opt
    refine hr F2 H2 x y d e o _ R2.sub (((q1.at R S1).step S2).view R2 e1) ((q2.at R1 S2).view R2 e2) e3 fun v H3 F3 N res => ?_
    have S3 : Step Γ2 σ F2 H2 Γ2 F3 H3 := N.step
    have R3 := R2.new N
    split at p2
    · have res : Rep w F3 v (.bl true) := res
      cases res
      refine ⟨true, rfl, ?_⟩
      rw [if_pos rfl]
      refine ⟨g, F3, Γ2, R3, Post.bind ((S1.trans S2).trans S3) p2 fun r3 Γ4 _ p4 z H4 F4 S4 R4 q4 => ?_⟩
      obtain ⟨e', e5, p4⟩ := p4.opt
      obtain ⟨h, e6, p4⟩ := p4.opt
      obtain ⟨o', e7, p4⟩ := p4.opt
      refine hr' F4 H4 y z e' h o' Q R4.sub ((((q2.at R1 S2).step S3).step S4).view R4 e5) ((q4.at R3 S4).view R4 e6) e7 fun v' H5 F5 N5 res' => ?_
      exact p4 v' H5 F5 ((((S1.trans S2).trans S3).trans S4).trans N5.step) (R4.new N5) (res'.noσ.early (((S1.trans S2).trans S3).trans S4).th)
    · have res : Rep w F3 v (.bl false) := res
      cases res
      refine ⟨false, rfl, ?_⟩
      rw [if_neg Bool.false_ne_true]
      exact p2 (.bl false) H3 F3 ((S1.trans S2).trans S3) R3 (.bl false)
    · exact p2.elim
  exact key σ H _ h2
/-- a statement that is never reached -/
theorem s_never {W : WX} : PS X st (TSt w W fun _ => .no) := ps_never.imp fun D σ H ⟨g, F, Γ, R, p⟩ => p.elim
/-- what an own class has -/
structure OwnC (K : PySem.W.Frag) (C : Addr) : Prop where
  cls : Cls K C
  isi : C8.InsC K C
end
end PD

/-! PD22: the end of a law. -/
namespace PD
open PySem PySem.Spec PyProof.Rows L2 LamX
/-- the law called by the claim's caller: H tracks the empty tables and the script -/
theorem law_end {P : Program} {w : World} {K : PySem.W.Frag} {mg mb : Str → Option Value} {k : Nat} {fa a : Addr} {cs : List (Addr × Addr)} {fd : FuncData} {x : Str} {sp : Sp} {s₁ : Shared} {vs : List Value} {ns : List Int}
    (KX : K.In s₁.heap) (hns : s₁.heap.Ns mainGlobals mg) (hb : s₁.heap.Ns builtinsNs mb) (hbb : ∀ x : Str, x ≠ "__name__" → mb x = bootBuiltins x) (hlim : s₁.heap.NoLimit) (hg : s₁.gens = #[])
    (hT : ∀ p ∈ cs, s₁.heap.get? p.2 = some { cls := .none, data := .fields #[] }) (nT : ∀ p ∈ cs, K.lookup p.2 = none) (C : ∀ p ∈ cs, PySem.W.CodeHd s₁.heap p.1 p.2)
    (hbm : ∃ (bm : Addr) (ob : Obj), mg "__builtins__" = some (.ref bm) ∧ bm ≠ builtinsNs ∧ s₁.heap.get? bm = some ob ∧ ob.cls = .type "module" ∧ ob.dict = some builtinsNs ∧ ob.data = .plain)
    (ha : s₁.heap.get? a = some { cls := .type "list", data := .seq vs.toArray }) (hi : IntsAre vs ns) (hl : ns.length ≤ sizeLine) (hr : Room k callerA)
    (F : ∀ base : Heap, K.In base → base.Ns mainGlobals mg → (∀ p ∈ cs, TabB base mg p.1 p.2) → FnG P w K mg base k fa fd [x] sp) (hbind : ∀ (s : Shared) (u : Value), BindsTo s fd ⟨[u], []⟩ [(x, u)])
    (hsp : ∀ H : Hp, (∀ p ∈ cs, H p.2 = some (.tbl #[])) → SqL K H a (ns.map V.int) → sp [.ref a] H (fun v _ => v = .bl true) fun _ _ _ => False) :
    codeAny (model P w) callerA (.call (.ref fa) ⟨[.ref a], []⟩) (fun r s' => r = .ok (.ret (.bool true)) ∧ OldK s₁.heap s'.heap ∧ s'.os = s₁.os ∧ AllBare s'.gens) s₁ := by
  have rv := vals_ints hi
  have lenV := hi.length
  let tb : List Addr := cs.map (·.2)
  have tbl_of : ∀ b, b ∈ tb → s₁.heap.get? b = some { cls := .none, data := .fields #[] } ∧ K.lookup b = none := fun b hb => by
    obtain ⟨p, hp, e⟩ := List.mem_map.mp hb
    rw [← e]
    exact ⟨hT p hp, nT p hp⟩
  have inT : ∀ p ∈ cs, p.2 ∈ tb := fun p hp => List.mem_map.mpr ⟨p, hp, rfl⟩
  have aT : a ∉ tb := fun z => by
    have q := (tbl_of a z).1
    rw [ha] at q
    cases (show Data.seq vs.toArray _ = Data.fields #[] from congrArg Obj.data (Option.some.inj q))
  let H : Hp := fun b => if b ∈ tb then some (.tbl #[]) else if b = a ∧ K.lookup a = none then some (.frz { cls := .type "list", data := .seq vs.toArray } (.lst (ns.map V.int))) else none
  have Ht : ∀ b, b ∈ tb → H b = some (.tbl #[]) := fun b hb => if_pos hb
  have Hc : ∀ {b u}, H b = some u → (b ∈ tb ∧ u = .tbl #[]) ∨ (b = a ∧ K.lookup a = none ∧ u = .frz { cls := .type "list", data := .seq vs.toArray } (.lst (ns.map V.int))) := fun {b u} e => by
    by_cases h1 : b ∈ tb
    · have e2 := (if_pos h1).symm.trans e
      cases e2
      exact .inl ⟨h1, rfl⟩
    · have e1 := (if_neg h1).symm.trans e
      by_cases h2 : b = a ∧ K.lookup a = none
      · have e2 := (if_pos h2).symm.trans e1
        cases e2
        exact .inr ⟨h2.1, h2.2, rfl⟩
      · have e2 := (if_neg h2).symm.trans e1
        cases e2
  have hok : HOk P w H s₁.heap := fun b u e => by
    rcases Hc e with ⟨h1, rfl⟩ | ⟨rfl, _, rfl⟩
    · exact (tbl_of b h1).1
    · exact ⟨ha, by rw [List.length_map]; exact hl, vs, _, rv, ha⟩
  have hS : SqL K H a (ns.map V.int) := by
    cases hk : K.lookup a with
    | none => exact .inl (.inr ⟨_, (if_neg aT).trans (if_pos ⟨rfl, hk⟩)⟩)
    | some o =>
      have e := KX a o hk
      rw [ha] at e
      cases e
      exact .inr ⟨_, vs.toArray, _, hk, rfl, rfl, rfl, by rw [List.size_toArray, lenV]; exact hl, by simpa using rv⟩
  have free : ∀ {b : Addr} {o : Obj}, s₁.heap.get? b = some o → (∀ vs n, o.data ≠ .seq vs n) → o.data ≠ .fields #[] → H b = none := fun {b o} e h1 h2 => by
    cases q : H b with
    | none => rfl
    | some u =>
      rcases Hc q with ⟨h3, _⟩ | ⟨rfl, _⟩
      · rw [(tbl_of b h3).1] at e
        cases e
        exact absurd rfl h2
      · rw [ha] at e
        cases e
        exact absurd rfl (h1 _ _)
  have nsK : ∀ {b : Addr} {m : Str → Option Value}, s₁.heap.Ns b m → (hidT s₁.heap H).Ns b m := fun {b m} ⟨o, es, ep, e, d, r⟩ =>
    ⟨o, es, ep, hidT_get e (free e (fun vs n z => by rw [d] at z; cases z) fun z => by rw [d] at z; cases z), d, r⟩
  have hKb : K.In (hidT s₁.heap H) := fun b o e => hidT_get (KX b o e) (by
    cases q : H b with
    | none => rfl
    | some u =>
      rcases Hc q with ⟨h3, _⟩ | ⟨rfl, h4, _⟩
      · rw [(tbl_of b h3).2] at e; cases e
      · rw [h4] at e; cases e)
  have hM : L2.Mod K mg (hidT s₁.heap H) := ⟨hKb, nsK hns, ⟨mb, nsK hb, hbb⟩, let ⟨mc, h1, h2⟩ := hlim; ⟨mc, nsK h1, h2⟩⟩
  have TB : ∀ p ∈ cs, TabB (hidT s₁.heap H) mg p.1 p.2 := fun p hp => by
    have hTp := hT p hp
    have plain : ∀ {b : Addr} {ob : Obj}, s₁.heap.get? b = some ob → ob.data = .plain → (hidT s₁.heap H).get? b = some ob := fun {b ob} e d => hidT_get e (free e (fun vs n z => by rw [d] at z; cases z) fun z => by rw [d] at z; cases z)
    refine ⟨?_, ?_, fun z => ?_⟩
    · obtain ⟨o, us, file, tf, flags, tg, inF, text, tt, e1, r1, r2, r3, r⟩ := C p hp
      refine ⟨o, us, file, tf, flags, tg, inF, text, tt, hidT_get e1 (free e1 (fun vs n z => by rw [r2] at z; cases z) fun z => ?_), r1, r2, r3, r⟩
      rw [r2] at z
      cases z
      simp at r3
    · obtain ⟨bm, ob, b1, b2, b3, b4, b5, b6⟩ := hbm
      refine ⟨bm, ob, b1, b2, fun q => ?_, fun q => ?_, plain b3 b6, b4, b5, b6⟩
      · obtain ⟨o, es, ep, e, hd, _⟩ := hns
        rw [q, e] at b3
        cases b3
        rw [hd] at b6
        cases b6
      · rw [q, hTp] at b3
        cases b3
        cases b6
    · obtain ⟨o, es, ep, e, hd, _⟩ := hns
      rw [z, hTp] at e
      cases e
      cases hd
  have e0 : Env0 P w K mg (hidT s₁.heap H) callerA [] s₁ H := ⟨rfl, hM, fun b o e => of_hidT e, Nat.le_of_eq (hidT_size _ _), trivial, fun b hb => absurd (show b ∈ ([] : List Addr) from hb) (by simp), hok, .of_eq hg⟩
  refine codeAny_mono ((F _ hKb (nsK hns) TB).run callerA [] s₁ H ⟨[.ref a], []⟩ [.ref a] [.ref a] _ _ hr rfl e0 (hbind s₁ (.ref a)) (.cons rfl .nil) (hsp H (fun p hp => Ht _ (inT p hp)) hS)) fun r s' h => ?_
  cases r with
  | error e =>
    obtain ⟨_, _, _, _, _, _, _, _, _, _, _, _, z⟩ := h
    exact z.elim
  | ok fl =>
    cases fl with
    | next => exact False.elim h
    | brk => exact False.elim h
    | cont => exact False.elim h
    | ret u =>
      obtain ⟨v, H', os, bare, un, hok', r', q⟩ := h
      have q' : v = .bl true := q
      subst q'
      obtain rfl : u = Value.bool true := r'
      have key : ∀ b o, b ∉ tb → s₁.heap.get? b = some o → s'.heap.get? b = some o := fun b o nb e => by
        cases q : H b with
        | none => exact un.keep b o e q (by intro z; exact absurd (show b ∈ ([] : List Addr) from z) (by simp)) (by simp)
        | some u =>
          rcases Hc q with ⟨h3, _⟩ | ⟨rfl, _, rfl⟩
          · exact absurd h3 nb
          · obtain ⟨e2, _⟩ := hok' _ _ (un.frzs _ _ _ q)
            rw [ha] at e
            cases e
            exact e2
      have grown : ∀ p ∈ cs, ∃ more : Array Value, s'.heap.get? p.2 = some { cls := .none, data := .fields more } := fun p hp => by
        obtain ⟨more, z⟩ := un.tbls p.2 #[] (Ht _ (inT p hp))
        exact ⟨_, hok' p.2 _ z⟩
      refine ⟨rfl, ⟨fun b o e => ?_, fun b o e => ?_⟩, os, bare⟩
      · by_cases hb : b ∈ tb
        · obtain ⟨p, hp, ep⟩ := List.mem_map.mp hb
          obtain ⟨more, hm⟩ := grown p hp
          rw [← ep] at e ⊢
          rw [hT p hp] at e
          cases e
          exact .inr (.inl ⟨((C p hp).tab (hT p hp)).isCodeTable, rfl, #[], more, rfl, by rw [Array.empty_append]; exact hm⟩)
        · exact .inl (key b o hb e)
      · by_cases hb : b ∈ tb
        · obtain ⟨p, hp, ep⟩ := List.mem_map.mp hb
          obtain ⟨more, hm⟩ := grown p hp
          rw [← ep]
          exact ⟨_, hm⟩
        · exact ⟨o, key b o hb e⟩
end PD
namespace PD
open PySem PySem.Spec PyProof.Rows L2 LamX
/-- the tables of the defs that the top has left -/
def TabAll (q : Program) (mg : Str → Option Value) (K : PySem.W.Frag) (h : Heap) : Prop := ∀ (x : Str) (fa c P : Addr) (o : Obj) (fd : FuncData) (e : Value) (dd : Option Addr) (vs : Array Value) (sl : Array (Option Value)),
  ((recsOf q).any fun e => e.name == x) = true → mg x = some (.ref fa) → K.lookup fa = some o → o.data = .func fd → fd.code = .ref c → K.lookup c = some ⟨e, dd, .fields vs, sl⟩ → vs[11]? = some (.ref P) →
    h.get? P = some { cls := .none, data := .fields #[] } ∧ PySem.W.CodeHd h c P
/-- what is known of the law's def at the head's heap -/
def LawG (l : PySem.W.OpenLaw) (w : World) (K : PySem.W.Frag) (k n : Nat) (x : Str) (mg : Str → Option Value) (fa : Addr) (h : Heap) : Prop :=
  ∃ (fd : FuncData) (cs : List (Addr × Addr)) (sp : Sp), (∀ p ∈ cs, h.get? p.2 = some { cls := .none, data := .fields #[] } ∧ PySem.W.CodeHd h p.1 p.2) ∧ (∀ p ∈ cs, K.lookup p.2 = none) ∧ (∀ (s : Shared) (u : Value), BindsTo s fd ⟨[u], []⟩ [(x, u)]) ∧
    (∀ (H : Hp) (a : Addr) (ns : List Int), ns.length ≤ n → (∀ z ∈ ns, Builtin.Int.intBits z ≤ 1048576) → (∀ p ∈ cs, H p.2 = some (.tbl #[])) → SqL K H a (ns.map V.int) → sp [.ref a] H (fun v _ => v = .bl true) fun _ _ _ => False) ∧
    ∀ base : Heap, K.In base → base.Ns mainGlobals mg → (∀ p ∈ cs, TabB base mg p.1 p.2) → FnG l.prog w K mg base k fa fd [x] sp
theorem walk_g {l : PySem.W.OpenLaw} {n k : Nat} {q : Program} {loose : List Str} {XP : (Str → Option Value) → Heap → Prop} {YP : World → Heap → Prop} {d : DefRec} {K : Params → PySem.W.Frag} {x : Str}
    (hn : l.most = some n) (hn2 : n ≤ sizeLine) (hdf : d.params.defaults = []) (hr : Room k callerA) (hY : ∀ (w : World) (h : Heap), YP w h → (K w.params).In h)
    (F : ∀ (w : World) (mg : Str → Option Value) (fa : Addr) (h : Heap), (K w.params).In h → h.Ns mainGlobals mg → mg d.name = some (.ref fa) → TabAll q mg (K w.params) h → LawG l w (K w.params) k n x mg fa h) :
    PySem.W.WalkO q loose XP YP l.row.toRowW d [] (fun f vs => PySem.call f vs) := by
  refine Att.attach_callB hn hdf fun w s₀ s₁ mg mb fa o pm cd doc a vs ns G Y ho hd hcd hmg hobj hints hlen hbits hg => ?_
  have KX := hY w _ Y
  have tabs : TabAll q mg (K w.params) s₁.heap := fun y f2 c P o1 fd1 e dd vs1 sl k0 k1 k2 k3 k4 k5 k6 => by
    obtain ⟨dL, hm, hn1⟩ := List.any_eq_true.mp k0
    have hn2 : dL.name = y := beq_iff_eq.mp hn1
    obtain ⟨a', o', fd', c', P', h1, h2, h3, h4, h5, h6⟩ := G.T.tab dL hm
    rw [hn2, k1] at h1
    cases h1
    have g1 := KX _ _ k2
    rw [g1] at h2
    cases h2
    rw [k3] at h3
    cases h3
    rw [k4] at h4
    cases h4
    have hd1 := PySem.W.CodeHd.of h5 h6
    obtain ⟨⟨oc, vc, e1, _, e3, e4⟩, hP⟩ := h6
    have g2 := KX _ _ k5
    rw [g2] at e1
    cases e1
    cases e3
    rw [k6] at e4
    cases e4
    exact ⟨hP, hd1⟩
  obtain ⟨fd, cs, sp, hT, nT, hb, hsp, hF⟩ := F w mg fa _ KX G.T.g hmg tabs
  exact law_end KX G.T.g G.T.b G.T.builtins G.T.nolimit hg (fun p hp => (hT p hp).1) nT (fun p hp => (hT p hp).2) G.T.bmain hobj hints (Nat.le_trans hlen hn2) hr hF hb fun H hH hS => hsp H a ns hlen hbits hH hS
end PD
namespace PD
open PySem PySem.Spec L2
theorem law_sp {w : Wd} {K : PySem.W.Frag} {F : FS} {H : Hp} {a : Addr} {ns : List Int} {outs : List (Option Sl)} (hK : w.K = K) (hl : ns.length ≤ 63) (hF : F [⟨.dat, .lst (ns.map D.int)⟩] = .ok (.dat (.bl true)) outs)
    (hT : ∀ p ∈ w.T, H p.1 = some (.tbl #[])) (nT : ∀ p ∈ w.T, K.lookup p.1 = none) (hS : SqL K H a (ns.map V.int)) : spF w 1 F [.ref a] H (fun v _ => v = .bl true) fun _ _ _ => False := by
  subst hK
  have notT : ∀ p ∈ w.T, p.1 ≠ a := fun p hp z => by
    rcases hS with (h | ⟨o, h⟩) | ⟨o, its, n, h, _⟩
    · rw [← z, hT p hp] at h; cases h
    · rw [← z, hT p hp] at h; cases h
    · rw [← z, nT p hp] at h; cases h
  let G : Hp := fun b => if b = a then H a else none
  have sub : Le G H := fun b o e => by
    by_cases z : b = a
    · subst z
      exact (if_pos rfl).symm.trans e
    · cases (if_neg z).symm.trans e
  have hG : SqL w.K G a (ns.map V.int) := by
    have e : G a = H a := if_pos rfl
    rcases hS with (h | ⟨o, h⟩) | h
    · exact .inl (.inl (e.trans h))
    · exact .inl (.inr ⟨o, e.trans h⟩)
    · exact .inr h
  refine ⟨rfl, G, [⟨.dat, .lst (ns.map D.int)⟩], sub, ⟨fun p hp => LamX.TabS.nil (hT p hp), fun p hp => if_neg (notT p hp)⟩, ⟨rfl, fun i s e => ?_, fun i j s t b e1 e2 o1 _ _ _ => ?_⟩, ?_⟩
  · match i with
    | 0 =>
      cases e
      exact ⟨.ref a, rfl, .lst hG (Reps.ints ns) (by rw [List.length_map]; exact Nat.le_trans hl (by decide))⟩
    | i + 1 => simp at e
  · match i with
    | 0 => cases e1; cases o1
    | i + 1 => simp at e1
  · rw [hF]
    intro v H' F' _ _ rt
    cases (show Rep w F' v (.bl true) from rt)
    rfl
end PD

/-! PD23: x in a list or tuple of data. -/
namespace PD
open PySem PySem.Spec L2 PyProof.Rows
def inP (neg : Bool) (d e : D) : Option Rv := match pd d, pd e with
  | some p, some (.list ps) => if SeqAt.shaped p = true ∧ SeqAt.shaped (.list ps) = true then some (.dat (.bl (neg != ps.any fun z => PyData.eqv z p))) else none
  | some p, some (.tuple ps) => if SeqAt.shaped p = true ∧ SeqAt.shaped (.tuple ps) = true then some (.dat (.bl (neg != ps.any fun z => PyData.eqv z p))) else none
  | _, _ => none
def inD : D → D → Option Rv := inP false
def ninD : D → D → Option Rv := inP true
def rInP (K : PySem.W.Frag) (neg : Bool) : R2 := fun x y H Q => ∃ d ds, Dp K H x d ∧ SeqAt.shaped d = true ∧ ((Dp K H y (.list ds) ∧ SeqAt.shaped (.list ds) = true) ∨ (Dp K H y (.tuple ds) ∧ SeqAt.shaped (.tuple ds) = true)) ∧ Q (.bl (neg != ds.any fun z => PyData.eqv z d)) H
section
variable {X : Cx} {w : Wd}
theorem op_inP (hu : X.A.units + 65 < cLine) : OpR X (compareOp .In) (rInP X.K false) := by
  intro pins s σ H x y v u Q I rx ry h
  obtain ⟨d, ds, hd, sd, hy, q⟩ := h
  obtain ⟨as, r1⟩ := Dp.reads I d x v hd rx
  rw [Bool.false_bne] at q
  rcases hy with ⟨he, se⟩ | ⟨he, se⟩
  · obtain ⟨bs, r2⟩ := Dp.reads I _ y u he ry
    exact SeqAt.in_list_reads r2 r1 (SeqAt.canLay_of_shaped se) (SeqAt.canLay_of_shaped sd) (room_in_shaped sd hu) ⟨.bl _, H, I, rfl, q⟩
  · obtain ⟨bs, r2⟩ := Dp.reads I _ y u he ry
    exact SeqAt.in_tuple_reads r2 r1 (SeqAt.canLay_of_shaped se) (SeqAt.canLay_of_shaped sd) (room_in_shaped sd hu) ⟨.bl _, H, I, rfl, q⟩
theorem op_ninP (hu : X.A.units + 65 < cLine) : OpR X (compareOp .NotIn) (rInP X.K true) := by
  intro pins s σ H x y v u Q I rx ry h
  obtain ⟨d, ds, hd, sd, hy, q⟩ := h
  obtain ⟨as, r1⟩ := Dp.reads I d x v hd rx
  rw [Bool.true_bne] at q
  rcases hy with ⟨he, se⟩ | ⟨he, se⟩
  · obtain ⟨bs, r2⟩ := Dp.reads I _ y u he ry
    exact SeqAt.notIn_list_reads r2 r1 (SeqAt.canLay_of_shaped se) (SeqAt.canLay_of_shaped sd) (room_in_shaped sd hu) ⟨.bl _, H, I, rfl, q⟩
  · obtain ⟨bs, r2⟩ := Dp.reads I _ y u he ry
    exact SeqAt.notIn_tuple_reads r2 r1 (SeqAt.canLay_of_shaped se) (SeqAt.canLay_of_shaped sd) (room_in_shaped sd hu) ⟨.bl _, H, I, rfl, q⟩
theorem o_inP {K : PySem.W.Frag} {neg : Bool} (hK : w.K = K) : OpD w (rInP K neg) (inP neg) := fun F H x y d e o Q s vx vy ho k => by
  subst hK
  unfold inP at ho
  split at ho
  · rename_i p ps h1 h2
    split at ho
    · rename_i z
      cases ho
      exact ⟨p, ps, view_dp s vx h1, z.1, .inl ⟨view_dp s vy h2, z.2⟩, k _ H F (New.refl s) (.bl _)⟩
    · cases ho
  · rename_i p ps h1 h2
    split at ho
    · rename_i z
      cases ho
      exact ⟨p, ps, view_dp s vx h1, z.1, .inr ⟨view_dp s vy h2, z.2⟩, k _ H F (New.refl s) (.bl _)⟩
    · cases ho
  · cases ho
theorem u65 {k : Nat} {A : Around} (r : Room k A) : A.units + 65 < cLine := by have := r.un; omega
theorem o_in {K : PySem.W.Frag} (hK : w.K = K) : OpD w (rInP K false) inD := o_inP hK
theorem o_nin {K : PySem.W.Frag} (hK : w.K = K) : OpD w (rInP K true) ninD := o_inP hK
end
end PD

/-! PD24: starred items of a display. -/
namespace PD
open PySem PySem.Spec L2 PyProof.Rows
def seqD : D → Option (List D)
  | .lst l => some l
  | .tup l => some l
  | _ => none
/-- *a, then the rest -/
def aStar (a : M Rv) (as : M (List Rv)) : M (List Rv) := fun Γ => (a Γ).bind fun r Γ => R.opt (frz Γ r) fun p => R.opt (seqD p.1) fun ds => (as p.2).bind fun rs Γ => .ok (ds.map Rv.dat ++ rs) Γ
section
variable {X : Cx} {w : Wd} {W : WX} {F : Hp} {σ : L2.St} {H H1 : Hp} {e : Expr} {es : List Expr} {ca : M Rv} {cs : M (List Rv)} {p : Pos}
theorem ResNs.pre : ∀ {xs ys : List V} {ds : List D} {rs : List Rv}, Reps w F xs ds → ResNs w F σ H H1 ys rs → ResNs w F σ H H1 (xs ++ ys) (ds.map Rv.dat ++ rs)
  | _, _, _, _, .nil, h => h
  | _, _, _, _, .cons r t, h => ⟨r, ResNs.pre t h, fun a ea => by
      rename_i v _ _ _
      cases v <;> cases ea⟩
theorem l_star (hK : w.K = X.K) (ha : PE X e (T w W ca)) (hs : PA X es (TL w W cs)) (hst : starEach (.Starred e p :: es) X.env = (true, eval e X.env) :: starEach es X.env := by rfl) : PA X (.Starred e p :: es) (TL w W (aStar ca cs)) :=
  (StX.pa_star ha hs hst).imp fun σ H Q ⟨g, F, Γ, R, p⟩ => by
    refine ⟨g, F, Γ, R, Post.bind (Step.refl ..) p fun r1 Γ1 _ p1 x H1 F1 S1 R1 q1 => ?_⟩
    obtain ⟨q, e1, p1⟩ := p1.opt
    obtain ⟨ds, e2, p1⟩ := p1.opt
    obtain ⟨F2, S2, R2, rx⟩ := frz_ok R S1 R1 q1 e1
    obtain ⟨d, Γ2⟩ := q
    have fin : ∀ {xs : List V}, Reps w F2 xs ds → TL w W cs σ H1 fun ys H2 => Q (xs ++ ys) H2 := fun {xs} rr =>
      ⟨g, F2, Γ2, R2, Post.bind S2 p1 fun rs Γ3 _ p3 ys H3 F3 S3 R3 q3 => p3 (xs ++ ys) H3 F3 (S2.trans S3) R3 (ResNs.pre (Reps.le S3.le rr) (q3.early S2.th))⟩
    cases d with
    | lst l =>
      cases e2
      cases rx with
      | @lst a xs _ hl r z => exact ⟨a, xs, rfl, .inr (hK ▸ SqL.le R2.sub hl), fin r⟩
    | tup l =>
      cases e2
      cases rx with
      | @tup a xs _ hl r z => exact ⟨a, xs, rfl, .inl (hK ▸ SqT.le R2.sub hl), fin r⟩
    | _ => cases e2
end
end PD

/-! PD25: tuple(range(n)), list(range(n)). -/
namespace PD
open PySem PySem.Spec L2 PyProof.Rows
def tupR : D → Option Rv
  | .int n => if okR n = true then some (.dat (.tup (rngD 0 n.toNat))) else none
  | _ => none
def lstR : D → Option Rv
  | .int n => if okR n = true then some (.own (.lst (rngD 0 n.toNat))) else none
  | _ => none
def rTupR (x : V) (H : Hp) (Q : VK) : Prop := ∃ n, x = .int n ∧ RgOk 0 n ∧ ∀ q, H q = none → Q (.ref q) (upd H q (.tup (rgV 0 n)))
def rLstR (x : V) (H : Hp) (Q : VK) : Prop := ∃ n, x = .int n ∧ RgOk 0 n ∧ ∀ q, H q = none → Q (.ref q) (upd H q (.lst (rgV 0 n)))
section
variable {X : Cx} {w : Wd} {W : WX} {a : Expr} {ca : M Rv} {pos p p2 pos2 : Pos}
theorem reps_rg {F : Hp} (lo : Int) : ∀ (n : Nat) , Reps w F ((List.range n).map fun i : Nat => V.int (lo + (i : Int))) (rngD lo n) := fun n => by
  unfold rngD
  induction (List.range n) with
  | nil => exact .nil
  | cons k l ih => exact .cons (.int _) ih
theorem okR_rg {n : Int} (h : okR n = true) : RgOk 0 n ∧ n.toNat ≤ LIM := by
  unfold okR at h
  have := of_decide_eq_true h
  exact ⟨⟨by omega, by omega, by omega, by omega, by omega⟩, by unfold LIM; omega⟩
theorem rgV_0 (n : Int) : rgV 0 n = (List.range n.toNat).map fun i : Nat => V.int (0 + (i : Int)) := by
  unfold rgV
  rw [Int.sub_zero]
theorem o_tupR : OpD1 w rTupR tupR := fun F H x d o Q s vx ho k => by
  unfold tupR at ho
  split at ho
  · rename_i n
    split at ho
    · rename_i hn
      cases ho
      cases vx.int
      obtain ⟨h1, h2⟩ := okR_rg hn
      refine ⟨n, rfl, h1, fun q hq => ?_⟩
      rw [rgV_0]
      obtain ⟨N, rn⟩ := new_tup s hq (reps_rg (w := w) (F := F) 0 n.toNat) (by unfold rngD; rw [List.length_map, List.length_range]; exact h2)
      exact k _ _ _ N rn
    · cases ho
  · cases ho
theorem o_lstR : OpD1 w rLstR lstR := fun F H x d o Q s vx ho k => by
  unfold lstR at ho
  split at ho
  · rename_i n
    split at ho
    · rename_i hn
      cases ho
      cases vx.int
      obtain ⟨h1, h2⟩ := okR_rg hn
      refine ⟨n, rfl, h1, fun q hq => ?_⟩
      rw [rgV_0]
      obtain ⟨N, rn⟩ := new_lst s hq (reps_rg (w := w) (F := F) 0 n.toNat) (by unfold rngD; rw [List.length_map, List.length_range]; exact h2)
      exact k _ _ _ N rn
    · cases ho
  · cases ho
theorem d_tupR (hc : X.calm = true) (hg : Gl X "tuple") (hm : X.mg "tuple" = none) (hg2 : Gl X "range") (hm2 : X.mg "range" = none) (ha : PE X a (T w W ca)) (na : starEach [a] X.env = (false, eval a X.env) :: starEach [] X.env := by rfl)
    (na2 : starEach [Expr.Call (.Name "range" p2) [a] [] pos2] X.env = (false, eval (Expr.Call (.Name "range" p2) [a] [] pos2) X.env) :: starEach [] X.env := by rfl) :
    PE X (.Call (.Name "tuple" p) [.Call (.Name "range" p2) [a] [] pos2] [] pos) (T w W (m1 tupR ca)) :=
  (pe_tupRg hc hg hm (prg_1 hg2 hm2 ha na) na2).imp fun σ H Q h => T.op1 o_tupR σ H Q h
theorem d_lstR (hc : X.calm = true) (hg : Gl X "list") (hm : X.mg "list" = none) (hg2 : Gl X "range") (hm2 : X.mg "range" = none) (ha : PE X a (T w W ca)) (na : starEach [a] X.env = (false, eval a X.env) :: starEach [] X.env := by rfl)
    (na2 : starEach [Expr.Call (.Name "range" p2) [a] [] pos2] X.env = (false, eval (Expr.Call (.Name "range" p2) [a] [] pos2) X.env) :: starEach [] X.env := by rfl) :
    PE X (.Call (.Name "list" p) [.Call (.Name "range" p2) [a] [] pos2] [] pos) (T w W (m1 lstR ca)) :=
  (pe_listRg hc hg hm (prg_1 hg2 hm2 ha na) na2).imp fun σ H Q h => T.op1 o_lstR σ H Q h
end
end PD

/-! PD26: defs whose last parameter is None where it isn't given. -/
namespace PD
open PySem PySem.Spec L2 PyProof.Rows
structure OkD (P : Program) (wd : World) (K : PySem.W.Frag) (mg : Str → Option Value) (base : Heap) (w : Wd) (k : Nat) (x : Str) (st : Stmt) (ps : List Str) (F : FS) : Prop where
  ex : ∃ f fd, FnG P wd K mg base k f fd ps (spF w ps.length F) ∧ mg x = some (.ref f) ∧ PySem.W.keepIn K (.ref f) = true ∧ Binds K fd ps [] ∧ Binds K fd ps [Value.none]
  len : ∀ ss, F ss ≠ .no → ss.length = ps.length
theorem OkD.of {P : Program} {wd : World} {K : PySem.W.Frag} {mg : Str → Option Value} {base : Heap} {w : Wd} {k n : Nat} {x : Str} {st : Stmt} {ps : List Str} {F : FS} {f : Addr} {fd : FuncData}
    (D : FunD K x x (defArgs st) (defBody st) (defScope st) [V.non] [] f fd) (G : FnG P wd K mg base k f fd ps (spF w ps.length F)) (hm : mg x = some (.ref f)) (hl : ∀ ss, F ss ≠ .no → ss.length = ps.length) (hn : n + 1 = ps.length)
    (h0 : ∀ (T : Addr) (kV doc pm : Value) (an : Option Addr) (cdv ct : Value) (us its : List Value), us.length = n + 1 → its.length = 1 → ∃ k, bindArgs (PySem.W.fnOf x x (defArgs st) (defBody st) (defScope st) (.ref T) kV doc pm an cdv ct) ⟨us, []⟩ = seqItems? (.ref T) >>= k ∧ k (some its.toArray) = pure (ps.zip (us ++ its.drop 1)))
    (h1 : ∀ (T : Addr) (kV doc pm : Value) (an : Option Addr) (cdv ct : Value) (us its : List Value), us.length = n → its.length = 1 → ∃ k, bindArgs (PySem.W.fnOf x x (defArgs st) (defBody st) (defScope st) (.ref T) kV doc pm an cdv ct) ⟨us, []⟩ = seqItems? (.ref T) >>= k ∧ k (some its.toArray) = pure (ps.zip (us ++ its.drop 0))) :
    OkD P wd K mg base w k x st ps F := by
  obtain ⟨d0, v0, b0⟩ := D.binds1 (ps := ps) (n + 1) 1 (by simp) (by simp; omega) h0
  obtain ⟨d1, v1, b1⟩ := D.binds1 (ps := ps) n 0 (by simp) (by simp; omega) h1
  have e0 : d0 = [] := by cases v0; rfl
  have e1 : d1 = [Value.none] := by
    cases v1 with
    | cons r t =>
      cases t
      rename_i u
      have : u = Value.none := r
      rw [this]
  subst e0 e1
  exact ⟨⟨f, fd, G, hm, D.kp, b0, b1⟩, hl⟩
section
variable {X : Cx} {w : Wd} {e : Expr} {es : List Expr} {cs : M (List Rv)} {fn : FS} {k j : Nat} {ps : List Str} {x : Str} {p pos : Pos} {st : Stmt}
theorem d_cD (c : OkD X.prog X.w X.K X.mg X.base w k x st ps fn) (hr : Room j X.A) (gd : X.A.guards = some []) (hkj : k ≤ j) (hg : Gl X x) (ha : PA X (e :: es) (TL w W0 cs)) (hdb : (x == ("__debug__" : Str)) = false := by decide)
    (he : starEach (e :: es) X.env = (false, eval e X.env) :: starEach es X.env := by rfl) (hpl : (backTo pos (starEach es X.env)).any (·.1) = false := by rfl) : PE X (.Call (.Name x p) (e :: es) [] pos) (T w W0 (mCall fn [] cs)) := by
  obtain ⟨f, fd, G, hm, kp, hb, _⟩ := c.ex
  exact d_call takes0 G hr gd hkj hg hm kp hb c.len ha hdb he hpl
theorem d_cD1 (c : OkD X.prog X.w X.K X.mg X.base w k x st ps fn) (hr : Room j X.A) (gd : X.A.guards = some []) (hkj : k ≤ j) (hg : Gl X x) (ha : PA X (e :: es) (TL w W0 cs)) (hdb : (x == ("__debug__" : Str)) = false := by decide)
    (he : starEach (e :: es) X.env = (false, eval e X.env) :: starEach es X.env := by rfl) (hpl : (backTo pos (starEach es X.env)).any (·.1) = false := by rfl) : PE X (.Call (.Name x p) (e :: es) [] pos) (T w W0 (mCall fn [D.non] cs)) := by
  obtain ⟨f, fd, G, hm, kp, _, hb⟩ := c.ex
  exact d_callD (dvs := [V.non]) (ds := [D.non]) takes0 G hr gd hkj hg hm kp hb (.cons rfl .nil) (fun _ => .cons .non .nil) c.len ha hdb he hpl
end
end PD

/-! PD27: sorted(set(l)), l a list of pairs of ints; t < u of tuples of ints. -/
namespace PD
open PySem PySem.Spec L2 PyProof.Rows
def ltT : D → D → Option Rv
  | .tup a, .tup b => (intsD a).bind fun is => (intsD b).map fun js => .dat (.bl (HT.lexLt is js))
  | _, _ => none
def pairs : List D → Option (List (Int × Int))
  | [] => some []
  | .tup [.int i, .int j] :: r => (pairs r).map ((i, j) :: ·)
  | _ => none
def pcode (p : Int × Int) : Int := p.1 * 1000 + p.2
def punc (c : Int) : Int × Int := (c / 1000, c % 1000)
def pOk (p : Int × Int) : Bool := decide (0 ≤ p.1) && decide (p.1 < 1000) && decide (0 ≤ p.2) && decide (p.2 < 1000)
def prD (p : Int × Int) : D := .tup [.int p.1, .int p.2]
def sortSetP : List D → Option Rv
  | [.lst l] => (pairs l).bind fun ps => if l.length < 64 ∧ ps.all pOk = true then some (.own (.lst ((srt (dd (ps.map pcode))).map fun c => prD (punc c)))) else none
  | _ => none
theorem punc_code {p : Int × Int} (h : pOk p = true) : punc (pcode p) = p := by
  unfold pOk at h
  simp only [Bool.and_eq_true, decide_eq_true_eq] at h
  obtain ⟨⟨⟨h1, h2⟩, h3⟩, h4⟩ := h
  unfold punc pcode
  refine Prod.ext ?_ ?_
  · show (p.1 * 1000 + p.2) / 1000 = p.1; omega
  · show (p.1 * 1000 + p.2) % 1000 = p.2; omega
section
variable {w : Wd}
theorem o_ltT {K : PySem.W.Frag} (hK : w.K = K) : OpD w (rLtT K) ltT := fun F H x y d e o Q s vx vy ho k => by
  subst hK
  unfold ltT at ho
  split at ho
  · rename_i a b
    obtain ⟨is, e1, ho⟩ := Option.bind_eq_some_iff.mp ho
    obtain ⟨js, e2, ho⟩ := Option.map_eq_some_iff.mp ho
    subst ho
    obtain ⟨p, xs, rfl, hF1, hx, rx, zx⟩ := vx.tup s
    obtain ⟨q, ys, rfl, hF2, hy, ry, zy⟩ := vy.tup s
    rw [of_intsD e1 rx] at hx
    rw [of_intsD e2 ry] at hy
    exact ⟨p, q, is, js, rfl, rfl, hx, hy, k _ H F (New.refl s) (.bl _)⟩
  · cases ho
theorem lt_room {k : Nat} {A : Around} (r : Room k A) : A.units < cLine := by have := r.un; omega
theorem Reps.pairs {F : Hp} : ∀ {ys : List V} {l : List D} {ps : List (Int × Int)}, Reps w F ys l → PD.pairs l = some ps → ∃ ks : List (Addr × List Int), ys = ks.map (fun p => V.ref p.1) ∧ (∀ p ∈ ks, SqT w.K F p.1 (p.2.map V.int) ∧ Rep w F (.ref p.1) (.tup (p.2.map .int))) ∧ ks.map (·.2) = ps.map fun p => [p.1, p.2]
  | _, _, ps, .nil, e => by cases e; exact ⟨[], rfl, (fun p hp => nomatch hp), rfl⟩
  | _, _, ps, .cons (d := d) r t, e => by
    unfold PD.pairs at e
    split at e
    · cases ‹_ :: _ = []›
    · rename_i i j r' heq
      cases heq
      obtain ⟨qs, e1, rfl⟩ := Option.map_eq_some_iff.mp e
      obtain ⟨ks, e2, h2, e3⟩ := Reps.pairs t e1
      cases r with
      | @tup a xs _ hs hr z =>
        have ex : xs = [V.int i, V.int j] := by
          cases hr with
          | cons r1 t1 => cases r1; cases t1 with
            | cons r2 t2 => cases r2; cases t2; rfl
        subst ex
        refine ⟨(a, [i, j]) :: ks, by rw [e2]; rfl, fun p hp => ?_, by rw [List.map_cons, e3]; rfl⟩
        rcases List.mem_cons.mp hp with rfl | hp
        · exact ⟨hs, .tup hs hr z⟩
        · exact h2 p hp
    · cases e
theorem reps_refs {F : Hp} : ∀ {ks : List (Addr × List Int)}, (∀ p ∈ ks, Rep w F (.ref p.1) (.tup (p.2.map .int))) → Reps w F (ks.map fun p => V.ref p.1) (ks.map fun p => D.tup (p.2.map .int))
  | [], _ => .nil
  | p :: ks, h => .cons (h p List.mem_cons_self) (reps_refs fun q hq => h q (List.mem_cons_of_mem _ hq))
end
section
variable {X : Cx} {w : Wd} {W : WX} {a : Expr} {ca : M Rv} {p1 p2 p3 p4 : Pos}
theorem pe_sortsetP (hu : X.A.units + 65 < cLine) (hc : X.calm = true) (hg : Gl X "sorted") (hm : X.mg "sorted" = none) (hg2 : Gl X "set") (hm2 : X.mg "set" = none) (ha : PE X a (T w W ca)) (hK : w.K = X.K)
    (hs : starEach [a] X.env = (false, eval a X.env) :: starEach [] X.env := by rfl) (hpl : (backTo p4 (starEach [] X.env)).any (·.1) = false := by rfl)
    (hs2 : starEach [.Call (.Name "set" p2) [a] [] p4] X.env = (false, eval (.Call (.Name "set" p2) [a] [] p4) X.env) :: starEach [] X.env := by rfl) (hpl2 : (backTo p3 (starEach [] X.env)).any (·.1) = false := by rfl) :
    PE X (.Call (.Name "sorted" p1) [.Call (.Name "set" p2) [a] [] p4] [] p3) (T w W (mB sortSetP (aCons ca aNil))) :=
  (pe_callB (cr_sortedT hc) hg hm PyProof.Rows.boot_sorted (pa_cons (pe_callTy (cr_setOfT hc (by omega)) hg2 hm2 (by decide +kernel) (l_cons ha l_nil hs) (by decide) (by decide) hs hpl) pa_nil hs2) (by decide) (by decide) hs2 hpl2).imp fun σ H Q ⟨g, F, Γ, R, p⟩ => by
    refine ⟨g, F, Γ, R, Post.bind (Step.refl ..) p fun rs Γ1 _ p1 vs H1 F1 S1 R1 q1 => ?_⟩
    obtain ⟨ds, e1, p1⟩ := p1.opt
    obtain ⟨o, e2, p1⟩ := p1.opt
    have vw := q1.view R S1 R1 e1
    unfold sortSetP at e2
    split at e2
    · rename_i l
      obtain ⟨ps, e3, e2⟩ := Option.bind_eq_some_iff.mp e2
      split at e2
      · rename_i hz
        cases e2
        obtain ⟨x, rfl, vx⟩ := vw.one
        obtain ⟨a', ys, rfl, hx, r, z⟩ := vx.lst R1.sub
        obtain ⟨ks, eks, hks, ek2⟩ := Reps.pairs r e3
        have hl : ks.length < 64 := by
          have h1 := r.length
          rw [eks, List.length_map] at h1
          omega
        have bd : ∀ p ∈ ks, ∃ i j : Int, p.2 = [i, j] ∧ pOk (i, j) = true ∧ (i, j) ∈ ps := fun p hp => by
          have : p.2 ∈ ps.map fun p => [p.1, p.2] := by rw [← ek2]; exact List.mem_map.mpr ⟨p, hp, rfl⟩
          obtain ⟨q, hq, e⟩ := List.mem_map.mp this
          exact ⟨q.1, q.2, e.symm, List.all_eq_true.mp hz.2 q hq, hq⟩
        refine ⟨a', ks, rfl, by rw [← hK, ← eks]; exact hx, fun p hp => by rw [← hK]; exact SqT.le R1.sub (hks p hp).1, hl, fun q L hq hsub hall => ?_⟩
        have Fq : F1 q = none := by
          cases y : F1 q with
          | none => rfl
          | some u => rw [R1.sub q u y] at hq; cases hq
        have N1 : New F1 H1 F1 (upd H1 q (SetTO X.prog X.w q L)) :=
          ⟨fun b o e => by rw [upd_ne (ne_of_none e hq)]; exact e, Le.refl _, fun b o e => by rw [upd_ne (ne_of_none e Fq)]; exact R1.sub b o e, fun b e => .inl e⟩
        refine ⟨q, L, 2, 1000, rfl, upd_same, fun p hp => by rw [← hK]; exact SqT.le N1.sub (hks p (hsub p hp)).1, by omega, fun p hp => ?_, fun L' b hperm hnd hlen hpw hb => ?_⟩
        · obtain ⟨i, j, e, ok, _⟩ := bd p (hsub p hp)
          rw [e]
          unfold pOk at ok
          simp only [Bool.and_eq_true, decide_eq_true_eq] at ok
          refine ⟨rfl, fun m hm => ?_⟩
          simp at hm
          rcases hm with rfl | rfl
          · exact ⟨ok.1.1.1, ok.1.1.2⟩
          · exact ⟨ok.1.2, ok.2⟩
        · have inL : ∀ p ∈ L', p ∈ ks := fun p hp => hsub p (hperm.mem_iff.mp hp)
          have code_eq : ∀ i j : Int, TS.code 1000 [i, j] = pcode (i, j) := fun i j => by
            show i * 1000 ^ 1 + (j * 1000 ^ 0 + 0) = i * 1000 + j
            rw [show (1000 : Int) ^ 1 = 1000 by decide, show (1000 : Int) ^ 0 = 1 by decide, Int.mul_one, Int.add_zero]
          have inj : ∀ p ∈ L', ∀ r ∈ L', TS.code 1000 p.2 = TS.code 1000 r.2 → p.2 = r.2 := fun p hp r hr e => by
            obtain ⟨i, j, e1, ok1, _⟩ := bd p (inL p hp)
            obtain ⟨i', j', e2, ok2, _⟩ := bd r (inL r hr)
            rw [e1, e2, code_eq, code_eq] at e
            have := congrArg punc e
            rw [punc_code ok1, punc_code ok2] at this
            injection this with h1 h2
            rw [e1, e2, h1, h2]
          have hlt : (L'.map fun p => TS.code 1000 p.2).Pairwise (· < ·) := by
            rw [List.pairwise_map]
            have hnd' := List.pairwise_map.mp hnd
            have both := hpw.and hnd'
            refine List.Pairwise.imp_of_mem (fun {p r} hp hr h => ?_) both
            have ne : TS.code 1000 p.2 ≠ TS.code 1000 r.2 := fun e => h.2 (inj p hp r hr e)
            have := h.1
            omega
          have hmem : ∀ k, k ∈ (L'.map fun p => TS.code 1000 p.2) ↔ k ∈ ps.map pcode := fun k => by
            constructor
            · intro hk
              obtain ⟨p, hp, rfl⟩ := List.mem_map.mp hk
              obtain ⟨i, j, e, _, hin⟩ := bd p (inL p hp)
              rw [e, code_eq]
              exact List.mem_map.mpr ⟨_, hin, rfl⟩
            · intro hk
              obtain ⟨c, hc, rfl⟩ := List.mem_map.mp hk
              have : [c.1, c.2] ∈ ks.map (·.2) := by rw [ek2]; exact List.mem_map.mpr ⟨c, hc, rfl⟩
              obtain ⟨p, hp, e⟩ := List.mem_map.mp this
              have := hall p hp
              obtain ⟨p', hp', e'⟩ := List.mem_map.mp this
              refine List.mem_map.mpr ⟨p', hperm.mem_iff.mpr hp', ?_⟩
              show TS.code 1000 p'.2 = _
              rw [e', e, code_eq]
          have ecodes := lt_eq_srt hlt hmem
          have eD : (L'.map fun p => D.tup (p.2.map .int)) = (srt (dd (ps.map pcode))).map fun c => prD (punc c) := by
            rw [← ecodes, List.map_map]
            refine List.map_congr_left fun p hp => ?_
            obtain ⟨i, j, e, ok, _⟩ := bd p (inL p hp)
            show D.tup (p.2.map .int) = prD (punc (TS.code 1000 p.2))
            rw [e, code_eq, punc_code ok]
            rfl
          obtain ⟨N2, rn⟩ := new_lst (w := w) N1.sub hb (reps_refs (w := w) (F := F1) fun p hp => (hks p (inL p hp)).2) (by
            rw [List.length_map]
            unfold LIM; omega)
          rw [eD] at rn
          have N := N1.trans N2
          exact p1 _ _ _ (S1.trans N.step) (R1.new N) ((rn.early fun b => N1.th).noσ.early S1.th)
      · cases e2
    · cases e2
end
end PD

/-! PD28: a range as a value, walked later. -/
namespace PD
open PySem PySem.Spec L2 PyProof.Rows
def rgB : List D → Option Rv
  | [.int n] => if okR n = true then some (.dat (.rg n)) else none
  | _ => none
def wRg (c : M Rv) : M (List D) := fun Γ => (c Γ).bind fun r Γ => R.opt (frz Γ r) fun p => match p.1 with
  | .rg n => if okR n = true then .ok (rngD 0 n.toNat) p.2 else .no
  | _ => .no
def rRg1 : List V → Hp → VK → Prop := fun vs H Q => ∃ n, vs = [V.int n] ∧ ∀ p, H p = none → Q (.ref p) (upd H p (.rng 0 n))
theorem cr_range1 {X : Cx} : CallR X (.type "range") rRg1 := by
  intro pins s σ H vs us Q I r h
  obtain ⟨n, rfl, q⟩ := h
  obtain ⟨u1, rfl, ri⟩ := Vals.one r
  obtain ⟨t, rfl⟩ := ri
  refine call_range_1 ⟨.ref s.heap.objs.size, upd H s.heap.objs.size (.rng 0 n), I.laid (t' := _) (fun b o e => Heap.get?_push_of_some _ e) (Nat.le_refl _) ?_, rfl, q _ (I.hok.fresh (Nat.le_refl _))⟩
  exact ⟨_, _, _, Heap.get?_push_size _ rfl⟩
section
variable {w : Wd}
theorem new_rg {F H : Hp} {n : Int} {p : Addr} (s : Le F H) (hp : H p = none) : New F H (upd F p (.rng 0 n)) (upd H p (.rng 0 n)) ∧ Rep w (upd F p (.rng 0 n)) (.ref p) (.rg n) := by
  have Fp : F p = none := by
    cases q : F p with
    | none => rfl
    | some o => rw [s p o q] at hp; cases hp
  have le : Le F (upd F p (.rng 0 n)) := fun b o e => by rw [upd_ne (ne_of_none e Fp)]; exact e
  refine ⟨⟨fun b o e => by rw [upd_ne (ne_of_none e hp)]; exact e, le, fun b o e => ?_, fun b e => ?_⟩, .rg upd_same⟩
  · by_cases z : b = p
    · subst z; rw [upd_same] at e ⊢; exact e
    · rw [upd_ne z] at e ⊢; exact s b o e
  · by_cases z : b = p
    · subst z; exact .inr hp
    · rw [upd_ne z] at e; exact .inl e
theorem o_rg : OpDn w rRg1 rgB := fun F H xs ds o Q s vs ho k => by
  unfold rgB at ho
  split at ho
  · rename_i n
    split at ho
    · cases ho
      obtain ⟨x, rfl, vx⟩ := vs.one
      refine ⟨n, by rw [vx.int], fun p hp => ?_⟩
      obtain ⟨N, rn⟩ := new_rg (w := w) (n := n) s hp
      exact k _ _ _ N rn
    · cases ho
  · cases ho
end
def iRgV (te : TE) : TI := fun σ H R => te σ H fun x H1 => ∃ a n, x = .ref a ∧ H1 a = some (.rng 0 n) ∧ -(2 ^ 62) ≤ n ∧ n < 2 ^ 62 ∧ R (Itr 0 n.toNat) H1
section
variable {X : Cx} {w : Wd} {W : WX} {e tg : Expr} {te : TE} {ce : M Rv}
theorem pi_rgV (he : PE X e te) : PI X tg e (iRgV te) := by
  refine ⟨fun pins s σ H R I h => ?_⟩
  refine thn (he.run pins s σ H _ I h) fun u s1 ⟨x, H1, I1, rx, a, n, ex, ha, h1, h2, q⟩ => ?_
  subst ex
  obtain rfl : u = Value.ref a := rx
  obtain ⟨t1, t2, t3, ho⟩ := I1.hok a _ ha
  refine wpAny_pyIter_range (show IsRange s1.heap a 0 n 1 t1 t2 t3 from ho) (small_one (by omega) (by omega) h1 h2) ?_
  refine ⟨s1.heap.objs.size, [s1.heap.objs.size], _, _, H1, rfl, I1.kept (t' := s1.toks) fun b o e => Heap.get?_push_of_some _ e, turn_range _ 0 n.toNat, ?_, fun b hb => ?_, q⟩
  · have e1 : (0 : Int) + ((0 : Nat) : Int) * 1 = 0 := by simp
    have e2 : ((n.toNat : Nat) : Int) - ((0 : Nat) : Int) = Builtin.Range.rangeSize 0 n 1 := by rw [rangeSize_one]; split <;> omega
    show IsRangeIter _ _ ((0 : Int) + ((0 : Nat) : Int) * 1) (((n.toNat : Nat) : Int) - ((0 : Nat) : Int)) 1
    rw [e1, e2]
    exact Heap.get?_push_size _ rfl
  · have e : b = s1.heap.objs.size := by simpa using hb
    subst e
    exact I1.fpOk (Nat.le_refl _) (I1.hok.fresh (Nat.le_refl _))
theorem w_rg (h : PE X e (T w W ce)) : PI X tg e (TI' w W (wRg ce)) := (pi_rgV h).imp fun σ H Rk ⟨g, F, Γ, R, p⟩ => by
  refine ⟨g, F, Γ, R, Post.bind (Step.refl ..) p fun r Γ1 _ p1 x H1 F1 S1 R1 q1 => ?_⟩
  obtain ⟨q, e1, p1⟩ := p1.opt
  obtain ⟨F2, S2, R2, rx⟩ := frz_ok R S1 R1 q1 e1
  obtain ⟨d, Γ2⟩ := q
  split at p1
  · rename_i n hh
    simp only at hh
    subst hh
    by_cases ok : okR n = true
    · rw [if_pos ok] at p1
      obtain ⟨b1, b2⟩ := okR_of ok
      have := okR_lim ok
      cases rx with
      | @rg a _ hF => exact ⟨a, n, rfl, R2.sub a _ hF, b1, b2, p1 _ H1 F2 S2 R2 (rngD_walk (by show n.toNat ≤ 16777216; omega))⟩
    · rw [if_neg ok] at p1; exact p1.elim
  · exact p1.elim
end
end PD

/-! PD29: comprehensions over two sequences. -/
namespace PD
open PySem PySem.Spec L2
def compD2 (g : G) (t : M Bool) (w1 : M (List D)) (g1 : G) (t1 : M Bool) (e : M Rv) (vs vs1 : List Nat) : List D → List D → M (List D)
  | [], acc, Γ => .ok acc Γ
  | x :: xs, acc, Γ => (g x Γ).bind fun _ Γ => (t Γ).bind fun b Γ => if b = true then (w1 Γ).bind fun ds1 Γ => if acc.length + ds1.length < LIM then (compD g1 t1 e vs1 ds1 acc (wipeE Γ vs1)).bind fun acc Γ => compD2 g t w1 g1 t1 e vs vs1 xs acc (wipeE Γ vs) else .no else compD2 g t w1 g1 t1 e vs vs1 xs acc (wipeE Γ vs)
def mLc2 (w : M (List D)) (g : G) (t : M Bool) (w1 : M (List D)) (g1 : G) (t1 : M Bool) (e : M Rv) (vs vs1 : List Nat) : M Rv := fun Γ => (w Γ).bind fun ds Γ => if plainAt Γ vs = true then (match compD2 g t w1 g1 t1 e vs vs1 ds [] (wipeE Γ vs) with
  | .ok acc Γ' => .ok (.own (.lst acc)) (backE Γ Γ' vs)
  | _ => .no) else .no
/-- a walk, whatever is done at each turn -/
theorem walk_it {J : It} {n : Nat} {Gd : Hp → Prop} {Y : Nat → Hp → V → Hp → Prop} (w : Walk J n Gd Y) {Body : (Hp → Prop) → V → Hp → Prop} {Qd : Hp → Prop} {H1 : Hp} (Pv : Nat → Hp → Prop) (h0 : Pv 0 H1) (hG : ∀ i H, i ≤ n → Pv i H → Gd H)
    (hs : ∀ i x H H', i < n → Pv i H → Y i H x H' → Body (Pv (i + 1)) x H') (hd : ∀ H, Pv n H → Qd H) :
    ∃ W : Nat → Nat → Hp → Prop, (∃ m, W 0 m H1) ∧ ∀ i m H, W i m H → (J.stop i H ∧ Qd H) ∨ (J.go i H ∧ ∃ Nx : Hp → Prop, (∀ H', Nx H' → ∃ m', m' < m ∧ W (i + 1) m' H') ∧ ∀ x H', J.yld i H x H' → Body Nx x H') := by
  refine ⟨fun i m H => m = n - i ∧ i ≤ n ∧ Pv i H, ⟨n, by simp, Nat.zero_le _, h0⟩, ?_⟩
  rintro i m H ⟨rfl, hi, p⟩
  have q := hG i H hi p
  by_cases hlt : i < n
  · refine .inr ⟨w.goes i H hlt q, Pv (i + 1), fun H' p' => ⟨n - (i + 1), by omega, rfl, hlt, p'⟩, fun x H' y => hs i x H H' hlt p (w.yields i H x H' hlt q y)⟩
  · have e : i = n := by omega
    subst e
    exact .inl ⟨w.stops H q, hd H p⟩
theorem wipeE_at : ∀ {vs : List Nat} {Γ : EnD} {j : Nat}, j ∈ vs → j < Γ.length → (wipeE Γ vs)[j]? = some none
  | v :: vs, Γ, j, h, hl => by
    rw [wipeE]
    by_cases e : v = j
    · rw [e, List.getElem?_set_self (by rw [wipeE_len]; exact hl)]
    · rw [List.getElem?_set_ne e]
      rcases List.mem_cons.mp h with z | z
      · exact absurd z.symm e
      · exact wipeE_at z hl
theorem wipeE_two {vs vs1 : List Nat} {Γ : EnD} (h : ∀ i ∈ vs1, i ∈ vs) : wipeE (wipeE Γ vs1) vs = wipeE Γ vs := by
  apply List.ext_getElem?
  intro j
  by_cases e : j ∈ vs
  · by_cases hj : j < Γ.length
    · rw [wipeE_at e (by rw [wipeE_len]; exact hj), wipeE_at e hj]
    · rw [List.getElem?_eq_none (by rw [wipeE_len, wipeE_len]; omega), List.getElem?_eq_none (by rw [wipeE_len]; omega)]
  · rw [wipeE_get e, wipeE_get e, wipeE_get fun z => e (h j z)]
theorem wipe_two {vs vs1 : List Nat} {σ : St} (h : ∀ i ∈ vs1, i ∈ vs) : L2.wipe (L2.wipe σ vs1) vs = L2.wipe σ vs :=
  wipe_eq (wipe_length σ vs1) fun j n => wipe_get fun z => n (h j z)
/-- no slot of these owns -/
def NoOwn (Γ : EnD) (vs : List Nat) : Prop := ∀ j ∈ vs, ∀ s, Γ[j]? = some (some s) → s.m.ow = false
section
variable {w : Wd} {W : WX} {g : Gx} {F F1 F2 F3 F4 F5 : Hp} {Γ Γ1 ΓA ΓB Γ2 Γ3 Γ5 : EnD} {σ σ2 σA : St} {H H1 H2 H3 H5 : Hp} {vs vs1 : List Nat}
theorem mut_ow {m : Md} (h : m.mut = true) : m.ow = true := by cases m <;> first | rfl | cases h
theorem step_lift (S3 : Step ΓA σA F1 H1 ΓB F3 H3) (hag : ∀ j, j ∉ vs → σ2[j]? = σA[j]? ∧ Γ3[j]? = ΓB[j]?) (hno : NoOwn Γ3 vs) (S : Step Γ3 σ2 F3 H3 Γ5 F5 H5) : Step ΓA σA F1 H1 (wipeE Γ5 vs) F5 H5 := by
  have muIn : ∀ {b}, Mu Γ3 σ2 b → Mu ΓB σA b := fun {b} ⟨j, s, q1, q2, q3⟩ => by
    have n : j ∉ vs := fun z => by
      have := hno j z s q1
      rw [mut_ow q2] at this; cases this
    rw [(hag j n).2] at q1
    rw [(hag j n).1] at q3
    exact ⟨j, s, q1, q2, q3⟩
  refine S3.trans ⟨S.le, fun b o e t n => S.fr b o e t fun z => n (muIn z), fun b e => ?_, S.th, fun j s' e o => ?_⟩
  · rcases S.nf b e with z | z | z
    · exact .inl z
    · exact .inr (.inl z)
    · exact .inr (.inr (muIn z))
  · obtain ⟨n, e⟩ := wipeE_in e
    obtain ⟨s, q1, q2, q3⟩ := S.ol j s' e o
    rw [(hag j n).2] at q1
    exact ⟨s, q1, q2, q3⟩
theorem NoOwn.step (h : NoOwn Γ3 vs) (S : Step Γ3 σ2 F3 H3 Γ5 F5 H5) : NoOwn Γ5 vs := fun j hj s' e => by
  cases o : s'.m.ow with
  | false => rfl
  | true =>
    obtain ⟨s, q1, q2, q3⟩ := S.ol j s' e o
    have := h j hj s q1
    rw [q2] at this; cases this
theorem NoOwn.wipe (h : NoOwn Γ3 vs) : NoOwn (wipeE Γ3 vs1) vs := fun j hj s e => h j hj s (wipeE_in e).2
theorem noOw_of (hag : ∀ j, j ∉ vs → σ2[j]? = σA[j]? ∧ Γ3[j]? = ΓB[j]?) (hno : NoOwn Γ3 vs) {D : Addr} (h : ¬ Ow ΓB σA D) : ¬ Ow Γ3 σ2 D := fun ⟨j, s, q1, q2, q3⟩ => by
  have n : j ∉ vs := fun z => by
    have := hno j z s q1
    rw [q2] at this; cases this
  rw [(hag j n).2] at q1
  rw [(hag j n).1] at q3
  exact h ⟨j, s, q1, q2, q3⟩
theorem nof_step {D : Addr} {o : HO} (S : Step Γ3 σ2 F3 H3 Γ5 F5 H5) (hF : F3 D = none) (hD : H3 D = some o) (noD : ¬ Ow Γ3 σ2 D) : F5 D = none := by
  cases q : F5 D with
  | none => rfl
  | some u =>
    rcases S.nf D (by rw [q]; simp) with z | z | z
    · exact absurd hF z
    · rw [hD] at z; cases z
    · exact absurd z.ow noD
theorem lc2_main {wi wi1 : M (List D)} {go gi : G} {to ti : M Bool} {e1 : M Rv} {slo sli : List Nat} (hso : ∀ i ∈ slo, i ∈ vs) (hsi : ∀ i ∈ sli, i ∈ vs1) (hv : ∀ i ∈ vs1, i ∈ vs) {Q : VK} (h : T w W (mLc2 wi go to wi1 gi ti e1 vs vs1) σ H Q) :
    tLc2 (TI' w W wi) (TGr w W0 (some slo) go) (TB w W0 to) (TI' w W0 wi1) (TGr w W0 (some sli) gi) (TB w W0 ti) (T w W0 (mFz e1)) vs vs1 σ H Q := by
  obtain ⟨g, F, Γ, R, p⟩ := h
  refine ⟨g, F, Γ, R, Post.bind (Step.refl ..) p fun ds Γ1 _ p1 J H1 F1 S1 R1 q1 => ?_⟩
  intro D hD
  by_cases hp : plainAt Γ1 vs = true
  · rw [if_pos hp] at p1
    obtain ⟨hlim, Gd, Y, wk, hG, hY⟩ := q1
    have hL := plain_lok R1 hp
    have hL1 : ∀ i ∈ vs1, g.L i = none := fun i hi => hL i (hv i hi)
    have R1w := R1.wipe hL
    have hg0 : g.H0 D = none := R1.fresh hD
    cases hc : compD2 go to wi1 gi ti e1 vs vs1 ds [] (wipeE Γ1 vs) with
    | no => rw [hc] at p1; exact p1.elim
    | ex x Γ' => rw [hc] at p1; exact p1.elim
    | ok accF ΓF =>
      rw [hc] at p1
      have noOw : ∀ {F2 H2 Γ2}, Step (wipeE Γ1 vs) (L2.wipe σ vs) F1 H1 Γ2 F2 H2 → ¬ Ow Γ2 (L2.wipe σ vs) D := fun {F2 H2 Γ2} S z => by
        obtain ⟨o, e⟩ := R1w.owIn (S.ow z)
        rw [hD] at e; cases e
      refine walk_it wk (fun i H2 => ∃ F2 Γ2 accD accV, Le F1 F2 ∧ Rel w g F2 Γ2 (L2.wipe σ vs) H2 ∧ H2 D = some (.lst accV) ∧ Reps w F2 accV accD ∧ F2 D = none ∧ accD.length ≤ LIM ∧ NoOwn Γ2 vs ∧ Step (wipeE Γ1 vs) (L2.wipe σ vs) F1 H1 Γ2 F2 H2 ∧
        compD2 go to wi1 gi ti e1 vs vs1 (ds.drop i) accD Γ2 = .ok accF ΓF) ?_ (fun i H2 _ ⟨F2, Γ2, _, _, l, R2, _⟩ => hG H2 (l.trans R2.sub)) ?_ ?_
      · have N := New.own (o := .lst []) R1.sub hD
        refine ⟨F1, wipeE Γ1 vs, [], [], Le.refl _, R1w.new N, upd_same, .nil, R1.sub.none hD, Nat.zero_le _, fun j hj s e => absurd hj (wipeE_in e).1, N.step, hc⟩
      · rintro i x H2 H3 hi ⟨F2, Γ2, accD, accV, l, R2, hDl, hacc, hFD, hle, hno2, S2, heq⟩ y
        obtain ⟨F3, d, N, hd, rd⟩ := hY i F2 H2 x H3 hi l R2.sub y
        have R3 := R2.new N
        have S3 := S2.trans (N.step (Γ := Γ2) (σ := L2.wipe σ vs))
        have e : ds.drop i = d :: ds.drop (i + 1) := by
          obtain ⟨hlt, e⟩ := List.getElem?_eq_some_iff.mp hd
          rw [← e]
          exact List.drop_eq_getElem_cons hlt
        rw [e] at heq
        simp only [compD2] at heq
        have hD3 : H3 D = some (.lst accV) := N.keep D _ hDl
        have hF3 : F3 D = none := N.nof hFD ⟨_, hDl⟩
        have hacc3 := hacc.le N.le
        refine ⟨g, F3, Γ2, d, R3, rd, ?_⟩
        cases hg1 : go d Γ2 with
        | no => rw [hg1] at heq; cases heq
        | ex x Γ3 => rw [hg1] at heq; cases heq
        | ok u Γ3 =>
          rw [hg1] at heq
          simp only [PD.R.bind_ok] at heq
          intro σ2 H4 F4 l4 R4 tt
          obtain ⟨t1', t2', t3', t4', t5'⟩ := tt
          have t1' := t1'.symm
          have t2' := t2'.symm
          subst t1' t2'
          have hout : ∀ j, j ∉ vs → σ2[j]? = (L2.wipe σ vs)[j]? := fun j n => (t4' j fun z => n (hso j z)).1
          have hag : ∀ j, j ∉ vs → σ2[j]? = (L2.wipe σ vs)[j]? ∧ Γ3[j]? = Γ2[j]? := fun j n => t4' j fun z => n (hso j z)
          have hw : L2.wipe σ2 vs = L2.wipe σ vs := (wipe_eq t3' hout).trans wipe_wipe
          have hno3 : NoOwn Γ3 vs := fun j hj s q => by
            by_cases hjs : j ∈ slo
            · rw [t5' j hjs s q]; rfl
            · rw [(t4' j hjs).2] at q
              exact hno2 j hj s q
          have noD : ¬ Ow Γ3 σ2 D := noOw_of hag hno3 (noOw S3)
          have lift : ∀ {Γ5 F5 H5}, Step Γ3 σ2 F3 H3 Γ5 F5 H5 → Step (wipeE Γ1 vs) (L2.wipe σ vs) F1 H1 (wipeE Γ5 vs) F5 H5 := fun {Γ5 F5 H5} S => step_lift S3 hag hno3 S
          have wipeR : ∀ {Γ5 F5 H5}, Rel w g F5 Γ5 σ2 H5 → Rel w g F5 (wipeE Γ5 vs) (L2.wipe σ vs) H5 := fun {Γ5 F5 H5} R5 => by
            have z := R5.wipe hL
            rw [hw] at z
            exact z
          refine ⟨hw, g, F3, Γ3, R4, ?_⟩
          cases ht : to Γ3 with
          | no => rw [ht] at heq; cases heq
          | ex x Γ4 => rw [ht] at heq; cases heq
          | ok b Γ4 =>
            rw [ht] at heq
            simp only [PD.R.bind_ok] at heq
            intro b' H5 F5 S5 R5 eb
            subst eb
            have hD5 : H5 D = some (.lst accV) := S5.fr D _ hD3 (fun _ z => nomatch z) fun z => noD z.ow
            have hF5 : F5 D = none := nof_step S5 hF3 hD3 noD
            cases b' with
            | false =>
              simp only [Bool.false_eq_true, if_false] at heq ⊢
              exact ⟨F5, wipeE Γ4 vs, accD, accV, (lift S5).le, wipeR R5, hD5, hacc3.le S5.le, hF5, hle, (hno3.step S5).wipe, lift S5, heq⟩
            | true =>
              simp only [if_true] at heq ⊢
              refine ⟨g, F5, Γ4, R5, ?_⟩
              cases hw1 : wi1 Γ4 with
              | no => rw [hw1] at heq; cases heq
              | ex x Γ5 => rw [hw1] at heq; cases heq
              | ok ds1 Γ5 =>
                rw [hw1] at heq
                simp only [PD.R.bind_ok] at heq
                intro J1 H6 F6 S6 R6 q6
                obtain ⟨hlim1, Gd1, Y1, wk1, hG1, hY1⟩ := q6
                by_cases hsz : accD.length + ds1.length < LIM
                · rw [if_pos hsz] at heq
                  have S56 := S5.trans S6
                  have hD6 : H6 D = some (.lst accV) := S56.fr D _ hD3 (fun _ z => nomatch z) fun z => noD z.ow
                  have hF6 : F6 D = none := nof_step S56 hF3 hD3 noD
                  refine walk_it wk1 (Body := fun Nx1 x H' => TGr w W0 (some sli) gi x (L2.wipe σ2 vs1) H' fun σ3 H5 => L2.wipe σ3 vs1 = L2.wipe σ2 vs1 ∧ TB w W0 ti σ3 H5 fun b H6 => if b = true then T w W0 (mFz e1) σ3 H6 fun y H7 => ∃ acc, H7 D = some (.lst acc) ∧ acc.length < sizeLine ∧ Nx1 (upd H7 D (.lst (acc ++ [y]))) else Nx1 H6)
                    (fun j H7 => ∃ F7 Γ7 accD7 accV7, Le F6 F7 ∧ Rel w g F7 Γ7 (L2.wipe σ2 vs1) H7 ∧ H7 D = some (.lst accV7) ∧ Reps w F7 accV7 accD7 ∧ F7 D = none ∧ accD7.length ≤ accD.length + j ∧ NoOwn Γ7 vs ∧ Step (wipeE Γ1 vs) (L2.wipe σ vs) F1 H1 (wipeE Γ7 vs) F7 H7 ∧
                      (compD gi ti e1 vs1 (ds1.drop j) accD7 Γ7).bind (fun acc Γ => compD2 go to wi1 gi ti e1 vs vs1 (ds.drop (i + 1)) acc (wipeE Γ vs)) = .ok accF ΓF) ?_ (fun j H7 _ ⟨F7, Γ7, _, _, l, R7, _⟩ => hG1 H7 (l.trans R7.sub)) ?_ ?_
                  · refine ⟨F6, wipeE Γ5 vs1, accD, accV, Le.refl _, R6.wipe hL1, hD6, hacc3.le S56.le, hF6, Nat.le_refl _, (hno3.step S56).wipe, ?_, heq⟩
                    rw [wipeE_two hv]
                    exact lift S56
                  · rintro j x7 H7 H8 hj ⟨F7, Γ7, accD7, accV7, l7, R7, hD7, hacc7, hF7, hle7, hno7, S7, heq7⟩ y7
                    obtain ⟨F8, d8, N8, hd8, rd8⟩ := hY1 j F7 H7 x7 H8 hj l7 R7.sub y7
                    have R8 := R7.new N8
                    have S8 := S7.trans (N8.step (Γ := wipeE Γ7 vs) (σ := L2.wipe σ vs))
                    have e8 : ds1.drop j = d8 :: ds1.drop (j + 1) := by
                      obtain ⟨hlt, e⟩ := List.getElem?_eq_some_iff.mp hd8
                      rw [← e]
                      exact List.drop_eq_getElem_cons hlt
                    rw [e8] at heq7
                    simp only [compD] at heq7
                    have hD8 : H8 D = some (.lst accV7) := N8.keep D _ hD7
                    have hF8 : F8 D = none := N8.nof hF7 ⟨_, hD7⟩
                    have hacc8 := hacc7.le N8.le
                    refine ⟨g, F8, Γ7, d8, R8, rd8, ?_⟩
                    cases hg8 : gi d8 Γ7 with
                    | no => rw [hg8] at heq7; cases heq7
                    | ex x Γ9 => rw [hg8] at heq7; cases heq7
                    | ok u Γ9 =>
                      rw [hg8] at heq7
                      simp only [PD.R.bind_ok] at heq7
                      intro σ3 H9 F9 l9 R9 tt9
                      obtain ⟨s1, s2, s3, s4, s5⟩ := tt9
                      have s1 := s1.symm
                      have s2 := s2.symm
                      subst s1 s2
                      have hout3 : ∀ j, j ∉ vs1 → σ3[j]? = (L2.wipe σ2 vs1)[j]? := fun j n => (s4 j fun z => n (hsi j z)).1
                      have hw3 : L2.wipe σ3 vs1 = L2.wipe σ2 vs1 := (wipe_eq s3 hout3).trans wipe_wipe
                      have hag3 : ∀ j, j ∉ vs → σ3[j]? = (L2.wipe σ vs)[j]? ∧ Γ9[j]? = (wipeE Γ7 vs)[j]? := fun j n => by
                        have n1 : j ∉ vs1 := fun z => n (hv j z)
                        have n2 : j ∉ sli := fun z => n1 (hsi j z)
                        rw [hout3 j n1, wipe_get n1, hout j n, (s4 j n2).2, wipeE_get n]
                        exact ⟨rfl, rfl⟩
                      have hno9 : NoOwn Γ9 vs := fun j hj s q => by
                        by_cases hjs : j ∈ sli
                        · rw [s5 j hjs s q]; rfl
                        · rw [(s4 j hjs).2] at q
                          exact hno7 j hj s q
                      have noD9 : ¬ Ow Γ9 σ3 D := noOw_of hag3 hno9 (noOw S8)
                      have lift3 : ∀ {Γ5 F5 H5}, Step Γ9 σ3 F8 H8 Γ5 F5 H5 → Step (wipeE Γ1 vs) (L2.wipe σ vs) F1 H1 (wipeE Γ5 vs) F5 H5 := fun {Γ5 F5 H5} S => step_lift S8 hag3 hno9 S
                      have wipeR3 : ∀ {Γ5 F5 H5}, Rel w g F5 Γ5 σ3 H5 → Rel w g F5 (wipeE Γ5 vs1) (L2.wipe σ2 vs1) H5 := fun {Γ5 F5 H5} R5 => by
                        have z := R5.wipe hL1
                        rw [hw3] at z
                        exact z
                      refine ⟨hw3, g, F8, Γ9, R9, ?_⟩
                      cases ht9 : ti Γ9 with
                      | no => rw [ht9] at heq7; cases heq7
                      | ex x Γ4 => rw [ht9] at heq7; cases heq7
                      | ok b Γ10 =>
                        rw [ht9] at heq7
                        simp only [PD.R.bind_ok] at heq7
                        intro b' H10 F10 S10 R10 eb
                        subst eb
                        have hD10 : H10 D = some (.lst accV7) := S10.fr D _ hD8 (fun _ z => nomatch z) fun z => noD9 z.ow
                        have hF10 : F10 D = none := nof_step S10 hF8 hD8 noD9
                        cases b' with
                        | false =>
                          simp only [Bool.false_eq_true, if_false] at heq7 ⊢
                          refine ⟨F10, wipeE Γ10 vs1, accD7, accV7, l7.trans (N8.le.trans S10.le), wipeR3 R10, hD10, hacc8.le S10.le, hF10, by omega, (hno9.step S10).wipe, ?_, heq7⟩
                          rw [wipeE_two hv]
                          exact lift3 S10
                        | true =>
                          simp only [if_true] at heq7 ⊢
                          refine ⟨g, F10, Γ10, R10, ?_⟩
                          cases he : mFz e1 Γ10 with
                          | no => rw [he] at heq7; cases heq7
                          | ex x Γ5 => rw [he] at heq7; cases heq7
                          | ok r Γ11 =>
                            rw [he] at heq7
                            simp only [PD.R.bind_ok] at heq7
                            cases r with
                            | own d => cases heq7
                            | var j => cases heq7
                            | dat de =>
                              intro yv H11 F11 S11 R11 ry
                              have S1011 := S10.trans S11
                              have hD11 : H11 D = some (.lst accV7) := S1011.fr D _ hD8 (fun _ z => nomatch z) fun z => noD9 z.ow
                              have hF11 : F11 D = none := nof_step S1011 hF8 hD8 noD9
                              have hj' : j < ds1.length := hj
                              have hlen : accV7.length < sizeLine := by
                                rw [hacc7.length, ← lim_line]
                                omega
                              have SL := lift3 S1011
                              have R11w := wipeR3 R11
                              have SLw : Step (wipeE Γ1 vs) (L2.wipe σ vs) F1 H1 (wipeE (wipeE Γ11 vs1) vs) F11 H11 := by rw [wipeE_two hv]; exact SL
                              have noW : ¬ Ow (wipeE Γ11 vs1) (L2.wipe σ2 vs1) D := by
                                refine noOw_of (vs := vs) (ΓB := wipeE (wipeE Γ11 vs1) vs) (σA := L2.wipe σ vs) (fun j n => ?_) ((hno9.step S1011).wipe) (noOw SLw)
                                have n1 : j ∉ vs1 := fun z => n (hv j z)
                                rw [wipe_get n1, hout j n, wipeE_get n]
                                exact ⟨rfl, rfl⟩
                              refine ⟨accV7, hD11, hlen, F11, wipeE Γ11 vs1, accD7 ++ [de], accV7 ++ [yv], l7.trans (N8.le.trans S1011.le), R11w.updFree hF11 noW hg0 (fun u e => by rw [hD11] at e; cases e; trivial), upd_same, (hacc8.le S1011.le).append (.cons ry .nil), hF11, by rw [List.length_append]; simp; omega, (hno9.step S1011).wipe, SLw.updFree hD, heq7⟩
                  · rintro H7 ⟨F7, Γ7, accD7, accV7, l7, R7, hD7, hacc7, hF7, hle7, hno7, S7, heq7⟩
                    rw [List.drop_length] at heq7
                    simp only [compD, PD.R.bind_ok] at heq7
                    have z := R7.wipe hL
                    rw [wipe_two hv, hw] at z
                    exact ⟨F7, wipeE Γ7 vs, accD7, accV7, S7.le, z, hD7, hacc7, hF7, by omega, hno7.wipe, S7, heq7⟩
                · rw [if_neg hsz] at heq; cases heq
      · rintro H2 ⟨F2, Γ2, accD, accV, l, R2, hDl, hacc, hFD, hle, hno2, S2, heq⟩
        rw [List.drop_length] at heq
        simp only [compD2] at heq
        cases heq
        refine p1 (.ref D) H2 F2 (S1.trans (S2.back hp)) (R1.back R2 l hp) ⟨D, rfl, ?_, hFD, accV, hDl, hacc, hle⟩
        cases q : H D with
        | none => rfl
        | some o => exact absurd hD (S1.th D (by rw [q]; simp))
  · rw [if_neg hp] at p1; exact p1.elim
end
section
variable {X : Cx} {w : Wd} {W : WX} {elt tg iter tg1 iter1 : Expr} {ifs ifs1 : List Expr} {scope : Scope} {own : List (Str × Nat)} {pos : Pos} {wi wi1 : M (List D)} {go gi : G} {to ti : M Bool} {e1 : M Rv} {slo sli vs1 : List Nat}
theorem d_lc2 (hc : X.calm = true) (hN : X.N.Nodup) (hi : PI X tg iter (TI' w W wi)) (ok : BlkOk X.N X.env.scope scope own) (hso : ∀ i ∈ slo, i ∈ own.map (·.2)) (hsi : ∀ i ∈ sli, i ∈ vs1) (hv : ∀ i ∈ vs1, i ∈ own.map (·.2))
    (hg : ∀ (s : Shared) (H : Hp) (C : Addr) (cl : List (Str × Addr)) (fp : List Addr), PG (X.blk s H scope (compEnvC scope cl C X.env) fp) tg (TGr w W0 (some slo) go)) (ht : ∀ (s : Shared) (H : Hp) (C : Addr) (cl : List (Str × Addr)) (fp : List Addr), PTs (X.blk s H scope (compEnvC scope cl C X.env) fp) ifs (TB w W0 to))
    (hi1 : ∀ (s : Shared) (H : Hp) (C : Addr) (cl : List (Str × Addr)) (fp : List Addr), PI (X.blk s H scope (compEnvC scope cl C X.env) fp) tg1 iter1 (TI' w W0 wi1))
    (hg1 : ∀ (s : Shared) (H : Hp) (C : Addr) (cl : List (Str × Addr)) (fp : List Addr), PG (X.blk s H scope (compEnvC scope cl C X.env) fp) tg1 (TGr w W0 (some sli) gi)) (ht1 : ∀ (s : Shared) (H : Hp) (C : Addr) (cl : List (Str × Addr)) (fp : List Addr), PTs (X.blk s H scope (compEnvC scope cl C X.env) fp) ifs1 (TB w W0 ti))
    (he : ∀ (s : Shared) (H : Hp) (C : Addr) (cl : List (Str × Addr)) (fp : List Addr), PE (X.blk s H scope (compEnvC scope cl C X.env) fp) elt (T w W0 e1)) (hs : ∀ x, foldedSetIterable iter X.env x = pure x := by intro _; rfl) (hs1 : ∀ env x, foldedSetIterable iter1 env x = pure x := by intro _ _; rfl) :
    PE X (.ListComp elt [⟨tg, iter, ifs, 0⟩, ⟨tg1, iter1, ifs1, 0⟩] scope pos) (T w W (mLc2 wi go to wi1 gi ti e1 (own.map (·.2)) vs1)) :=
  (pe_lc2 hc hN hi ok hv hg ht hi1 hg1 ht1 (fun s H C cl fp => d_fz (he s H C cl fp)) hs hs1).imp fun σ H Q h => lc2_main hso hsi hv h
end
end PD

/-! PD30: dict comprehensions. -/
namespace PD
open PySem PySem.Spec L2
def putKD (ds : List (Key × D)) (k : Key) (d : D) : List (Key × D) :=
  if (ds.any fun kv => decide (kv.1 = k)) = true then ds.map (fun kv => if kv.1 = k then (kv.1, d) else kv) else ds ++ [(k, d)]
def compDD (g : G) (t : M Bool) (ek ev : M Rv) (vs : List Nat) : List D → List (Key × D) → M (List (Key × D))
  | [], acc, Γ => .ok acc Γ
  | x :: xs, acc, Γ => (g x Γ).bind fun _ Γ => (t Γ).bind fun b Γ => if b = true then (mFz ek Γ).bind fun r Γ => (mFz ev Γ).bind fun q Γ => match r, q with
    | .dat k, .dat d => (match keyD k with
      | some k => if acc.length < LIM then compDD g t ek ev vs xs (putKD acc k d) (wipeE Γ vs) else .no
      | none => .no)
    | _, _ => .no else compDD g t ek ev vs xs acc (wipeE Γ vs)
def mDc (w : M (List D)) (g : G) (t : M Bool) (ek ev : M Rv) (vs : List Nat) : M Rv := fun Γ => (w Γ).bind fun ds Γ => if plainAt Γ vs = true then (match compDD g t ek ev vs ds [] (wipeE Γ vs) with
  | .ok acc Γ' => .ok (.own (.dct acc)) (backE Γ Γ' vs)
  | _ => .no) else .no
section
variable {w : Wd} {W : WX} {g : Gx} {F : Hp} {Γ : EnD} {σ : St} {H : Hp} {vs : List Nat}
theorem KReps.any {k : Key} : ∀ {kvs : List (Key × V)} {ds : List (Key × D)}, KReps w F kvs ds → (kvs.any fun kv => decide (kv.1 = k)) = ds.any fun kv => decide (kv.1 = k)
  | _, _, .nil => rfl
  | _, _, .cons r t => by rw [List.any_cons, List.any_cons, KReps.any t]
theorem KReps.length : ∀ {kvs : List (Key × V)} {ds : List (Key × D)}, KReps w F kvs ds → kvs.length = ds.length
  | _, _, .nil => rfl
  | _, _, .cons r t => by rw [List.length_cons, List.length_cons, KReps.length t]
theorem KReps.set {k : Key} {v : V} {d : D} (h : Rep w F v d) : ∀ {kvs : List (Key × V)} {ds : List (Key × D)}, KReps w F kvs ds → KReps w F (kvs.map fun kv => if kv.1 = k then (kv.1, v) else kv) (ds.map fun kv => if kv.1 = k then (kv.1, d) else kv)
  | _, _, .nil => .nil
  | _, _, .cons (k := k') r t => by
    rw [List.map_cons, List.map_cons]
    by_cases e : k' = k
    · simp only [e, if_true]
      exact .cons h (KReps.set h t)
    · simp only [e, if_false]
      exact .cons r (KReps.set h t)
theorem KReps.snoc {k : Key} {v : V} {d : D} (h : Rep w F v d) : ∀ {kvs : List (Key × V)} {ds : List (Key × D)}, KReps w F kvs ds → KReps w F (kvs ++ [(k, v)]) (ds ++ [(k, d)])
  | _, _, .nil => .cons h .nil
  | _, _, .cons r t => .cons r (KReps.snoc h t)
theorem KReps.put {k : Key} {v : V} {d : D} {kvs : List (Key × V)} {ds : List (Key × D)} (r : KReps w F kvs ds) (h : Rep w F v d) : KReps w F (putK kvs k v) (putKD ds k d) := by
  unfold putK putKD
  rw [KReps.any r]
  split
  · exact KReps.set h r
  · exact KReps.snoc h r
theorem key_of {v : V} {d : D} {k : Key} (r : Rep w F v d) (e : keyD d = some k) : v = kV k := by
  cases r <;> simp only [keyD, Option.some.injEq, reduceCtorEq] at e <;> subst e <;> rfl
theorem length_putKD (ds : List (Key × D)) (k : Key) (d : D) : (putKD ds k d).length ≤ ds.length + 1 := by
  unfold putKD
  split <;> simp
theorem dc_main {wi : M (List D)} {g1 : G} {t1 : M Bool} {ek ev : M Rv} {sl : List Nat} (hsl : ∀ i ∈ sl, i ∈ vs) {Q : VK} (h : T w W (mDc wi g1 t1 ek ev vs) σ H Q) :
    tDc (TI' w W wi) (TGr w W0 (some sl) g1) (TB w W0 t1) (T w W0 (mFz ek)) (T w W0 (mFz ev)) vs σ H Q := by
  obtain ⟨g, F, Γ, R, p⟩ := h
  refine ⟨g, F, Γ, R, Post.bind (Step.refl ..) p fun ds Γ1 _ p1 J H1 F1 S1 R1 q1 => ?_⟩
  intro D hD
  by_cases hp : plainAt Γ1 vs = true
  · rw [if_pos hp] at p1
    obtain ⟨hlim, Gd, Y, wk, hG, hY⟩ := q1
    have hL := plain_lok R1 hp
    have R1w := R1.wipe hL
    have hg0 : g.H0 D = none := R1.fresh hD
    cases hc : compDD g1 t1 ek ev vs ds [] (wipeE Γ1 vs) with
    | no => rw [hc] at p1; exact p1.elim
    | ex x Γ' => rw [hc] at p1; exact p1.elim
    | ok accF ΓF =>
      rw [hc] at p1
      have noOw : ∀ {F2 H2 Γ2}, Step (wipeE Γ1 vs) (L2.wipe σ vs) F1 H1 Γ2 F2 H2 → ¬ Ow Γ2 (L2.wipe σ vs) D := fun {F2 H2 Γ2} S z => by
        obtain ⟨o, e⟩ := R1w.owIn (S.ow z)
        rw [hD] at e; cases e
      refine walk_it wk (Body := fun Nx x H' => TGr w W0 (some sl) g1 x (L2.wipe σ vs) H' fun σ2 H2 => L2.wipe σ2 vs = L2.wipe σ vs ∧ TB w W0 t1 σ2 H2 fun b H3 =>
        if b = true then T w W0 (mFz ek) σ2 H3 fun y H4 => T w W0 (mFz ev) σ2 H4 fun z H5 => ∃ kvs k, y = kV k ∧ H5 D = some (.dK kvs) ∧ kvs.length < sizeLine ∧ Nx (upd H5 D (.dK (putK kvs k z))) else Nx H3)
        (fun i H2 => ∃ F2 Γ2 accD accV, Le F1 F2 ∧ Rel w g F2 Γ2 (L2.wipe σ vs) H2 ∧ H2 D = some (.dK accV) ∧ KReps w F2 accV accD ∧ F2 D = none ∧ NoOwn Γ2 vs ∧ Step (wipeE Γ1 vs) (L2.wipe σ vs) F1 H1 Γ2 F2 H2 ∧
        compDD g1 t1 ek ev vs (ds.drop i) accD Γ2 = .ok accF ΓF) ?_ (fun i H2 _ ⟨F2, Γ2, _, _, l, R2, _⟩ => hG H2 (l.trans R2.sub)) ?_ ?_
      · have N := New.own (o := .dK []) R1.sub hD
        exact ⟨F1, wipeE Γ1 vs, [], [], Le.refl _, R1w.new N, upd_same, .nil, R1.sub.none hD, fun j hj s e => absurd hj (wipeE_in e).1, N.step, hc⟩
      · rintro i x H2 H3 hi ⟨F2, Γ2, accD, accV, l, R2, hDl, hacc, hFD, hno2, S2, heq⟩ y
        obtain ⟨F3, d, N, hd, rd⟩ := hY i F2 H2 x H3 hi l R2.sub y
        have R3 := R2.new N
        have S3 := S2.trans (N.step (Γ := Γ2) (σ := L2.wipe σ vs))
        have e : ds.drop i = d :: ds.drop (i + 1) := by
          obtain ⟨hlt, e⟩ := List.getElem?_eq_some_iff.mp hd
          rw [← e]
          exact List.drop_eq_getElem_cons hlt
        rw [e] at heq
        simp only [compDD] at heq
        have hD3 : H3 D = some (.dK accV) := N.keep D _ hDl
        have hF3 : F3 D = none := N.nof hFD ⟨_, hDl⟩
        have hacc3 : KReps w F3 accV accD := KReps.le N.le hacc
        refine ⟨g, F3, Γ2, d, R3, rd, ?_⟩
        cases hg1 : g1 d Γ2 with
        | no => rw [hg1] at heq; cases heq
        | ex x Γ3 => rw [hg1] at heq; cases heq
        | ok u Γ3 =>
          rw [hg1] at heq
          simp only [PD.R.bind_ok] at heq
          intro σ2 H4 F4 l4 R4 tt
          obtain ⟨t1', t2', t3', t4', t5'⟩ := tt
          have t1' := t1'.symm
          have t2' := t2'.symm
          subst t1' t2'
          have hout : ∀ j, j ∉ vs → σ2[j]? = (L2.wipe σ vs)[j]? := fun j n => (t4' j fun z => n (hsl j z)).1
          have hag : ∀ j, j ∉ vs → σ2[j]? = (L2.wipe σ vs)[j]? ∧ Γ3[j]? = Γ2[j]? := fun j n => t4' j fun z => n (hsl j z)
          have hw : L2.wipe σ2 vs = L2.wipe σ vs := (wipe_eq t3' hout).trans wipe_wipe
          have hno3 : NoOwn Γ3 vs := fun j hj s q => by
            by_cases hjs : j ∈ sl
            · rw [t5' j hjs s q]; rfl
            · rw [(t4' j hjs).2] at q
              exact hno2 j hj s q
          have noD : ¬ Ow Γ3 σ2 D := noOw_of hag hno3 (noOw S3)
          have lift : ∀ {Γ5 F5 H5}, Step Γ3 σ2 F3 H3 Γ5 F5 H5 → Step (wipeE Γ1 vs) (L2.wipe σ vs) F1 H1 (wipeE Γ5 vs) F5 H5 := fun {Γ5 F5 H5} S => step_lift S3 hag hno3 S
          have wipeR : ∀ {Γ5 F5 H5}, Rel w g F5 Γ5 σ2 H5 → Rel w g F5 (wipeE Γ5 vs) (L2.wipe σ vs) H5 := fun {Γ5 F5 H5} R5 => by
            have z := R5.wipe hL
            rw [hw] at z
            exact z
          refine ⟨hw, g, F3, Γ3, R4, ?_⟩
          cases ht : t1 Γ3 with
          | no => rw [ht] at heq; cases heq
          | ex x Γ4 => rw [ht] at heq; cases heq
          | ok b Γ4 =>
            rw [ht] at heq
            simp only [PD.R.bind_ok] at heq
            intro b' H5 F5 S5 R5 eb
            subst eb
            have hD5 : H5 D = some (.dK accV) := S5.fr D _ hD3 (fun _ z => nomatch z) fun z => noD z.ow
            have hF5 : F5 D = none := nof_step S5 hF3 hD3 noD
            cases b' with
            | false =>
              simp only [Bool.false_eq_true, if_false] at heq ⊢
              exact ⟨F5, wipeE Γ4 vs, accD, accV, (lift S5).le, wipeR R5, hD5, KReps.le S5.le hacc3, hF5, (hno3.step S5).wipe, lift S5, heq⟩
            | true =>
              simp only [if_true] at heq ⊢
              refine ⟨g, F5, Γ4, R5, ?_⟩
              cases hek : mFz ek Γ4 with
              | no => rw [hek] at heq; cases heq
              | ex x Γ5 => rw [hek] at heq; cases heq
              | ok r Γ5 =>
                rw [hek] at heq
                simp only [PD.R.bind_ok] at heq
                intro yk H6 F6 S6 R6 rk
                refine ⟨g, F6, Γ5, R6, ?_⟩
                cases hev : mFz ev Γ5 with
                | no => rw [hev] at heq; cases heq
                | ex x Γ6 => rw [hev] at heq; cases heq
                | ok q Γ6 =>
                  rw [hev] at heq
                  simp only [PD.R.bind_ok] at heq
                  cases r with
                  | own d => cases q <;> cases heq
                  | var j => cases q <;> cases heq
                  | dat dk =>
                    cases q with
                    | own d => cases heq
                    | var j => cases heq
                    | dat dv =>
                      simp only at heq
                      cases hkey : keyD dk with
                      | none => rw [hkey] at heq; cases heq
                      | some key =>
                        rw [hkey] at heq
                        simp only at heq
                        by_cases hsz : accD.length < LIM
                        · rw [if_pos hsz] at heq
                          intro yv H7 F7 S7 R7 rv
                          have ek' : yk = kV key := key_of (show Rep w F6 yk dk from rk) hkey
                          have S567 := (S5.trans S6).trans S7
                          have hD7 : H7 D = some (.dK accV) := S567.fr D _ hD3 (fun _ z => nomatch z) fun z => noD z.ow
                          have hF7 : F7 D = none := nof_step S567 hF3 hD3 noD
                          have hlen : accV.length < sizeLine := by
                            rw [hacc.length, ← lim_line]
                            exact hsz
                          have S7l := lift S567
                          have R7w := wipeR R7
                          exact ⟨accV, key, ek', hD7, hlen, F7, wipeE Γ6 vs, putKD accD key dv, putK accV key yv, S7l.le, R7w.updFree hF7 (noOw S7l) hg0 (fun u e => by rw [hD7] at e; cases e; trivial), upd_same, (KReps.le S567.le hacc3).put rv, hF7, (hno3.step S567).wipe, S7l.updFree hD, heq⟩
                        · rw [if_neg hsz] at heq; cases heq
      · rintro H2 ⟨F2, Γ2, accD, accV, l, R2, hDl, hacc, hFD, hno2, S2, heq⟩
        rw [List.drop_length] at heq
        simp only [compDD] at heq
        cases heq
        refine p1 (.ref D) H2 F2 (S1.trans (S2.back hp)) (R1.back R2 l hp) ⟨D, rfl, ?_, hFD, accV, hDl, hacc⟩
        cases q : H D with
        | none => rfl
        | some o => exact absurd hD (S1.th D (by rw [q]; simp))
  · rw [if_neg hp] at p1; exact p1.elim
end
section
variable {X : Cx} {w : Wd} {W : WX} {kx vx tg iter : Expr} {ifs : List Expr} {scope : Scope} {own : List (Str × Nat)} {pos : Pos} {wi : M (List D)} {g1 : G} {t1 : M Bool} {ek ev : M Rv} {sl : List Nat}
theorem d_dc (hc : X.calm = true) (hN : X.N.Nodup) (hi : PI X tg iter (TI' w W wi)) (ok : BlkOk X.N X.env.scope scope own) (hsl : ∀ i ∈ sl, i ∈ own.map (·.2))
    (hg : ∀ (s : Shared) (H : Hp) (C : Addr) (cl : List (Str × Addr)) (fp : List Addr), PG (X.blk s H scope (compEnvC scope cl C X.env) fp) tg (TGr w W0 (some sl) g1)) (ht : ∀ (s : Shared) (H : Hp) (C : Addr) (cl : List (Str × Addr)) (fp : List Addr), PTs (X.blk s H scope (compEnvC scope cl C X.env) fp) ifs (TB w W0 t1))
    (hk : ∀ (s : Shared) (H : Hp) (C : Addr) (cl : List (Str × Addr)) (fp : List Addr), PE (X.blk s H scope (compEnvC scope cl C X.env) fp) kx (T w W0 ek))
    (he : ∀ (s : Shared) (H : Hp) (C : Addr) (cl : List (Str × Addr)) (fp : List Addr), PE (X.blk s H scope (compEnvC scope cl C X.env) fp) vx (T w W0 ev)) (hs : ∀ x, foldedSetIterable iter X.env x = pure x := by intro _; rfl) :
    PE X (.DictComp kx vx [⟨tg, iter, ifs, 0⟩] scope pos) (T w W (mDc wi g1 t1 ek ev (own.map (·.2)))) :=
  (pe_dc hc hN hi ok hg ht (fun s H C cl fp => d_fz (hk s H C cl fp)) (fun s H C cl fp => d_fz (he s H C cl fp)) hs).imp fun σ H Q h => dc_main hsl h
end
end PD

/-! PD31: the turns of a block by themselves; comprehensions over the items of a dict of scalars. -/
namespace PD
open PySem PySem.Spec L2
section
variable {w : Wd} {g : Gx} {F1 : Hp} {Γ1 : EnD} {σ : St} {H1 : Hp} {vs : List Nat}
theorem lc_go {g1 : G} {t1 : M Bool} {e1 : M Rv} {sl : List Nat} (hsl : ∀ i ∈ sl, i ∈ vs) {J : It} {ds : List D} (R1 : Rel w g F1 Γ1 σ H1) (q1 : WalksD w F1 J ds) (hp : plainAt Γ1 vs = true) {accF : List D} {ΓF : EnD} (hc : compD g1 t1 e1 vs ds [] (wipeE Γ1 vs) = .ok accF ΓF) {D : Addr} (hD : H1 D = none) {Qd : Hp → Prop}
    (hQ : ∀ H2 F2 accV, Le F1 F2 → Rel w g F2 ΓF (L2.wipe σ vs) H2 → H2 D = some (.lst accV) → Reps w F2 accV accF → accF.length ≤ ds.length → Step (wipeE Γ1 vs) (L2.wipe σ vs) F1 H1 ΓF F2 H2 → Qd H2) :
    ∃ W : Nat → Nat → Hp → Prop, (∃ m, W 0 m (upd H1 D (.lst []))) ∧ ∀ i m H, W i m H → (J.stop i H ∧ Qd H) ∨ (J.go i H ∧ ∃ Nx : Hp → Prop, (∀ H', Nx H' → ∃ m', m' < m ∧ W (i + 1) m' H') ∧ ∀ x H', J.yld i H x H' → TGr w W0 (some sl) g1 x (L2.wipe σ vs) H' fun σ2 H2 => L2.wipe σ2 vs = L2.wipe σ vs ∧ TB w W0 t1 σ2 H2 fun b H3 =>
      if b = true then T w W0 (mFz e1) σ2 H3 fun y H4 => ∃ acc, H4 D = some (.lst acc) ∧ acc.length < sizeLine ∧ Nx (upd H4 D (.lst (acc ++ [y]))) else Nx H3) := by
  obtain ⟨hlim, Gd, Y, wk, hG, hY⟩ := q1
  have hL := plain_lok R1 hp
  have R1w := R1.wipe hL
  have hg0 : g.H0 D = none := R1.fresh hD
  have noOw : ∀ {F2 H2 Γ2}, Step (wipeE Γ1 vs) (L2.wipe σ vs) F1 H1 Γ2 F2 H2 → ¬ Ow Γ2 (L2.wipe σ vs) D := fun {F2 H2 Γ2} S z => by
    obtain ⟨o, e⟩ := R1w.owIn (S.ow z)
    rw [hD] at e; cases e
  refine lc_it wk (fun i H2 => ∃ F2 Γ2 accD accV, Le F1 F2 ∧ Rel w g F2 Γ2 (L2.wipe σ vs) H2 ∧ H2 D = some (.lst accV) ∧ Reps w F2 accV accD ∧ F2 D = none ∧ accD.length ≤ i ∧ Step (wipeE Γ1 vs) (L2.wipe σ vs) F1 H1 Γ2 F2 H2 ∧
    compD g1 t1 e1 vs (ds.drop i) accD Γ2 = .ok accF ΓF) ?_ (fun i H2 _ ⟨F2, Γ2, _, _, l, R2, _⟩ => hG H2 (l.trans R2.sub)) ?_ ?_
  · have N := New.own (o := .lst []) R1.sub hD
    exact ⟨F1, wipeE Γ1 vs, [], [], Le.refl _, R1w.new N, upd_same, .nil, R1.sub.none hD, Nat.zero_le _, N.step, hc⟩
  · rintro i x H2 H3 hi ⟨F2, Γ2, accD, accV, l, R2, hDl, hacc, hFD, hle, S2, heq⟩ y
    obtain ⟨F3, d, N, hd, rd⟩ := hY i F2 H2 x H3 hi l R2.sub y
    have R3 := R2.new N
    have S3 := S2.trans (N.step (Γ := Γ2) (σ := L2.wipe σ vs))
    have e : ds.drop i = d :: ds.drop (i + 1) := by
      obtain ⟨hlt, e⟩ := List.getElem?_eq_some_iff.mp hd
      rw [← e]
      exact List.drop_eq_getElem_cons hlt
    rw [e] at heq
    simp only [compD] at heq
    have hD3 : H3 D = some (.lst accV) := N.keep D _ hDl
    have hF3 : F3 D = none := N.nof hFD ⟨_, hDl⟩
    refine ⟨g, F3, Γ2, d, R3, rd, ?_⟩
    cases hg1 : g1 d Γ2 with
    | no => rw [hg1] at heq; cases heq
    | ex x Γ3 => rw [hg1] at heq; cases heq
    | ok u Γ3 =>
      rw [hg1] at heq
      simp only [PD.R.bind_ok] at heq
      intro σ2 H4 F4 l4 R4 ti
      obtain ⟨t1', t2', t3', t4', t5'⟩ := ti
      have t1' := t1'.symm
      have t2' := t2'.symm
      subst t1' t2'
      have hout : ∀ j, j ∉ vs → σ2[j]? = (L2.wipe σ vs)[j]? := fun j n => (t4' j fun z => n (hsl j z)).1
      have hw : L2.wipe σ2 vs = L2.wipe σ vs := (wipe_eq t3' hout).trans wipe_wipe
      have datIn : ∀ j ∈ vs, ∀ s, Γ3[j]? = some (some s) → s.m = .dat := fun j hj s q => by
        by_cases hjs : j ∈ sl
        · exact t5' j hjs s q
        · rw [(t4' j hjs).2] at q
          exfalso
          obtain ⟨v, e1, _⟩ := R3.slot j s q
          rw [wipe_at hj (by
            have h1 := R3.len
            rw [wipe_length] at h1
            have h2 := (List.getElem?_eq_some_iff.mp q).1
            omega)] at e1
          cases e1
      have muIn : ∀ {b}, Mu Γ3 σ2 b → Mu Γ2 (L2.wipe σ vs) b := fun {b} ⟨j, s, q1, q2, q3⟩ => by
        have n : j ∉ vs := fun z => by
          rw [datIn j z s q1] at q2; cases q2
        have n2 : j ∉ sl := fun z => n (hsl j z)
        rw [(t4' j n2).2] at q1
        rw [(t4' j n2).1] at q3
        exact ⟨j, s, q1, q2, q3⟩
      have owIn : ∀ {b}, Ow Γ3 σ2 b → Ow Γ2 (L2.wipe σ vs) b := fun {b} ⟨j, s, q1, q2, q3⟩ => by
        have n : j ∉ vs := fun z => by
          rw [datIn j z s q1] at q2; cases q2
        have n2 : j ∉ sl := fun z => n (hsl j z)
        rw [(t4' j n2).2] at q1
        rw [(t4' j n2).1] at q3
        exact ⟨j, s, q1, q2, q3⟩
      have noD : ¬ Ow Γ3 σ2 D := fun z => noOw S3 (owIn z)
      -- a step in the block is a step of the block's
      have lift : ∀ {Γ5 F5 H5}, Step Γ3 σ2 F3 H3 Γ5 F5 H5 → Step (wipeE Γ1 vs) (L2.wipe σ vs) F1 H1 (wipeE Γ5 vs) F5 H5 := fun {Γ5 F5 H5} S => by
        refine S3.trans ⟨S.le, fun b o e t n => S.fr b o e t fun z => n (muIn z), fun b e => ?_, S.th, fun j s' e o => ?_⟩
        · rcases S.nf b e with z | z | z
          · exact .inl z
          · exact .inr (.inl z)
          · exact .inr (.inr (muIn z))
        · obtain ⟨n, e⟩ := wipeE_in e
          obtain ⟨s, q1, q2, q3⟩ := S.ol j s' e o
          rw [(t4' j fun z => n (hsl j z)).2] at q1
          exact ⟨s, q1, q2, q3⟩
      have wipeR : ∀ {Γ5 F5 H5}, Rel w g F5 Γ5 σ2 H5 → Rel w g F5 (wipeE Γ5 vs) (L2.wipe σ vs) H5 := fun {Γ5 F5 H5} R5 => by
        have z := R5.wipe hL
        rw [hw] at z
        exact z
      refine ⟨hw, g, F3, Γ3, R4, ?_⟩
      cases ht : t1 Γ3 with
      | no => rw [ht] at heq; cases heq
      | ex x Γ4 => rw [ht] at heq; cases heq
      | ok b Γ4 =>
        rw [ht] at heq
        simp only [PD.R.bind_ok] at heq
        intro b' H5 F5 S5 R5 eb
        subst eb
        have hD5 : H5 D = some (.lst accV) := S5.fr D _ hD3 (fun _ z => nomatch z) fun z => noD z.ow
        have hF5 : F5 D = none := by
          cases q : F5 D with
          | none => rfl
          | some o =>
            rcases S5.nf D (by rw [q]; simp) with z | z | z
            · exact absurd hF3 z
            · rw [hD3] at z; cases z
            · exact absurd z.ow noD
        cases b' with
        | false =>
          simp only [Bool.false_eq_true, if_false] at heq ⊢
          exact ⟨F5, wipeE Γ4 vs, accD, accV, (lift S5).le, wipeR R5, hD5, (hacc.le N.le).le S5.le, hF5, by omega, lift S5, heq⟩
        | true =>
          simp only [if_true] at heq ⊢
          refine ⟨g, F5, Γ4, R5, ?_⟩
          cases he : mFz e1 Γ4 with
          | no => rw [he] at heq; cases heq
          | ex x Γ5 => rw [he] at heq; cases heq
          | ok r Γ5 =>
            rw [he] at heq
            simp only [PD.R.bind_ok] at heq
            cases r with
            | own d => cases heq
            | var j => cases heq
            | dat de =>
              intro yv H6 F6 S6 R6 ry
              have S56 := S5.trans S6
              have hD6 : H6 D = some (.lst accV) := S56.fr D _ hD3 (fun _ z => nomatch z) fun z => noD z.ow
              have hF6 : F6 D = none := by
                cases q : F6 D with
                | none => rfl
                | some o =>
                  rcases S56.nf D (by rw [q]; simp) with z | z | z
                  · exact absurd hF3 z
                  · rw [hD3] at z; cases z
                  · exact absurd z.ow noD
              have hlen : accV.length < sizeLine := by
                rw [hacc.length, ← lim_line]
                omega
              have S6l := lift S56
              have R6w := wipeR R6
              refine ⟨accV, hD6, hlen, F6, wipeE Γ5 vs, accD ++ [de], accV ++ [yv], S6l.le, R6w.updFree hF6 (noOw S6l) hg0 (fun u e => by rw [hD6] at e; cases e; trivial), upd_same, ((hacc.le N.le).le S56.le).append (.cons ry .nil), hF6, by rw [List.length_append]; simp; omega, S6l.updFree hD, heq⟩
  · rintro H2 ⟨F2, Γ2, accD, accV, l, R2, hDl, hacc, hFD, hle, S2, heq⟩
    rw [List.drop_length] at heq
    simp only [compD] at heq
    cases heq
    exact hQ H2 F2 accV l R2 hDl hacc hle S2
theorem dc_go {g1 : G} {t1 : M Bool} {ek ev : M Rv} {sl : List Nat} (hsl : ∀ i ∈ sl, i ∈ vs) {J : It} {ds : List D} (R1 : Rel w g F1 Γ1 σ H1) (q1 : WalksD w F1 J ds) (hp : plainAt Γ1 vs = true) {accF : List (Key × D)} {ΓF : EnD} (hc : compDD g1 t1 ek ev vs ds [] (wipeE Γ1 vs) = .ok accF ΓF) {D : Addr} (hD : H1 D = none) {Qd : Hp → Prop}
    (hQ : ∀ H2 F2 accV, Le F1 F2 → Rel w g F2 ΓF (L2.wipe σ vs) H2 → H2 D = some (.dK accV) → KReps w F2 accV accF → Step (wipeE Γ1 vs) (L2.wipe σ vs) F1 H1 ΓF F2 H2 → Qd H2) :
    ∃ W : Nat → Nat → Hp → Prop, (∃ m, W 0 m (upd H1 D (.dK []))) ∧ ∀ i m H, W i m H → (J.stop i H ∧ Qd H) ∨ (J.go i H ∧ ∃ Nx : Hp → Prop, (∀ H', Nx H' → ∃ m', m' < m ∧ W (i + 1) m' H') ∧ ∀ x H', J.yld i H x H' → TGr w W0 (some sl) g1 x (L2.wipe σ vs) H' fun σ2 H2 => L2.wipe σ2 vs = L2.wipe σ vs ∧ TB w W0 t1 σ2 H2 fun b H3 =>
      if b = true then T w W0 (mFz ek) σ2 H3 fun y H4 => T w W0 (mFz ev) σ2 H4 fun z H5 => ∃ kvs k, y = kV k ∧ H5 D = some (.dK kvs) ∧ kvs.length < sizeLine ∧ Nx (upd H5 D (.dK (putK kvs k z))) else Nx H3) := by
  obtain ⟨hlim, Gd, Y, wk, hG, hY⟩ := q1
  have hL := plain_lok R1 hp
  have R1w := R1.wipe hL
  have hg0 : g.H0 D = none := R1.fresh hD
  have noOw : ∀ {F2 H2 Γ2}, Step (wipeE Γ1 vs) (L2.wipe σ vs) F1 H1 Γ2 F2 H2 → ¬ Ow Γ2 (L2.wipe σ vs) D := fun {F2 H2 Γ2} S z => by
    obtain ⟨o, e⟩ := R1w.owIn (S.ow z)
    rw [hD] at e; cases e
  refine walk_it wk (Body := fun Nx x H' => TGr w W0 (some sl) g1 x (L2.wipe σ vs) H' fun σ2 H2 => L2.wipe σ2 vs = L2.wipe σ vs ∧ TB w W0 t1 σ2 H2 fun b H3 =>
    if b = true then T w W0 (mFz ek) σ2 H3 fun y H4 => T w W0 (mFz ev) σ2 H4 fun z H5 => ∃ kvs k, y = kV k ∧ H5 D = some (.dK kvs) ∧ kvs.length < sizeLine ∧ Nx (upd H5 D (.dK (putK kvs k z))) else Nx H3)
    (fun i H2 => ∃ F2 Γ2 accD accV, Le F1 F2 ∧ Rel w g F2 Γ2 (L2.wipe σ vs) H2 ∧ H2 D = some (.dK accV) ∧ KReps w F2 accV accD ∧ F2 D = none ∧ NoOwn Γ2 vs ∧ Step (wipeE Γ1 vs) (L2.wipe σ vs) F1 H1 Γ2 F2 H2 ∧
    compDD g1 t1 ek ev vs (ds.drop i) accD Γ2 = .ok accF ΓF) ?_ (fun i H2 _ ⟨F2, Γ2, _, _, l, R2, _⟩ => hG H2 (l.trans R2.sub)) ?_ ?_
  · have N := New.own (o := .dK []) R1.sub hD
    exact ⟨F1, wipeE Γ1 vs, [], [], Le.refl _, R1w.new N, upd_same, .nil, R1.sub.none hD, fun j hj s e => absurd hj (wipeE_in e).1, N.step, hc⟩
  · rintro i x H2 H3 hi ⟨F2, Γ2, accD, accV, l, R2, hDl, hacc, hFD, hno2, S2, heq⟩ y
    obtain ⟨F3, d, N, hd, rd⟩ := hY i F2 H2 x H3 hi l R2.sub y
    have R3 := R2.new N
    have S3 := S2.trans (N.step (Γ := Γ2) (σ := L2.wipe σ vs))
    have e : ds.drop i = d :: ds.drop (i + 1) := by
      obtain ⟨hlt, e⟩ := List.getElem?_eq_some_iff.mp hd
      rw [← e]
      exact List.drop_eq_getElem_cons hlt
    rw [e] at heq
    simp only [compDD] at heq
    have hD3 : H3 D = some (.dK accV) := N.keep D _ hDl
    have hF3 : F3 D = none := N.nof hFD ⟨_, hDl⟩
    have hacc3 : KReps w F3 accV accD := KReps.le N.le hacc
    refine ⟨g, F3, Γ2, d, R3, rd, ?_⟩
    cases hg1 : g1 d Γ2 with
    | no => rw [hg1] at heq; cases heq
    | ex x Γ3 => rw [hg1] at heq; cases heq
    | ok u Γ3 =>
      rw [hg1] at heq
      simp only [PD.R.bind_ok] at heq
      intro σ2 H4 F4 l4 R4 tt
      obtain ⟨t1', t2', t3', t4', t5'⟩ := tt
      have t1' := t1'.symm
      have t2' := t2'.symm
      subst t1' t2'
      have hout : ∀ j, j ∉ vs → σ2[j]? = (L2.wipe σ vs)[j]? := fun j n => (t4' j fun z => n (hsl j z)).1
      have hag : ∀ j, j ∉ vs → σ2[j]? = (L2.wipe σ vs)[j]? ∧ Γ3[j]? = Γ2[j]? := fun j n => t4' j fun z => n (hsl j z)
      have hw : L2.wipe σ2 vs = L2.wipe σ vs := (wipe_eq t3' hout).trans wipe_wipe
      have hno3 : NoOwn Γ3 vs := fun j hj s q => by
        by_cases hjs : j ∈ sl
        · rw [t5' j hjs s q]; rfl
        · rw [(t4' j hjs).2] at q
          exact hno2 j hj s q
      have noD : ¬ Ow Γ3 σ2 D := noOw_of hag hno3 (noOw S3)
      have lift : ∀ {Γ5 F5 H5}, Step Γ3 σ2 F3 H3 Γ5 F5 H5 → Step (wipeE Γ1 vs) (L2.wipe σ vs) F1 H1 (wipeE Γ5 vs) F5 H5 := fun {Γ5 F5 H5} S => step_lift S3 hag hno3 S
      have wipeR : ∀ {Γ5 F5 H5}, Rel w g F5 Γ5 σ2 H5 → Rel w g F5 (wipeE Γ5 vs) (L2.wipe σ vs) H5 := fun {Γ5 F5 H5} R5 => by
        have z := R5.wipe hL
        rw [hw] at z
        exact z
      refine ⟨hw, g, F3, Γ3, R4, ?_⟩
      cases ht : t1 Γ3 with
      | no => rw [ht] at heq; cases heq
      | ex x Γ4 => rw [ht] at heq; cases heq
      | ok b Γ4 =>
        rw [ht] at heq
        simp only [PD.R.bind_ok] at heq
        intro b' H5 F5 S5 R5 eb
        subst eb
        have hD5 : H5 D = some (.dK accV) := S5.fr D _ hD3 (fun _ z => nomatch z) fun z => noD z.ow
        have hF5 : F5 D = none := nof_step S5 hF3 hD3 noD
        cases b' with
        | false =>
          simp only [Bool.false_eq_true, if_false] at heq ⊢
          exact ⟨F5, wipeE Γ4 vs, accD, accV, (lift S5).le, wipeR R5, hD5, KReps.le S5.le hacc3, hF5, (hno3.step S5).wipe, lift S5, heq⟩
        | true =>
          simp only [if_true] at heq ⊢
          refine ⟨g, F5, Γ4, R5, ?_⟩
          cases hek : mFz ek Γ4 with
          | no => rw [hek] at heq; cases heq
          | ex x Γ5 => rw [hek] at heq; cases heq
          | ok r Γ5 =>
            rw [hek] at heq
            simp only [PD.R.bind_ok] at heq
            intro yk H6 F6 S6 R6 rk
            refine ⟨g, F6, Γ5, R6, ?_⟩
            cases hev : mFz ev Γ5 with
            | no => rw [hev] at heq; cases heq
            | ex x Γ6 => rw [hev] at heq; cases heq
            | ok q Γ6 =>
              rw [hev] at heq
              simp only [PD.R.bind_ok] at heq
              cases r with
              | own d => cases q <;> cases heq
              | var j => cases q <;> cases heq
              | dat dk =>
                cases q with
                | own d => cases heq
                | var j => cases heq
                | dat dv =>
                  simp only at heq
                  cases hkey : keyD dk with
                  | none => rw [hkey] at heq; cases heq
                  | some key =>
                    rw [hkey] at heq
                    simp only at heq
                    by_cases hsz : accD.length < LIM
                    · rw [if_pos hsz] at heq
                      intro yv H7 F7 S7 R7 rv
                      have ek' : yk = kV key := key_of (show Rep w F6 yk dk from rk) hkey
                      have S567 := (S5.trans S6).trans S7
                      have hD7 : H7 D = some (.dK accV) := S567.fr D _ hD3 (fun _ z => nomatch z) fun z => noD z.ow
                      have hF7 : F7 D = none := nof_step S567 hF3 hD3 noD
                      have hlen : accV.length < sizeLine := by
                        rw [hacc.length, ← lim_line]
                        exact hsz
                      have S7l := lift S567
                      have R7w := wipeR R7
                      exact ⟨accV, key, ek', hD7, hlen, F7, wipeE Γ6 vs, putKD accD key dv, putK accV key yv, S7l.le, R7w.updFree hF7 (noOw S7l) hg0 (fun u e => by rw [hD7] at e; cases e; trivial), upd_same, (KReps.le S567.le hacc3).put rv, hF7, (hno3.step S567).wipe, S7l.updFree hD, heq⟩
                    · rw [if_neg hsz] at heq; cases heq
  · rintro H2 ⟨F2, Γ2, accD, accV, l, R2, hDl, hacc, hFD, hno2, S2, heq⟩
    rw [List.drop_length] at heq
    simp only [compDD] at heq
    cases heq
    exact hQ H2 F2 accV l R2 hDl hacc S2
end
end PD

/-! PD32: comprehensions over d.items(), a dict of scalars, the block reading scalars. -/
namespace PD
open PySem PySem.Spec L2
def scal : D → Bool
  | .non => true
  | .bl _ => true
  | .int _ => true
  | .str _ => true
  | _ => false
def scS : Option Sl → Option Sl
  | some ⟨.dat, d⟩ => if scal d = true then some ⟨.dat, d⟩ else none
  | _ => none
def scE (Γ : EnD) : EnD := Γ.map scS
def keyT : Key → D
  | .inl i => .int i
  | .inr s => .str s
def prs (kvs : List (Key × D)) : List D := kvs.map fun p => .tup [keyT p.1, p.2]
def mItL (i : Nat) (g : G) (t : M Bool) (e : M Rv) (vs : List Nat) : M Rv := fun Γ => match look Γ (.var i) with
  | some (.dct kvs) => if plainAt Γ vs = true ∧ (kvs.all fun p => scal p.2) = true ∧ kvs.length ≤ LIM then (match compD g t e vs (prs kvs) [] (wipeE (scE Γ) vs) with
    | .ok acc _ => if acc.all scal = true then .ok (.own (.lst acc)) Γ else .no
    | _ => .no) else .no
  | _ => .no
def mItD (i : Nat) (g : G) (t : M Bool) (ek ev : M Rv) (vs : List Nat) : M Rv := fun Γ => match look Γ (.var i) with
  | some (.dct kvs) => if plainAt Γ vs = true ∧ (kvs.all fun p => scal p.2) = true ∧ kvs.length ≤ LIM then (match compDD g t ek ev vs (prs kvs) [] (wipeE (scE Γ) vs) with
    | .ok acc _ => if (acc.all fun p => scal p.2) = true then .ok (.own (.dct acc)) Γ else .no
    | _ => .no) else .no
  | _ => .no
section
variable {w : Wd} {W : WX} {g : Gx} {F F' : Hp} {Γ : EnD} {σ : St} {H H' : Hp} {vs : List Nat}
theorem Rep.scal {v : V} {d : D} (h : Rep w F v d) (hsc : PD.scal d = true) : Rep w F' v d := by
  cases d with
  | non => cases h; exact .non
  | bl b => cases h; exact .bl b
  | int i => cases h; exact .int i
  | str s => cases h; exact .str s
  | _ => cases hsc
theorem Reps.scal : ∀ {vs : List V} {ds : List D}, Reps w F vs ds → ds.all PD.scal = true → Reps w F' vs ds
  | _, _, .nil, _ => .nil
  | _, _, .cons r t, h => by
    rw [List.all_cons, Bool.and_eq_true] at h
    exact .cons (r.scal h.1) (Reps.scal t h.2)
theorem KReps.scal : ∀ {vs : List (Key × V)} {ds : List (Key × D)}, KReps w F vs ds → (ds.all fun p => PD.scal p.2) = true → KReps w F' vs ds
  | _, _, .nil, _ => .nil
  | _, _, .cons r t, h => by
    rw [List.all_cons, Bool.and_eq_true] at h
    exact .cons (r.scal h.1) (KReps.scal t h.2)
theorem KReps.at {i : Nat} : ∀ {i : Nat} {vs : List (Key × V)} {ds : List (Key × D)} {k : Key} {v : V}, KReps w F vs ds → vs[i]? = some (k, v) → ∃ d, ds[i]? = some (k, d) ∧ Rep w F v d
  | i, _, _, _, _, .nil, e => by simp at e
  | 0, _, _, k, v, .cons r t, e => by
    have e' := Option.some.inj (show some _ = some (k, v) from e)
    cases e'
    exact ⟨_, rfl, r⟩
  | i + 1, _, _, k, v, .cons r t, e => by
    obtain ⟨d, e1, e2⟩ := KReps.at (i := 0) t (show _ = some (k, v) from by simpa using e)
    exact ⟨d, by simpa using e1, e2⟩
theorem kV_rep (k : Key) : Rep w F (kV k) (keyT k) := by
  cases k with
  | inl i => exact .int i
  | inr s => exact .str s
theorem Rel.kept (R : Rel w g F Γ σ H) (k : ∀ b o, H b = some o → NT o → H' b = some o) (th : ∀ b, H b ≠ none → H' b ≠ none) (sub : Le F H') (tab : LamX.Tabs w.T H') : Rel w g F Γ σ H' where
  sub := sub
  base := fun b o e t n => k b o (R.base b o e t n) t
  there := fun b e => th b (R.there b e)
  le0 := R.le0
  nf0 := R.nf0
  len := R.len
  slot := fun i s e => by
    obtain ⟨v, e1, q⟩ := R.slot i s e
    refine ⟨v, e1, ?_⟩
    obtain ⟨m, d⟩ := s
    cases m with
    | dat => exact q
    | pfz => exact q
    | lam => obtain ⟨b, cvs, ds, c, q, h1, h2, h3, h4, h5⟩ := q; exact ⟨b, cvs, ds, c, q, h1, h2, h3, h4, k _ _ h5 (fun _ z => nomatch z)⟩
    | own => obtain ⟨b, e, h1, h2, h3⟩ := q; exact ⟨b, e, h1, h2, h3.keep (Le.refl _) fun u z nt => k _ _ z nt⟩
    | par => obtain ⟨b, e, h1, h2, h4, h3⟩ := q; exact ⟨b, e, h1, h2, h4, h3.keep (Le.refl _) fun u z nt => k _ _ z nt⟩
    | lck => obtain ⟨b, e, h1, h3⟩ := q; exact ⟨b, e, h1, h3.keep (Le.refl _) fun u z nt => k _ _ z nt⟩
  dist := R.dist
  lok := R.lok
  tab := ⟨tab, R.tab.2⟩
theorem scE_get {j : Nat} {s : Sl} (h : (scE Γ)[j]? = some (some s)) : Γ[j]? = some (some s) ∧ s.m = .dat ∧ PD.scal s.d = true := by
  unfold scE at h
  rw [List.getElem?_map] at h
  obtain ⟨x, hx, e⟩ := Option.map_eq_some_iff.mp h
  unfold scS at e
  split at e
  · split at e
    · cases e; exact ⟨hx, rfl, by assumption⟩
    · cases e
  · cases e
theorem scS_dat (x : Sl) : scS (some x) = none ∨ ∃ y, scS (some x) = some y ∧ y.m = .dat := by
  obtain ⟨m, d⟩ := x
  cases m with
  | dat =>
    by_cases h : scal d = true
    · exact .inr ⟨⟨.dat, d⟩, by show (if scal d = true then _ else _) = _; rw [if_pos h], rfl⟩
    · exact .inl (by show (if scal d = true then _ else _) = _; rw [if_neg h])
  | _ => exact .inl rfl
theorem scE_plain (h : plainAt Γ vs = true) : plainAt (scE Γ) vs = true := by
  unfold plainAt at h ⊢
  rw [List.all_eq_true] at h ⊢
  intro i hi
  have := h i hi
  unfold scE
  rw [List.getElem?_map]
  cases e : Γ[i]? with
  | none => rw [e] at this; exact this
  | some x =>
    cases x with
    | none => rfl
    | some s =>
      rcases scS_dat s with h1 | ⟨y, h1, h2⟩
      · rw [Option.map_some, h1]
      · rw [Option.map_some, h1]
        simp only [h2]
        rfl
theorem noMu {σ2 : St} {b : Addr} : ¬ Mu (wipeE (scE Γ) vs) σ2 b := fun ⟨j, s, q1, q2, _⟩ => by
  have := (scE_get (wipeE_in q1).2).2.1
  rw [this] at q2
  cases q2
/-- what is shared within: the dict locked -/
def lkF (F : Hp) (d : Addr) (od : Obj) (kvs : List (Key × V)) : Hp := upd F d (.frz od (.dK kvs))
def g0 : Gx := { H0 := fun _ => none, F0 := fun _ => none, P := [], PO := fun _ => False, L := fun _ => none }
theorem rel_in (R : Rel w g F Γ σ H) {d : Addr} {od : Obj} {kvs : List (Key × V)} (hd : H d = some (.dK kvs)) : Rel w g0 (lkF F d od kvs) (scE Γ) σ (upd H d (.frz od (.dK kvs))) where
  sub := fun b u e => by
    unfold lkF at e
    by_cases hb : b = d
    · subst hb; rw [upd_same] at e ⊢; exact e
    · rw [upd_ne hb] at e ⊢; exact R.sub b u e
  base := fun b o e => nomatch e
  there := fun b e => absurd rfl e
  le0 := fun b o e => nomatch e
  nf0 := fun b _ => .inr (.inl rfl)
  len := by unfold scE; rw [List.length_map]; exact R.len
  slot := fun i s e => by
    obtain ⟨e1, e2, e3⟩ := scE_get e
    obtain ⟨v, h1, h2⟩ := R.slot i s e1
    refine ⟨v, h1, ?_⟩
    obtain ⟨m, dd⟩ := s
    cases e2
    exact Rep.scal (show Rep w F v dd from h2) e3
  dist := fun i j s t a e1 _ o1 _ _ _ => by
    have := (scE_get e1).2.1
    rw [this] at o1; cases o1
  lok := fun i a dd e => nomatch e
  tab := by
    refine ⟨tabs_upd R.tab.1 (fun u e => by rw [hd] at e; cases e; trivial), fun p hp => ?_⟩
    have hne : p.1 ≠ d := fun z => by
      obtain ⟨ps, h1, _⟩ := R.tab.1 p hp
      rw [z, hd] at h1; cases h1
    unfold lkF
    rw [upd_ne hne]
    exact R.tab.2 p hp
theorem walk_in {d : Addr} {od : Obj} {kvsV : List (Key × V)} {kvs : List (Key × D)} (kr : KReps w F kvsV kvs) (hs : (kvs.all fun p => PD.scal p.2) = true) (hl : kvs.length ≤ LIM) : WalksD w (lkF F d od kvsV) (Iti d od kvsV) (prs kvs) := by
  have hlen : (prs kvs).length = kvsV.length := by unfold prs; rw [List.length_map, ← kr.length]
  refine ⟨by rw [hlen, kr.length]; exact hl, fun H => H d = some (.frz od (.dK kvsV)), _, by rw [hlen]; exact walk_items, fun H l => l d _ upd_same, fun i F2 H x H' hi l l2 y => ?_⟩
  obtain ⟨T, x', y', rfl, h1, h2, h3, h4⟩ := y
  subst h2
  obtain ⟨⟨k, v⟩, e1, e2⟩ := Option.map_eq_some_iff.mp h3
  obtain ⟨⟨k', v'⟩, e3, e4⟩ := Option.map_eq_some_iff.mp h4
  rw [e1] at e3
  cases e3
  simp only at e2 e4
  subst e2 e4
  obtain ⟨dv, e5, r⟩ := KReps.at (i := i) kr e1
  have hsv : PD.scal dv = true := List.all_eq_true.mp hs _ (List.mem_of_getElem? e5)
  obtain ⟨N, rn⟩ := new_tup (w := w) l2 h1 (.cons (kV_rep k) (.cons (r.scal hsv) .nil)) (by unfold LIM; simp)
  exact ⟨_, _, N, by unfold prs; rw [List.getElem?_map, e5]; rfl, rn⟩
/-- what the block leaves, seen from without -/
theorem out_of {d : Addr} {od : Obj} {kvsV : List (Key × V)} {ΓF : EnD} {F2 H2 : Hp} (R : Rel w g F Γ σ H) (hd : H d = some (.dK kvsV)) (R2 : Rel w g0 F2 ΓF (L2.wipe σ vs) H2) (l : Le (lkF F d od kvsV) F2) (S2 : Step (wipeE (scE Γ) vs) (L2.wipe σ vs) (lkF F d od kvsV) (upd H d (.frz od (.dK kvsV))) ΓF F2 H2) :
    H2 d = some (.frz od (.dK kvsV)) ∧ Step Γ σ F H Γ F (upd H2 d (.dK kvsV)) ∧ Rel w g F Γ σ (upd H2 d (.dK kvsV)) := by
  have e0 : H2 d = some (.frz od (.dK kvsV)) := R2.sub d _ (l d _ upd_same)
  have fr : ∀ b o, H b = some o → NT o → (upd H2 d (.dK kvsV)) b = some o := fun b o e t => by
    by_cases hb : b = d
    · subst hb; rw [hd] at e; cases e; exact upd_same
    · rw [upd_ne hb]
      exact S2.fr b o (by rw [upd_ne hb]; exact e) t noMu
  have th : ∀ b, H b ≠ none → (upd H2 d (.dK kvsV)) b ≠ none := fun b e => by
    by_cases hb : b = d
    · subst hb; rw [upd_same]; simp
    · rw [upd_ne hb]
      exact S2.th b (by rw [upd_ne hb]; exact e)
  refine ⟨e0, ⟨Le.refl _, fun b o e t _ => fr b o e t, fun b h => .inl h, th, fun i s h o => ⟨s, h, o, fun z => z⟩⟩, R.kept fr th (fun b u e => ?_) (tabs_upd R2.tab.1 fun u e => by rw [e0] at e; cases e; trivial)⟩
  by_cases hb : b = d
  · subst hb
    have eH := R.sub b u e
    rw [hd] at eH; cases eH
    exact upd_same
  · rw [upd_ne hb]
    exact R2.sub b u (l b u (by unfold lkF; rw [upd_ne hb]; exact e))
theorem look_some {i : Nat} {d : D} (hl : look Γ (.var i) = some d) : ∃ s, Γ[i]? = some (some s) := by
  have hl : (match Γ[i]? with
    | some (some ⟨.lam, _⟩) => none
    | some (some s) => some s.d
    | _ => none) = some d := hl
  split at hl
  · cases hl
  · exact ⟨_, by assumption⟩
  · cases hl
theorem lit_main {i : Nat} {g1 : G} {t1 : M Bool} {e1 : M Rv} {sl : List Nat} (hsl : ∀ i ∈ sl, i ∈ vs) {Q : VK} (h : T w W (mItL i g1 t1 e1 vs) σ H Q) :
    tLockE (tLc (iItems (tVar i)) (TGr w W0 (some sl) g1) (TB w W0 t1) (T w W0 (mFz e1)) vs) σ H Q := by
  obtain ⟨g, F, Γ, R, p⟩ := h
  unfold mItL at p
  cases hl : look Γ (.var i) with
  | none => rw [hl] at p; exact p.elim
  | some dd =>
    rw [hl] at p
    cases dd with
    | dct kvs =>
      simp only at p
      by_cases hc : plainAt Γ vs = true ∧ (kvs.all fun p => PD.scal p.2) = true ∧ kvs.length ≤ LIM
      · rw [if_pos hc] at p
        cases hcd : compD g1 t1 e1 vs (prs kvs) [] (wipeE (scE Γ) vs) with
        | no => rw [hcd] at p; exact p.elim
        | ex x Γ' => rw [hcd] at p; exact p.elim
        | ok acc ΓF =>
          rw [hcd] at p
          simp only at p
          by_cases hsc : acc.all PD.scal = true
          · rw [if_pos hsc] at p
            obtain ⟨s, hi⟩ := look_some hl
            obtain ⟨v, hv, _⟩ := R.slot i s hi
            have vw : View w F H v (.dct kvs) := ResA.view (r := .var i) R hv hl
            obtain ⟨d, kvsV, rfl, hd, kr⟩ := vw.dct R.sub
            refine ⟨d, .dK kvsV, hd, trivial, fun od => ?_⟩
            refine ⟨.ref d, hv, d, od, kvsV, rfl, upd_same, fun D hD => ?_⟩
            have hne : D ≠ d := fun z => by rw [z, upd_same] at hD; cases hD
            have hHD : H D = none := by rw [upd_ne hne] at hD; exact hD
            refine lc_go hsl (rel_in (od := od) R hd) (walk_in kr hc.2.1 hc.2.2) (scE_plain hc.1) hcd hD fun H2 F2 accV l R2 hDl hacc hle S2 => ?_
            obtain ⟨e0, S, R'⟩ := out_of R hd R2 l S2
            refine ⟨e0, p (.ref D) _ F S R' ⟨D, rfl, hHD, R.sub.none hHD, accV, by rw [upd_ne hne]; exact hDl, hacc.scal hsc, ?_⟩⟩
            have : (prs kvs).length = kvs.length := by unfold prs; rw [List.length_map]
            have := hc.2.2
            omega
          · rw [if_neg hsc] at p; exact p.elim
      · rw [if_neg hc] at p; exact p.elim
    | _ => exact p.elim
theorem dit_main {i : Nat} {g1 : G} {t1 : M Bool} {ek ev : M Rv} {sl : List Nat} (hsl : ∀ i ∈ sl, i ∈ vs) {Q : VK} (h : T w W (mItD i g1 t1 ek ev vs) σ H Q) :
    tLockE (tDc (iItems (tVar i)) (TGr w W0 (some sl) g1) (TB w W0 t1) (T w W0 (mFz ek)) (T w W0 (mFz ev)) vs) σ H Q := by
  obtain ⟨g, F, Γ, R, p⟩ := h
  unfold mItD at p
  cases hl : look Γ (.var i) with
  | none => rw [hl] at p; exact p.elim
  | some dd =>
    rw [hl] at p
    cases dd with
    | dct kvs =>
      simp only at p
      by_cases hc : plainAt Γ vs = true ∧ (kvs.all fun p => PD.scal p.2) = true ∧ kvs.length ≤ LIM
      · rw [if_pos hc] at p
        cases hcd : compDD g1 t1 ek ev vs (prs kvs) [] (wipeE (scE Γ) vs) with
        | no => rw [hcd] at p; exact p.elim
        | ex x Γ' => rw [hcd] at p; exact p.elim
        | ok acc ΓF =>
          rw [hcd] at p
          simp only at p
          by_cases hsc : (acc.all fun p => PD.scal p.2) = true
          · rw [if_pos hsc] at p
            obtain ⟨s, hi⟩ := look_some hl
            obtain ⟨v, hv, _⟩ := R.slot i s hi
            have vw : View w F H v (.dct kvs) := ResA.view (r := .var i) R hv hl
            obtain ⟨d, kvsV, rfl, hd, kr⟩ := vw.dct R.sub
            refine ⟨d, .dK kvsV, hd, trivial, fun od => ?_⟩
            refine ⟨.ref d, hv, d, od, kvsV, rfl, upd_same, fun D hD => ?_⟩
            have hne : D ≠ d := fun z => by rw [z, upd_same] at hD; cases hD
            have hHD : H D = none := by rw [upd_ne hne] at hD; exact hD
            refine dc_go hsl (rel_in (od := od) R hd) (walk_in kr hc.2.1 hc.2.2) (scE_plain hc.1) hcd hD fun H2 F2 accV l R2 hDl hacc S2 => ?_
            obtain ⟨e0, S, R'⟩ := out_of R hd R2 l S2
            exact ⟨e0, p (.ref D) _ F S R' ⟨D, rfl, hHD, R.sub.none hHD, accV, by rw [upd_ne hne]; exact hDl, hacc.scal hsc⟩⟩
          · rw [if_neg hsc] at p; exact p.elim
      · rw [if_neg hc] at p; exact p.elim
    | _ => exact p.elim
end
section
variable {X : Cx} {w : Wd} {W : WX} {elt kx vx : Expr} {elts : List Expr} {kk : Nat} {ifs : List Expr} {scope : Scope} {own : List (Str × Nat)} {pos tpos apos cpos p : Pos} {g1 : G} {t1 : M Bool} {e1 ek ev : M Rv} {sl : List Nat} {i : Nat} {x : Str}
theorem d_lit (hc : X.calm = true) (hN : X.N.Nodup) (hx : PE X (.Name x p) (tVar i)) (ok : BlkOk X.N X.env.scope scope own) (hsl : ∀ i ∈ sl, i ∈ own.map (·.2))
    (hg : ∀ (s : Shared) (H : Hp) (C : Addr) (cl : List (Str × Addr)) (fp : List Addr), PG (X.blk s H scope (compEnvC scope cl C X.env) fp) (.Tuple elts kk tpos) (TGr w W0 (some sl) g1)) (ht : ∀ (s : Shared) (H : Hp) (C : Addr) (cl : List (Str × Addr)) (fp : List Addr), PTs (X.blk s H scope (compEnvC scope cl C X.env) fp) ifs (TB w W0 t1))
    (he : ∀ (s : Shared) (H : Hp) (C : Addr) (cl : List (Str × Addr)) (fp : List Addr), PE (X.blk s H scope (compEnvC scope cl C X.env) fp) elt (T w W0 e1))
    (hline : (apos.endLine == cpos.line) = true := by rfl) :
    PE X (.ListComp elt [⟨.Tuple elts kk tpos, .Call (.Attribute (.Name x p) "items" apos) [] [] cpos, ifs, 0⟩] scope pos) (T w W (mItL i g1 t1 e1 (own.map (·.2)))) :=
  (pe_lock (pe_lc hc hN (pi_items hx rfl hline) ok hg ht (fun s H C cl fp => d_fz (he s H C cl fp)) (by intro _; rfl))).imp fun σ H Q h => lit_main hsl h
theorem d_dit (hc : X.calm = true) (hN : X.N.Nodup) (hx : PE X (.Name x p) (tVar i)) (ok : BlkOk X.N X.env.scope scope own) (hsl : ∀ i ∈ sl, i ∈ own.map (·.2))
    (hg : ∀ (s : Shared) (H : Hp) (C : Addr) (cl : List (Str × Addr)) (fp : List Addr), PG (X.blk s H scope (compEnvC scope cl C X.env) fp) (.Tuple elts kk tpos) (TGr w W0 (some sl) g1)) (ht : ∀ (s : Shared) (H : Hp) (C : Addr) (cl : List (Str × Addr)) (fp : List Addr), PTs (X.blk s H scope (compEnvC scope cl C X.env) fp) ifs (TB w W0 t1))
    (hk : ∀ (s : Shared) (H : Hp) (C : Addr) (cl : List (Str × Addr)) (fp : List Addr), PE (X.blk s H scope (compEnvC scope cl C X.env) fp) kx (T w W0 ek))
    (he : ∀ (s : Shared) (H : Hp) (C : Addr) (cl : List (Str × Addr)) (fp : List Addr), PE (X.blk s H scope (compEnvC scope cl C X.env) fp) vx (T w W0 ev))
    (hline : (apos.endLine == cpos.line) = true := by rfl) :
    PE X (.DictComp kx vx [⟨.Tuple elts kk tpos, .Call (.Attribute (.Name x p) "items" apos) [] [] cpos, ifs, 0⟩] scope pos) (T w W (mItD i g1 t1 ek ev (own.map (·.2)))) :=
  (pe_lock (pe_dc hc hN (pi_items hx rfl hline) ok hg ht (fun s H C cl fp => d_fz (hk s H C cl fp)) (fun s H C cl fp => d_fz (he s H C cl fp)) (by intro _; rfl))).imp fun σ H Q h => dit_main hsl h
end
end PD

namespace PD
open PySem PySem.Spec PyProof.Rows L2
/-! ### min of the values of a dict, None by default -/
theorem dfl_args (a d : Value) : argsOk "min" ⟨[a], [(Str.ofString "default", d)]⟩ := by unfold argsOk; kernel_rfl
section
variable {prog : Program} {wd : World} {A : Around} {R : Result → Shared → Prop} {it : Addr} {foot own : List Addr} {n : Nat} {P : Nat → Value → Prop} {Sta : Nat → Heap → Prop} {bt : Nat → Nat → Bool} {d : Value} {B : Addr}
/-- the code of the loop with what is told by default -/
def dflC (it B : Addr) (d : Value) : Code := .builtin "min.loop" ⟨[.ref it, .none, .ref B], [(Str.ofString "default", d)]⟩
def lstO (xs : Array Value) (c : Nat) : Obj := { cls := .type "list", dict := none, data := .seq xs c, slots := #[] }
theorem dfl_go (W : Walks prog wd A.in1 it foot own n P Sta) (lt : CmpOf prog wd A.in1 .Lt P bt) (out : B ∉ foot) :
    ∀ (left i : Nat) (s : Shared) (best : Value) (c : Nat), n = i + 1 + left → Sta (i + 1) s.heap → P (argBest bt i) best → s.heap.get? B = some (lstO #[best, best] c) →
    (∀ v hp tk, P (argBest bt (n - 1)) v → (∀ b o, b ∉ own → b ≠ B → s.heap.get? b = some o → hp.get? b = some o) → R (.ok (.ret v)) { s with heap := hp, toks := tk }) →
    codeAny (model prog wd) A (dflC it B d) R s := by
  have outw : B ∉ own := fun z => out (W.sub _ z)
  have nm : (toString "min" ++ toString ".loop" : String) = "min.loop" := by decide
  intro left
  induction left with
  | zero =>
    intro i s best c en st pb hB fin
    refine codeAny_builtin PySem.F.entry_min_loop (by
      rw [Around.under_plainId PySem.F.plain_min_loop _]
      refine wpAny_bind (m := seqItems? (.ref B)) (wpAny_seqItems hB rfl ?_)
      refine wpAny_bind (m := tryCatch (pyNext (.ref it)) _) (wpAny_tryCatch (W.done s _ _ ((show i + 1 = n by omega) ▸ st) fun hp tk kp => ?_))
      have hB2 := kp B _ outw hB
      refine wpAny_bind (m := updateSeq B (fun _ => #[])) (by
        refine wpAny_updateSeq hB2 rfl (wpAny_bind (wpAny_letGo (wpAny_pure ?_)))
        exact fin best _ tk (by rw [show n - 1 = i by omega]; exact pb) fun b o bo bB e => (Heap.get?_update_other _ _ (Ne.symm bB)).trans (kp b o bo e)))
  | succ left ih =>
    intro i s best c en st pb hB fin
    refine codeAny_builtin PySem.F.entry_min_loop (by
      rw [Around.under_plainId PySem.F.plain_min_loop _]
      refine wpAny_bind (m := seqItems? (.ref B)) (wpAny_seqItems hB rfl ?_)
      refine wpAny_bind (m := tryCatch (pyNext (.ref it)) _) (wpAny_tryCatch (W.item (i + 1) s _ _ (by omega) st fun v hp tk pv st2 kp => ?_))
      have hB2 := kp B _ outw hB
      show wpAny _ A.in1 (tryCatch (holding [v, v] (richCompare .Lt v best >>= _)) _ >>= _) _ _ { s with heap := hp, toks := tk }
      refine wpAny_bind (wpAny_tryCatch (wpAny_holding (wpAny_bind (lt (i + 1) (argBest bt i) v best _ _ _ pv pb (wpAny_bind (wpAny_holding (wpAny_truthy_bool (wpAny_bind (wpAny_letGo (wpAny_pure ?_))))))))))
      by_cases hb : bt (i + 1) (argBest bt i) = true
      · have pb2 : P (argBest bt (i + 1)) v := by show P (if _ then _ else _) v; rw [if_pos hb]; exact pv
        rw [hb]
        simp only [if_true]
        refine wpAny_bind (wpAny_updateSeq hB2 rfl (wpAny_bind (wpAny_letGo ?_)))
        rw [nm]
        refine wpAny_pure ⟨plainId_quiet PySem.F.plain_min_loop _, ih (i + 1) _ v _ (by omega) (W.frame _ _ _ st2 fun b bf o e => ?_) pb2 (Heap.get?_update_self _ hB2 rfl) fun u hp2 tk2 pu kp2 => ?_⟩
        · exact (Heap.get?_update_other _ _ fun z : B = b => out (z ▸ bf)).trans e
        · exact fin u hp2 tk2 pu fun b o bo bB e => kp2 b o bo bB ((Heap.get?_update_other _ _ (Ne.symm bB)).trans (kp b o bo e))
      · have pb2 : P (argBest bt (i + 1)) best := by show P (if _ then _ else _) best; rw [if_neg hb]; exact pb
        rw [Bool.not_eq_true] at hb
        rw [hb]
        simp only [Bool.false_eq_true, if_false]
        refine wpAny_bind (wpAny_letGo ?_)
        rw [nm]
        exact wpAny_pure ⟨plainId_quiet PySem.F.plain_min_loop _, ih (i + 1) _ best c (by omega) st2 pb2 hB2 fun u hp2 tk2 pu kp2 => fin u hp2 tk2 pu fun b o bo bB e => kp2 b o bo bB (kp b o bo e)⟩)
theorem dfl_first (W : Walks prog wd A.in1 it foot own n P Sta) (lt : CmpOf prog wd A.in1 .Lt P bt) (out : B ∉ foot) {s : Shared} {c : Nat} (st : Sta 0 s.heap) (hB : s.heap.get? B = some (lstO #[] c))
    (fin0 : n = 0 → ∀ hp tk, (∀ b o, b ∉ own → b ≠ B → s.heap.get? b = some o → hp.get? b = some o) → R (.ok (.ret d)) { s with heap := hp, toks := tk })
    (fin : 0 < n → ∀ v hp tk, P (argBest bt (n - 1)) v → (∀ b o, b ∉ own → b ≠ B → s.heap.get? b = some o → hp.get? b = some o) → R (.ok (.ret v)) { s with heap := hp, toks := tk }) :
    codeAny (model prog wd) A (dflC it B d) R s := by
  have outw : B ∉ own := fun z => out (W.sub _ z)
  have nm : (toString "min" ++ toString ".loop" : String) = "min.loop" := by decide
  refine codeAny_builtin PySem.F.entry_min_loop (by
    rw [Around.under_plainId PySem.F.plain_min_loop _]
    refine wpAny_bind (m := seqItems? (.ref B)) (wpAny_seqItems hB rfl ?_)
    by_cases h0 : n = 0
    · refine wpAny_bind (m := tryCatch (pyNext (.ref it)) _) (wpAny_tryCatch (W.done s _ _ (h0 ▸ st) fun hp tk kp => ?_))
      refine wpAny_bind (m := rule _) (wpAny_rule (wpAny_pure ?_))
      exact fin0 h0 hp tk fun b o bo _ e => kp b o bo e
    · refine wpAny_bind (m := tryCatch (pyNext (.ref it)) _) (wpAny_tryCatch (W.item 0 s _ _ (by omega) st fun v hp tk pv st2 kp => ?_))
      have hB2 := kp B _ outw hB
      refine wpAny_bind (m := updateSeq B (fun _ => #[v, v])) (wpAny_updateSeq hB2 rfl ?_)
      rw [nm]
      refine wpAny_pure ⟨plainId_quiet PySem.F.plain_min_loop _, dfl_go W lt out (n - 1) 0 _ v _ (by omega) (W.frame _ _ _ st2 fun b bf o e => ?_) pv (Heap.get?_update_self _ hB2 rfl) fun u hp2 tk2 pu kp2 => ?_⟩
      · exact (Heap.get?_update_other _ _ fun z : B = b => out (z ▸ bf)).trans e
      · exact fin (by omega) u hp2 tk2 pu fun b o bo bB e => kp2 b o bo bB ((Heap.get?_update_other _ _ (Ne.symm bB)).trans (kp b o bo e)))
end
section
variable {X : Cx} {o : Expr} {p pos apos mpos kp np : Pos} {nj : Nat} {td : TE} {x : Str}
/-- the least of the values, all ints, None where there is none -/
def tLeastV (td : TE) : TE := fun σ H Q => td σ H fun x H1 => ∃ a kvs is, x = V.ref a ∧ H1 a = some (.dK kvs) ∧ kvs.map (·.2) = is.map V.int ∧ (is = [] → Q .non H1) ∧ (is ≠ [] → ∀ m ∈ is, (∀ j ∈ is, m ≤ j) → Q (.int m) H1)
theorem at_int {is : List Int} {i : Nat} (h : i < is.length) : is.getD i 0 ∈ is := by
  rw [List.getD_eq_getElem?_getD, List.getElem?_eq_getElem h]
  exact List.getElem_mem h
theorem pe_leastV (hc : X.calm = true) (hg : Gl X "min") (hm : X.mg "min" = none) (hd : PE X o td) (hbase : attributeBase o "values" X.env (eval o X.env) = eval o X.env := by rfl) (hline : (apos.endLine == mpos.line) = true := by rfl) :
    PE X (.Call (.Name "min" p) [.Call (.Attribute o "values" apos) [] [] mpos] [⟨some "default", .Constant .none nj np, kp⟩] pos) (tLeastV td) := by
  refine ⟨fun pins s σ H Q I h => ?_⟩
  refine wpAny_Call_Name_kw (ld_blt I hg hm (u := .builtin "min") (by first | rfl | decide +kernel) ?_ (by first | decide +kernel | decide) (by first | decide +kernel | decide))
  refine PyProof.Rows.callWith_kw ?_
  refine Calls.spliced_cons ?_
  refine wpAny_Call_method0_late hbase hline (thn (hd.run pins s σ H _ I h) fun v s1 ⟨x, H1, I1, r1, a, kvs, is, ex, ha, hv, q0, q1⟩ => ?_)
  subst ex
  obtain rfl : v = Value.ref a := r1
  obtain ⟨_, hsys, vs, rel, dof⟩ := dk_of I1.hok ha
  obtain ⟨ep, dat⟩ := dof.dictAt
  obtain ⟨ob, es, ho, ex, _⟩ := id dat
  refine ⟨"dict", "dict.values", PySem.F.plainAttrs_dict, PySem.F.slot_dict_values, PySem.F.type_dict_values, ⟨ob, ho, ex.1⟩, fun b e => (by cases e; exact ⟨ob, ho, ex.2.1⟩), Calls.callWith_builtin rfl (PySem.evalArgs_none ?_)⟩
  refine call_meetsIn PySem.F.slot_dict_values ⟨ob, ho, ex.1⟩ PySem.F.entry_dict_values (PySem.F.args_dict_values_1 _) (meets_dict_values (mixKind X.prog X.w) a hsys) ⟨⟨vs, dof⟩, ?_⟩
  generalize hp1 : s1.heap.push { cls := .type "dict_values", data := .fields #[.ref a] } = h1
  have k1 : ∀ b u, s1.heap.get? b = some u → h1.get? b = some u := fun b u e => by rw [← hp1]; exact Heap.get?_push_of_some _ e
  have new1 : h1.IsValuesView s1.heap.objs.size a := ⟨_, by rw [← hp1]; exact Heap.get?_push_size _ rfl, rfl, rfl⟩
  have z1 : h1.objs.size = s1.heap.objs.size + 1 := by rw [← hp1]; exact Heap.size_push _ _
  have dat1 : h1.DictAt (mixKind X.prog X.w) a vs ep := dat.keep k1
  refine Calls.spliced_nil (PyProof.Rows.kws_cons (Constant_none (PyProof.Rows.kws_nil ?_)))
  have hlt : a < s1.heap.objs.size := Heap.lt_size ho
  have many : vs.length = is.length := by
    have e1 := congrArg List.length hv
    rw [List.length_map, List.length_map] at e1
    rw [← e1]; exact (KV.length rel).symm
  have val : ∀ (i : Nat) (v : Value), (∃ k, vs[i]? = some (k, v)) → ∃ t, v = Value.int (is.getD i 0) t := fun i v ⟨k, hk⟩ => by
    obtain ⟨x, e1, e2⟩ := KV.at' rel hk
    have e3 : (kvs.map (·.2))[i]? = some x := by rw [List.getElem?_map, e1] <;> rfl
    rw [hv, List.getElem?_map] at e3
    obtain ⟨j, hj, e4⟩ := Option.map_eq_some_iff.mp e3
    subst e4
    obtain ⟨t, e5⟩ := e2
    exact ⟨t, by rw [e5, List.getD_eq_getElem?_getD, hj] <;> rfl⟩
  refine PyProof.Rows.kmk_tree PySem.F.kind_min PySem.F.plain_min PySem.F.entry_min (dfl_args _ _) ?_
  refine wpAny_bind (m := Builtin.Builtins.bindParams "min" ["key", "default"] 0 _) (wpAny_of_eq (show Builtin.Builtins.bindParams "min" ["key", "default"] 0 ⟨[], [(Str.ofString "default", Value.none)]⟩ = pure [none, some Value.none] from rfl) ?_)
  refine wpAny_bind (wpAny_pure ?_)
  refine wpAny_bind (wpAny_pyIter_values new1 dat1 ?_)
  refine wpAny_bind (wpAny_newObj_type ?_)
  generalize hp2 : h1.push { cls := .type "dict_valueiterator", data := .fields #[.ref a, .int 0 0, .int vs.length 0, .int ep 0] } = h2
  have k2 : ∀ b u, h1.get? b = some u → h2.get? b = some u := fun b u e => by rw [← hp2]; exact Heap.get?_push_of_some _ e
  have z2 : h2.objs.size = h1.objs.size + 1 := by rw [← hp2]; exact Heap.size_push _ _
  have itr : h2.get? h1.objs.size = some { cls := .type "dict_valueiterator", data := .fields #[.ref a, .int 0 0, .int vs.length 0, .int ep 0] } := by rw [← hp2]; exact Heap.get?_push_size _ rfl
  have nm : (toString "min" ++ toString ".loop" : String) = "min.loop" := by decide
  rw [nm]
  have W := Walks.dictValues (prog := X.prog) (w := X.w) (knd := mixKind X.prog X.w) (A := X.A.in1) (I.ok.hd hc) h1.objs.size a (fun (z : @Eq Nat a h1.objs.size) => by have y : @LT.lt Nat _ a s1.heap.objs.size := hlt; omega) vs ep
  have lt_a : @LT.lt Nat _ a s1.heap.objs.size := hlt
  have old : ∀ (b : Nat) (u : Obj), s1.heap.get? b = some u → @LT.lt Nat _ b s1.heap.objs.size := fun b u e => Heap.lt_size e
  have n1 : ∀ (b : Nat) (u : Obj), s1.heap.get? b = some u → b ∉ [h1.objs.size] := fun b u e z => by
    have y : @Eq Nat b h1.objs.size := List.mem_singleton.mp z
    have := old b u e
    omega
  have n2 : ∀ (b : Nat) (u : Obj), s1.heap.get? b = some u → b ≠ h2.objs.size := fun b u e (z : @Eq Nat b h2.objs.size) => by
    have := old b u e
    omega
  refine wpAny_pure ⟨plainId_quiet PySem.F.plain_min_loop _, dfl_first W (CmpOf.ints_lt (fun i => is.getD i 0) val) (B := h2.objs.size) (fun hb => ?_) (W.frame _ _ _ ⟨⟨_, itr, rfl, rfl⟩, dat1.keep k2⟩ fun b _ u e => Heap.get?_push_of_some _ e) (Heap.get?_push_size _ rfl) (fun h0 hp tk kp => ?_) fun hn v hp tk pv kp => ?_⟩
  · rcases List.mem_cons.mp hb with e | hb
    · have e : @Eq Nat h2.objs.size h1.objs.size := e
      omega
    · have e : @Eq Nat h2.objs.size a := List.mem_singleton.mp hb
      omega
  · have e0 : is = [] := List.eq_nil_of_length_eq_zero (by omega)
    exact ⟨.non, H1, I1.kept (t' := tk) fun b u e => kp b u (n1 b u e) (n2 b u e) (Heap.get?_push_of_some _ (k2 b u (k1 b u e))), rfl, q0 e0⟩
  · have en : is ≠ [] := fun z => by rw [z, List.length_nil] at many; omega
    obtain ⟨t, rfl⟩ := val _ v pv
    obtain ⟨b1, b2⟩ := argBest_lt (fun i => is.getD i 0) (vs.length - 1)
    refine ⟨.int _, H1, I1.kept (t' := tk) fun b u e => kp b u (n1 b u e) (n2 b u e) (Heap.get?_push_of_some _ (k2 b u (k1 b u e))), ⟨t, rfl⟩, q1 en _ (at_int ?_) fun j hj => ?_⟩
    · have : argBest (fun i j => decide (is.getD i 0 < is.getD j 0)) (vs.length - 1) < is.length := by omega
      exact this
    · obtain ⟨i, hi, e⟩ := List.mem_iff_getElem.mp hj
      have e2 : is.getD i 0 = j := by rw [List.getD_eq_getElem?_getD, List.getElem?_eq_getElem hi, ← e] <;> rfl
      rw [← e2]
      exact b2 i (by omega)
/-! ### on data -/
def mLeastV (i : Nat) : M Rv := fun Γ => match look Γ (.var i) with
  | some (.dct kvs) => (match intsD (kvs.map (·.2)) with
    | some is => .ok (.dat (if is = [] then .non else .int (minI is))) Γ
    | none => .no)
  | _ => .no
theorem KReps.vals {w : Wd} {F : Hp} : ∀ {xs : List (Key × V)} {ds : List (Key × D)}, KReps w F xs ds → Reps w F (xs.map (·.2)) (ds.map (·.2))
  | _, _, .nil => .nil
  | _, _, .cons r t => .cons r (KReps.vals t)
variable {w : Wd} {W : WX} {i : Nat}
theorem d_leastV (hc : X.calm = true) (hg : Gl X "min") (hm : X.mg "min" = none) (hd : PE X (.Name x np) (L2.tVar i)) (hline : (apos.endLine == mpos.line) = true := by rfl) {kp2 : Pos} :
    PE X (.Call (.Name "min" p) [.Call (.Attribute (.Name x np) "values" apos) [] [] mpos] [⟨some "default", .Constant .none nj kp2, kp⟩] pos) (T w W (mLeastV i)) :=
  (pe_leastV hc hg hm hd rfl hline).imp fun σ H Q ⟨g, F, Γ, R, p⟩ => by
    unfold mLeastV at p
    cases hl : look Γ (.var i) with
    | none => rw [hl] at p; exact p.elim
    | some dd =>
      rw [hl] at p
      cases dd with
      | dct kvs =>
        simp only at p
        cases hi : intsD (kvs.map (·.2)) with
        | none => rw [hi] at p; exact p.elim
        | some is =>
          rw [hi] at p
          simp only at p
          obtain ⟨s, hs⟩ := look_some hl
          obtain ⟨v, hv, _⟩ := R.slot i s hs
          have vw : View w F H v (.dct kvs) := ResA.view (r := .var i) R hv hl
          obtain ⟨a, xs, rfl, ha, kr⟩ := vw.dct R.sub
          have e1 := of_intsD hi (KReps.vals kr)
          refine ⟨.ref a, hv, a, xs, is, rfl, ha, e1, fun e0 => ?_, fun e0 m hm hle => ?_⟩
          · rw [if_pos e0] at p
            exact p .non H F (Step.refl ..) R .non
          · rw [if_neg e0] at p
            obtain ⟨h1, h2⟩ := minI_is is e0
            have : m = minI is := Int.le_antisymm (hle _ h1) (h2 m hm)
            rw [this]
            exact p (.int _) H F (Step.refl ..) R (.int _)
      | _ => exact p.elim
end
end PD

/-! PD34: name = {k: v for ..} on one line, the name a local one. -/
namespace PD
open PySem PySem.Spec L2
section
variable {X : Cx} {kx vx tg iter : Expr} {ifs : List Expr} {scope : Scope} {own : List (Str × Nat)} {pos spos py : Pos} {y : Str} {i : Nat}
abbrev AllPE (X : Cx) (fp0 : Scope) (e : Expr) (t : TE) : Prop := ∀ (s : Shared) (H : Hp) (C : Addr) (cl : List (Str × Addr)) (fp : List Addr), PE (X.blk s H fp0 (compEnvC fp0 cl C X.env) fp) e t
abbrev AllPG (X : Cx) (fp0 : Scope) (e : Expr) (t : TG) : Prop := ∀ (s : Shared) (H : Hp) (C : Addr) (cl : List (Str × Addr)) (fp : List Addr), PG (X.blk s H fp0 (compEnvC fp0 cl C X.env) fp) e t
abbrev AllPT (X : Cx) (fp0 : Scope) (e : List Expr) (t : TT) : Prop := ∀ (s : Shared) (H : Hp) (C : Addr) (cl : List (Str × Addr)) (fp : List Addr), PTs (X.blk s H fp0 (compEnvC fp0 cl C X.env) fp) e t
theorem swd_true {gs : List Comprehension} {l : Nat} {env : Env} (h1 : env.scope.kind = .function) (h2 : env.scope.names.lookup y = some .local) (h3 : (py.line == pos.line) = true)
    (h4 : (scope.names.any fun (n, k) => n == y && (k == .local || k == .cell)) = false) : swapsWith (.DictComp kx vx gs scope pos) (some (.Name y py)) l env = pure true := by
  have e1 : env.kindOf y = some .local := h2
  have e2 : env.blockKind = .function := by unfold Env.blockKind; rw [h1]; rfl
  unfold swapsWith; simp only [e2, e1, h4, Expr.pos, h3]; rfl
theorem ps_setDc {wi : TI} {g : TG} {tt : TT} {tk tv : TE} (cm : X.calm = true) (nd : X.N.Nodup) (at_y : X.N[i]? = some y) (loc : X.env.scope.names.lookup y = some .local)
    (sw : swapsWith (.DictComp kx vx [⟨tg, iter, ifs, 0⟩] scope pos) (some (.Name y py)) spos.line X.env = pure true) (hi : PI X tg iter wi) (bo : BlkOk X.N X.env.scope scope own)
    (hg : AllPG X scope tg g) (ht : AllPT X scope ifs tt) (hk : AllPE X scope kx tk) (he : AllPE X scope vx tv) (fs : ∀ x, foldedSetIterable iter X.env x = pure x := by intro _; rfl) :
    PS X (.Assign [.Name y py] (.DictComp kx vx [⟨tg, iter, ifs, 0⟩] scope pos) spos) (tAsg (tDc wi g tt tk tv (own.map (·.2))) (gName i)) := by
  refine ⟨fun pins s σ H D I h => ?_⟩
  rw [exec_Assign_Name_used _ _ _ _ sw]
  refine wpAny_bind (wpAny_standAt (wpAny_bind ?_))
  have z : tDc wi g tt tk tv (own.map (·.2)) σ H (fun x H1 => gName i x σ H1 D.nx) := h
  refine wpAny_bind (m := comprehension (.DictComp kx vx [⟨tg, iter, ifs, 0⟩] scope pos) scope X.env (firstIterPos [⟨tg, iter, ifs, 0⟩] pos) newDict false (eval iter X.env) (some (assign (.Name y py) X.env)))
    (thn (dc_core (Qf := fun _ t => SP X pins D .next t) cm nd I hi bo hg ht hk he fs z fun L C t m H2 I2 q ns f => ?_) fun _ t hq => wpAny_pure (wpAny_pure hq))
  obtain ⟨f0, f1, f2, f3, f4, f5⟩ := f
  show wpAny (model X.prog X.w) X.A (assign (.Name y py) X.env (.ref L)) _ _ t
  refine wpAny_assign_Name (store_ok2 (v := V.ref L) I2 nd at_y (.inl loc) rfl (fun t2 I3 ⟨a, sb, ha⟩ => ?_) (.inr loc))
  have ne : C ≠ a := by
    rcases ha with e | e
    · rw [e]; exact f1
    · exact fun e2 => f4 y a e e2.symm
  exact ⟨m, ns.sameBut sb ne, fun h3 sb3 => ⟨_, H2, I3.turned (t' := t2.toks) (fun b o hb e => (sb3.2 b hb).trans e) f0 f1 f3 f4 f5, q⟩⟩
end
section
variable {X : Cx} {w : Wd} {W : WX} {kx vx tg iter : Expr} {ifs : List Expr} {scope : Scope} {own : List (Str × Nat)} {pos spos py : Pos} {y : Str} {i : Nat} {wi : M (List D)} {g1 : G} {t1 : M Bool} {ek ev : M Rv} {sl : List Nat}
theorem s_setDc (cm : X.calm = true) (nd : X.N.Nodup) (at_y : X.N[i]? = some y) (loc : X.env.scope.names.lookup y = some .local)
    (sw : swapsWith (.DictComp kx vx [⟨tg, iter, ifs, 0⟩] scope pos) (some (.Name y py)) spos.line X.env = pure true) (hi : PI X tg iter (TI' w W wi)) (bo : BlkOk X.N X.env.scope scope own) (hsl : ∀ i ∈ sl, i ∈ own.map (·.2))
    (hg : AllPG X scope tg (TGr w W0 (some sl) g1)) (ht : AllPT X scope ifs (TB w W0 t1)) (hk : AllPE X scope kx (T w W0 ek)) (he : AllPE X scope vx (T w W0 ev)) (fs : ∀ x, foldedSetIterable iter X.env x = pure x := by intro _; rfl) :
    PS X (.Assign [.Name y py] (.DictComp kx vx [⟨tg, iter, ifs, 0⟩] scope pos) spos) (TSt w W (PD.sSet i (mDc wi g1 t1 ek ev (own.map (·.2))))) :=
  s_set ((ps_setDc cm nd at_y loc sw hi bo hg ht (fun s H C cl fp => d_fz (hk s H C cl fp)) (fun s H C cl fp => d_fz (he s H C cl fp)) fs).imp fun D σ H h => dc_main hsl h)
end
end PD

/-! PS: reading denotations. -/
namespace PD
open PySem PySem.Spec L2
end PD
namespace PD
open PySem PySem.Spec L2
@[simp] theorem isLck_none : isLck none = false := rfl
@[simp] theorem isLck_dat (d : D) : isLck (some ⟨.dat, d⟩) = false := rfl
@[simp] theorem isLck_own (d : D) : isLck (some ⟨.own, d⟩) = false := rfl
@[simp] theorem isLck_par (d : D) : isLck (some ⟨.par, d⟩) = false := rfl
@[simp] theorem isLck_pfz (d : D) : isLck (some ⟨.pfz, d⟩) = false := rfl
@[simp] theorem leD_i (i j : Int) : leD (.int i) (.int j) = some (.dat (.bl (decide (i ≤ j)))) := rfl
@[simp] theorem ltD_i (i j : Int) : ltD (.int i) (.int j) = some (.dat (.bl (decide (i < j)))) := rfl
@[simp] theorem geD_i (i j : Int) : geD (.int i) (.int j) = some (.dat (.bl (decide (j ≤ i)))) := rfl
@[simp] theorem gtD_i (i j : Int) : gtD (.int i) (.int j) = some (.dat (.bl (decide (j < i)))) := rfl
/-- a slot that holds a shared datum, or nothing yet -/
def od (x : Option D) : Option Sl := x.map fun d => ⟨.dat, d⟩
@[simp] theorem isLck_od (x : Option D) : isLck (od x) = false := by cases x <;> rfl
theorem od_some (d : D) : some (⟨.dat, d⟩ : Sl) = od (some d) := rfl
@[simp] theorem mul_l (i j : Int) (h1 : -18446744073709551616 < i) (h2 : i < 18446744073709551616) : mulD (.int i) (.int j) = some (.dat (.int (i * j))) := by
  have : CMulB i j = true := by unfold CMulB; simp [PD.mK, PD.mVar, PD.m1, PD.m2, PD.mFz, PD.aNil, PD.aCons, PD.looks, PD.look, PD.dats, PD.mB, PD.truth, PD.tB, PD.tT, PD.tAnd, PD.tOr, PD.tNot, PD.mIf, PD.vAnd, PD.vOr, PD.vNot, PD.mCall, PD.sNx, PD.sSeq, PD.sDrop, PD.sIf, PD.ret, PD.sRet, PD.sRetN, PD.storeR, PD.store, PD.gN, PD.gNil, PD.gCons, PD.gT, PD.mut1, PD.setL, PD.gSub, PD.sSet, PD.sAsg, PD.stores, PD.noVar, PD.sPar, PD.items, PD.wSeq, PD.tYes, PD.sFor, PD.frz, PD.mTup, PD.mLst, PD.mChain, PD.mCallR, PD.once, PD.pass, PD.pass1, PD.back, PD.back1, PD.inS, PD.outS, PD.okArg, PD.outs, PD.fnD, PD.noEx, Md.mut, Md.ow, PD.eqD, PD.neD, PD.eqB, PD.eqS, PD.isD, PD.isntD, PD.isNonD, PD.addD, PD.subD, PD.modD, PD.fdivD, PD.negD, PD.keyD, PD.dgetD, PD.lenD, PD.mAdd, PD.ownL, h1, h2]
  simp [PD.mK, PD.mVar, PD.m1, PD.m2, PD.mFz, PD.aNil, PD.aCons, PD.looks, PD.look, PD.dats, PD.mB, PD.truth, PD.tB, PD.tT, PD.tAnd, PD.tOr, PD.tNot, PD.mIf, PD.vAnd, PD.vOr, PD.vNot, PD.mCall, PD.sNx, PD.sSeq, PD.sDrop, PD.sIf, PD.ret, PD.sRet, PD.sRetN, PD.storeR, PD.store, PD.gN, PD.gNil, PD.gCons, PD.gT, PD.mut1, PD.setL, PD.gSub, PD.sSet, PD.sAsg, PD.stores, PD.noVar, PD.sPar, PD.items, PD.wSeq, PD.tYes, PD.sFor, PD.frz, PD.mTup, PD.mLst, PD.mChain, PD.mCallR, PD.once, PD.pass, PD.pass1, PD.back, PD.back1, PD.inS, PD.outS, PD.okArg, PD.outs, PD.fnD, PD.noEx, Md.mut, Md.ow, PD.eqD, PD.neD, PD.eqB, PD.eqS, PD.isD, PD.isntD, PD.isNonD, PD.addD, PD.subD, PD.modD, PD.fdivD, PD.negD, PD.keyD, PD.dgetD, PD.lenD, PD.mAdd, PD.ownL, mulD, this]
@[simp] theorem mul_r (i j : Int) (h1 : -18446744073709551616 < j) (h2 : j < 18446744073709551616) : mulD (.int i) (.int j) = some (.dat (.int (i * j))) := by
  have : CMulB i j = true := by unfold CMulB; simp [PD.mK, PD.mVar, PD.m1, PD.m2, PD.mFz, PD.aNil, PD.aCons, PD.looks, PD.look, PD.dats, PD.mB, PD.truth, PD.tB, PD.tT, PD.tAnd, PD.tOr, PD.tNot, PD.mIf, PD.vAnd, PD.vOr, PD.vNot, PD.mCall, PD.sNx, PD.sSeq, PD.sDrop, PD.sIf, PD.ret, PD.sRet, PD.sRetN, PD.storeR, PD.store, PD.gN, PD.gNil, PD.gCons, PD.gT, PD.mut1, PD.setL, PD.gSub, PD.sSet, PD.sAsg, PD.stores, PD.noVar, PD.sPar, PD.items, PD.wSeq, PD.tYes, PD.sFor, PD.frz, PD.mTup, PD.mLst, PD.mChain, PD.mCallR, PD.once, PD.pass, PD.pass1, PD.back, PD.back1, PD.inS, PD.outS, PD.okArg, PD.outs, PD.fnD, PD.noEx, Md.mut, Md.ow, PD.eqD, PD.neD, PD.eqB, PD.eqS, PD.isD, PD.isntD, PD.isNonD, PD.addD, PD.subD, PD.modD, PD.fdivD, PD.negD, PD.keyD, PD.dgetD, PD.lenD, PD.mAdd, PD.ownL, h1, h2]
  simp [PD.mK, PD.mVar, PD.m1, PD.m2, PD.mFz, PD.aNil, PD.aCons, PD.looks, PD.look, PD.dats, PD.mB, PD.truth, PD.tB, PD.tT, PD.tAnd, PD.tOr, PD.tNot, PD.mIf, PD.vAnd, PD.vOr, PD.vNot, PD.mCall, PD.sNx, PD.sSeq, PD.sDrop, PD.sIf, PD.ret, PD.sRet, PD.sRetN, PD.storeR, PD.store, PD.gN, PD.gNil, PD.gCons, PD.gT, PD.mut1, PD.setL, PD.gSub, PD.sSet, PD.sAsg, PD.stores, PD.noVar, PD.sPar, PD.items, PD.wSeq, PD.tYes, PD.sFor, PD.frz, PD.mTup, PD.mLst, PD.mChain, PD.mCallR, PD.once, PD.pass, PD.pass1, PD.back, PD.back1, PD.inS, PD.outS, PD.okArg, PD.outs, PD.fnD, PD.noEx, Md.mut, Md.ow, PD.eqD, PD.neD, PD.eqB, PD.eqS, PD.isD, PD.isntD, PD.isNonD, PD.addD, PD.subD, PD.modD, PD.fdivD, PD.negD, PD.keyD, PD.dgetD, PD.lenD, PD.mAdd, PD.ownL, mulD, this]
/-- a loop by what holds at each turn -/
theorem forD_inv {g : G} {b : M Fl} (I : Nat → EnD → Prop) : ∀ (ds : List D) (n : Nat) (Γ : EnD), (∀ i d Γ, ds[i]? = some d → I (n + i) Γ → ∃ Γ1 Γ2, g d Γ = .ok () Γ1 ∧ b Γ1 = .ok .nx Γ2 ∧ I (n + i + 1) Γ2) → I n Γ → ∃ Γ', forD g b ds Γ = .ok .nx Γ' ∧ I (n + ds.length) Γ'
  | [], n, Γ, _, h0 => ⟨Γ, rfl, h0⟩
  | x :: xs, n, Γ, h, h0 => by
    obtain ⟨Γ1, Γ2, e1, e2, h1⟩ := h 0 x Γ rfl h0
    obtain ⟨Γ', e3, h3⟩ := forD_inv I xs (n + 1) Γ2 (fun i d Γ hi hI => by
      have := h (i + 1) d Γ (by simpa using hi) (by rw [show n + (i + 1) = n + 1 + i by omega]; exact hI)
      rw [show n + (i + 1) = n + 1 + i by omega] at this
      exact this) h1
    refine ⟨Γ', ?_, by rw [List.length_cons, show n + (xs.length + 1) = n + 1 + xs.length by omega]; exact h3⟩
    simp only [forD, e1, e2, R.bind_ok]
    exact e3
/-- a comprehension that takes all and makes f of each -/
theorem compD_map {g : G} {t : M Bool} {e : M Rv} {vs : List Nat} {f : D → D} {Γ : EnD} : ∀ (ds acc : List D), (∀ x ∈ ds, ∃ Γ1 Γ2 Γ3, g x Γ = .ok () Γ1 ∧ t Γ1 = .ok true Γ2 ∧ mFz e Γ2 = .ok (.dat (f x)) Γ3 ∧ wipeE Γ3 vs = Γ) → compD g t e vs ds acc Γ = .ok (acc ++ ds.map f) Γ
  | [], acc, _ => by simp [PD.mK, PD.mVar, PD.m1, PD.m2, PD.mFz, PD.aNil, PD.aCons, PD.looks, PD.look, PD.dats, PD.mB, PD.truth, PD.tB, PD.tT, PD.tAnd, PD.tOr, PD.tNot, PD.mIf, PD.vAnd, PD.vOr, PD.vNot, PD.mCall, PD.sNx, PD.sSeq, PD.sDrop, PD.sIf, PD.ret, PD.sRet, PD.sRetN, PD.storeR, PD.store, PD.gN, PD.gNil, PD.gCons, PD.gT, PD.mut1, PD.setL, PD.gSub, PD.sSet, PD.sAsg, PD.stores, PD.noVar, PD.sPar, PD.items, PD.wSeq, PD.tYes, PD.sFor, PD.frz, PD.mTup, PD.mLst, PD.mChain, PD.mCallR, PD.once, PD.pass, PD.pass1, PD.back, PD.back1, PD.inS, PD.outS, PD.okArg, PD.outs, PD.fnD, PD.noEx, Md.mut, Md.ow, PD.eqD, PD.neD, PD.eqB, PD.eqS, PD.isD, PD.isntD, PD.isNonD, PD.addD, PD.subD, PD.modD, PD.fdivD, PD.negD, PD.keyD, PD.dgetD, PD.lenD, PD.mAdd, PD.ownL, compD]
  | x :: xs, acc, h => by
    obtain ⟨Γ1, Γ2, Γ3, e1, e2, e3, e4⟩ := h x List.mem_cons_self
    simp only [compD, e1, e2, R.bind_ok, if_pos]
    rw [e3]
    simp only [R.bind_ok]
    rw [e4, compD_map xs (acc ++ [f x]) fun y hy => h y (List.mem_cons_of_mem _ hy)]
    simp [PD.mK, PD.mVar, PD.m1, PD.m2, PD.mFz, PD.aNil, PD.aCons, PD.looks, PD.look, PD.dats, PD.mB, PD.truth, PD.tB, PD.tT, PD.tAnd, PD.tOr, PD.tNot, PD.mIf, PD.vAnd, PD.vOr, PD.vNot, PD.mCall, PD.sNx, PD.sSeq, PD.sDrop, PD.sIf, PD.ret, PD.sRet, PD.sRetN, PD.storeR, PD.store, PD.gN, PD.gNil, PD.gCons, PD.gT, PD.mut1, PD.setL, PD.gSub, PD.sSet, PD.sAsg, PD.stores, PD.noVar, PD.sPar, PD.items, PD.wSeq, PD.tYes, PD.sFor, PD.frz, PD.mTup, PD.mLst, PD.mChain, PD.mCallR, PD.once, PD.pass, PD.pass1, PD.back, PD.back1, PD.inS, PD.outS, PD.okArg, PD.outs, PD.fnD, PD.noEx, Md.mut, Md.ow, PD.eqD, PD.neD, PD.eqB, PD.eqS, PD.isD, PD.isntD, PD.isNonD, PD.addD, PD.subD, PD.modD, PD.fdivD, PD.negD, PD.keyD, PD.dgetD, PD.lenD, PD.mAdd, PD.ownL]
/-- one that takes those that p tells -/
theorem compD_filter {g : G} {t : M Bool} {e : M Rv} {vs : List Nat} {f : D → D} {p : D → Bool} {Γ : EnD} : ∀ (ds acc : List D), (∀ x ∈ ds, ∃ Γ1 Γ2, g x Γ = .ok () Γ1 ∧ t Γ1 = .ok (p x) Γ2 ∧ (p x = true → ∃ Γ3, mFz e Γ2 = .ok (.dat (f x)) Γ3 ∧ wipeE Γ3 vs = Γ) ∧ (p x = false → wipeE Γ2 vs = Γ)) →
    compD g t e vs ds acc Γ = .ok (acc ++ (ds.filter p).map f) Γ
  | [], acc, _ => by simp [PD.mK, PD.mVar, PD.m1, PD.m2, PD.mFz, PD.aNil, PD.aCons, PD.looks, PD.look, PD.dats, PD.mB, PD.truth, PD.tB, PD.tT, PD.tAnd, PD.tOr, PD.tNot, PD.mIf, PD.vAnd, PD.vOr, PD.vNot, PD.mCall, PD.sNx, PD.sSeq, PD.sDrop, PD.sIf, PD.ret, PD.sRet, PD.sRetN, PD.storeR, PD.store, PD.gN, PD.gNil, PD.gCons, PD.gT, PD.mut1, PD.setL, PD.gSub, PD.sSet, PD.sAsg, PD.stores, PD.noVar, PD.sPar, PD.items, PD.wSeq, PD.tYes, PD.sFor, PD.frz, PD.mTup, PD.mLst, PD.mChain, PD.mCallR, PD.once, PD.pass, PD.pass1, PD.back, PD.back1, PD.inS, PD.outS, PD.okArg, PD.outs, PD.fnD, PD.noEx, Md.mut, Md.ow, PD.eqD, PD.neD, PD.eqB, PD.eqS, PD.isD, PD.isntD, PD.isNonD, PD.addD, PD.subD, PD.modD, PD.fdivD, PD.negD, PD.keyD, PD.dgetD, PD.lenD, PD.mAdd, PD.ownL, compD]
  | x :: xs, acc, h => by
    obtain ⟨Γ1, Γ2, e1, e2, h1, h2⟩ := h x List.mem_cons_self
    have ih := fun a => compD_filter (f := f) (p := p) xs a fun y hy => h y (List.mem_cons_of_mem _ hy)
    simp only [compD, e1, e2, R.bind_ok]
    cases hp : p x with
    | true =>
      obtain ⟨Γ3, e3, e4⟩ := h1 hp
      simp only [if_pos]
      rw [e3]
      simp only [R.bind_ok]
      rw [e4, ih]
      simp [PD.mK, PD.mVar, PD.m1, PD.m2, PD.mFz, PD.aNil, PD.aCons, PD.looks, PD.look, PD.dats, PD.mB, PD.truth, PD.tB, PD.tT, PD.tAnd, PD.tOr, PD.tNot, PD.mIf, PD.vAnd, PD.vOr, PD.vNot, PD.mCall, PD.sNx, PD.sSeq, PD.sDrop, PD.sIf, PD.ret, PD.sRet, PD.sRetN, PD.storeR, PD.store, PD.gN, PD.gNil, PD.gCons, PD.gT, PD.mut1, PD.setL, PD.gSub, PD.sSet, PD.sAsg, PD.stores, PD.noVar, PD.sPar, PD.items, PD.wSeq, PD.tYes, PD.sFor, PD.frz, PD.mTup, PD.mLst, PD.mChain, PD.mCallR, PD.once, PD.pass, PD.pass1, PD.back, PD.back1, PD.inS, PD.outS, PD.okArg, PD.outs, PD.fnD, PD.noEx, Md.mut, Md.ow, PD.eqD, PD.neD, PD.eqB, PD.eqS, PD.isD, PD.isntD, PD.isNonD, PD.addD, PD.subD, PD.modD, PD.fdivD, PD.negD, PD.keyD, PD.dgetD, PD.lenD, PD.mAdd, PD.ownL, List.filter_cons, hp]
    | false =>
      simp only [Bool.false_eq_true, if_false]
      rw [h2 hp, ih]
      simp [PD.mK, PD.mVar, PD.m1, PD.m2, PD.mFz, PD.aNil, PD.aCons, PD.looks, PD.look, PD.dats, PD.mB, PD.truth, PD.tB, PD.tT, PD.tAnd, PD.tOr, PD.tNot, PD.mIf, PD.vAnd, PD.vOr, PD.vNot, PD.mCall, PD.sNx, PD.sSeq, PD.sDrop, PD.sIf, PD.ret, PD.sRet, PD.sRetN, PD.storeR, PD.store, PD.gN, PD.gNil, PD.gCons, PD.gT, PD.mut1, PD.setL, PD.gSub, PD.sSet, PD.sAsg, PD.stores, PD.noVar, PD.sPar, PD.items, PD.wSeq, PD.tYes, PD.sFor, PD.frz, PD.mTup, PD.mLst, PD.mChain, PD.mCallR, PD.once, PD.pass, PD.pass1, PD.back, PD.back1, PD.inS, PD.outS, PD.okArg, PD.outs, PD.fnD, PD.noEx, Md.mut, Md.ow, PD.eqD, PD.neD, PD.eqB, PD.eqS, PD.isD, PD.isntD, PD.isNonD, PD.addD, PD.subD, PD.modD, PD.fdivD, PD.negD, PD.keyD, PD.dgetD, PD.lenD, PD.mAdd, PD.ownL, List.filter_cons, hp]
/-- few different numbers -/
theorem nodup_sub : ∀ {l S : List Int}, l.Nodup → (∀ x ∈ l, x ∈ S) → l.length ≤ S.length
  | [], _, _, _ => Nat.zero_le _
  | x :: l, S, nd, h => by
    obtain ⟨n1, n2⟩ := List.nodup_cons.mp nd
    have hx : x ∈ S := h x List.mem_cons_self
    have := nodup_sub (l := l) (S := S.erase x) n2 fun y hy => (List.mem_erase_of_ne (fun z => n1 (by rw [← z]; exact hy))).mpr (h y (List.mem_cons_of_mem _ hy))
    rw [List.length_erase_of_mem hx] at this
    have : 0 < S.length := List.length_pos_of_mem hx
    rw [List.length_cons]
    omega
theorem dd_le (l : List Int) : (dd l).length ≤ l.length := nodup_sub (dd_nodup l) fun _ h => dd_mem.mp h
end PD
namespace PD
open PySem PySem.Spec L2
theorem seq_nx {a b : M Fl} {Γ Γ' : EnD} (h : a Γ = .ok .nx Γ') : sSeq a b Γ = b Γ' := by
  unfold sSeq
  rw [h]
  rfl
theorem intsD_map : ∀ (l : List Int), intsD (l.map D.int) = some l
  | [] => rfl
  | i :: l => by simp [PD.mK, PD.mVar, PD.m1, PD.m2, PD.mFz, PD.aNil, PD.aCons, PD.looks, PD.look, PD.dats, PD.mB, PD.truth, PD.tB, PD.tT, PD.tAnd, PD.tOr, PD.tNot, PD.mIf, PD.vAnd, PD.vOr, PD.vNot, PD.mCall, PD.sNx, PD.sSeq, PD.sDrop, PD.sIf, PD.ret, PD.sRet, PD.sRetN, PD.storeR, PD.store, PD.gN, PD.gNil, PD.gCons, PD.gT, PD.mut1, PD.setL, PD.gSub, PD.sSet, PD.sAsg, PD.stores, PD.noVar, PD.sPar, PD.items, PD.wSeq, PD.tYes, PD.sFor, PD.frz, PD.mTup, PD.mLst, PD.mChain, PD.mCallR, PD.once, PD.pass, PD.pass1, PD.back, PD.back1, PD.inS, PD.outS, PD.okArg, PD.outs, PD.fnD, PD.noEx, Md.mut, Md.ow, PD.eqD, PD.neD, PD.eqB, PD.eqS, PD.isD, PD.isntD, PD.isNonD, PD.addD, PD.subD, PD.modD, PD.fdivD, PD.negD, PD.keyD, PD.dgetD, PD.lenD, PD.mAdd, PD.ownL, intsD, intsD_map l]
@[simp] theorem intsD_cut (l : List Int) (n m : Nat) : intsD (List.take n (List.drop m (List.map D.int l))) = some (List.take n (List.drop m l)) := by
  rw [← List.map_drop, ← List.map_take, intsD_map]
theorem of_fn {np n : Nat} {b : M Fl} {ss : List Sl} {r : Rv} {Γ' : EnD} (hl : ss.length = np) (ho : ss.all okArg = true) (h : b (ss.map inS ++ List.replicate (n - np) none) = .ok (.rt r) Γ') : noEx (fnD np n b) ss = .ok r (outs np Γ') := by
  unfold noEx fnD
  rw [if_pos ⟨hl, ho⟩, h]
theorem of_fn0 {np n : Nat} {b : M Fl} {ss : List Sl} {Γ' : EnD} (hl : ss.length = np) (ho : ss.all okArg = true) (h : b (ss.map inS ++ List.replicate (n - np) none) = .ok .nx Γ') : noEx (fnD np n b) ss = .ok (.dat .non) (outs np Γ') := by
  unfold noEx fnD
  rw [if_pos ⟨hl, ho⟩, h]
end PD

noncomputable section
namespace Lk41
open PySem PySem.Spec L2 PD
def topS (i : Nat) : Stmt := PySem.Challenge.pw_fuseboards_k41_by_whom_faults_are_broken.main.body.getD i (.Pass ⟨0, 0, 0, 0⟩)
/-- what the top has left -/
structure Tx (K : PySem.W.Frag) (mg : Str → Option Value) (w : Wd) : Prop where
  hK : w.K = K
  n_abs : mg "abs" = none
  n_all : mg "all" = none
  n_bool : mg "bool" = none
  n_divmod : mg "divmod" = none
  n_enumerate : mg "enumerate" = none
  n_int : mg "int" = none
  n_isinstance : mg "isinstance" = none
  n_len : mg "len" = none
  n_max : mg "max" = none
  n_min : mg "min" = none
  n_range : mg "range" = none
  n_repr : mg "repr" = none
  n_set : mg "set" = none
  n_sorted : mg "sorted" = none
  n_sum : mg "sum" = none
  n_tuple : mg "tuple" = none
  n_zip : mg "zip" = none
  g_MOST_AMPS : ∃ t, mg "MOST_AMPS" = some (.int 99 t)
  g_MOST_CURRENT : ∃ t, mg "MOST_CURRENT" = some (.int 999 t)
  g_MOST_LONG : ∃ t, mg "MOST_LONG" = some (.int 2 t)
  g_MOST_STEPS : ∃ t, mg "MOST_STEPS" = some (.int 3 t)
  g_MOST_SWITCHES : ∃ t, mg "MOST_SWITCHES" = some (.int 7 t)
  g_MOST_THINGS : ∃ t, mg "MOST_THINGS" = some (.int 5 t)
  g_MOST_TICKS : ∃ t, mg "MOST_TICKS" = some (.int 5 t)
  g_STOP : ∃ t, mg "STOP" = some (.int 3 t)
  c_Board : mg "Board" = some (.ref (w.adr 0))
  k_Board : Cls K (w.adr 0)
  isi : ∀ c ∈ [0], C8.InsC K (w.adr c)
  a_switches : NoAttr K (w.adr 0) "switches"
  a_things : NoAttr K (w.adr 0) "things"
/-! ### _law_pool -/
abbrev s__law_pool : Stmt := topS 47
theorem sc__law_pool : FnScope ["script", "k", "wide", "each", "cell", "mixed"] ["script", "k"] (defScope s__law_pool) := ⟨rfl, rfl, rfl, by decide +kernel, rfl, by decide +kernel, by decide +kernel⟩
def B__law_pool : M Fl := (sSeq (sPar [4, 5] (aCons (mB sumD (aCons (mSl (mVar 0) (some (mVar 1)) (some (mAdd (mVar 1) (mK (.int 1))))) aNil)) (aCons (mAdd (mK (.int 50021)) (m2 mulD (mK (.int 977)) (mVar 1))) aNil)))
  (sSeq (PD.sSet 2 (m2 mulD (m2 mulD (m2 mulD (m2 mulD (m2 mulD (m2 powD (mK (.int 10)) (mK (.int 64))) (m2 powD (mK (.int 10)) (mK (.int 64)))) (m2 powD (mK (.int 10)) (mK (.int 64)))) (m2 powD (mK (.int 10)) (mK (.int 64)))) (m2 powD (mK (.int 10)) (mK (.int 64)))) (m2 powD (mK (.int 10)) (mK (.int 64)))))
  (sSeq (PD.sFor (wSeq (mSl (mVar 0) none (some (mK (.int 12))))) (gN 3) (PD.sSet 5 (m2 modD (mAdd (mAdd (m2 mulD (mVar 5) (mK (.int 48271))) (m2 mulD (m2 modD (mVar 3) (mK (.int 2147483399))) (mK (.int 19)))) (mK (.int 7))) (mK (.int 2147483399)))))
  (PD.sRet (mLst (aCons (mIf (PD.tOr (PD.tB (m2 ltD (mVar 4) (mK (.int 0)))) (PD.tB (m2 geD (mVar 4) (m2 powD (mK (.int 10)) (mK (.int 18)))))) (m2 modD (mB absD (aCons (mVar 4) aNil)) (mVar 2)) (mK (.int 0))) (aCons (mFz (mVar 5)) (aCons (mK (.int 0)) aNil))))))))
def F__law_pool : FS := noEx (fnD 2 6 B__law_pool)
theorem g__law_pool {P : Program} {wd : World} {K : PySem.W.Frag} {mg : Str → Option Value} {base : Heap} {w : Wd} {f : Addr} {fd : FuncData} (T : Tx K mg w) (Fu : FunR K "_law_pool" "_law_pool" s__law_pool f fd) : FnG P wd K mg base 1 f fd ["script", "k"] (spF w 2 F__law_pool) := by
  have nd := (sc__law_pool).nd
  have hK := T.hK
  subst hK
  exact mk0 (k := 0) (N := ["script", "k", "wide", "each", "cell", "mixed"]) (ps := ["script", "k"]) (b := B__law_pool) Fu sc__law_pool fun cdv A outer s H hr gd hcc => (s_cons (s_par2 (ps_par (i := 4) (j := 5) rfl nd rfl rfl (by decide) rfl rfl (l_cons (d_cb (o_sum rfl) (cr_sum rfl) (by rfl) T.n_sum PyProof.Rows.boot_sum (l_cons (d_slice rfl (d_var (pv 0)) (.of (d_var (pv 1))) (.of (d_add rfl (d_var (pv 1)) d_int))) l_nil)) (l_cons (d_add rfl d_int (d_bin o_mul (OpR.or op_mul op_mulX) d_int (d_var (pv 1)))) l_nil)) (by rfl)))
    (s_cons (PD.s_set (i := 2) (ps_set nd rfl (by first | exact .inl rfl | exact .inr rfl) (d_bin o_mul (OpR.or op_mul op_mulX) (d_bin o_mul (OpR.or op_mul op_mulX) (d_bin o_mul (OpR.or op_mul op_mulX) (d_bin o_mul (OpR.or op_mul op_mulX) (d_bin o_mul (OpR.or op_mul op_mulX) (d_bin o_pow op_pow d_int d_int) (d_bin o_pow op_pow d_int d_int)) (d_bin o_pow op_pow d_int d_int)) (d_bin o_pow op_pow d_int d_int)) (d_bin o_pow op_pow d_int d_int)) (d_bin o_pow op_pow d_int d_int))))
    (s_cons (s_for own_cx rfl (w_seq rfl (d_slice rfl (d_var (pv 0)) .no (.of d_int))) (g_name (pg_name (i := 3) nd rfl (by first | exact .inl rfl | exact .inr rfl))) (s_one (PD.s_set (i := 5) (ps_set nd rfl (by first | exact .inl rfl | exact .inr rfl) (d_bin o_mod op_mod (d_add rfl (d_add rfl (d_bin o_mul (OpR.or op_mul op_mulX) (d_var (pv 5)) d_int) (d_bin o_mul (OpR.or op_mul op_mulX) (d_bin o_mod op_mod (d_var (pv 3)) d_int) d_int)) d_int) d_int)))))
    (s_one (s_ret (d_lst (l_cons (d_if (L2.PW.pt (d_or (d_tcmp o_lt op_lt (d_var (pv 4)) d_int (nomark _)) (d_or1 (d_tcmp o_ge op_ge (d_var (pv 4)) (d_bin o_pow op_pow d_int d_int) (nomark _))))) (d_bin o_mod op_mod (d_cb (o_abs) (call_abs) (by rfl) T.n_abs PyProof.Rows.boot_abs (l_cons (d_var (pv 4)) l_nil)) (d_var (pv 2))) d_int) (l_cons (d_fz (d_var (pv 5))) (l_cons d_int l_nil)))))))))
theorem ok__law_pool {P : Program} {wd : World} {K : PySem.W.Frag} {mg : Str → Option Value} {base : Heap} {w : Wd} {f : Addr} {fd : FuncData} (T : Tx K mg w) (Fu : Fun K "_law_pool" "_law_pool" s__law_pool f fd) (hm : mg "_law_pool" = some (.ref f)) : Ok P wd K mg base w 1 "_law_pool" s__law_pool ["script", "k"] F__law_pool :=
  ⟨⟨f, fd, g__law_pool T (FunR.of Fu), hm, Fu, Fu.binds fun _ _ _ _ _ _ us hl => match us, hl with | [_, _], _ => rfl⟩, noEx_len⟩
/-! ### _law_take -/
abbrev s__law_take : Stmt := topS 48
theorem sc__law_take : FnScope ["pool", "many", "stirred", "digit"] ["pool", "many"] (defScope s__law_take) := ⟨rfl, rfl, rfl, by decide +kernel, rfl, by decide +kernel, by decide +kernel⟩
def B__law_take : M Fl := (sSeq (PD.sIf (PD.tB (m2 gtD (m2 ixD (mVar 0) (mK (.int 0))) (mK (.int 0)))) (sSeq (sAsg (gT 2 (PD.gCons (PD.gSub setL 0 (mK (.int 0))) (PD.gCons (gN 3) PD.gNil))) (mB dvmD (aCons (m2 ixD (mVar 0) (mK (.int 0))) (aCons (mVar 1) aNil))))
  (PD.sRet (mVar 3))) sNx)
  (sSeq (sAsg (PD.gSub setL 0 (mK (.int 2))) (mFz (mAdd (m2 ixD (mVar 0) (mK (.int 2))) (mK (.int 1)))))
  (sSeq (PD.sSet 2 (m2 modD (mAdd (m2 ixD (mVar 0) (mK (.int 1))) (m2 mulD (mK (.int 28657)) (m2 ixD (mVar 0) (mK (.int 2))))) (mK (.int 2147483399))))
  (sSeq (sAsg (PD.gSub setL 0 (mK (.int 1))) (m2 modD (mAdd (m2 mulD (mVar 2) (mAdd (m2 modD (mVar 2) (mK (.int 5003))) (mK (.int 48271)))) (m2 mulD (mK (.int 17)) (m2 ixD (mVar 0) (mK (.int 2))))) (mK (.int 2147483399))))
  (PD.sRet (m2 modD (m2 fdivD (m2 ixD (mVar 0) (mK (.int 1))) (mK (.int 613))) (mVar 1)))))))
def F__law_take : FS := noEx (fnD 2 4 B__law_take)
theorem g__law_take {P : Program} {wd : World} {K : PySem.W.Frag} {mg : Str → Option Value} {base : Heap} {w : Wd} {f : Addr} {fd : FuncData} (T : Tx K mg w) (Fu : FunR K "_law_take" "_law_take" s__law_take f fd) : FnG P wd K mg base 1 f fd ["pool", "many"] (spF w 2 F__law_take) := by
  have nd := (sc__law_take).nd
  have hK := T.hK
  subst hK
  exact mk0 (k := 0) (N := ["pool", "many", "stirred", "digit"]) (ps := ["pool", "many"]) (b := B__law_take) Fu sc__law_take fun cdv A outer s H hr gd hcc => (s_cons (s_if (d_tcmp o_gt op_gt (d_ix rfl (d_var (pv 0)) d_int) d_int (nomark _)) (s_cons (s_asg (ps_asg (d_cb (o_dvm) (call_divmod) (by rfl) T.n_divmod PyProof.Rows.boot_divmod (l_cons (d_ix rfl (d_var (pv 0)) d_int) (l_cons (d_var (pv 1)) l_nil))) (g_tup rfl rfl (g_cons (g_sub setL_ok (L2.pg_sub (pv 0) d_int set_list (fun _ => rfl))) (g_cons (g_name (pg_name (i := 3) nd rfl (by first | exact .inl rfl | exact .inr rfl))) g_nil)))))
    (s_one (s_ret (d_var (pv 3))))) s_nil)
    (s_cons (s_asg (ps_asg (d_fz (d_add rfl (d_ix rfl (d_var (pv 0)) d_int) d_int)) (g_sub setL_ok (L2.pg_sub (pv 0) d_int set_list (fun _ => rfl)))))
    (s_cons (PD.s_set (i := 2) (ps_set nd rfl (by first | exact .inl rfl | exact .inr rfl) (d_bin o_mod op_mod (d_add rfl (d_ix rfl (d_var (pv 0)) d_int) (d_bin o_mul (OpR.or op_mul op_mulX) d_int (d_ix rfl (d_var (pv 0)) d_int))) d_int)))
    (s_cons (s_asg (ps_asg (d_bin o_mod op_mod (d_add rfl (d_bin o_mul (OpR.or op_mul op_mulX) (d_var (pv 2)) (d_add rfl (d_bin o_mod op_mod (d_var (pv 2)) d_int) d_int)) (d_bin o_mul (OpR.or op_mul op_mulX) d_int (d_ix rfl (d_var (pv 0)) d_int))) d_int) (g_sub setL_ok (L2.pg_sub (pv 0) d_int set_list (fun _ => rfl)))))
    (s_one (s_ret (d_bin o_mod op_mod (d_bin o_fdiv op_fdiv (d_ix rfl (d_var (pv 0)) d_int) d_int) (d_var (pv 1)))))))))
theorem ok__law_take {P : Program} {wd : World} {K : PySem.W.Frag} {mg : Str → Option Value} {base : Heap} {w : Wd} {f : Addr} {fd : FuncData} (T : Tx K mg w) (Fu : Fun K "_law_take" "_law_take" s__law_take f fd) (hm : mg "_law_take" = some (.ref f)) : Ok P wd K mg base w 1 "_law_take" s__law_take ["pool", "many"] F__law_take :=
  ⟨⟨f, fd, g__law_take T (FunR.of Fu), hm, Fu, Fu.binds fun _ _ _ _ _ _ us hl => match us, hl with | [_, _], _ => rfl⟩, noEx_len⟩
/-! ### _law_of -/
abbrev s__law_of : Stmt := topS 49
theorem sc__law_of : FnScope ["pool", "some"] ["pool", "some"] (defScope s__law_of) := ⟨rfl, rfl, rfl, by decide +kernel, rfl, by decide +kernel, by decide +kernel⟩
def B__law_of : M Fl := (PD.sRet (m2 ixD (mVar 1) (mCall F__law_take [] (aCons (mVar 0) (aCons (mB lenD (aCons (mVar 1) aNil)) aNil)))))
def F__law_of : FS := noEx (fnD 2 2 B__law_of)
structure C__law_of (P : Program) (wd : World) (K : PySem.W.Frag) (mg : Str → Option Value) (base : Heap) (w : Wd) : Prop where
  c__law_take : Ok P wd K mg base w 1 "_law_take" s__law_take ["pool", "many"] F__law_take
theorem g__law_of {P : Program} {wd : World} {K : PySem.W.Frag} {mg : Str → Option Value} {base : Heap} {w : Wd} {f : Addr} {fd : FuncData} (T : Tx K mg w) (C : C__law_of P wd K mg base w) (Fu : FunR K "_law_of" "_law_of" s__law_of f fd) : FnG P wd K mg base 2 f fd ["pool", "some"] (spF w 2 F__law_of) := by
  have nd := (sc__law_of).nd
  have hK := T.hK
  subst hK
  exact mk0 (k := 1) (N := ["pool", "some"]) (ps := ["pool", "some"]) (b := B__law_of) Fu sc__law_of fun cdv A outer s H hr gd hcc => (s_one (s_ret (d_ix rfl (d_var (pv 1)) (d_c C.c__law_take hr gd (by decide) (by rfl) (l_cons (d_var (pv 0)) (l_cons (d_cb (o_len rfl) (call_len) (by rfl) T.n_len boot_len (l_cons (d_var (pv 1)) l_nil)) l_nil))))))
theorem ok__law_of {P : Program} {wd : World} {K : PySem.W.Frag} {mg : Str → Option Value} {base : Heap} {w : Wd} {f : Addr} {fd : FuncData} (T : Tx K mg w) (C : C__law_of P wd K mg base w) (Fu : Fun K "_law_of" "_law_of" s__law_of f fd) (hm : mg "_law_of" = some (.ref f)) : Ok P wd K mg base w 2 "_law_of" s__law_of ["pool", "some"] F__law_of :=
  ⟨⟨f, fd, g__law_of T C (FunR.of Fu), hm, Fu, Fu.binds fun _ _ _ _ _ _ us hl => match us, hl with | [_, _], _ => rfl⟩, noEx_len⟩
/-! ### _law_board -/
abbrev s__law_board : Stmt := topS 50
theorem sc__law_board : FnScope ["pool", "most", "k", "turn", "switches", "things", "stop", "amps", "above", "rating", "start", "ticks", "curve"] ["pool", "most"] (defScope s__law_board) := ⟨rfl, rfl, rfl, by decide +kernel, rfl, by decide +kernel, by decide +kernel⟩
def B__law_board : M Fl := (sSeq (sPar [4, 5] (aCons (mLst aNil) (aCons (mLst aNil) aNil)))
  (sSeq (PD.sFor (wRng1 (aCons (mAdd (mK (.int 1)) (mCall F__law_take [] (aCons (mVar 0) (aCons (m2 ixD (mVar 1) (mK (.int 0))) aNil)))) aNil)) (gN 2) (sSeq (sPar [8, 9] (aCons (mIf (PD.tB (m2 eqD (mVar 2) (mK (.int 0)))) (mK .non) (mCall F__law_take [] (aCons (mVar 0) (aCons (mVar 2) aNil)))) (aCons (mAdd (mK (.int 1)) (mCall F__law_take [] (aCons (mVar 0) (aCons (m2 ixD (mVar 1) (mK (.int 1))) aNil)))) aNil)))
  (sSeq (sPar [10, 11, 12] (aCons (mAdd (mVar 9) (mK (.int 1))) (aCons (mCall F__law_of [] (aCons (mVar 0) (aCons (mLst (aCons (mK (.int 5)) (aCons (mK (.int 4)) (aCons (mK (.int 3)) (aCons (mK (.int 2)) (aCons (mK (.int 1)) aNil)))))) aNil))) (aCons (mLst aNil) aNil))))
  (sSeq (sWhile (PD.tAnd (PD.tB (m2 gtD (mVar 11) (mK (.int 0)))) (PD.tB (m2 ltD (mB lenD (aCons (mVar 12) aNil)) (mK (.int 3))))) (sSeq (sDrop (mApp 12 (mTup (aCons (mFz (mVar 10)) (aCons (mFz (mVar 11)) aNil)))))
  (sPar [10, 11] (aCons (mAdd (mAdd (mVar 10) (mK (.int 1))) (mCall F__law_take [] (aCons (mVar 0) (aCons (m2 ixD (mVar 1) (mK (.int 1))) aNil)))) (aCons (m2 subD (m2 subD (mVar 11) (mK (.int 1))) (mCall F__law_take [] (aCons (mVar 0) (aCons (mK (.int 3)) aNil)))) aNil)))))
  (sSeq (PD.sSet 6 (mCall F__law_of [] (aCons (mVar 0) (aCons (mLst (aCons (mK (.int 999)) (aCons (mK (.int 999)) (aCons (mFz (mAdd (m2 ixD (m2 ixD (mVar 12) (m1 negD (mK (.int 1)))) (mK (.int 0))) (mCall F__law_take [] (aCons (mVar 0) (aCons (mK (.int 9)) aNil))))) (aCons (mFz (mAdd (mK (.int 1)) (mCall F__law_take [] (aCons (mVar 0) (aCons (m2 mulD (mK (.int 2)) (m2 ixD (mVar 1) (mK (.int 1)))) aNil))))) aNil))))) aNil))))
  (sDrop (mApp 4 (mTup (aCons (mFz (mVar 8)) (aCons (mFz (mVar 9)) (aCons (mB tupD (aCons (mVar 12) aNil)) (aCons (mB minD (aCons (mK (.int 999)) (aCons (mVar 6) aNil))) aNil))))))))))))
  (sSeq (PD.sFor (wRng1 (aCons (mCall F__law_take [] (aCons (mVar 0) (aCons (mAdd (m2 ixD (mVar 1) (mK (.int 2))) (mK (.int 1))) aNil))) aNil)) (gN 3) (sSeq (PD.sSet 7 (mAdd (mK (.int 1)) (mCall F__law_take [] (aCons (mVar 0) (aCons (mK (.int 5)) aNil)))))
  (sDrop (mApp 5 (mTup (aCons (mFz (mCall F__law_take [] (aCons (mVar 0) (aCons (mB lenD (aCons (mVar 4) aNil)) aNil)))) (aCons (mFz (mVar 7)) (aCons (mFz (mAdd (mVar 7) (mCall F__law_take [] (aCons (mVar 0) (aCons (mK (.int 4)) aNil))))) (aCons (mFz (mCall F__law_take [] (aCons (mVar 0) (aCons (mK (.int 3)) aNil)))) aNil)))))))))
  (PD.sRet (mFz (mDct2 "switches" "things" (mB tupD (aCons (mVar 4) aNil)) (mB tupD (aCons (mVar 5) aNil))))))))
def F__law_board : FS := noEx (fnD 2 13 B__law_board)
structure C__law_board (P : Program) (wd : World) (K : PySem.W.Frag) (mg : Str → Option Value) (base : Heap) (w : Wd) : Prop where
  c__law_take : Ok P wd K mg base w 1 "_law_take" s__law_take ["pool", "many"] F__law_take
  c__law_of : Ok P wd K mg base w 2 "_law_of" s__law_of ["pool", "some"] F__law_of
theorem g__law_board {P : Program} {wd : World} {K : PySem.W.Frag} {mg : Str → Option Value} {base : Heap} {w : Wd} {f : Addr} {fd : FuncData} (T : Tx K mg w) (C : C__law_board P wd K mg base w) (Fu : FunR K "_law_board" "_law_board" s__law_board f fd) : FnG P wd K mg base 3 f fd ["pool", "most"] (spF w 2 F__law_board) := by
  have nd := (sc__law_board).nd
  have hK := T.hK
  subst hK
  exact mk0 (k := 2) (N := ["pool", "most", "k", "turn", "switches", "things", "stop", "amps", "above", "rating", "start", "ticks", "curve"]) (ps := ["pool", "most"]) (b := B__law_board) Fu sc__law_board fun cdv A outer s H hr gd hcc => (s_cons (s_par2 (ps_par (i := 4) (j := 5) rfl nd rfl rfl (by decide) rfl rfl (l_cons (d_lst l_nil) (l_cons (d_lst l_nil) l_nil)) (by rfl)))
    (s_cons (s_for own_cx rfl (w_rng1 (by rfl) T.n_range (l_cons (d_add rfl d_int (d_c C.c__law_take hr gd (by decide) (by rfl) (l_cons (d_var (pv 0)) (l_cons (d_ix rfl (d_var (pv 1)) d_int) l_nil)))) l_nil)) (g_name (pg_name (i := 2) nd rfl (by first | exact .inl rfl | exact .inr rfl))) (s_cons (s_par2 (ps_par (i := 8) (j := 9) rfl nd rfl rfl (by decide) rfl rfl (l_cons (d_if (d_tcmp (o_eq rfl) (OpR.or op_eq (op_eqD hr.units)) (d_var (pv 2)) d_int (nomark _)) d_non (d_c C.c__law_take hr gd (by decide) (by rfl) (l_cons (d_var (pv 0)) (l_cons (d_var (pv 2)) l_nil)))) (l_cons (d_add rfl d_int (d_c C.c__law_take hr gd (by decide) (by rfl) (l_cons (d_var (pv 0)) (l_cons (d_ix rfl (d_var (pv 1)) d_int) l_nil)))) l_nil)) (by rfl)))
    (s_cons (s_par3 (ps_par3 (i := 10) (j := 11) (l := 12) rfl nd rfl rfl rfl (by decide) (by decide) (by decide) rfl rfl rfl (l_cons (d_add rfl (d_var (pv 9)) d_int) (l_cons (d_c C.c__law_of hr gd (by decide) (by rfl) (l_cons (d_var (pv 0)) (l_cons (d_lst (l_cons d_int (l_cons d_int (l_cons d_int (l_cons d_int (l_cons d_int l_nil)))))) l_nil))) (l_cons (d_lst l_nil) l_nil))) (by rfl)))
    (s_cons (s_while own_cx (L2.PW.pt (d_and (d_tcmp o_gt op_gt (d_var (pv 11)) d_int (nomark _)) (d_and1 (d_tcmp o_lt op_lt (d_cb (o_len rfl) (call_len) (by rfl) T.n_len boot_len (l_cons (d_var (pv 12)) l_nil)) d_int (nomark _))))) (s_cons (s_expr (d_app (pv 12) (d_tup (l_cons (d_fz (d_var (pv 10))) (l_cons (d_fz (d_var (pv 11))) l_nil)))))
    (s_one (s_par2 (ps_par (i := 10) (j := 11) rfl nd rfl rfl (by decide) rfl rfl (l_cons (d_add rfl (d_add rfl (d_var (pv 10)) d_int) (d_c C.c__law_take hr gd (by decide) (by rfl) (l_cons (d_var (pv 0)) (l_cons (d_ix rfl (d_var (pv 1)) d_int) l_nil)))) (l_cons (d_bin o_sub op_sub (d_bin o_sub op_sub (d_var (pv 11)) d_int) (d_c C.c__law_take hr gd (by decide) (by rfl) (l_cons (d_var (pv 0)) (l_cons d_int l_nil)))) l_nil)) (by rfl))))))
    (s_cons (PD.s_set (i := 6) (ps_set nd rfl (by first | exact .inl rfl | exact .inr rfl) (d_c C.c__law_of hr gd (by decide) (by rfl) (l_cons (d_var (pv 0)) (l_cons (d_lst (l_cons d_int (l_cons d_int (l_cons (d_fz (d_add rfl (d_ix rfl (d_ix rfl (d_var (pv 12)) (d_un o_neg un_neg d_int)) d_int) (d_c C.c__law_take hr gd (by decide) (by rfl) (l_cons (d_var (pv 0)) (l_cons d_int l_nil))))) (l_cons (d_fz (d_add rfl d_int (d_c C.c__law_take hr gd (by decide) (by rfl) (l_cons (d_var (pv 0)) (l_cons (d_bin o_mul (OpR.or op_mul op_mulX) d_int (d_ix rfl (d_var (pv 1)) d_int)) l_nil))))) l_nil))))) l_nil)))))
    (s_one (s_expr (d_app (pv 4) (d_tup (l_cons (d_fz (d_var (pv 8))) (l_cons (d_fz (d_var (pv 9))) (l_cons (d_ct (o_tuple rfl) (call_tuple_of) (by rfl) T.n_tuple PyProof.Rows.boot_tuple (l_cons (d_var (pv 12)) l_nil)) (l_cons (d_cb (o_min rfl) (PD.CallR.or (call_min2 rfl) (cr_min rfl)) (by rfl) T.n_min PyProof.Rows.boot_min (l_cons d_int (l_cons (d_var (pv 6)) l_nil))) l_nil)))))))))))))
    (s_cons (s_for own_cx rfl (w_rng1 (by rfl) T.n_range (l_cons (d_c C.c__law_take hr gd (by decide) (by rfl) (l_cons (d_var (pv 0)) (l_cons (d_add rfl (d_ix rfl (d_var (pv 1)) d_int) d_int) l_nil))) l_nil)) (g_name (pg_name (i := 3) nd rfl (by first | exact .inl rfl | exact .inr rfl))) (s_cons (PD.s_set (i := 7) (ps_set nd rfl (by first | exact .inl rfl | exact .inr rfl) (d_add rfl d_int (d_c C.c__law_take hr gd (by decide) (by rfl) (l_cons (d_var (pv 0)) (l_cons d_int l_nil))))))
    (s_one (s_expr (d_app (pv 5) (d_tup (l_cons (d_fz (d_c C.c__law_take hr gd (by decide) (by rfl) (l_cons (d_var (pv 0)) (l_cons (d_cb (o_len rfl) (call_len) (by rfl) T.n_len boot_len (l_cons (d_var (pv 4)) l_nil)) l_nil)))) (l_cons (d_fz (d_var (pv 7))) (l_cons (d_fz (d_add rfl (d_var (pv 7)) (d_c C.c__law_take hr gd (by decide) (by rfl) (l_cons (d_var (pv 0)) (l_cons d_int l_nil))))) (l_cons (d_fz (d_c C.c__law_take hr gd (by decide) (by rfl) (l_cons (d_var (pv 0)) (l_cons d_int l_nil)))) l_nil))))))))))
    (s_one (s_ret (d_fz (d_dct2 (by decide) (d_ct (o_tuple rfl) (call_tuple_of) (by rfl) T.n_tuple PyProof.Rows.boot_tuple (l_cons (d_var (pv 4)) l_nil)) (d_ct (o_tuple rfl) (call_tuple_of) (by rfl) T.n_tuple PyProof.Rows.boot_tuple (l_cons (d_var (pv 5)) l_nil)))))))))
theorem ok__law_board {P : Program} {wd : World} {K : PySem.W.Frag} {mg : Str → Option Value} {base : Heap} {w : Wd} {f : Addr} {fd : FuncData} (T : Tx K mg w) (C : C__law_board P wd K mg base w) (Fu : Fun K "_law_board" "_law_board" s__law_board f fd) (hm : mg "_law_board" = some (.ref f)) : Ok P wd K mg base w 3 "_law_board" s__law_board ["pool", "most"] F__law_board :=
  ⟨⟨f, fd, g__law_board T C (FunR.of Fu), hm, Fu, Fu.binds fun _ _ _ _ _ _ us hl => match us, hl with | [_, _], _ => rfl⟩, noEx_len⟩
/-! ### is_row -/
abbrev s_is_row : Stmt := topS 10
theorem sc_is_row : FnScope ["value", "least", "most"] ["value", "least", "most"] (defScope s_is_row) := ⟨rfl, rfl, rfl, by decide +kernel, rfl, by decide +kernel, by decide +kernel⟩
def B_is_row : M Fl := (PD.sRet (vAnd (mB (isiD [0]) (aCons (mVar 0) (aCons (mK (.ty "tuple")) aNil))) (mChain leD leD (mVar 1) (mB lenD (aCons (mVar 0) aNil)) (mVar 2))))
def F_is_row : FS := noEx (fnD 3 3 B_is_row)
theorem g_is_row {P : Program} {wd : World} {K : PySem.W.Frag} {mg : Str → Option Value} {base : Heap} {w : Wd} {f : Addr} {fd : FuncData} (T : Tx K mg w) (Fu : FunR K "is_row" "is_row" s_is_row f fd) : FnG P wd K mg base 1 f fd ["value", "least", "most"] (spF w 3 F_is_row) := by
  have nd := (sc_is_row).nd
  have hK := T.hK
  subst hK
  exact mk0 (k := 0) (N := ["value", "least", "most"]) (ps := ["value", "least", "most"]) (b := B_is_row) Fu sc_is_row fun cdv A outer s H hr gd hcc => (s_one (s_ret (d_vand (d_cb (o_isi rfl T.isi) (call_isi) (by rfl) T.n_isinstance PyProof.Rows.boot_isinstance (l_cons (d_var (pv 0)) (l_cons (d_bty (T := "tuple") (by rfl) T.n_tuple (by decide +kernel)) l_nil))) (d_one (d_chain o_le o_le op_le op_le (d_var (pv 1)) (d_cb (o_len rfl) (call_len) (by rfl) T.n_len boot_len (l_cons (d_var (pv 0)) l_nil)) (d_var (pv 2)))))))
theorem ok_is_row {P : Program} {wd : World} {K : PySem.W.Frag} {mg : Str → Option Value} {base : Heap} {w : Wd} {f : Addr} {fd : FuncData} (T : Tx K mg w) (Fu : Fun K "is_row" "is_row" s_is_row f fd) (hm : mg "is_row" = some (.ref f)) : Ok P wd K mg base w 1 "is_row" s_is_row ["value", "least", "most"] F_is_row :=
  ⟨⟨f, fd, g_is_row T (FunR.of Fu), hm, Fu, Fu.binds fun _ _ _ _ _ _ us hl => match us, hl with | [_, _, _], _ => rfl⟩, noEx_len⟩
/-! ### first_wrong -/
abbrev s_first_wrong : Stmt := topS 11
theorem sc_first_wrong : FnScope ["value", "is_right", "index", "each"] ["value", "is_right"] (defScope s_first_wrong) := ⟨rfl, rfl, rfl, by decide +kernel, rfl, by decide +kernel, by decide +kernel⟩
def H_first_wrong (fn : FS) : M Fl := (sSeq (PD.sFor (wEnum (mVar 0)) (gT 2 (PD.gCons (gN 2) (PD.gCons (gN 3) PD.gNil))) (PD.sIf (PD.tNot (tT (mCallL 1 fn (aCons (mVar 3) (aCons (mSl (mVar 0) none (some (mVar 2))) aNil))))) (PD.sRet (mVar 2)) sNx))
  (PD.sRet (mK .non)))
theorem hbody_first_wrong {P : Program} {wd : World} {K : PySem.W.Frag} {mg : Str → Option Value} {base : Heap} {w w' : Wd} {g k : Nat} {cdv : Value} {A : Around} {outer : List PySem.Env} {s : Shared} {H : Hp} {fn : FS} (T : Tx K mg w) (hK : w'.K = K)
    (hr : Room k (A.deeper (PyProof.Rows.envOfC "first_wrong" (defScope s_first_wrong) s.heap.objs.size g cdv))) (gd : (A.deeper (PyProof.Rows.envOfC "first_wrong" (defScope s_first_wrong) s.heap.objs.size g cdv)).guards = some [])
    (hcall : ∀ {e : Expr} {es : List Expr} {cs : M (List Rv)} {p1 p2 : Pos}, PA (cxOf (L2.CX P wd) P wd K mg base ["value", "is_right", "index", "each"] "first_wrong" (defScope s_first_wrong) g cdv A outer s H (fun _ _ _ => False)) (e :: es) (TL w' W0 cs) →
        starEach (e :: es) (PyProof.Rows.envOfC "first_wrong" (defScope s_first_wrong) s.heap.objs.size g cdv) = (false, eval e (PyProof.Rows.envOfC "first_wrong" (defScope s_first_wrong) s.heap.objs.size g cdv)) :: starEach es (PyProof.Rows.envOfC "first_wrong" (defScope s_first_wrong) s.heap.objs.size g cdv) → (backTo p2 (starEach es (PyProof.Rows.envOfC "first_wrong" (defScope s_first_wrong) s.heap.objs.size g cdv))).any (·.1) = false →
        PE (cxOf (L2.CX P wd) P wd K mg base ["value", "is_right", "index", "each"] "first_wrong" (defScope s_first_wrong) g cdv A outer s H (fun _ _ _ => False)) (.Call (.Name "is_right" p1) (e :: es) [] p2) (PD.T w' W0 (mCallL 1 fn cs))) :
    PSs (cxOf (L2.CX P wd) P wd K mg base ["value", "is_right", "index", "each"] "first_wrong" (defScope s_first_wrong) g cdv A outer s H (fun _ _ _ => False)) (defBody s_first_wrong) (TSt w' W0 (H_first_wrong fn)) := by
  subst hK
  have nd := (sc_first_wrong).nd
  exact (s_cons (s_for own_cx rfl (w_enum rfl (by rfl) T.n_enumerate (d_var (pv 0))) (g_tup rfl rfl (g_cons (g_name (pg_name (i := 2) nd rfl (by first | exact .inl rfl | exact .inr rfl))) (g_cons (g_name (pg_name (i := 3) nd rfl (by first | exact .inl rfl | exact .inr rfl))) g_nil))) (s_one (s_if (d_not (d_tt (hcall (l_cons (d_var (pv 3)) (l_cons (d_slice rfl (d_var (pv 0)) .no (.of (d_var (pv 2)))) l_nil)) (by rfl) (by rfl)) rfl)) (s_one (s_ret (d_var (pv 2)))) s_nil)))
    (s_one (s_ret d_non)))
/-! ### is_tuple_of -/
abbrev s_is_tuple_of : Stmt := topS 9
theorem sc_is_tuple_of : FnScope ["value", "many"] ["value", "many"] (defScope s_is_tuple_of) := ⟨rfl, rfl, rfl, by decide +kernel, rfl, by decide +kernel, by decide +kernel⟩
def B_is_tuple_of : M Fl := (PD.sRet (vAnd (mB (isiD [0]) (aCons (mVar 0) (aCons (mK (.ty "tuple")) aNil))) (m2 eqD (mB lenD (aCons (mVar 0) aNil)) (mVar 1))))
def F_is_tuple_of : FS := noEx (fnD 2 2 B_is_tuple_of)
theorem g_is_tuple_of {P : Program} {wd : World} {K : PySem.W.Frag} {mg : Str → Option Value} {base : Heap} {w : Wd} {f : Addr} {fd : FuncData} (T : Tx K mg w) (Fu : FunR K "is_tuple_of" "is_tuple_of" s_is_tuple_of f fd) : FnG P wd K mg base 1 f fd ["value", "many"] (spF w 2 F_is_tuple_of) := by
  have nd := (sc_is_tuple_of).nd
  have hK := T.hK
  subst hK
  exact mk0 (k := 0) (N := ["value", "many"]) (ps := ["value", "many"]) (b := B_is_tuple_of) Fu sc_is_tuple_of fun cdv A outer s H hr gd hcc => (s_one (s_ret (d_vand (d_cb (o_isi rfl T.isi) (call_isi) (by rfl) T.n_isinstance PyProof.Rows.boot_isinstance (l_cons (d_var (pv 0)) (l_cons (d_bty (T := "tuple") (by rfl) T.n_tuple (by decide +kernel)) l_nil))) (d_one (d_cmp (o_eq rfl) (OpR.or op_eq (op_eqD hr.units)) (d_cb (o_len rfl) (call_len) (by rfl) T.n_len boot_len (l_cons (d_var (pv 0)) l_nil)) (d_var (pv 1)) (nomark _))))))
theorem ok_is_tuple_of {P : Program} {wd : World} {K : PySem.W.Frag} {mg : Str → Option Value} {base : Heap} {w : Wd} {f : Addr} {fd : FuncData} (T : Tx K mg w) (Fu : Fun K "is_tuple_of" "is_tuple_of" s_is_tuple_of f fd) (hm : mg "is_tuple_of" = some (.ref f)) : Ok P wd K mg base w 1 "is_tuple_of" s_is_tuple_of ["value", "many"] F_is_tuple_of :=
  ⟨⟨f, fd, g_is_tuple_of T (FunR.of Fu), hm, Fu, Fu.binds fun _ _ _ _ _ _ us hl => match us, hl with | [_, _], _ => rfl⟩, noEx_len⟩
/-! ### is_whole -/
abbrev s_is_whole : Stmt := topS 7
theorem sc_is_whole : FnScope ["value"] ["value"] (defScope s_is_whole) := ⟨rfl, rfl, rfl, by decide +kernel, rfl, by decide +kernel, by decide +kernel⟩
def B_is_whole : M Fl := (PD.sRet (vAnd (mB (isiD [0]) (aCons (mVar 0) (aCons (mK (.ty "int")) aNil))) (vNot (mB (isiD [0]) (aCons (mVar 0) (aCons (mK (.ty "bool")) aNil))))))
def F_is_whole : FS := noEx (fnD 1 1 B_is_whole)
theorem g_is_whole {P : Program} {wd : World} {K : PySem.W.Frag} {mg : Str → Option Value} {base : Heap} {w : Wd} {f : Addr} {fd : FuncData} (T : Tx K mg w) (Fu : FunR K "is_whole" "is_whole" s_is_whole f fd) : FnG P wd K mg base 1 f fd ["value"] (spF w 1 F_is_whole) := by
  have nd := (sc_is_whole).nd
  have hK := T.hK
  subst hK
  exact mk0 (k := 0) (N := ["value"]) (ps := ["value"]) (b := B_is_whole) Fu sc_is_whole fun cdv A outer s H hr gd hcc => (s_one (s_ret (d_vand (d_cb (o_isi rfl T.isi) (call_isi) (by rfl) T.n_isinstance PyProof.Rows.boot_isinstance (l_cons (d_var (pv 0)) (l_cons (d_bty (T := "int") (by rfl) T.n_int (by decide +kernel)) l_nil))) (d_one (d_vnot (d_cb (o_isi rfl T.isi) (call_isi) (by rfl) T.n_isinstance PyProof.Rows.boot_isinstance (l_cons (d_var (pv 0)) (l_cons (d_bty (T := "bool") (by rfl) T.n_bool (by decide +kernel)) l_nil))))))))
theorem ok_is_whole {P : Program} {wd : World} {K : PySem.W.Frag} {mg : Str → Option Value} {base : Heap} {w : Wd} {f : Addr} {fd : FuncData} (T : Tx K mg w) (Fu : Fun K "is_whole" "is_whole" s_is_whole f fd) (hm : mg "is_whole" = some (.ref f)) : Ok P wd K mg base w 1 "is_whole" s_is_whole ["value"] F_is_whole :=
  ⟨⟨f, fd, g_is_whole T (FunR.of Fu), hm, Fu, Fu.binds fun _ _ _ _ _ _ us hl => match us, hl with | [_], _ => rfl⟩, noEx_len⟩
/-! ### is_between -/
abbrev s_is_between : Stmt := topS 8
theorem sc_is_between : FnScope ["value", "least", "most"] ["value", "least", "most"] (defScope s_is_between) := ⟨rfl, rfl, rfl, by decide +kernel, rfl, by decide +kernel, by decide +kernel⟩
def B_is_between : M Fl := (PD.sRet (vAnd (mCall F_is_whole [] (aCons (mVar 0) aNil)) (mChain leD leD (mVar 1) (mVar 0) (mVar 2))))
def F_is_between : FS := noEx (fnD 3 3 B_is_between)
structure C_is_between (P : Program) (wd : World) (K : PySem.W.Frag) (mg : Str → Option Value) (base : Heap) (w : Wd) : Prop where
  c_is_whole : Ok P wd K mg base w 1 "is_whole" s_is_whole ["value"] F_is_whole
theorem g_is_between {P : Program} {wd : World} {K : PySem.W.Frag} {mg : Str → Option Value} {base : Heap} {w : Wd} {f : Addr} {fd : FuncData} (T : Tx K mg w) (C : C_is_between P wd K mg base w) (Fu : FunR K "is_between" "is_between" s_is_between f fd) : FnG P wd K mg base 2 f fd ["value", "least", "most"] (spF w 3 F_is_between) := by
  have nd := (sc_is_between).nd
  have hK := T.hK
  subst hK
  exact mk0 (k := 1) (N := ["value", "least", "most"]) (ps := ["value", "least", "most"]) (b := B_is_between) Fu sc_is_between fun cdv A outer s H hr gd hcc => (s_one (s_ret (d_vand (d_c C.c_is_whole hr gd (by decide) (by rfl) (l_cons (d_var (pv 0)) l_nil)) (d_one (d_chain o_le o_le op_le op_le (d_var (pv 1)) (d_var (pv 0)) (d_var (pv 2)))))))
theorem ok_is_between {P : Program} {wd : World} {K : PySem.W.Frag} {mg : Str → Option Value} {base : Heap} {w : Wd} {f : Addr} {fd : FuncData} (T : Tx K mg w) (C : C_is_between P wd K mg base w) (Fu : Fun K "is_between" "is_between" s_is_between f fd) (hm : mg "is_between" = some (.ref f)) : Ok P wd K mg base w 2 "is_between" s_is_between ["value", "least", "most"] F_is_between :=
  ⟨⟨f, fd, g_is_between T C (FunR.of Fu), hm, Fu, Fu.binds fun _ _ _ _ _ _ us hl => match us, hl with | [_, _, _], _ => rfl⟩, noEx_len⟩
/-! ### is_step -/
abbrev s_is_step : Stmt := topS 20
theorem sc_is_step : FnScope ["value"] ["value"] (defScope s_is_step) := ⟨rfl, rfl, rfl, by decide +kernel, rfl, by decide +kernel, by decide +kernel⟩
def B_is_step : M Fl := (PD.sRet (vAnd (mCall F_is_tuple_of [] (aCons (mVar 0) (aCons (mK (.int 2)) aNil))) (vAnd (mCall F_is_between [] (aCons (m2 ixD (mVar 0) (mK (.int 0))) (aCons (mK (.int 1)) (aCons (mK (.int 999)) aNil)))) (mCall F_is_between [] (aCons (m2 ixD (mVar 0) (mK (.int 1))) (aCons (mK (.int 1)) (aCons (mK (.int 5)) aNil)))))))
def F_is_step : FS := noEx (fnD 1 1 B_is_step)
structure C_is_step (P : Program) (wd : World) (K : PySem.W.Frag) (mg : Str → Option Value) (base : Heap) (w : Wd) : Prop where
  c_is_between : Ok P wd K mg base w 2 "is_between" s_is_between ["value", "least", "most"] F_is_between
  c_is_tuple_of : Ok P wd K mg base w 1 "is_tuple_of" s_is_tuple_of ["value", "many"] F_is_tuple_of
theorem g_is_step {P : Program} {wd : World} {K : PySem.W.Frag} {mg : Str → Option Value} {base : Heap} {w : Wd} {f : Addr} {fd : FuncData} (T : Tx K mg w) (C : C_is_step P wd K mg base w) (Fu : FunR K "is_step" "is_step" s_is_step f fd) : FnG P wd K mg base 3 f fd ["value"] (spF w 1 F_is_step) := by
  have nd := (sc_is_step).nd
  have hK := T.hK
  subst hK
  exact mk0 (k := 2) (N := ["value"]) (ps := ["value"]) (b := B_is_step) Fu sc_is_step fun cdv A outer s H hr gd hcc => (s_one (s_ret (d_vand (d_c C.c_is_tuple_of hr gd (by decide) (by rfl) (l_cons (d_var (pv 0)) (l_cons d_int l_nil))) (d_vand (d_c C.c_is_between hr gd (by decide) (by rfl) (l_cons (d_ix rfl (d_var (pv 0)) d_int) (l_cons d_int (l_cons (d_gi (by rfl) T.g_MOST_CURRENT) l_nil)))) (d_one (d_c C.c_is_between hr gd (by decide) (by rfl) (l_cons (d_ix rfl (d_var (pv 0)) d_int) (l_cons d_int (l_cons (d_gi (by rfl) T.g_MOST_TICKS) l_nil)))))))))
theorem ok_is_step {P : Program} {wd : World} {K : PySem.W.Frag} {mg : Str → Option Value} {base : Heap} {w : Wd} {f : Addr} {fd : FuncData} (T : Tx K mg w) (C : C_is_step P wd K mg base w) (Fu : Fun K "is_step" "is_step" s_is_step f fd) (hm : mg "is_step" = some (.ref f)) : Ok P wd K mg base w 3 "is_step" s_is_step ["value"] F_is_step :=
  ⟨⟨f, fd, g_is_step T C (FunR.of Fu), hm, Fu, Fu.binds fun _ _ _ _ _ _ us hl => match us, hl with | [_], _ => rfl⟩, noEx_len⟩
/-! ### is_curve -/
abbrev s_is_curve : Stmt := topS 21
theorem sc_is_curve : FnScope ["rating", "value", "one", "other", "step"] ["rating", "value"] (defScope s_is_curve) := ⟨rfl, rfl, rfl, by decide +kernel, rfl, by decide +kernel, by decide +kernel⟩
def B_is_curve : M Fl := (sSeq (PD.sIf (PD.tOr (PD.tNot (tT (mCall F_is_row [] (aCons (mVar 1) (aCons (mK (.int 1)) (aCons (mK (.int 3)) aNil)))))) (PD.tNot (tT (mB allD (aCons (mLc (wSeq (mVar 1)) (gN 4) tYes (mCall F_is_step [] (aCons (mVar 4) aNil)) (List.map (·.2) ([("step", 4)] : List (Str × Nat)))) aNil))))) (PD.sRet (mK (.bl false))) sNx)
  (sSeq (PD.sIf (PD.tB (m2 neD (m2 ixD (m2 ixD (mVar 1) (mK (.int 0))) (mK (.int 0))) (mAdd (mVar 0) (mK (.int 1))))) (PD.sRet (mK (.bl false))) sNx)
  (PD.sRet (mB allD (aCons (mLc (wZip (aCons (mVar 1) (aCons (mSl (mVar 1) (some (mK (.int 1))) none) aNil))) (gT 2 (PD.gCons (gN 2) (PD.gCons (gN 3) PD.gNil))) tYes (vAnd (m2 ltD (m2 ixD (mVar 2) (mK (.int 0))) (m2 ixD (mVar 3) (mK (.int 0)))) (m2 gtD (m2 ixD (mVar 2) (mK (.int 1))) (m2 ixD (mVar 3) (mK (.int 1))))) (List.map (·.2) ([("one", 2), ("other", 3)] : List (Str × Nat)))) aNil)))))
def F_is_curve : FS := noEx (fnD 2 5 B_is_curve)
structure C_is_curve (P : Program) (wd : World) (K : PySem.W.Frag) (mg : Str → Option Value) (base : Heap) (w : Wd) : Prop where
  c_is_row : Ok P wd K mg base w 1 "is_row" s_is_row ["value", "least", "most"] F_is_row
  c_is_step : Ok P wd K mg base w 3 "is_step" s_is_step ["value"] F_is_step
theorem g_is_curve {P : Program} {wd : World} {K : PySem.W.Frag} {mg : Str → Option Value} {base : Heap} {w : Wd} {f : Addr} {fd : FuncData} (T : Tx K mg w) (C : C_is_curve P wd K mg base w) (Fu : FunR K "is_curve" "is_curve" s_is_curve f fd) : FnG P wd K mg base 4 f fd ["rating", "value"] (spF w 2 F_is_curve) := by
  have nd := (sc_is_curve).nd
  have hK := T.hK
  subst hK
  exact mk0 (k := 3) (N := ["rating", "value", "one", "other", "step"]) (ps := ["rating", "value"]) (b := B_is_curve) Fu sc_is_curve fun cdv A outer s H hr gd hcc => (s_cons (s_if (L2.PW.pt (d_or (d_not (d_tt (d_c C.c_is_row hr gd (by decide) (by rfl) (l_cons (d_var (pv 1)) (l_cons d_int (l_cons (d_gi (by rfl) T.g_MOST_STEPS) l_nil)))) rfl)) (d_or1 (d_not (d_tt (d_cb (o_all rfl) (cr_all rfl) (by rfl) T.n_all PyProof.Rows.boot_all (l_cons (d_lc rfl nd (w_seq rfl (d_var (pv 1))) (blkOk_by (N := ["rating", "value", "one", "other", "step"]) (sc := defScope s_is_curve) (own := [("step", 4)]) (by decide +kernel)) (by decide) (fun _ _ _ _ _ => (g_name (pg_name (i := 4) nd rfl (by first | exact .inl rfl | exact .inr rfl)))) (fun _ _ _ _ _ => ts_nil) (fun _ _ _ _ _ => (d_c C.c_is_step hr gd (by decide) (by rfl) (l_cons (d_var (pv 4)) l_nil)))) l_nil)) rfl))))) (s_one (s_ret d_bl)) s_nil)
    (s_cons (s_if (d_tcmp (o_ne rfl) (OpR.or op_ne (op_neD hr.units)) (d_ix rfl (d_ix rfl (d_var (pv 1)) d_int) d_int) (d_add rfl (d_var (pv 0)) d_int) (nomark _)) (s_one (s_ret d_bl)) s_nil)
    (s_one (s_ret (d_cb (o_all rfl) (cr_all rfl) (by rfl) T.n_all PyProof.Rows.boot_all (l_cons (d_lc rfl nd (w_zip rfl (by rfl) T.n_zip (l_cons (d_var (pv 1)) (l_cons (d_slice rfl (d_var (pv 1)) (.of d_int) .no) l_nil))) (blkOk_by (N := ["rating", "value", "one", "other", "step"]) (sc := defScope s_is_curve) (own := [("one", 2), ("other", 3)]) (by decide +kernel)) (by decide) (fun _ _ _ _ _ => (g_tup rfl rfl (g_cons (g_name (pg_name (i := 2) nd rfl (by first | exact .inl rfl | exact .inr rfl))) (g_cons (g_name (pg_name (i := 3) nd rfl (by first | exact .inl rfl | exact .inr rfl))) g_nil)))) (fun _ _ _ _ _ => ts_nil) (fun _ _ _ _ _ => (d_vand (d_cmp o_lt op_lt (d_ix rfl (d_var (pv 2)) d_int) (d_ix rfl (d_var (pv 3)) d_int) (nomark _)) (d_one (d_cmp o_gt op_gt (d_ix rfl (d_var (pv 2)) d_int) (d_ix rfl (d_var (pv 3)) d_int) (nomark _)))))) l_nil))))))
theorem ok_is_curve {P : Program} {wd : World} {K : PySem.W.Frag} {mg : Str → Option Value} {base : Heap} {w : Wd} {f : Addr} {fd : FuncData} (T : Tx K mg w) (C : C_is_curve P wd K mg base w) (Fu : Fun K "is_curve" "is_curve" s_is_curve f fd) (hm : mg "is_curve" = some (.ref f)) : Ok P wd K mg base w 4 "is_curve" s_is_curve ["rating", "value"] F_is_curve :=
  ⟨⟨f, fd, g_is_curve T C (FunR.of Fu), hm, Fu, Fu.binds fun _ _ _ _ _ _ us hl => match us, hl with | [_, _], _ => rfl⟩, noEx_len⟩
/-! ### is_above -/
abbrev s_is_above : Stmt := topS 22
theorem sc_is_above : FnScope ["many", "value"] ["many", "value"] (defScope s_is_above) := ⟨rfl, rfl, rfl, by decide +kernel, rfl, by decide +kernel, by decide +kernel⟩
def B_is_above : M Fl := (PD.sRet (mIf (PD.tB (m2 eqD (mVar 0) (mK (.int 0)))) (m2 isD (mVar 1) (mK .non)) (mCall F_is_between [] (aCons (mVar 1) (aCons (mK (.int 0)) (aCons (m2 subD (mVar 0) (mK (.int 1))) aNil))))))
def F_is_above : FS := noEx (fnD 2 2 B_is_above)
structure C_is_above (P : Program) (wd : World) (K : PySem.W.Frag) (mg : Str → Option Value) (base : Heap) (w : Wd) : Prop where
  c_is_between : Ok P wd K mg base w 2 "is_between" s_is_between ["value", "least", "most"] F_is_between
theorem g_is_above {P : Program} {wd : World} {K : PySem.W.Frag} {mg : Str → Option Value} {base : Heap} {w : Wd} {f : Addr} {fd : FuncData} (T : Tx K mg w) (C : C_is_above P wd K mg base w) (Fu : FunR K "is_above" "is_above" s_is_above f fd) : FnG P wd K mg base 3 f fd ["many", "value"] (spF w 2 F_is_above) := by
  have nd := (sc_is_above).nd
  have hK := T.hK
  subst hK
  exact mk0 (k := 2) (N := ["many", "value"]) (ps := ["many", "value"]) (b := B_is_above) Fu sc_is_above fun cdv A outer s H hr gd hcc => (s_one (s_ret (d_if (d_tcmp (o_eq rfl) (OpR.or op_eq (op_eqD hr.units)) (d_var (pv 0)) d_int (nomark _)) (d_cmp o_is op_isN (d_var (pv 1)) d_non (nomark _)) (d_c C.c_is_between hr gd (by decide) (by rfl) (l_cons (d_var (pv 1)) (l_cons d_int (l_cons (d_bin o_sub op_sub (d_var (pv 0)) d_int) l_nil)))))))
theorem ok_is_above {P : Program} {wd : World} {K : PySem.W.Frag} {mg : Str → Option Value} {base : Heap} {w : Wd} {f : Addr} {fd : FuncData} (T : Tx K mg w) (C : C_is_above P wd K mg base w) (Fu : Fun K "is_above" "is_above" s_is_above f fd) (hm : mg "is_above" = some (.ref f)) : Ok P wd K mg base w 3 "is_above" s_is_above ["many", "value"] F_is_above :=
  ⟨⟨f, fd, g_is_above T C (FunR.of Fu), hm, Fu, Fu.binds fun _ _ _ _ _ _ us hl => match us, hl with | [_, _], _ => rfl⟩, noEx_len⟩
/-! ### is_switch_row -/
abbrev s_is_switch_row : Stmt := topS 23
theorem sc_is_switch_row : FnScope ["many", "value"] ["many", "value"] (defScope s_is_switch_row) := ⟨rfl, rfl, rfl, by decide +kernel, rfl, by decide +kernel, by decide +kernel⟩
def B_is_switch_row : M Fl := (sSeq (PD.sIf (PD.tOr (PD.tNot (tT (mCall F_is_tuple_of [] (aCons (mVar 1) (aCons (mK (.int 4)) aNil))))) (PD.tOr (PD.tNot (tT (mCall F_is_above [] (aCons (mVar 0) (aCons (m2 ixD (mVar 1) (mK (.int 0))) aNil))))) (PD.tNot (tT (mCall F_is_between [] (aCons (m2 ixD (mVar 1) (mK (.int 1))) (aCons (mK (.int 1)) (aCons (mK (.int 99)) aNil)))))))) (PD.sRet (mK (.bl false))) sNx)
  (PD.sRet (vAnd (mCall F_is_curve [] (aCons (m2 ixD (mVar 1) (mK (.int 1))) (aCons (m2 ixD (mVar 1) (mK (.int 2))) aNil))) (mCall F_is_between [] (aCons (m2 ixD (mVar 1) (mK (.int 3))) (aCons (mK (.int 1)) (aCons (mK (.int 999)) aNil)))))))
def F_is_switch_row : FS := noEx (fnD 2 2 B_is_switch_row)
structure C_is_switch_row (P : Program) (wd : World) (K : PySem.W.Frag) (mg : Str → Option Value) (base : Heap) (w : Wd) : Prop where
  c_is_between : Ok P wd K mg base w 2 "is_between" s_is_between ["value", "least", "most"] F_is_between
  c_is_tuple_of : Ok P wd K mg base w 1 "is_tuple_of" s_is_tuple_of ["value", "many"] F_is_tuple_of
  c_is_curve : Ok P wd K mg base w 4 "is_curve" s_is_curve ["rating", "value"] F_is_curve
  c_is_above : Ok P wd K mg base w 3 "is_above" s_is_above ["many", "value"] F_is_above
theorem g_is_switch_row {P : Program} {wd : World} {K : PySem.W.Frag} {mg : Str → Option Value} {base : Heap} {w : Wd} {f : Addr} {fd : FuncData} (T : Tx K mg w) (C : C_is_switch_row P wd K mg base w) (Fu : FunR K "is_switch_row" "is_switch_row" s_is_switch_row f fd) : FnG P wd K mg base 5 f fd ["many", "value"] (spF w 2 F_is_switch_row) := by
  have nd := (sc_is_switch_row).nd
  have hK := T.hK
  subst hK
  exact mk0 (k := 4) (N := ["many", "value"]) (ps := ["many", "value"]) (b := B_is_switch_row) Fu sc_is_switch_row fun cdv A outer s H hr gd hcc => (s_cons (s_if (L2.PW.pt (d_or (d_not (d_tt (d_c C.c_is_tuple_of hr gd (by decide) (by rfl) (l_cons (d_var (pv 1)) (l_cons d_int l_nil))) rfl)) (d_or (d_not (d_tt (d_c C.c_is_above hr gd (by decide) (by rfl) (l_cons (d_var (pv 0)) (l_cons (d_ix rfl (d_var (pv 1)) d_int) l_nil))) rfl)) (d_or1 (d_not (d_tt (d_c C.c_is_between hr gd (by decide) (by rfl) (l_cons (d_ix rfl (d_var (pv 1)) d_int) (l_cons d_int (l_cons (d_gi (by rfl) T.g_MOST_AMPS) l_nil)))) rfl)))))) (s_one (s_ret d_bl)) s_nil)
    (s_one (s_ret (d_vand (d_c C.c_is_curve hr gd (by decide) (by rfl) (l_cons (d_ix rfl (d_var (pv 1)) d_int) (l_cons (d_ix rfl (d_var (pv 1)) d_int) l_nil))) (d_one (d_c C.c_is_between hr gd (by decide) (by rfl) (l_cons (d_ix rfl (d_var (pv 1)) d_int) (l_cons d_int (l_cons (d_gi (by rfl) T.g_MOST_CURRENT) l_nil)))))))))
theorem ok_is_switch_row {P : Program} {wd : World} {K : PySem.W.Frag} {mg : Str → Option Value} {base : Heap} {w : Wd} {f : Addr} {fd : FuncData} (T : Tx K mg w) (C : C_is_switch_row P wd K mg base w) (Fu : Fun K "is_switch_row" "is_switch_row" s_is_switch_row f fd) (hm : mg "is_switch_row" = some (.ref f)) : Ok P wd K mg base w 5 "is_switch_row" s_is_switch_row ["many", "value"] F_is_switch_row :=
  ⟨⟨f, fd, g_is_switch_row T C (FunR.of Fu), hm, Fu, Fu.binds fun _ _ _ _ _ _ us hl => match us, hl with | [_, _], _ => rfl⟩, noEx_len⟩
/-! ### wrong_switch -/
abbrev s_wrong_switch : Stmt := topS 24
theorem sc_wrong_switch : FnScope ["value"] ["value"] (defScope s_wrong_switch) := ⟨rfl, rfl, rfl, by decide +kernel, rfl, by decide +kernel, by decide +kernel⟩
def L_wrong_switch : M Rv := (mCall F_is_switch_row [] (aCons (mB lenD (aCons (mVar 1) aNil)) (aCons (mVar 0) aNil)))
def B_wrong_switch : M Fl := (PD.sRet (mLam (fnL2 4 (H_first_wrong (noEx (fnD 2 2 (sRet L_wrong_switch))))) [] (mVar 0)))
def F_wrong_switch : FS := noEx (fnD 1 1 B_wrong_switch)
structure C_wrong_switch (P : Program) (wd : World) (K : PySem.W.Frag) (mg : Str → Option Value) (base : Heap) (w : Wd) : Prop where
  c_is_switch_row : Ok P wd K mg base w 5 "is_switch_row" s_is_switch_row ["many", "value"] F_is_switch_row
theorem g_wrong_switch {P : Program} {wd : World} {K : PySem.W.Frag} {mg : Str → Option Value} {base : Heap} {w : Wd} {f : Addr} {fd : FuncData} (T : Tx K mg w) (C : C_wrong_switch P wd K mg base w) (Dg : ∃ gg fdg, mg "first_wrong" = some (.ref gg) ∧ Fun K "first_wrong" "first_wrong" s_first_wrong gg fdg ∧ Binds K fdg ["value", "is_right"] []) (hTB : ∃ c PP, fd.code = .ref c ∧ LamX.TabB base mg c PP ∧ (PP, ("wrong_switch.<locals>.<lambda>" : Str)) ∈ w.T ∧ ∀ p ∈ w.T, p.1 = PP → p.2 = ("wrong_switch.<locals>.<lambda>" : Str)) (Fu : FunR K "wrong_switch" "wrong_switch" s_wrong_switch f fd) : FnG P wd K mg base 8 f fd ["value"] (spF w 1 F_wrong_switch) := by
  have nd := (sc_wrong_switch).nd
  have hK := T.hK
  subst hK
  exact mk0 (k := 7) (N := ["value"]) (ps := ["value"]) (b := B_wrong_switch) Fu sc_wrong_switch fun cdv A outer s H hr gd hcc => (s_one (s_ret (by
      obtain ⟨cc, PP, hcd, TB, hmT, huT⟩ := hTB
      obtain ⟨gg, fdg, hmg, Fg, bg⟩ := Dg
      exact d_fw (Ng := ["value", "is_right", "index", "each"]) (NL := ["switch", "ahead"]) (psL := ["switch", "ahead"]) (frL := []) (js := []) (k2 := 5) (cbL := L_wrong_switch) (bodyD := H_first_wrong) T.hK Fg (by rfl) hmg bg sc_first_wrong (by decide) rfl (.inl rfl) TB (by rw [← hcd]; exact hcc.symm) hmT huT hr gd (by decide) rfl
        (fun _ _ _ _ _ us hl => match us, hl with | [_, _], _ => rfl) (NdefX.nscope_by (by decide +kernel)) rfl (show ∀ y ∈ (_ : List (Str × NameKind)), y.2 = NameKind.free → (defScope s_wrong_switch).names.lookup y.1 = some .cell ∨ (defScope s_wrong_switch).names.lookup y.1 = some .free from by decide +kernel) (by decide +kernel) rfl
        (fun f c' cl A outer s H hr gd => (d_c C.c_is_switch_row hr gd (by decide) (by rfl) (l_cons (d_cb (o_len rfl) (call_len) (by rfl) T.n_len boot_len (l_cons (d_var (pv 1)) l_nil)) (l_cons (d_var (pv 0)) l_nil))))
        (fun w' cdv A outer s H hK' hr' gd' hcall => hbody_first_wrong T hK' hr' gd' hcall) (d_var (pv 0)))))
theorem ok_wrong_switch {P : Program} {wd : World} {K : PySem.W.Frag} {mg : Str → Option Value} {base : Heap} {w : Wd} {f : Addr} {fd : FuncData} (T : Tx K mg w) (C : C_wrong_switch P wd K mg base w) (Dg : ∃ gg fdg, mg "first_wrong" = some (.ref gg) ∧ Fun K "first_wrong" "first_wrong" s_first_wrong gg fdg ∧ Binds K fdg ["value", "is_right"] []) (hTB : ∃ c PP, fd.code = .ref c ∧ LamX.TabB base mg c PP ∧ (PP, ("wrong_switch.<locals>.<lambda>" : Str)) ∈ w.T ∧ ∀ p ∈ w.T, p.1 = PP → p.2 = ("wrong_switch.<locals>.<lambda>" : Str)) (Fu : Fun K "wrong_switch" "wrong_switch" s_wrong_switch f fd) (hm : mg "wrong_switch" = some (.ref f)) : Ok P wd K mg base w 8 "wrong_switch" s_wrong_switch ["value"] F_wrong_switch :=
  ⟨⟨f, fd, g_wrong_switch T C Dg hTB (FunR.of Fu), hm, Fu, Fu.binds fun _ _ _ _ _ _ us hl => match us, hl with | [_], _ => rfl⟩, noEx_len⟩
/-! ### check_switches -/
abbrev s_check_switches : Stmt := topS 27
theorem sc_check_switches : FnScope ["switches", "wrong"] ["switches"] (defScope s_check_switches) := ⟨rfl, rfl, rfl, by decide +kernel, rfl, by decide +kernel, by decide +kernel⟩
def B_check_switches : M Fl := (sSeq (PD.sSet 1 (mIf (tT (mCall F_is_row [] (aCons (mVar 0) (aCons (mK (.int 1)) (aCons (mK (.int 7)) aNil))))) (mCall F_wrong_switch [] (aCons (mVar 0) aNil)) (mK .non)))
  (PD.sIf (PD.tOr (PD.tNot (tT (mCall F_is_row [] (aCons (mVar 0) (aCons (mK (.int 1)) (aCons (mK (.int 7)) aNil)))))) (PD.tB (m2 isntD (mVar 1) (mK .non)))) (fun _ => .no) sNx))
def F_check_switches : FS := noEx (fnD 1 2 B_check_switches)
structure C_check_switches (P : Program) (wd : World) (K : PySem.W.Frag) (mg : Str → Option Value) (base : Heap) (w : Wd) : Prop where
  c_is_row : Ok P wd K mg base w 1 "is_row" s_is_row ["value", "least", "most"] F_is_row
  c_wrong_switch : Ok P wd K mg base w 8 "wrong_switch" s_wrong_switch ["value"] F_wrong_switch
theorem g_check_switches {P : Program} {wd : World} {K : PySem.W.Frag} {mg : Str → Option Value} {base : Heap} {w : Wd} {f : Addr} {fd : FuncData} (T : Tx K mg w) (C : C_check_switches P wd K mg base w) (Fu : FunR K "check_switches" "check_switches" s_check_switches f fd) : FnG P wd K mg base 9 f fd ["switches"] (spF w 1 F_check_switches) := by
  have nd := (sc_check_switches).nd
  have hK := T.hK
  subst hK
  exact mk0 (k := 8) (N := ["switches", "wrong"]) (ps := ["switches"]) (b := B_check_switches) Fu sc_check_switches fun cdv A outer s H hr gd hcc => (s_cons (PD.s_set (i := 1) (ps_set nd rfl (by first | exact .inl rfl | exact .inr rfl) (d_if (d_tt (d_c C.c_is_row hr gd (by decide) (by rfl) (l_cons (d_var (pv 0)) (l_cons d_int (l_cons (d_gi (by rfl) T.g_MOST_SWITCHES) l_nil)))) rfl) (d_c C.c_wrong_switch hr gd (by decide) (by rfl) (l_cons (d_var (pv 0)) l_nil)) d_non)))
    (s_one (s_if (L2.PW.pt (d_or (d_not (d_tt (d_c C.c_is_row hr gd (by decide) (by rfl) (l_cons (d_var (pv 0)) (l_cons d_int (l_cons (d_gi (by rfl) T.g_MOST_SWITCHES) l_nil)))) rfl)) (d_or1 (d_tcmp o_isnt op_notN (d_var (pv 1)) d_non (nomark _))))) (s_one s_never) s_nil)))
theorem ok_check_switches {P : Program} {wd : World} {K : PySem.W.Frag} {mg : Str → Option Value} {base : Heap} {w : Wd} {f : Addr} {fd : FuncData} (T : Tx K mg w) (C : C_check_switches P wd K mg base w) (Fu : Fun K "check_switches" "check_switches" s_check_switches f fd) (hm : mg "check_switches" = some (.ref f)) : Ok P wd K mg base w 9 "check_switches" s_check_switches ["switches"] F_check_switches :=
  ⟨⟨f, fd, g_check_switches T C (FunR.of Fu), hm, Fu, Fu.binds fun _ _ _ _ _ _ us hl => match us, hl with | [_], _ => rfl⟩, noEx_len⟩
/-! ### is_thing_row -/
abbrev s_is_thing_row : Stmt := topS 25
theorem sc_is_thing_row : FnScope ["many", "value"] ["many", "value"] (defScope s_is_thing_row) := ⟨rfl, rfl, rfl, by decide +kernel, rfl, by decide +kernel, by decide +kernel⟩
def B_is_thing_row : M Fl := (sSeq (PD.sIf (PD.tOr (PD.tNot (tT (mCall F_is_tuple_of [] (aCons (mVar 1) (aCons (mK (.int 4)) aNil))))) (PD.tOr (PD.tNot (tT (mCall F_is_between [] (aCons (m2 ixD (mVar 1) (mK (.int 0))) (aCons (mK (.int 0)) (aCons (m2 subD (mVar 0) (mK (.int 1))) aNil)))))) (PD.tNot (tT (mCall F_is_between [] (aCons (m2 ixD (mVar 1) (mK (.int 1))) (aCons (mK (.int 1)) (aCons (mK (.int 99)) aNil)))))))) (PD.sRet (mK (.bl false))) sNx)
  (PD.sRet (vAnd (mCall F_is_between [] (aCons (m2 ixD (mVar 1) (mK (.int 2))) (aCons (m2 ixD (mVar 1) (mK (.int 1))) (aCons (mK (.int 99)) aNil)))) (mCall F_is_between [] (aCons (m2 ixD (mVar 1) (mK (.int 3))) (aCons (mK (.int 0)) (aCons (mK (.int 2)) aNil)))))))
def F_is_thing_row : FS := noEx (fnD 2 2 B_is_thing_row)
structure C_is_thing_row (P : Program) (wd : World) (K : PySem.W.Frag) (mg : Str → Option Value) (base : Heap) (w : Wd) : Prop where
  c_is_between : Ok P wd K mg base w 2 "is_between" s_is_between ["value", "least", "most"] F_is_between
  c_is_tuple_of : Ok P wd K mg base w 1 "is_tuple_of" s_is_tuple_of ["value", "many"] F_is_tuple_of
theorem g_is_thing_row {P : Program} {wd : World} {K : PySem.W.Frag} {mg : Str → Option Value} {base : Heap} {w : Wd} {f : Addr} {fd : FuncData} (T : Tx K mg w) (C : C_is_thing_row P wd K mg base w) (Fu : FunR K "is_thing_row" "is_thing_row" s_is_thing_row f fd) : FnG P wd K mg base 3 f fd ["many", "value"] (spF w 2 F_is_thing_row) := by
  have nd := (sc_is_thing_row).nd
  have hK := T.hK
  subst hK
  exact mk0 (k := 2) (N := ["many", "value"]) (ps := ["many", "value"]) (b := B_is_thing_row) Fu sc_is_thing_row fun cdv A outer s H hr gd hcc => (s_cons (s_if (L2.PW.pt (d_or (d_not (d_tt (d_c C.c_is_tuple_of hr gd (by decide) (by rfl) (l_cons (d_var (pv 1)) (l_cons d_int l_nil))) rfl)) (d_or (d_not (d_tt (d_c C.c_is_between hr gd (by decide) (by rfl) (l_cons (d_ix rfl (d_var (pv 1)) d_int) (l_cons d_int (l_cons (d_bin o_sub op_sub (d_var (pv 0)) d_int) l_nil)))) rfl)) (d_or1 (d_not (d_tt (d_c C.c_is_between hr gd (by decide) (by rfl) (l_cons (d_ix rfl (d_var (pv 1)) d_int) (l_cons d_int (l_cons (d_gi (by rfl) T.g_MOST_AMPS) l_nil)))) rfl)))))) (s_one (s_ret d_bl)) s_nil)
    (s_one (s_ret (d_vand (d_c C.c_is_between hr gd (by decide) (by rfl) (l_cons (d_ix rfl (d_var (pv 1)) d_int) (l_cons (d_ix rfl (d_var (pv 1)) d_int) (l_cons (d_gi (by rfl) T.g_MOST_AMPS) l_nil)))) (d_one (d_c C.c_is_between hr gd (by decide) (by rfl) (l_cons (d_ix rfl (d_var (pv 1)) d_int) (l_cons d_int (l_cons (d_gi (by rfl) T.g_MOST_LONG) l_nil)))))))))
theorem ok_is_thing_row {P : Program} {wd : World} {K : PySem.W.Frag} {mg : Str → Option Value} {base : Heap} {w : Wd} {f : Addr} {fd : FuncData} (T : Tx K mg w) (C : C_is_thing_row P wd K mg base w) (Fu : Fun K "is_thing_row" "is_thing_row" s_is_thing_row f fd) (hm : mg "is_thing_row" = some (.ref f)) : Ok P wd K mg base w 3 "is_thing_row" s_is_thing_row ["many", "value"] F_is_thing_row :=
  ⟨⟨f, fd, g_is_thing_row T C (FunR.of Fu), hm, Fu, Fu.binds fun _ _ _ _ _ _ us hl => match us, hl with | [_, _], _ => rfl⟩, noEx_len⟩
/-! ### wrong_thing -/
abbrev s_wrong_thing : Stmt := topS 26
theorem sc_wrong_thing : FnScope ["many", "value"] ["many", "value"] (defScope s_wrong_thing) := ⟨rfl, rfl, rfl, by decide +kernel, rfl, by decide +kernel, by decide +kernel⟩
def L_wrong_thing : M Rv := (mCall F_is_thing_row [] (aCons (mVar 2) (aCons (mVar 0) aNil)))
def B_wrong_thing : M Fl := (PD.sRet (mLam (fnL2 4 (H_first_wrong (noEx (fnD 3 3 (sRet L_wrong_thing))))) [0] (mVar 1)))
def F_wrong_thing : FS := noEx (fnD 2 2 B_wrong_thing)
structure C_wrong_thing (P : Program) (wd : World) (K : PySem.W.Frag) (mg : Str → Option Value) (base : Heap) (w : Wd) : Prop where
  c_is_thing_row : Ok P wd K mg base w 3 "is_thing_row" s_is_thing_row ["many", "value"] F_is_thing_row
theorem g_wrong_thing {P : Program} {wd : World} {K : PySem.W.Frag} {mg : Str → Option Value} {base : Heap} {w : Wd} {f : Addr} {fd : FuncData} (T : Tx K mg w) (C : C_wrong_thing P wd K mg base w) (Dg : ∃ gg fdg, mg "first_wrong" = some (.ref gg) ∧ Fun K "first_wrong" "first_wrong" s_first_wrong gg fdg ∧ Binds K fdg ["value", "is_right"] []) (hTB : ∃ c PP, fd.code = .ref c ∧ LamX.TabB base mg c PP ∧ (PP, ("wrong_thing.<locals>.<lambda>" : Str)) ∈ w.T ∧ ∀ p ∈ w.T, p.1 = PP → p.2 = ("wrong_thing.<locals>.<lambda>" : Str)) (Fu : FunR K "wrong_thing" "wrong_thing" s_wrong_thing f fd) : FnG P wd K mg base 6 f fd ["many", "value"] (spF w 2 F_wrong_thing) := by
  have nd := (sc_wrong_thing).nd
  have hK := T.hK
  subst hK
  exact mk0 (k := 5) (N := ["many", "value"]) (ps := ["many", "value"]) (b := B_wrong_thing) Fu sc_wrong_thing fun cdv A outer s H hr gd hcc => (s_one (s_ret (by
      obtain ⟨cc, PP, hcd, TB, hmT, huT⟩ := hTB
      obtain ⟨gg, fdg, hmg, Fg, bg⟩ := Dg
      exact d_fw (Ng := ["value", "is_right", "index", "each"]) (NL := ["thing", "ahead", "many"]) (psL := ["thing", "ahead"]) (frL := ["many"]) (js := [0]) (k2 := 3) (cbL := L_wrong_thing) (bodyD := H_first_wrong) T.hK Fg (by rfl) hmg bg sc_first_wrong (by decide) rfl (.inl rfl) TB (by rw [← hcd]; exact hcc.symm) hmT huT hr gd (by decide) rfl
        (fun _ _ _ _ _ us hl => match us, hl with | [_, _], _ => rfl) (NdefX.nscope_by (by decide +kernel)) rfl (show ∀ y ∈ (_ : List (Str × NameKind)), y.2 = NameKind.free → (defScope s_wrong_thing).names.lookup y.1 = some .cell ∨ (defScope s_wrong_thing).names.lookup y.1 = some .free from by decide +kernel) (by decide +kernel) rfl
        (fun f c' cl A outer s H hr gd => (d_c C.c_is_thing_row hr gd (by decide) (by rfl) (l_cons (d_var (pv 2)) (l_cons (d_var (pv 0)) l_nil))))
        (fun w' cdv A outer s H hK' hr' gd' hcall => hbody_first_wrong T hK' hr' gd' hcall) (d_var (pv 1)))))
theorem ok_wrong_thing {P : Program} {wd : World} {K : PySem.W.Frag} {mg : Str → Option Value} {base : Heap} {w : Wd} {f : Addr} {fd : FuncData} (T : Tx K mg w) (C : C_wrong_thing P wd K mg base w) (Dg : ∃ gg fdg, mg "first_wrong" = some (.ref gg) ∧ Fun K "first_wrong" "first_wrong" s_first_wrong gg fdg ∧ Binds K fdg ["value", "is_right"] []) (hTB : ∃ c PP, fd.code = .ref c ∧ LamX.TabB base mg c PP ∧ (PP, ("wrong_thing.<locals>.<lambda>" : Str)) ∈ w.T ∧ ∀ p ∈ w.T, p.1 = PP → p.2 = ("wrong_thing.<locals>.<lambda>" : Str)) (Fu : Fun K "wrong_thing" "wrong_thing" s_wrong_thing f fd) (hm : mg "wrong_thing" = some (.ref f)) : Ok P wd K mg base w 6 "wrong_thing" s_wrong_thing ["many", "value"] F_wrong_thing :=
  ⟨⟨f, fd, g_wrong_thing T C Dg hTB (FunR.of Fu), hm, Fu, Fu.binds fun _ _ _ _ _ _ us hl => match us, hl with | [_, _], _ => rfl⟩, noEx_len⟩
/-! ### check_things -/
abbrev s_check_things : Stmt := topS 28
theorem sc_check_things : FnScope ["switches", "things", "wrong"] ["switches", "things"] (defScope s_check_things) := ⟨rfl, rfl, rfl, by decide +kernel, rfl, by decide +kernel, by decide +kernel⟩
def B_check_things : M Fl := (sSeq (PD.sSet 2 (mIf (tT (mCall F_is_row [] (aCons (mVar 1) (aCons (mK (.int 0)) (aCons (mK (.int 5)) aNil))))) (mCall F_wrong_thing [] (aCons (mB lenD (aCons (mVar 0) aNil)) (aCons (mVar 1) aNil))) (mK .non)))
  (PD.sIf (PD.tOr (PD.tNot (tT (mCall F_is_row [] (aCons (mVar 1) (aCons (mK (.int 0)) (aCons (mK (.int 5)) aNil)))))) (PD.tB (m2 isntD (mVar 2) (mK .non)))) (fun _ => .no) sNx))
def F_check_things : FS := noEx (fnD 2 3 B_check_things)
structure C_check_things (P : Program) (wd : World) (K : PySem.W.Frag) (mg : Str → Option Value) (base : Heap) (w : Wd) : Prop where
  c_is_row : Ok P wd K mg base w 1 "is_row" s_is_row ["value", "least", "most"] F_is_row
  c_wrong_thing : Ok P wd K mg base w 6 "wrong_thing" s_wrong_thing ["many", "value"] F_wrong_thing
theorem g_check_things {P : Program} {wd : World} {K : PySem.W.Frag} {mg : Str → Option Value} {base : Heap} {w : Wd} {f : Addr} {fd : FuncData} (T : Tx K mg w) (C : C_check_things P wd K mg base w) (Fu : FunR K "check_things" "check_things" s_check_things f fd) : FnG P wd K mg base 7 f fd ["switches", "things"] (spF w 2 F_check_things) := by
  have nd := (sc_check_things).nd
  have hK := T.hK
  subst hK
  exact mk0 (k := 6) (N := ["switches", "things", "wrong"]) (ps := ["switches", "things"]) (b := B_check_things) Fu sc_check_things fun cdv A outer s H hr gd hcc => (s_cons (PD.s_set (i := 2) (ps_set nd rfl (by first | exact .inl rfl | exact .inr rfl) (d_if (d_tt (d_c C.c_is_row hr gd (by decide) (by rfl) (l_cons (d_var (pv 1)) (l_cons d_int (l_cons (d_gi (by rfl) T.g_MOST_THINGS) l_nil)))) rfl) (d_c C.c_wrong_thing hr gd (by decide) (by rfl) (l_cons (d_cb (o_len rfl) (call_len) (by rfl) T.n_len boot_len (l_cons (d_var (pv 0)) l_nil)) (l_cons (d_var (pv 1)) l_nil))) d_non)))
    (s_one (s_if (L2.PW.pt (d_or (d_not (d_tt (d_c C.c_is_row hr gd (by decide) (by rfl) (l_cons (d_var (pv 1)) (l_cons d_int (l_cons (d_gi (by rfl) T.g_MOST_THINGS) l_nil)))) rfl)) (d_or1 (d_tcmp o_isnt op_notN (d_var (pv 2)) d_non (nomark _))))) (s_one s_never) s_nil)))
theorem ok_check_things {P : Program} {wd : World} {K : PySem.W.Frag} {mg : Str → Option Value} {base : Heap} {w : Wd} {f : Addr} {fd : FuncData} (T : Tx K mg w) (C : C_check_things P wd K mg base w) (Fu : Fun K "check_things" "check_things" s_check_things f fd) (hm : mg "check_things" = some (.ref f)) : Ok P wd K mg base w 7 "check_things" s_check_things ["switches", "things"] F_check_things :=
  ⟨⟨f, fd, g_check_things T C (FunR.of Fu), hm, Fu, Fu.binds fun _ _ _ _ _ _ us hl => match us, hl with | [_, _], _ => rfl⟩, noEx_len⟩
/-! ### Board.__init__ -/
abbrev s_Board : Stmt := inClass (topS 29) 0
theorem sc_Board : FnScope ["self", "switches", "things"] ["self", "switches", "things"] (defScope s_Board) := ⟨rfl, rfl, rfl, by decide +kernel, rfl, by decide +kernel, by decide +kernel⟩
def B_Board : M Fl := (sSeq (sDrop (mCall F_check_switches [] (aCons (mVar 1) aNil)))
  (sSeq (sDrop (mCall F_check_things [] (aCons (mVar 1) (aCons (mVar 2) aNil))))
  (sSeq (sFldS 0 "switches" 0 (mVar 1))
  (sFldS 0 "things" 0 (mVar 2)))))
def F_Board : FS := noEx (fnD 3 3 B_Board)
structure C_Board (P : Program) (wd : World) (K : PySem.W.Frag) (mg : Str → Option Value) (base : Heap) (w : Wd) : Prop where
  c_check_switches : Ok P wd K mg base w 9 "check_switches" s_check_switches ["switches"] F_check_switches
  c_check_things : Ok P wd K mg base w 7 "check_things" s_check_things ["switches", "things"] F_check_things
theorem g_Board {P : Program} {wd : World} {K : PySem.W.Frag} {mg : Str → Option Value} {base : Heap} {w : Wd} {f : Addr} {fd : FuncData} (T : Tx K mg w) (C : C_Board P wd K mg base w) (Fu : FunR K "__init__" "Board.__init__" s_Board f fd) : FnG P wd K mg base 10 f fd ["self", "switches", "things"] (spF w 3 F_Board) := by
  have nd := (sc_Board).nd
  have hK := T.hK
  subst hK
  exact mk0 (k := 9) (N := ["self", "switches", "things"]) (ps := ["self", "switches", "things"]) (b := B_Board) Fu sc_Board fun cdv A outer s H hr gd hcc => (s_cons (s_expr (d_c C.c_check_switches hr gd (by decide) (by rfl) (l_cons (d_var (pv 1)) l_nil)))
    (s_cons (s_expr (d_c C.c_check_things hr gd (by decide) (by rfl) (l_cons (d_var (pv 1)) (l_cons (d_var (pv 2)) l_nil))))
    (s_cons (s_fld T.k_Board T.a_switches (pv 0) (d_var (pv 1)) (by rfl))
    (s_one (s_fld T.k_Board T.a_things (pv 0) (d_var (pv 2)) (by rfl))))))
/-! ### _law_made -/
abbrev s__law_made : Stmt := topS 51
theorem sc__law_made : FnScope ["d"] ["d"] (defScope s__law_made) := ⟨rfl, rfl, rfl, by decide +kernel, rfl, by decide +kernel, by decide +kernel⟩
def B__law_made : M Fl := (PD.sRet (mFz (mMake 0 F_Board [] (aCons (m2 dgetD (mVar 0) (mK (.str "switches"))) (aCons (m2 dgetD (mVar 0) (mK (.str "things"))) aNil)))))
def F__law_made : FS := noEx (fnD 1 1 B__law_made)
theorem g__law_made {P : Program} {wd : World} {K : PySem.W.Frag} {mg : Str → Option Value} {base : Heap} {w : Wd} {f : Addr} {fd : FuncData} (T : Tx K mg w) {f_Board : Addr} {fd_Board : FuncData} (G_Board : FnG P wd K mg base 10 f_Board fd_Board ["self", "switches", "things"] (spF w 3 F_Board)) (B_Board_binds : Binds K fd_Board ["self", "switches", "things"] []) (M_Board : Mk K (w.adr 0) f_Board) (Fu : FunR K "_law_made" "_law_made" s__law_made f fd) : FnG P wd K mg base 12 f fd ["d"] (spF w 1 F__law_made) := by
  have nd := (sc__law_made).nd
  have hK := T.hK
  subst hK
  exact mk0 (k := 11) (N := ["d"]) (ps := ["d"]) (b := B__law_made) Fu sc__law_made fun cdv A outer s H hr gd hcc => (s_one (s_ret (d_fz (d_make takes0 M_Board G_Board hr gd (by decide) (by rfl) T.c_Board B_Board_binds .nil (fun _ => .nil) noEx_len (l_cons (d_dget (hu_of hr) (d_var (pv 0)) d_str (fun _ _ => rfl)) (l_cons (d_dget (hu_of hr) (d_var (pv 0)) d_str (fun _ _ => rfl)) l_nil))))))
theorem ok__law_made {P : Program} {wd : World} {K : PySem.W.Frag} {mg : Str → Option Value} {base : Heap} {w : Wd} {f : Addr} {fd : FuncData} (T : Tx K mg w) {f_Board : Addr} {fd_Board : FuncData} (G_Board : FnG P wd K mg base 10 f_Board fd_Board ["self", "switches", "things"] (spF w 3 F_Board)) (B_Board_binds : Binds K fd_Board ["self", "switches", "things"] []) (M_Board : Mk K (w.adr 0) f_Board) (Fu : Fun K "_law_made" "_law_made" s__law_made f fd) (hm : mg "_law_made" = some (.ref f)) : Ok P wd K mg base w 12 "_law_made" s__law_made ["d"] F__law_made :=
  ⟨⟨f, fd, g__law_made T G_Board B_Board_binds M_Board (FunR.of Fu), hm, Fu, Fu.binds fun _ _ _ _ _ _ us hl => match us, hl with | [_], _ => rfl⟩, noEx_len⟩
/-! ### _law_currents -/
abbrev s__law_currents : Stmt := topS 55
theorem sc__law_currents : FnScope ["d", "found", "above", "rating", "curve", "stop", "current", "start", "ticks"] ["d"] (defScope s__law_currents) := ⟨rfl, rfl, rfl, by decide +kernel, rfl, by decide +kernel, by decide +kernel⟩
def B__law_currents : M Fl := (sSeq (PD.sSet 1 (mLst (aCons (mK (.int 1)) (aCons (mK (.int 2)) (aCons (mK (.int 998)) (aCons (mK (.int 999)) aNil))))))
  (sSeq (PD.sFor (wSeq (m2 dgetD (mVar 0) (mK (.str "switches")))) (gT 4 (PD.gCons (gN 2) (PD.gCons (gN 3) (PD.gCons (gN 4) (PD.gCons (gN 5) PD.gNil))))) (sSeq (PD.sSet 1 (mAdd (mAdd (mVar 1) (mLst (aCons (mFz (mVar 3)) (aCons (mFz (mVar 5)) (aCons (mFz (mAdd (mVar 5) (mK (.int 1)))) (aCons (m2 subD (mVar 5) (mK (.int 1))) aNil)))))) (mLc (wSeq (mVar 4)) (gT 2 (PD.gCons (gN 7) (PD.gCons (gN 8) PD.gNil))) tYes (mVar 7) (List.map (·.2) ([("start", 7), ("ticks", 8)] : List (Str × Nat))))))
  (PD.sSet 1 (mAdd (mVar 1) (mLc (wSeq (mVar 4)) (gT 2 (PD.gCons (gN 7) (PD.gCons (gN 8) PD.gNil))) tYes (m2 subD (mVar 7) (mK (.int 1))) (List.map (·.2) ([("start", 7), ("ticks", 8)] : List (Str × Nat))))))))
  (PD.sRet (mLc (wSeq (mB sortSet (aCons (mVar 1) aNil))) (gN 6) (PD.tB (mChain leD leD (mK (.int 1)) (mVar 6) (mK (.int 999)))) (mVar 6) (List.map (·.2) ([("current", 6)] : List (Str × Nat)))))))
def F__law_currents : FS := noEx (fnD 1 9 B__law_currents)
theorem g__law_currents {P : Program} {wd : World} {K : PySem.W.Frag} {mg : Str → Option Value} {base : Heap} {w : Wd} {f : Addr} {fd : FuncData} (T : Tx K mg w) (Fu : FunR K "_law_currents" "_law_currents" s__law_currents f fd) : FnG P wd K mg base 1 f fd ["d"] (spF w 1 F__law_currents) := by
  have nd := (sc__law_currents).nd
  have hK := T.hK
  subst hK
  exact mk0 (k := 0) (N := ["d", "found", "above", "rating", "curve", "stop", "current", "start", "ticks"]) (ps := ["d"]) (b := B__law_currents) Fu sc__law_currents fun cdv A outer s H hr gd hcc => (s_cons (PD.s_set (i := 1) (ps_set nd rfl (by first | exact .inl rfl | exact .inr rfl) (d_lst (l_cons d_int (l_cons d_int (l_cons d_int (l_cons d_int l_nil)))))))
    (s_cons (s_for own_cx rfl (w_seq rfl (d_dget (hu_of hr) (d_var (pv 0)) d_str (fun _ _ => rfl))) (g_tup rfl rfl (g_cons (g_name (pg_name (i := 2) nd rfl (by first | exact .inl rfl | exact .inr rfl))) (g_cons (g_name (pg_name (i := 3) nd rfl (by first | exact .inl rfl | exact .inr rfl))) (g_cons (g_name (pg_name (i := 4) nd rfl (by first | exact .inl rfl | exact .inr rfl))) (g_cons (g_name (pg_name (i := 5) nd rfl (by first | exact .inl rfl | exact .inr rfl))) g_nil))))) (s_cons (PD.s_set (i := 1) (ps_set nd rfl (by first | exact .inl rfl | exact .inr rfl) (d_add rfl (d_add rfl (d_var (pv 1)) (d_lst (l_cons (d_fz (d_var (pv 3))) (l_cons (d_fz (d_var (pv 5))) (l_cons (d_fz (d_add rfl (d_var (pv 5)) d_int)) (l_cons (d_bin o_sub op_sub (d_var (pv 5)) d_int) l_nil)))))) (d_lc rfl nd (w_seq rfl (d_var (pv 4))) (blkOk_by (N := ["d", "found", "above", "rating", "curve", "stop", "current", "start", "ticks"]) (sc := defScope s__law_currents) (own := [("start", 7), ("ticks", 8)]) (by decide +kernel)) (by decide) (fun _ _ _ _ _ => (g_tup rfl rfl (g_cons (g_name (pg_name (i := 7) nd rfl (by first | exact .inl rfl | exact .inr rfl))) (g_cons (g_name (pg_name (i := 8) nd rfl (by first | exact .inl rfl | exact .inr rfl))) g_nil)))) (fun _ _ _ _ _ => ts_nil) (fun _ _ _ _ _ => (d_var (pv 7)))))))
    (s_one (PD.s_set (i := 1) (ps_set nd rfl (by first | exact .inl rfl | exact .inr rfl) (d_add rfl (d_var (pv 1)) (d_lc rfl nd (w_seq rfl (d_var (pv 4))) (blkOk_by (N := ["d", "found", "above", "rating", "curve", "stop", "current", "start", "ticks"]) (sc := defScope s__law_currents) (own := [("start", 7), ("ticks", 8)]) (by decide +kernel)) (by decide) (fun _ _ _ _ _ => (g_tup rfl rfl (g_cons (g_name (pg_name (i := 7) nd rfl (by first | exact .inl rfl | exact .inr rfl))) (g_cons (g_name (pg_name (i := 8) nd rfl (by first | exact .inl rfl | exact .inr rfl))) g_nil)))) (fun _ _ _ _ _ => ts_nil) (fun _ _ _ _ _ => (d_bin o_sub op_sub (d_var (pv 7)) d_int)))))))))
    (s_one (s_ret (d_lc rfl nd (w_seq rfl (pe_sortset rfl (by rfl) T.n_sorted (by rfl) T.n_set (d_var (pv 1)) rfl)) (blkOk_by (N := ["d", "found", "above", "rating", "curve", "stop", "current", "start", "ticks"]) (sc := defScope s__law_currents) (own := [("current", 6)]) (by decide +kernel)) (by decide) (fun _ _ _ _ _ => (g_name (pg_name (i := 6) nd rfl (by first | exact .inl rfl | exact .inr rfl)))) (fun _ _ _ _ _ => (ts_one (d_tchain o_le o_le op_le op_le d_int (d_var (pv 6)) d_int))) (fun _ _ _ _ _ => (d_var (pv 6))))))))
theorem ok__law_currents {P : Program} {wd : World} {K : PySem.W.Frag} {mg : Str → Option Value} {base : Heap} {w : Wd} {f : Addr} {fd : FuncData} (T : Tx K mg w) (Fu : Fun K "_law_currents" "_law_currents" s__law_currents f fd) (hm : mg "_law_currents" = some (.ref f)) : Ok P wd K mg base w 1 "_law_currents" s__law_currents ["d"] F__law_currents :=
  ⟨⟨f, fd, g__law_currents T (FunR.of Fu), hm, Fu, Fu.binds fun _ _ _ _ _ _ us hl => match us, hl with | [_], _ => rfl⟩, noEx_len⟩
/-! ### _law_time -/
abbrev s__law_time : Stmt := topS 52
theorem sc__law_time : FnScope ["d", "k", "current", "found", "above", "rating", "curve", "stop", "start", "ticks"] ["d", "k", "current"] (defScope s__law_time) := ⟨rfl, rfl, rfl, by decide +kernel, rfl, by decide +kernel, by decide +kernel⟩
def B__law_time : M Fl := (sSeq (sAsg (gT 4 (PD.gCons (gN 4) (PD.gCons (gN 5) (PD.gCons (gN 6) (PD.gCons (gN 7) PD.gNil))))) (m2 ixD (m2 dgetD (mVar 0) (mK (.str "switches"))) (mVar 1)))
  (sSeq (PD.sSet 3 (mK .non))
  (sSeq (PD.sFor (wSeq (mVar 6)) (gT 2 (PD.gCons (gN 8) (PD.gCons (gN 9) PD.gNil))) (PD.sSet 3 (mIf (PD.tB (mChain leD leD (mVar 8) (mVar 2) (mVar 7))) (mVar 9) (mVar 3))))
  (PD.sRet (mVar 3)))))
def F__law_time : FS := noEx (fnD 3 10 B__law_time)
theorem g__law_time {P : Program} {wd : World} {K : PySem.W.Frag} {mg : Str → Option Value} {base : Heap} {w : Wd} {f : Addr} {fd : FuncData} (T : Tx K mg w) (Fu : FunR K "_law_time" "_law_time" s__law_time f fd) : FnG P wd K mg base 1 f fd ["d", "k", "current"] (spF w 3 F__law_time) := by
  have nd := (sc__law_time).nd
  have hK := T.hK
  subst hK
  exact mk0 (k := 0) (N := ["d", "k", "current", "found", "above", "rating", "curve", "stop", "start", "ticks"]) (ps := ["d", "k", "current"]) (b := B__law_time) Fu sc__law_time fun cdv A outer s H hr gd hcc => (s_cons (s_asg (ps_asg (d_ix rfl (d_dget (hu_of hr) (d_var (pv 0)) d_str (fun _ _ => rfl)) (d_var (pv 1))) (g_tup rfl rfl (g_cons (g_name (pg_name (i := 4) nd rfl (by first | exact .inl rfl | exact .inr rfl))) (g_cons (g_name (pg_name (i := 5) nd rfl (by first | exact .inl rfl | exact .inr rfl))) (g_cons (g_name (pg_name (i := 6) nd rfl (by first | exact .inl rfl | exact .inr rfl))) (g_cons (g_name (pg_name (i := 7) nd rfl (by first | exact .inl rfl | exact .inr rfl))) g_nil)))))))
    (s_cons (PD.s_set (i := 3) (ps_set nd rfl (by first | exact .inl rfl | exact .inr rfl) d_non))
    (s_cons (s_for own_cx rfl (w_seq rfl (d_var (pv 6))) (g_tup rfl rfl (g_cons (g_name (pg_name (i := 8) nd rfl (by first | exact .inl rfl | exact .inr rfl))) (g_cons (g_name (pg_name (i := 9) nd rfl (by first | exact .inl rfl | exact .inr rfl))) g_nil))) (s_one (PD.s_set (i := 3) (ps_set nd rfl (by first | exact .inl rfl | exact .inr rfl) (d_if (d_tchain o_le o_le op_le op_le (d_var (pv 8)) (d_var (pv 2)) (d_var (pv 7))) (d_var (pv 9)) (d_var (pv 3)))))))
    (s_one (s_ret (d_var (pv 3)))))))
theorem ok__law_time {P : Program} {wd : World} {K : PySem.W.Frag} {mg : Str → Option Value} {base : Heap} {w : Wd} {f : Addr} {fd : FuncData} (T : Tx K mg w) (Fu : Fun K "_law_time" "_law_time" s__law_time f fd) (hm : mg "_law_time" = some (.ref f)) : Ok P wd K mg base w 1 "_law_time" s__law_time ["d", "k", "current"] F__law_time :=
  ⟨⟨f, fd, g__law_time T (FunR.of Fu), hm, Fu, Fu.binds fun _ _ _ _ _ _ us hl => match us, hl with | [_, _, _], _ => rfl⟩, noEx_len⟩
/-! ### _law_path -/
abbrev s__law_path : Stmt := topS 53
theorem sc__law_path : FnScope ["d", "k", "found"] ["d", "k"] (defScope s__law_path) := ⟨rfl, rfl, rfl, by decide +kernel, rfl, by decide +kernel, by decide +kernel⟩
def B__law_path : M Fl := (sSeq (PD.sSet 2 (mLst (aCons (mFz (mVar 1)) aNil)))
  (sSeq (sWhile (PD.tB (m2 isntD (m2 ixD (m2 ixD (m2 dgetD (mVar 0) (mK (.str "switches"))) (m2 ixD (mVar 2) (m1 negD (mK (.int 1))))) (mK (.int 0))) (mK .non))) (sDrop (mApp 2 (m2 ixD (m2 ixD (m2 dgetD (mVar 0) (mK (.str "switches"))) (m2 ixD (mVar 2) (m1 negD (mK (.int 1))))) (mK (.int 0))))))
  (PD.sRet (mVar 2))))
def F__law_path : FS := noEx (fnD 2 3 B__law_path)
theorem g__law_path {P : Program} {wd : World} {K : PySem.W.Frag} {mg : Str → Option Value} {base : Heap} {w : Wd} {f : Addr} {fd : FuncData} (T : Tx K mg w) (Fu : FunR K "_law_path" "_law_path" s__law_path f fd) : FnG P wd K mg base 1 f fd ["d", "k"] (spF w 2 F__law_path) := by
  have nd := (sc__law_path).nd
  have hK := T.hK
  subst hK
  exact mk0 (k := 0) (N := ["d", "k", "found"]) (ps := ["d", "k"]) (b := B__law_path) Fu sc__law_path fun cdv A outer s H hr gd hcc => (s_cons (PD.s_set (i := 2) (ps_set nd rfl (by first | exact .inl rfl | exact .inr rfl) (d_lst (l_cons (d_fz (d_var (pv 1))) l_nil))))
    (s_cons (s_while own_cx (d_tcmp o_isnt op_notN (d_ix rfl (d_ix rfl (d_dget (hu_of hr) (d_var (pv 0)) d_str (fun _ _ => rfl)) (d_ix rfl (d_var (pv 2)) (d_un o_neg un_neg d_int))) d_int) d_non (nomark _)) (s_one (s_expr (d_app (pv 2) (d_ix rfl (d_ix rfl (d_dget (hu_of hr) (d_var (pv 0)) d_str (fun _ _ => rfl)) (d_ix rfl (d_var (pv 2)) (d_un o_neg un_neg d_int))) d_int)))))
    (s_one (s_ret (d_var (pv 2))))))
theorem ok__law_path {P : Program} {wd : World} {K : PySem.W.Frag} {mg : Str → Option Value} {base : Heap} {w : Wd} {f : Addr} {fd : FuncData} (T : Tx K mg w) (Fu : Fun K "_law_path" "_law_path" s__law_path f fd) (hm : mg "_law_path" = some (.ref f)) : Ok P wd K mg base w 1 "_law_path" s__law_path ["d", "k"] F__law_path :=
  ⟨⟨f, fd, g__law_path T (FunR.of Fu), hm, Fu, Fu.binds fun _ _ _ _ _ _ us hl => match us, hl with | [_, _], _ => rfl⟩, noEx_len⟩
/-! ### _law_broken -/
abbrev s__law_broken : Stmt := topS 54
theorem sc__law_broken : FnScope ["d", "k", "current", "times", "some", "each", "long"] ["d", "k", "current"] (defScope s__law_broken) := ⟨rfl, rfl, rfl, by decide +kernel, rfl, by decide +kernel, by decide +kernel⟩
def B__law_broken : M Fl := (sSeq (sSet 3 (mLc (wSeq (mCall F__law_path [] (aCons (mVar 0) (aCons (mVar 1) aNil)))) (gN 5) tYes (mTup (aCons (mFz (mCall F__law_time [] (aCons (mVar 0) (aCons (mVar 5) (aCons (mVar 2) aNil))))) (aCons (mFz (mVar 5)) aNil))) (List.map (·.2) ([("each", 5)] : List (Str × Nat)))))
  (sSeq (PD.sSet 4 (mLc (wSeq (mVar 3)) (gT 2 (PD.gCons (gN 6) (PD.gCons (gN 5) PD.gNil))) (PD.tB (m2 isntD (mVar 6) (mK .non))) (mVar 6) (List.map (·.2) ([("long", 6), ("each", 5)] : List (Str × Nat)))))
  (PD.sRet (mB tupD (aCons (mB sortedD (aCons (mLc (wSeq (mVar 3)) (gT 2 (PD.gCons (gN 6) (PD.gCons (gN 5) PD.gNil))) (PD.tAnd (PD.tB (m2 isntD (mVar 6) (mK .non))) (PD.tB (m2 eqD (mVar 6) (mB minD (aCons (mVar 4) aNil))))) (mVar 5) (List.map (·.2) ([("long", 6), ("each", 5)] : List (Str × Nat)))) aNil)) aNil)))))
def F__law_broken : FS := noEx (fnD 3 7 B__law_broken)
structure C__law_broken (P : Program) (wd : World) (K : PySem.W.Frag) (mg : Str → Option Value) (base : Heap) (w : Wd) : Prop where
  c__law_time : Ok P wd K mg base w 1 "_law_time" s__law_time ["d", "k", "current"] F__law_time
  c__law_path : Ok P wd K mg base w 1 "_law_path" s__law_path ["d", "k"] F__law_path
theorem g__law_broken {P : Program} {wd : World} {K : PySem.W.Frag} {mg : Str → Option Value} {base : Heap} {w : Wd} {f : Addr} {fd : FuncData} (T : Tx K mg w) (C : C__law_broken P wd K mg base w) (Fu : FunR K "_law_broken" "_law_broken" s__law_broken f fd) : FnG P wd K mg base 2 f fd ["d", "k", "current"] (spF w 3 F__law_broken) := by
  have nd := (sc__law_broken).nd
  have hK := T.hK
  subst hK
  exact mk0 (k := 1) (N := ["d", "k", "current", "times", "some", "each", "long"]) (ps := ["d", "k", "current"]) (b := B__law_broken) Fu sc__law_broken fun cdv A outer s H hr gd hcc => (s_cons (s_setLc rfl nd rfl rfl (sw_true rfl rfl rfl (by decide +kernel)) (w_seq rfl (d_c C.c__law_path hr gd (by decide) (by rfl) (l_cons (d_var (pv 0)) (l_cons (d_var (pv 1)) l_nil)))) (blkOk_by (N := ["d", "k", "current", "times", "some", "each", "long"]) (sc := defScope s__law_broken) (own := [("each", 5)]) (by decide +kernel)) (by decide) (fun _ _ _ _ _ => (g_name (pg_name (i := 5) nd rfl (by first | exact .inl rfl | exact .inr rfl)))) (fun _ _ _ _ _ => ts_nil) (fun _ _ _ _ _ => (d_tup (l_cons (d_fz (d_c C.c__law_time hr gd (by decide) (by rfl) (l_cons (d_var (pv 0)) (l_cons (d_var (pv 5)) (l_cons (d_var (pv 2)) l_nil))))) (l_cons (d_fz (d_var (pv 5))) l_nil)))))
    (s_cons (PD.s_set (i := 4) (ps_set nd rfl (by first | exact .inl rfl | exact .inr rfl) (d_lc rfl nd (w_seq rfl (d_var (pv 3))) (blkOk_by (N := ["d", "k", "current", "times", "some", "each", "long"]) (sc := defScope s__law_broken) (own := [("long", 6), ("each", 5)]) (by decide +kernel)) (by decide) (fun _ _ _ _ _ => (g_tup rfl rfl (g_cons (g_name (pg_name (i := 6) nd rfl (by first | exact .inl rfl | exact .inr rfl))) (g_cons (g_name (pg_name (i := 5) nd rfl (by first | exact .inl rfl | exact .inr rfl))) g_nil)))) (fun _ _ _ _ _ => (ts_one (d_tcmp o_isnt op_notN (d_var (pv 6)) d_non (nomark _)))) (fun _ _ _ _ _ => (d_var (pv 6))))))
    (s_one (s_ret (d_ct (o_tuple rfl) (call_tuple_of) (by rfl) T.n_tuple PyProof.Rows.boot_tuple (l_cons (d_cb (o_sorted rfl) (cr_sortedI) (by rfl) T.n_sorted PyProof.Rows.boot_sorted (l_cons (d_lc rfl nd (w_seq rfl (d_var (pv 3))) (blkOk_by (N := ["d", "k", "current", "times", "some", "each", "long"]) (sc := defScope s__law_broken) (own := [("long", 6), ("each", 5)]) (by decide +kernel)) (by decide) (fun _ _ _ _ _ => (g_tup rfl rfl (g_cons (g_name (pg_name (i := 6) nd rfl (by first | exact .inl rfl | exact .inr rfl))) (g_cons (g_name (pg_name (i := 5) nd rfl (by first | exact .inl rfl | exact .inr rfl))) g_nil)))) (fun _ _ _ _ _ => (ts_one (L2.PW.pt (d_and (d_tcmp o_isnt op_notN (d_var (pv 6)) d_non (nomark _)) (d_and1 (d_tcmp (o_eq rfl) (OpR.or op_eq (op_eqD hr.units)) (d_var (pv 6)) (d_cb (o_min rfl) (PD.CallR.or (call_min2 rfl) (cr_min rfl)) (by rfl) T.n_min PyProof.Rows.boot_min (l_cons (d_var (pv 4)) l_nil)) (nomark _))))))) (fun _ _ _ _ _ => (d_var (pv 5)))) l_nil)) l_nil))))))
theorem ok__law_broken {P : Program} {wd : World} {K : PySem.W.Frag} {mg : Str → Option Value} {base : Heap} {w : Wd} {f : Addr} {fd : FuncData} (T : Tx K mg w) (C : C__law_broken P wd K mg base w) (Fu : Fun K "_law_broken" "_law_broken" s__law_broken f fd) (hm : mg "_law_broken" = some (.ref f)) : Ok P wd K mg base w 2 "_law_broken" s__law_broken ["d", "k", "current"] F__law_broken :=
  ⟨⟨f, fd, g__law_broken T C (FunR.of Fu), hm, Fu, Fu.binds fun _ _ _ _ _ _ us hl => match us, hl with | [_, _, _], _ => rfl⟩, noEx_len⟩
/-! ### check_board -/
abbrev s_check_board : Stmt := topS 31
theorem sc_check_board : FnScope ["value"] ["value"] (defScope s_check_board) := ⟨rfl, rfl, rfl, by decide +kernel, rfl, by decide +kernel, by decide +kernel⟩
def B_check_board : M Fl := (PD.sIf (PD.tNot (tT (mB (isiD [0]) (aCons (mVar 0) (aCons (mK (.glb 0)) aNil))))) (fun _ => .no) sNx)
def F_check_board : FS := noEx (fnD 1 1 B_check_board)
theorem g_check_board {P : Program} {wd : World} {K : PySem.W.Frag} {mg : Str → Option Value} {base : Heap} {w : Wd} {f : Addr} {fd : FuncData} (T : Tx K mg w) (Fu : FunR K "check_board" "check_board" s_check_board f fd) : FnG P wd K mg base 1 f fd ["value"] (spF w 1 F_check_board) := by
  have nd := (sc_check_board).nd
  have hK := T.hK
  subst hK
  exact mk0 (k := 0) (N := ["value"]) (ps := ["value"]) (b := B_check_board) Fu sc_check_board fun cdv A outer s H hr gd hcc => (s_one (s_if (d_not (d_tt (d_cb (o_isi rfl T.isi) (call_isi) (by rfl) T.n_isinstance PyProof.Rows.boot_isinstance (l_cons (d_var (pv 0)) (l_cons (d_glob (by rfl) T.c_Board) l_nil))) rfl)) (s_one s_never) s_nil))
theorem ok_check_board {P : Program} {wd : World} {K : PySem.W.Frag} {mg : Str → Option Value} {base : Heap} {w : Wd} {f : Addr} {fd : FuncData} (T : Tx K mg w) (Fu : Fun K "check_board" "check_board" s_check_board f fd) (hm : mg "check_board" = some (.ref f)) : Ok P wd K mg base w 1 "check_board" s_check_board ["value"] F_check_board :=
  ⟨⟨f, fd, g_check_board T (FunR.of Fu), hm, Fu, Fu.binds fun _ _ _ _ _ _ us hl => match us, hl with | [_], _ => rfl⟩, noEx_len⟩
/-! ### is_switch -/
abbrev s_is_switch : Stmt := topS 32
theorem sc_is_switch : FnScope ["board", "value"] ["board", "value"] (defScope s_is_switch) := ⟨rfl, rfl, rfl, by decide +kernel, rfl, by decide +kernel, by decide +kernel⟩
def B_is_switch : M Fl := (PD.sRet (mCall F_is_between [] (aCons (mVar 1) (aCons (mK (.int 0)) (aCons (m2 subD (mB lenD (aCons (m1 (fld 0 "switches") (mVar 0)) aNil)) (mK (.int 1))) aNil)))))
def F_is_switch : FS := noEx (fnD 2 2 B_is_switch)
structure C_is_switch (P : Program) (wd : World) (K : PySem.W.Frag) (mg : Str → Option Value) (base : Heap) (w : Wd) : Prop where
  c_is_between : Ok P wd K mg base w 2 "is_between" s_is_between ["value", "least", "most"] F_is_between
theorem g_is_switch {P : Program} {wd : World} {K : PySem.W.Frag} {mg : Str → Option Value} {base : Heap} {w : Wd} {f : Addr} {fd : FuncData} (T : Tx K mg w) (C : C_is_switch P wd K mg base w) (Fu : FunR K "is_switch" "is_switch" s_is_switch f fd) : FnG P wd K mg base 3 f fd ["board", "value"] (spF w 2 F_is_switch) := by
  have nd := (sc_is_switch).nd
  have hK := T.hK
  subst hK
  exact mk0 (k := 2) (N := ["board", "value"]) (ps := ["board", "value"]) (b := B_is_switch) Fu sc_is_switch fun cdv A outer s H hr gd hcc => (s_one (s_ret (d_c C.c_is_between hr gd (by decide) (by rfl) (l_cons (d_var (pv 1)) (l_cons d_int (l_cons (d_bin o_sub op_sub (d_cb (o_len rfl) (call_len) (by rfl) T.n_len boot_len (l_cons (d_fld rfl T.k_Board T.a_switches (d_var (pv 0)) (by rfl)) l_nil)) d_int) l_nil))))))
theorem ok_is_switch {P : Program} {wd : World} {K : PySem.W.Frag} {mg : Str → Option Value} {base : Heap} {w : Wd} {f : Addr} {fd : FuncData} (T : Tx K mg w) (C : C_is_switch P wd K mg base w) (Fu : Fun K "is_switch" "is_switch" s_is_switch f fd) (hm : mg "is_switch" = some (.ref f)) : Ok P wd K mg base w 3 "is_switch" s_is_switch ["board", "value"] F_is_switch :=
  ⟨⟨f, fd, g_is_switch T C (FunR.of Fu), hm, Fu, Fu.binds fun _ _ _ _ _ _ us hl => match us, hl with | [_, _], _ => rfl⟩, noEx_len⟩
/-! ### check_switch -/
abbrev s_check_switch : Stmt := topS 33
theorem sc_check_switch : FnScope ["board", "value"] ["board", "value"] (defScope s_check_switch) := ⟨rfl, rfl, rfl, by decide +kernel, rfl, by decide +kernel, by decide +kernel⟩
def B_check_switch : M Fl := (PD.sIf (PD.tNot (tT (mCall F_is_switch [] (aCons (mVar 0) (aCons (mVar 1) aNil))))) (fun _ => .no) sNx)
def F_check_switch : FS := noEx (fnD 2 2 B_check_switch)
structure C_check_switch (P : Program) (wd : World) (K : PySem.W.Frag) (mg : Str → Option Value) (base : Heap) (w : Wd) : Prop where
  c_is_switch : Ok P wd K mg base w 3 "is_switch" s_is_switch ["board", "value"] F_is_switch
theorem g_check_switch {P : Program} {wd : World} {K : PySem.W.Frag} {mg : Str → Option Value} {base : Heap} {w : Wd} {f : Addr} {fd : FuncData} (T : Tx K mg w) (C : C_check_switch P wd K mg base w) (Fu : FunR K "check_switch" "check_switch" s_check_switch f fd) : FnG P wd K mg base 4 f fd ["board", "value"] (spF w 2 F_check_switch) := by
  have nd := (sc_check_switch).nd
  have hK := T.hK
  subst hK
  exact mk0 (k := 3) (N := ["board", "value"]) (ps := ["board", "value"]) (b := B_check_switch) Fu sc_check_switch fun cdv A outer s H hr gd hcc => (s_one (s_if (d_not (d_tt (d_c C.c_is_switch hr gd (by decide) (by rfl) (l_cons (d_var (pv 0)) (l_cons (d_var (pv 1)) l_nil))) rfl)) (s_one s_never) s_nil))
theorem ok_check_switch {P : Program} {wd : World} {K : PySem.W.Frag} {mg : Str → Option Value} {base : Heap} {w : Wd} {f : Addr} {fd : FuncData} (T : Tx K mg w) (C : C_check_switch P wd K mg base w) (Fu : Fun K "check_switch" "check_switch" s_check_switch f fd) (hm : mg "check_switch" = some (.ref f)) : Ok P wd K mg base w 4 "check_switch" s_check_switch ["board", "value"] F_check_switch :=
  ⟨⟨f, fd, g_check_switch T C (FunR.of Fu), hm, Fu, Fu.binds fun _ _ _ _ _ _ us hl => match us, hl with | [_, _], _ => rfl⟩, noEx_len⟩
/-! ### is_current -/
abbrev s_is_current : Stmt := topS 34
theorem sc_is_current : FnScope ["value"] ["value"] (defScope s_is_current) := ⟨rfl, rfl, rfl, by decide +kernel, rfl, by decide +kernel, by decide +kernel⟩
def B_is_current : M Fl := (PD.sRet (mCall F_is_between [] (aCons (mVar 0) (aCons (mK (.int 1)) (aCons (mK (.int 999)) aNil)))))
def F_is_current : FS := noEx (fnD 1 1 B_is_current)
structure C_is_current (P : Program) (wd : World) (K : PySem.W.Frag) (mg : Str → Option Value) (base : Heap) (w : Wd) : Prop where
  c_is_between : Ok P wd K mg base w 2 "is_between" s_is_between ["value", "least", "most"] F_is_between
theorem g_is_current {P : Program} {wd : World} {K : PySem.W.Frag} {mg : Str → Option Value} {base : Heap} {w : Wd} {f : Addr} {fd : FuncData} (T : Tx K mg w) (C : C_is_current P wd K mg base w) (Fu : FunR K "is_current" "is_current" s_is_current f fd) : FnG P wd K mg base 3 f fd ["value"] (spF w 1 F_is_current) := by
  have nd := (sc_is_current).nd
  have hK := T.hK
  subst hK
  exact mk0 (k := 2) (N := ["value"]) (ps := ["value"]) (b := B_is_current) Fu sc_is_current fun cdv A outer s H hr gd hcc => (s_one (s_ret (d_c C.c_is_between hr gd (by decide) (by rfl) (l_cons (d_var (pv 0)) (l_cons d_int (l_cons (d_gi (by rfl) T.g_MOST_CURRENT) l_nil))))))
theorem ok_is_current {P : Program} {wd : World} {K : PySem.W.Frag} {mg : Str → Option Value} {base : Heap} {w : Wd} {f : Addr} {fd : FuncData} (T : Tx K mg w) (C : C_is_current P wd K mg base w) (Fu : Fun K "is_current" "is_current" s_is_current f fd) (hm : mg "is_current" = some (.ref f)) : Ok P wd K mg base w 3 "is_current" s_is_current ["value"] F_is_current :=
  ⟨⟨f, fd, g_is_current T C (FunR.of Fu), hm, Fu, Fu.binds fun _ _ _ _ _ _ us hl => match us, hl with | [_], _ => rfl⟩, noEx_len⟩
/-! ### check_current -/
abbrev s_check_current : Stmt := topS 35
theorem sc_check_current : FnScope ["value"] ["value"] (defScope s_check_current) := ⟨rfl, rfl, rfl, by decide +kernel, rfl, by decide +kernel, by decide +kernel⟩
def B_check_current : M Fl := (PD.sIf (PD.tNot (tT (mCall F_is_current [] (aCons (mVar 0) aNil)))) (fun _ => .no) sNx)
def F_check_current : FS := noEx (fnD 1 1 B_check_current)
structure C_check_current (P : Program) (wd : World) (K : PySem.W.Frag) (mg : Str → Option Value) (base : Heap) (w : Wd) : Prop where
  c_is_current : Ok P wd K mg base w 3 "is_current" s_is_current ["value"] F_is_current
theorem g_check_current {P : Program} {wd : World} {K : PySem.W.Frag} {mg : Str → Option Value} {base : Heap} {w : Wd} {f : Addr} {fd : FuncData} (T : Tx K mg w) (C : C_check_current P wd K mg base w) (Fu : FunR K "check_current" "check_current" s_check_current f fd) : FnG P wd K mg base 4 f fd ["value"] (spF w 1 F_check_current) := by
  have nd := (sc_check_current).nd
  have hK := T.hK
  subst hK
  exact mk0 (k := 3) (N := ["value"]) (ps := ["value"]) (b := B_check_current) Fu sc_check_current fun cdv A outer s H hr gd hcc => (s_one (s_if (d_not (d_tt (d_c C.c_is_current hr gd (by decide) (by rfl) (l_cons (d_var (pv 0)) l_nil)) rfl)) (s_one s_never) s_nil))
theorem ok_check_current {P : Program} {wd : World} {K : PySem.W.Frag} {mg : Str → Option Value} {base : Heap} {w : Wd} {f : Addr} {fd : FuncData} (T : Tx K mg w) (C : C_check_current P wd K mg base w) (Fu : Fun K "check_current" "check_current" s_check_current f fd) (hm : mg "check_current" = some (.ref f)) : Ok P wd K mg base w 4 "check_current" s_check_current ["value"] F_check_current :=
  ⟨⟨f, fd, g_check_current T C (FunR.of Fu), hm, Fu, Fu.binds fun _ _ _ _ _ _ us hl => match us, hl with | [_], _ => rfl⟩, noEx_len⟩
/-! ### check_fault -/
abbrev s_check_fault : Stmt := topS 44
theorem sc_check_fault : FnScope ["board", "switch", "current"] ["board", "switch", "current"] (defScope s_check_fault) := ⟨rfl, rfl, rfl, by decide +kernel, rfl, by decide +kernel, by decide +kernel⟩
def B_check_fault : M Fl := (sSeq (sDrop (mCall F_check_board [] (aCons (mVar 0) aNil)))
  (sSeq (sDrop (mCall F_check_switch [] (aCons (mVar 0) (aCons (mVar 1) aNil))))
  (sDrop (mCall F_check_current [] (aCons (mVar 2) aNil)))))
def F_check_fault : FS := noEx (fnD 3 3 B_check_fault)
structure C_check_fault (P : Program) (wd : World) (K : PySem.W.Frag) (mg : Str → Option Value) (base : Heap) (w : Wd) : Prop where
  c_check_board : Ok P wd K mg base w 1 "check_board" s_check_board ["value"] F_check_board
  c_check_switch : Ok P wd K mg base w 4 "check_switch" s_check_switch ["board", "value"] F_check_switch
  c_check_current : Ok P wd K mg base w 4 "check_current" s_check_current ["value"] F_check_current
theorem g_check_fault {P : Program} {wd : World} {K : PySem.W.Frag} {mg : Str → Option Value} {base : Heap} {w : Wd} {f : Addr} {fd : FuncData} (T : Tx K mg w) (C : C_check_fault P wd K mg base w) (Fu : FunR K "check_fault" "check_fault" s_check_fault f fd) : FnG P wd K mg base 5 f fd ["board", "switch", "current"] (spF w 3 F_check_fault) := by
  have nd := (sc_check_fault).nd
  have hK := T.hK
  subst hK
  exact mk0 (k := 4) (N := ["board", "switch", "current"]) (ps := ["board", "switch", "current"]) (b := B_check_fault) Fu sc_check_fault fun cdv A outer s H hr gd hcc => (s_cons (s_expr (d_c C.c_check_board hr gd (by decide) (by rfl) (l_cons (d_var (pv 0)) l_nil)))
    (s_cons (s_expr (d_c C.c_check_switch hr gd (by decide) (by rfl) (l_cons (d_var (pv 0)) (l_cons (d_var (pv 1)) l_nil))))
    (s_one (s_expr (d_c C.c_check_current hr gd (by decide) (by rfl) (l_cons (d_var (pv 2)) l_nil))))))
theorem ok_check_fault {P : Program} {wd : World} {K : PySem.W.Frag} {mg : Str → Option Value} {base : Heap} {w : Wd} {f : Addr} {fd : FuncData} (T : Tx K mg w) (C : C_check_fault P wd K mg base w) (Fu : Fun K "check_fault" "check_fault" s_check_fault f fd) (hm : mg "check_fault" = some (.ref f)) : Ok P wd K mg base w 5 "check_fault" s_check_fault ["board", "switch", "current"] F_check_fault :=
  ⟨⟨f, fd, g_check_fault T C (FunR.of Fu), hm, Fu, Fu.binds fun _ _ _ _ _ _ us hl => match us, hl with | [_, _, _], _ => rfl⟩, noEx_len⟩
/-! ### breaking -/
abbrev s_breaking : Stmt := topS 42
theorem sc_breaking : FnScope ["times", "least", "switch", "ticks"] ["times"] (defScope s_breaking) := ⟨rfl, rfl, rfl, by decide +kernel, rfl, by decide +kernel, by decide +kernel⟩
def B_breaking : M Fl := (sSeq (PD.sSet 1 (mLeastV 0))
  (PD.sRet (mB tupD (aCons (mB sortedD (aCons (mItL 0 (gT 2 (PD.gCons (gN 2) (PD.gCons (gN 3) PD.gNil))) (PD.tB (m2 eqD (mVar 3) (mVar 1))) (mVar 2) (List.map (·.2) ([("switch", 2), ("ticks", 3)] : List (Str × Nat)))) aNil)) aNil))))
def F_breaking : FS := noEx (fnD 1 4 B_breaking)
theorem g_breaking {P : Program} {wd : World} {K : PySem.W.Frag} {mg : Str → Option Value} {base : Heap} {w : Wd} {f : Addr} {fd : FuncData} (T : Tx K mg w) (Fu : FunR K "breaking" "breaking" s_breaking f fd) : FnG P wd K mg base 1 f fd ["times"] (spF w 1 F_breaking) := by
  have nd := (sc_breaking).nd
  have hK := T.hK
  subst hK
  exact mk0 (k := 0) (N := ["times", "least", "switch", "ticks"]) (ps := ["times"]) (b := B_breaking) Fu sc_breaking fun cdv A outer s H hr gd hcc => (s_cons (PD.s_set (i := 1) (ps_set nd rfl (by first | exact .inl rfl | exact .inr rfl) (d_leastV rfl (by rfl) T.n_min (pv 0))))
    (s_one (s_ret (d_ct (o_tuple rfl) (call_tuple_of) (by rfl) T.n_tuple PyProof.Rows.boot_tuple (l_cons (d_cb (o_sorted rfl) (cr_sortedI) (by rfl) T.n_sorted PyProof.Rows.boot_sorted (l_cons (d_lit rfl nd (pv 0) (blkOk_by (N := ["times", "least", "switch", "ticks"]) (sc := defScope s_breaking) (own := [("switch", 2), ("ticks", 3)]) (by decide +kernel)) (by decide) (fun _ _ _ _ _ => (g_tup rfl rfl (g_cons (g_name (pg_name (i := 2) nd rfl (by first | exact .inl rfl | exact .inr rfl))) (g_cons (g_name (pg_name (i := 3) nd rfl (by first | exact .inl rfl | exact .inr rfl))) g_nil)))) (fun _ _ _ _ _ => (ts_one (d_tcmp (o_eq rfl) (OpR.or op_eq (op_eqD hr.units)) (d_var (pv 3)) (d_var (pv 1)) (nomark _)))) (fun _ _ _ _ _ => (d_var (pv 2)))) l_nil)) l_nil)))))
theorem ok_breaking {P : Program} {wd : World} {K : PySem.W.Frag} {mg : Str → Option Value} {base : Heap} {w : Wd} {f : Addr} {fd : FuncData} (T : Tx K mg w) (Fu : Fun K "breaking" "breaking" s_breaking f fd) (hm : mg "breaking" = some (.ref f)) : Ok P wd K mg base w 1 "breaking" s_breaking ["times"] F_breaking :=
  ⟨⟨f, fd, g_breaking T (FunR.of Fu), hm, Fu, Fu.binds fun _ _ _ _ _ _ us hl => match us, hl with | [_], _ => rfl⟩, noEx_len⟩
/-! ### steps_of -/
abbrev s_steps_of : Stmt := topS 37
theorem sc_steps_of : FnScope ["board", "switch"] ["board", "switch"] (defScope s_steps_of) := ⟨rfl, rfl, rfl, by decide +kernel, rfl, by decide +kernel, by decide +kernel⟩
def B_steps_of : M Fl := (PD.sRet (m2 ixD (m2 ixD (m1 (fld 0 "switches") (mVar 0)) (mVar 1)) (mK (.int 2))))
def F_steps_of : FS := noEx (fnD 2 2 B_steps_of)
theorem g_steps_of {P : Program} {wd : World} {K : PySem.W.Frag} {mg : Str → Option Value} {base : Heap} {w : Wd} {f : Addr} {fd : FuncData} (T : Tx K mg w) (Fu : FunR K "steps_of" "steps_of" s_steps_of f fd) : FnG P wd K mg base 1 f fd ["board", "switch"] (spF w 2 F_steps_of) := by
  have nd := (sc_steps_of).nd
  have hK := T.hK
  subst hK
  exact mk0 (k := 0) (N := ["board", "switch"]) (ps := ["board", "switch"]) (b := B_steps_of) Fu sc_steps_of fun cdv A outer s H hr gd hcc => (s_one (s_ret (d_ix rfl (d_ix rfl (d_fld rfl T.k_Board T.a_switches (d_var (pv 0)) (by rfl)) (d_var (pv 1))) d_int)))
theorem ok_steps_of {P : Program} {wd : World} {K : PySem.W.Frag} {mg : Str → Option Value} {base : Heap} {w : Wd} {f : Addr} {fd : FuncData} (T : Tx K mg w) (Fu : Fun K "steps_of" "steps_of" s_steps_of f fd) (hm : mg "steps_of" = some (.ref f)) : Ok P wd K mg base w 1 "steps_of" s_steps_of ["board", "switch"] F_steps_of :=
  ⟨⟨f, fd, g_steps_of T (FunR.of Fu), hm, Fu, Fu.binds fun _ _ _ _ _ _ us hl => match us, hl with | [_, _], _ => rfl⟩, noEx_len⟩
/-! ### time_by -/
abbrev s_time_by : Stmt := topS 40
theorem sc_time_by : FnScope ["board", "switch", "current", "told", "least", "ticks"] ["board", "switch", "current"] (defScope s_time_by) := ⟨rfl, rfl, rfl, by decide +kernel, rfl, by decide +kernel, by decide +kernel⟩
def B_time_by : M Fl := (sSeq (sSet 3 (mLc (wSeq (mCall F_steps_of [] (aCons (mVar 0) (aCons (mVar 1) aNil)))) (gT 2 (PD.gCons (gN 4) (PD.gCons (gN 5) PD.gNil))) (PD.tB (m2 leD (mVar 4) (mVar 2))) (mVar 5) (List.map (·.2) ([("least", 4), ("ticks", 5)] : List (Str × Nat)))))
  (PD.sRet (mIf (PD.tAnd (PD.tB (m2 neD (mVar 3) (mLst aNil))) (PD.tB (m2 leD (mVar 2) (m2 ixD (m2 ixD (m1 (fld 0 "switches") (mVar 0)) (mVar 1)) (mK (.int 3)))))) (m2 ixD (mVar 3) (m1 negD (mK (.int 1)))) (mK .non))))
def F_time_by : FS := noEx (fnD 3 6 B_time_by)
structure C_time_by (P : Program) (wd : World) (K : PySem.W.Frag) (mg : Str → Option Value) (base : Heap) (w : Wd) : Prop where
  c_steps_of : Ok P wd K mg base w 1 "steps_of" s_steps_of ["board", "switch"] F_steps_of
theorem g_time_by {P : Program} {wd : World} {K : PySem.W.Frag} {mg : Str → Option Value} {base : Heap} {w : Wd} {f : Addr} {fd : FuncData} (T : Tx K mg w) (C : C_time_by P wd K mg base w) (Fu : FunR K "time_by" "time_by" s_time_by f fd) : FnG P wd K mg base 2 f fd ["board", "switch", "current"] (spF w 3 F_time_by) := by
  have nd := (sc_time_by).nd
  have hK := T.hK
  subst hK
  exact mk0 (k := 1) (N := ["board", "switch", "current", "told", "least", "ticks"]) (ps := ["board", "switch", "current"]) (b := B_time_by) Fu sc_time_by fun cdv A outer s H hr gd hcc => (s_cons (s_setLc rfl nd rfl rfl (sw_true rfl rfl rfl (by decide +kernel)) (w_seq rfl (d_c C.c_steps_of hr gd (by decide) (by rfl) (l_cons (d_var (pv 0)) (l_cons (d_var (pv 1)) l_nil)))) (blkOk_by (N := ["board", "switch", "current", "told", "least", "ticks"]) (sc := defScope s_time_by) (own := [("least", 4), ("ticks", 5)]) (by decide +kernel)) (by decide) (fun _ _ _ _ _ => (g_tup rfl rfl (g_cons (g_name (pg_name (i := 4) nd rfl (by first | exact .inl rfl | exact .inr rfl))) (g_cons (g_name (pg_name (i := 5) nd rfl (by first | exact .inl rfl | exact .inr rfl))) g_nil)))) (fun _ _ _ _ _ => (ts_one (d_tcmp o_le op_le (d_var (pv 4)) (d_var (pv 2)) (nomark _)))) (fun _ _ _ _ _ => (d_var (pv 5))))
    (s_one (s_ret (d_if (L2.PW.pt (d_and (d_tcmp (o_ne rfl) (OpR.or op_ne (op_neD hr.units)) (d_var (pv 3)) (d_lst l_nil) (nomark _)) (d_and1 (d_tcmp o_le op_le (d_var (pv 2)) (d_ix rfl (d_ix rfl (d_fld rfl T.k_Board T.a_switches (d_var (pv 0)) (by rfl)) (d_var (pv 1))) (d_gi (by rfl) T.g_STOP)) (nomark _))))) (d_ix rfl (d_var (pv 3)) (d_un o_neg un_neg d_int)) d_non))))
theorem ok_time_by {P : Program} {wd : World} {K : PySem.W.Frag} {mg : Str → Option Value} {base : Heap} {w : Wd} {f : Addr} {fd : FuncData} (T : Tx K mg w) (C : C_time_by P wd K mg base w) (Fu : Fun K "time_by" "time_by" s_time_by f fd) (hm : mg "time_by" = some (.ref f)) : Ok P wd K mg base w 2 "time_by" s_time_by ["board", "switch", "current"] F_time_by :=
  ⟨⟨f, fd, g_time_by T C (FunR.of Fu), hm, Fu, Fu.binds fun _ _ _ _ _ _ us hl => match us, hl with | [_, _, _], _ => rfl⟩, noEx_len⟩
/-! ### path_by -/
abbrev s_path_by : Stmt := topS 36
theorem sc_path_by : FnScope ["board", "switch", "found"] ["board", "switch"] (defScope s_path_by) := ⟨rfl, rfl, rfl, by decide +kernel, rfl, by decide +kernel, by decide +kernel⟩
def B_path_by : M Fl := (sSeq (PD.sSet 2 (mTup (aCons (mFz (mVar 1)) aNil)))
  (sSeq (sWhile (PD.tB (m2 isntD (m2 ixD (m2 ixD (m1 (fld 0 "switches") (mVar 0)) (m2 ixD (mVar 2) (m1 negD (mK (.int 1))))) (mK (.int 0))) (mK .non))) (PD.sSet 2 (mTup (aStar (mVar 2) (aCons (m2 ixD (m2 ixD (m1 (fld 0 "switches") (mVar 0)) (m2 ixD (mVar 2) (m1 negD (mK (.int 1))))) (mK (.int 0))) aNil)))))
  (PD.sRet (mVar 2))))
def F_path_by : FS := noEx (fnD 2 3 B_path_by)
theorem g_path_by {P : Program} {wd : World} {K : PySem.W.Frag} {mg : Str → Option Value} {base : Heap} {w : Wd} {f : Addr} {fd : FuncData} (T : Tx K mg w) (Fu : FunR K "path_by" "path_by" s_path_by f fd) : FnG P wd K mg base 1 f fd ["board", "switch"] (spF w 2 F_path_by) := by
  have nd := (sc_path_by).nd
  have hK := T.hK
  subst hK
  exact mk0 (k := 0) (N := ["board", "switch", "found"]) (ps := ["board", "switch"]) (b := B_path_by) Fu sc_path_by fun cdv A outer s H hr gd hcc => (s_cons (PD.s_set (i := 2) (ps_set nd rfl (by first | exact .inl rfl | exact .inr rfl) (d_tup (l_cons (d_fz (d_var (pv 1))) l_nil))))
    (s_cons (s_while own_cx (d_tcmp o_isnt op_notN (d_ix rfl (d_ix rfl (d_fld rfl T.k_Board T.a_switches (d_var (pv 0)) (by rfl)) (d_ix rfl (d_var (pv 2)) (d_un o_neg un_neg d_int))) d_int) d_non (nomark _)) (s_one (PD.s_set (i := 2) (ps_set nd rfl (by first | exact .inl rfl | exact .inr rfl) (d_tup (l_star rfl (d_var (pv 2)) (l_cons (d_ix rfl (d_ix rfl (d_fld rfl T.k_Board T.a_switches (d_var (pv 0)) (by rfl)) (d_ix rfl (d_var (pv 2)) (d_un o_neg un_neg d_int))) d_int) l_nil)))))))
    (s_one (s_ret (d_var (pv 2))))))
theorem ok_path_by {P : Program} {wd : World} {K : PySem.W.Frag} {mg : Str → Option Value} {base : Heap} {w : Wd} {f : Addr} {fd : FuncData} (T : Tx K mg w) (Fu : Fun K "path_by" "path_by" s_path_by f fd) (hm : mg "path_by" = some (.ref f)) : Ok P wd K mg base w 1 "path_by" s_path_by ["board", "switch"] F_path_by :=
  ⟨⟨f, fd, g_path_by T (FunR.of Fu), hm, Fu, Fu.binds fun _ _ _ _ _ _ us hl => match us, hl with | [_, _], _ => rfl⟩, noEx_len⟩
/-! ### times_by -/
abbrev s_times_by : Stmt := topS 41
theorem sc_times_by : FnScope ["board", "switch", "current", "times", "own", "ticks"] ["board", "switch", "current"] (defScope s_times_by) := ⟨rfl, rfl, rfl, by decide +kernel, rfl, by decide +kernel, by decide +kernel⟩
def B_times_by : M Fl := (sSeq (PD.sSet 3 (mDc (wSeq (mCall F_path_by [] (aCons (mVar 0) (aCons (mVar 1) aNil)))) (gN 4) tYes (mVar 4) (mCall F_time_by [] (aCons (mVar 0) (aCons (mVar 4) (aCons (mVar 2) aNil)))) (List.map (·.2) ([("own", 4)] : List (Str × Nat)))))
  (PD.sRet (mItD 3 (gT 2 (PD.gCons (gN 4) (PD.gCons (gN 5) PD.gNil))) (PD.tB (m2 isntD (mVar 5) (mK .non))) (mVar 4) (mVar 5) (List.map (·.2) ([("own", 4), ("ticks", 5)] : List (Str × Nat))))))
def F_times_by : FS := noEx (fnD 3 6 B_times_by)
structure C_times_by (P : Program) (wd : World) (K : PySem.W.Frag) (mg : Str → Option Value) (base : Heap) (w : Wd) : Prop where
  c_path_by : Ok P wd K mg base w 1 "path_by" s_path_by ["board", "switch"] F_path_by
  c_time_by : Ok P wd K mg base w 2 "time_by" s_time_by ["board", "switch", "current"] F_time_by
theorem g_times_by {P : Program} {wd : World} {K : PySem.W.Frag} {mg : Str → Option Value} {base : Heap} {w : Wd} {f : Addr} {fd : FuncData} (T : Tx K mg w) (C : C_times_by P wd K mg base w) (Fu : FunR K "times_by" "times_by" s_times_by f fd) : FnG P wd K mg base 3 f fd ["board", "switch", "current"] (spF w 3 F_times_by) := by
  have nd := (sc_times_by).nd
  have hK := T.hK
  subst hK
  exact mk0 (k := 2) (N := ["board", "switch", "current", "times", "own", "ticks"]) (ps := ["board", "switch", "current"]) (b := B_times_by) Fu sc_times_by fun cdv A outer s H hr gd hcc => (s_cons (s_setDc rfl nd rfl rfl (swd_true rfl rfl rfl (by decide +kernel)) (w_seq rfl (d_c C.c_path_by hr gd (by decide) (by rfl) (l_cons (d_var (pv 0)) (l_cons (d_var (pv 1)) l_nil)))) (blkOk_by (N := ["board", "switch", "current", "times", "own", "ticks"]) (sc := defScope s_times_by) (own := [("own", 4)]) (by decide +kernel)) (by decide) (fun _ _ _ _ _ => (g_name (pg_name (i := 4) nd rfl (by first | exact .inl rfl | exact .inr rfl)))) (fun _ _ _ _ _ => ts_nil) (fun _ _ _ _ _ => (d_var (pv 4))) (fun _ _ _ _ _ => (d_c C.c_time_by hr gd (by decide) (by rfl) (l_cons (d_var (pv 0)) (l_cons (d_var (pv 4)) (l_cons (d_var (pv 2)) l_nil))))))
    (s_one (s_ret (d_dit rfl nd (pv 3) (blkOk_by (N := ["board", "switch", "current", "times", "own", "ticks"]) (sc := defScope s_times_by) (own := [("own", 4), ("ticks", 5)]) (by decide +kernel)) (by decide) (fun _ _ _ _ _ => (g_tup rfl rfl (g_cons (g_name (pg_name (i := 4) nd rfl (by first | exact .inl rfl | exact .inr rfl))) (g_cons (g_name (pg_name (i := 5) nd rfl (by first | exact .inl rfl | exact .inr rfl))) g_nil)))) (fun _ _ _ _ _ => (ts_one (d_tcmp o_isnt op_notN (d_var (pv 5)) d_non (nomark _)))) (fun _ _ _ _ _ => (d_var (pv 4))) (fun _ _ _ _ _ => (d_var (pv 5)))))))
theorem ok_times_by {P : Program} {wd : World} {K : PySem.W.Frag} {mg : Str → Option Value} {base : Heap} {w : Wd} {f : Addr} {fd : FuncData} (T : Tx K mg w) (C : C_times_by P wd K mg base w) (Fu : Fun K "times_by" "times_by" s_times_by f fd) (hm : mg "times_by" = some (.ref f)) : Ok P wd K mg base w 3 "times_by" s_times_by ["board", "switch", "current"] F_times_by :=
  ⟨⟨f, fd, g_times_by T C (FunR.of Fu), hm, Fu, Fu.binds fun _ _ _ _ _ _ us hl => match us, hl with | [_, _, _], _ => rfl⟩, noEx_len⟩
/-! ### broken_by_of -/
abbrev s_broken_by_of : Stmt := topS 43
theorem sc_broken_by_of : FnScope ["board", "switch", "current"] ["board", "switch", "current"] (defScope s_broken_by_of) := ⟨rfl, rfl, rfl, by decide +kernel, rfl, by decide +kernel, by decide +kernel⟩
def B_broken_by_of : M Fl := (PD.sRet (mCall F_breaking [] (aCons (mCall F_times_by [] (aCons (mVar 0) (aCons (mVar 1) (aCons (mVar 2) aNil)))) aNil)))
def F_broken_by_of : FS := noEx (fnD 3 3 B_broken_by_of)
structure C_broken_by_of (P : Program) (wd : World) (K : PySem.W.Frag) (mg : Str → Option Value) (base : Heap) (w : Wd) : Prop where
  c_times_by : Ok P wd K mg base w 3 "times_by" s_times_by ["board", "switch", "current"] F_times_by
  c_breaking : Ok P wd K mg base w 1 "breaking" s_breaking ["times"] F_breaking
theorem g_broken_by_of {P : Program} {wd : World} {K : PySem.W.Frag} {mg : Str → Option Value} {base : Heap} {w : Wd} {f : Addr} {fd : FuncData} (T : Tx K mg w) (C : C_broken_by_of P wd K mg base w) (Fu : FunR K "broken_by_of" "broken_by_of" s_broken_by_of f fd) : FnG P wd K mg base 4 f fd ["board", "switch", "current"] (spF w 3 F_broken_by_of) := by
  have nd := (sc_broken_by_of).nd
  have hK := T.hK
  subst hK
  exact mk0 (k := 3) (N := ["board", "switch", "current"]) (ps := ["board", "switch", "current"]) (b := B_broken_by_of) Fu sc_broken_by_of fun cdv A outer s H hr gd hcc => (s_one (s_ret (d_c C.c_breaking hr gd (by decide) (by rfl) (l_cons (d_c C.c_times_by hr gd (by decide) (by rfl) (l_cons (d_var (pv 0)) (l_cons (d_var (pv 1)) (l_cons (d_var (pv 2)) l_nil)))) l_nil))))
theorem ok_broken_by_of {P : Program} {wd : World} {K : PySem.W.Frag} {mg : Str → Option Value} {base : Heap} {w : Wd} {f : Addr} {fd : FuncData} (T : Tx K mg w) (C : C_broken_by_of P wd K mg base w) (Fu : Fun K "broken_by_of" "broken_by_of" s_broken_by_of f fd) (hm : mg "broken_by_of" = some (.ref f)) : Ok P wd K mg base w 4 "broken_by_of" s_broken_by_of ["board", "switch", "current"] F_broken_by_of :=
  ⟨⟨f, fd, g_broken_by_of T C (FunR.of Fu), hm, Fu, Fu.binds fun _ _ _ _ _ _ us hl => match us, hl with | [_, _, _], _ => rfl⟩, noEx_len⟩
/-! ### broken_by -/
abbrev s_broken_by : Stmt := topS 45
theorem sc_broken_by : FnScope ["board", "switch", "current"] ["board", "switch", "current"] (defScope s_broken_by) := ⟨rfl, rfl, rfl, by decide +kernel, rfl, by decide +kernel, by decide +kernel⟩
def B_broken_by : M Fl := (sSeq (sDrop (mCall F_check_fault [] (aCons (mVar 0) (aCons (mVar 1) (aCons (mVar 2) aNil)))))
  (PD.sRet (mCall F_broken_by_of [] (aCons (mVar 0) (aCons (mVar 1) (aCons (mVar 2) aNil))))))
def F_broken_by : FS := noEx (fnD 3 3 B_broken_by)
structure C_broken_by (P : Program) (wd : World) (K : PySem.W.Frag) (mg : Str → Option Value) (base : Heap) (w : Wd) : Prop where
  c_broken_by_of : Ok P wd K mg base w 4 "broken_by_of" s_broken_by_of ["board", "switch", "current"] F_broken_by_of
  c_check_fault : Ok P wd K mg base w 5 "check_fault" s_check_fault ["board", "switch", "current"] F_check_fault
theorem g_broken_by {P : Program} {wd : World} {K : PySem.W.Frag} {mg : Str → Option Value} {base : Heap} {w : Wd} {f : Addr} {fd : FuncData} (T : Tx K mg w) (C : C_broken_by P wd K mg base w) (Fu : FunR K "broken_by" "broken_by" s_broken_by f fd) : FnG P wd K mg base 6 f fd ["board", "switch", "current"] (spF w 3 F_broken_by) := by
  have nd := (sc_broken_by).nd
  have hK := T.hK
  subst hK
  exact mk0 (k := 5) (N := ["board", "switch", "current"]) (ps := ["board", "switch", "current"]) (b := B_broken_by) Fu sc_broken_by fun cdv A outer s H hr gd hcc => (s_cons (s_expr (d_c C.c_check_fault hr gd (by decide) (by rfl) (l_cons (d_var (pv 0)) (l_cons (d_var (pv 1)) (l_cons (d_var (pv 2)) l_nil)))))
    (s_one (s_ret (d_c C.c_broken_by_of hr gd (by decide) (by rfl) (l_cons (d_var (pv 0)) (l_cons (d_var (pv 1)) (l_cons (d_var (pv 2)) l_nil)))))))
theorem ok_broken_by {P : Program} {wd : World} {K : PySem.W.Frag} {mg : Str → Option Value} {base : Heap} {w : Wd} {f : Addr} {fd : FuncData} (T : Tx K mg w) (C : C_broken_by P wd K mg base w) (Fu : Fun K "broken_by" "broken_by" s_broken_by f fd) (hm : mg "broken_by" = some (.ref f)) : Ok P wd K mg base w 6 "broken_by" s_broken_by ["board", "switch", "current"] F_broken_by :=
  ⟨⟨f, fd, g_broken_by T C (FunR.of Fu), hm, Fu, Fu.binds fun _ _ _ _ _ _ us hl => match us, hl with | [_, _, _], _ => rfl⟩, noEx_len⟩
/-! ### _law_right -/
abbrev s__law_right : Stmt := topS 56
theorem sc__law_right : FnScope ["pool", "most", "d", "board", "k", "current", "due", "told"] ["pool", "most"] (defScope s__law_right) := ⟨rfl, rfl, rfl, by decide +kernel, rfl, by decide +kernel, by decide +kernel⟩
def B__law_right : M Fl := (sSeq (PD.sSet 2 (mCall F__law_board [] (aCons (mVar 0) (aCons (mVar 1) aNil))))
  (sSeq (PD.sSet 3 (mCall F__law_made [] (aCons (mVar 2) aNil)))
  (sSeq (PD.sFor (wRng1 (aCons (mB lenD (aCons (m2 dgetD (mVar 2) (mK (.str "switches"))) aNil)) aNil)) (gN 4) (PD.sFor (wSeq (mCall F__law_currents [] (aCons (mVar 2) aNil))) (gN 5) (sSeq (PD.sSet 6 (mCall F__law_broken [] (aCons (mVar 2) (aCons (mVar 4) (aCons (mVar 5) aNil)))))
  (sSeq (PD.sSet 7 (mCall F_broken_by [] (aCons (mVar 3) (aCons (mVar 4) (aCons (mVar 5) aNil)))))
  (sSeq (PD.sIf (PD.tB (m2 eqD (m2 modD (mVar 5) (mK (.int 2))) (mK (.int 1)))) (PD.sSet 7 (mCallK [2, 1, 0] 0 (List.length (["current", "switch", "board"] : List Str)) F_broken_by [] aNil (aCons (mVar 5) (aCons (mVar 4) (aCons (mVar 3) aNil))))) sNx)
  (PD.sIf (PD.tB (m2 neD (mB reprD (aCons (mVar 7) aNil)) (mB reprD (aCons (mVar 6) aNil)))) (PD.sRet (mK (.bl false))) sNx))))))
  (PD.sRet (mK (.bl true))))))
def F__law_right : FS := noEx (fnD 2 8 B__law_right)
structure C__law_right (P : Program) (wd : World) (K : PySem.W.Frag) (mg : Str → Option Value) (base : Heap) (w : Wd) : Prop where
  c_broken_by : Ok P wd K mg base w 6 "broken_by" s_broken_by ["board", "switch", "current"] F_broken_by
  c__law_board : Ok P wd K mg base w 3 "_law_board" s__law_board ["pool", "most"] F__law_board
  c__law_made : Ok P wd K mg base w 12 "_law_made" s__law_made ["d"] F__law_made
  c__law_broken : Ok P wd K mg base w 2 "_law_broken" s__law_broken ["d", "k", "current"] F__law_broken
  c__law_currents : Ok P wd K mg base w 1 "_law_currents" s__law_currents ["d"] F__law_currents
theorem g__law_right {P : Program} {wd : World} {K : PySem.W.Frag} {mg : Str → Option Value} {base : Heap} {w : Wd} {f : Addr} {fd : FuncData} (T : Tx K mg w) (C : C__law_right P wd K mg base w) (Fu : FunR K "_law_right" "_law_right" s__law_right f fd) : FnG P wd K mg base 13 f fd ["pool", "most"] (spF w 2 F__law_right) := by
  have nd := (sc__law_right).nd
  have hK := T.hK
  subst hK
  exact mk0 (k := 12) (N := ["pool", "most", "d", "board", "k", "current", "due", "told"]) (ps := ["pool", "most"]) (b := B__law_right) Fu sc__law_right fun cdv A outer s H hr gd hcc => (s_cons (PD.s_set (i := 2) (ps_set nd rfl (by first | exact .inl rfl | exact .inr rfl) (d_c C.c__law_board hr gd (by decide) (by rfl) (l_cons (d_var (pv 0)) (l_cons (d_var (pv 1)) l_nil)))))
    (s_cons (PD.s_set (i := 3) (ps_set nd rfl (by first | exact .inl rfl | exact .inr rfl) (d_c C.c__law_made hr gd (by decide) (by rfl) (l_cons (d_var (pv 2)) l_nil))))
    (s_cons (s_for own_cx rfl (w_rng1 (by rfl) T.n_range (l_cons (d_cb (o_len rfl) (call_len) (by rfl) T.n_len boot_len (l_cons (d_dget (hu_of hr) (d_var (pv 2)) d_str (fun _ _ => rfl)) l_nil)) l_nil)) (g_name (pg_name (i := 4) nd rfl (by first | exact .inl rfl | exact .inr rfl))) (s_one (s_for own_cx rfl (w_seq rfl (d_c C.c__law_currents hr gd (by decide) (by rfl) (l_cons (d_var (pv 2)) l_nil))) (g_name (pg_name (i := 5) nd rfl (by first | exact .inl rfl | exact .inr rfl))) (s_cons (PD.s_set (i := 6) (ps_set nd rfl (by first | exact .inl rfl | exact .inr rfl) (d_c C.c__law_broken hr gd (by decide) (by rfl) (l_cons (d_var (pv 2)) (l_cons (d_var (pv 4)) (l_cons (d_var (pv 5)) l_nil))))))
    (s_cons (PD.s_set (i := 7) (ps_set nd rfl (by first | exact .inl rfl | exact .inr rfl) (d_c C.c_broken_by hr gd (by decide) (by rfl) (l_cons (d_var (pv 3)) (l_cons (d_var (pv 4)) (l_cons (d_var (pv 5)) l_nil))))))
    (s_cons (s_if (d_tcmp (o_eq rfl) (OpR.or op_eq (op_eqD hr.units)) (d_bin o_mod op_mod (d_var (pv 5)) d_int) d_int (nomark _)) (s_one (PD.s_set (i := 7) (ps_set nd rfl (by first | exact .inl rfl | exact .inr rfl) (d_ck (ks := ["current", "switch", "board"]) (pp := [2, 1, 0]) C.c_broken_by hr gd (by decide) (by rfl) rfl (fun _ _ _ _ _ _ us ws hu hw => match us, ws, hu, hw with | [], [_, _, _], _, _ => rfl) (by decide) (by decide) (k_cons (d_var (pv 5)) (k_cons (d_var (pv 4)) (k_cons (d_var (pv 3)) k_nil))))))) s_nil)
    (s_one (s_if (d_tcmp (o_ne rfl) (OpR.or op_ne (op_neD hr.units)) (d_cb (o_repr rfl) (call_repr gd hr.units) (by rfl) T.n_repr PyProof.Rows.boot_repr (l_cons (d_var (pv 7)) l_nil)) (d_cb (o_repr rfl) (call_repr gd hr.units) (by rfl) T.n_repr PyProof.Rows.boot_repr (l_cons (d_var (pv 6)) l_nil)) (nomark _)) (s_one (s_ret d_bl)) s_nil))))))))
    (s_one (s_ret d_bl)))))
theorem ok__law_right {P : Program} {wd : World} {K : PySem.W.Frag} {mg : Str → Option Value} {base : Heap} {w : Wd} {f : Addr} {fd : FuncData} (T : Tx K mg w) (C : C__law_right P wd K mg base w) (Fu : Fun K "_law_right" "_law_right" s__law_right f fd) (hm : mg "_law_right" = some (.ref f)) : Ok P wd K mg base w 13 "_law_right" s__law_right ["pool", "most"] F__law_right :=
  ⟨⟨f, fd, g__law_right T C (FunR.of Fu), hm, Fu, Fu.binds fun _ _ _ _ _ _ us hl => match us, hl with | [_, _], _ => rfl⟩, noEx_len⟩
/-! ### law -/
abbrev s_law : Stmt := topS 57
theorem sc_law : FnScope ["script", "k", "pool", "most"] ["script"] (defScope s_law) := ⟨rfl, rfl, rfl, by decide +kernel, rfl, by decide +kernel, by decide +kernel⟩
def B_law : M Fl := (sSeq (PD.sFor (wRng1 (aCons (mB maxD (aCons (mK (.int 2)) (aCons (mB minD (aCons (mB lenD (aCons (mVar 0) aNil)) (aCons (mK (.int 3)) aNil))) aNil))) aNil)) (gN 1) (sSeq (PD.sSet 2 (mCall F__law_pool [] (aCons (mVar 0) (aCons (mVar 1) aNil))))
  (PD.sFor (wSeq (mLst (aCons (mFz (mLst (aCons (mK (.int 7)) (aCons (mK (.int 9)) (aCons (mK (.int 3)) aNil))))) (aCons (mFz (mLst (aCons (mK (.int 4)) (aCons (mK (.int 5)) (aCons (mK (.int 2)) aNil))))) (aCons (mFz (mLst (aCons (mK (.int 3)) (aCons (mK (.int 20)) (aCons (mK (.int 2)) aNil))))) (aCons (mFz (mLst (aCons (mK (.int 2)) (aCons (mK (.int 4)) (aCons (mK (.int 1)) aNil))))) (aCons (mFz (mLst (aCons (mK (.int 5)) (aCons (mK (.int 12)) (aCons (mK (.int 0)) aNil))))) aNil))))))) (gN 3) (PD.sIf (PD.tNot (tT (mCall F__law_right [] (aCons (mVar 2) (aCons (mVar 3) aNil))))) (PD.sRet (mK (.bl false))) sNx))))
  (PD.sRet (mK (.bl true))))
def F_law : FS := noEx (fnD 1 4 B_law)
structure C_law (P : Program) (wd : World) (K : PySem.W.Frag) (mg : Str → Option Value) (base : Heap) (w : Wd) : Prop where
  c__law_pool : Ok P wd K mg base w 1 "_law_pool" s__law_pool ["script", "k"] F__law_pool
  c__law_right : Ok P wd K mg base w 13 "_law_right" s__law_right ["pool", "most"] F__law_right
theorem g_law {P : Program} {wd : World} {K : PySem.W.Frag} {mg : Str → Option Value} {base : Heap} {w : Wd} {f : Addr} {fd : FuncData} (T : Tx K mg w) (C : C_law P wd K mg base w) (Fu : FunR K "law" "law" s_law f fd) : FnG P wd K mg base 14 f fd ["script"] (spF w 1 F_law) := by
  have nd := (sc_law).nd
  have hK := T.hK
  subst hK
  exact mk0 (k := 13) (N := ["script", "k", "pool", "most"]) (ps := ["script"]) (b := B_law) Fu sc_law fun cdv A outer s H hr gd hcc => (s_cons (s_for own_cx rfl (w_rng1 (by rfl) T.n_range (l_cons (d_cb (o_max rfl) (PD.CallR.or (call_max2 rfl) (cr_max rfl)) (by rfl) T.n_max PyProof.Rows.boot_max (l_cons d_int (l_cons (d_cb (o_min rfl) (PD.CallR.or (call_min2 rfl) (cr_min rfl)) (by rfl) T.n_min PyProof.Rows.boot_min (l_cons (d_cb (o_len rfl) (call_len) (by rfl) T.n_len boot_len (l_cons (d_var (pv 0)) l_nil)) (l_cons d_int l_nil))) l_nil))) l_nil)) (g_name (pg_name (i := 1) nd rfl (by first | exact .inl rfl | exact .inr rfl))) (s_cons (PD.s_set (i := 2) (ps_set nd rfl (by first | exact .inl rfl | exact .inr rfl) (d_c C.c__law_pool hr gd (by decide) (by rfl) (l_cons (d_var (pv 0)) (l_cons (d_var (pv 1)) l_nil)))))
    (s_one (s_for own_cx rfl (w_seq rfl (d_lst (l_cons (d_fz (d_lst (l_cons d_int (l_cons d_int (l_cons d_int l_nil))))) (l_cons (d_fz (d_lst (l_cons d_int (l_cons d_int (l_cons d_int l_nil))))) (l_cons (d_fz (d_lst (l_cons d_int (l_cons d_int (l_cons d_int l_nil))))) (l_cons (d_fz (d_lst (l_cons d_int (l_cons d_int (l_cons d_int l_nil))))) (l_cons (d_fz (d_lst (l_cons d_int (l_cons d_int (l_cons d_int l_nil))))) l_nil))))))) (g_name (pg_name (i := 3) nd rfl (by first | exact .inl rfl | exact .inr rfl))) (s_one (s_if (d_not (d_tt (d_c C.c__law_right hr gd (by decide) (by rfl) (l_cons (d_var (pv 2)) (l_cons (d_var (pv 3)) l_nil))) rfl)) (s_one (s_ret d_bl)) s_nil))))))
    (s_one (s_ret d_bl)))
theorem ok_law {P : Program} {wd : World} {K : PySem.W.Frag} {mg : Str → Option Value} {base : Heap} {w : Wd} {f : Addr} {fd : FuncData} (T : Tx K mg w) (C : C_law P wd K mg base w) (Fu : Fun K "law" "law" s_law f fd) (hm : mg "law" = some (.ref f)) : Ok P wd K mg base w 14 "law" s_law ["script"] F_law :=
  ⟨⟨f, fd, g_law T C (FunR.of Fu), hm, Fu, Fu.binds fun _ _ _ _ _ _ us hl => match us, hl with | [_], _ => rfl⟩, noEx_len⟩
end Lk41
end

namespace Lk41
open PySem PySem.Spec L2 PD
/-! ### draws -/
abbrev pl (a b c : Int) : D := .lst [.int a, .int b, .int c]
theorem atI0 {α : Type} (x : α) (l : List α) : atI (x :: l) 0 = some x := by simp [PD.mK, PD.mVar, PD.m1, PD.m2, PD.mFz, PD.aNil, PD.aCons, PD.looks, PD.look, PD.dats, PD.mB, PD.truth, PD.tB, PD.tT, PD.tAnd, PD.tOr, PD.tNot, PD.mIf, PD.vAnd, PD.vOr, PD.vNot, PD.mCall, PD.sNx, PD.sSeq, PD.sDrop, PD.sIf, PD.ret, PD.sRet, PD.sRetN, PD.storeR, PD.store, PD.gN, PD.gNil, PD.gCons, PD.gT, PD.mut1, PD.setL, PD.gSub, PD.sSet, PD.sAsg, PD.stores, PD.noVar, PD.sPar, PD.items, PD.wSeq, PD.tYes, PD.sFor, PD.frz, PD.mTup, PD.mLst, PD.mChain, PD.mCallR, PD.once, PD.pass, PD.pass1, PD.back, PD.back1, PD.inS, PD.outS, PD.okArg, PD.outs, PD.fnD, PD.noEx, Md.mut, Md.ow, PD.eqD, PD.neD, PD.eqB, PD.eqS, PD.isD, PD.isntD, PD.isNonD, PD.addD, PD.subD, PD.modD, PD.fdivD, PD.negD, PD.keyD, PD.dgetD, PD.lenD, PD.mAdd, PD.ownL, atI, ixN]; 
theorem take_ok (a b c m : Int) (h1 : 1 ≤ m) (h2 : m < 1073741824) : ∃ a' b' c' r : Int, 0 ≤ r ∧ r < m ∧ F__law_take [⟨.own, pl a b c⟩, ⟨.dat, .int m⟩] = .ok (.dat (.int r)) [some ⟨.own, pl a' b' c'⟩, none] := by
  by_cases h : 0 < a
  · refine ⟨a / m, b, c, a % m, Int.emod_nonneg _ (by omega), Int.emod_lt_of_pos _ (by omega), ?_⟩
    have hm : 0 < m ∧ m < 1073741824 := ⟨by omega, h2⟩
    simp [PD.mK, PD.mVar, PD.m1, PD.m2, PD.mFz, PD.aNil, PD.aCons, PD.looks, PD.look, PD.dats, PD.mB, PD.truth, PD.tB, PD.tT, PD.tAnd, PD.tOr, PD.tNot, PD.mIf, PD.vAnd, PD.vOr, PD.vNot, PD.mCall, PD.sNx, PD.sSeq, PD.sDrop, PD.sIf, PD.ret, PD.sRet, PD.sRetN, PD.storeR, PD.store, PD.gN, PD.gNil, PD.gCons, PD.gT, PD.mut1, PD.setL, PD.gSub, PD.sSet, PD.sAsg, PD.stores, PD.noVar, PD.sPar, PD.items, PD.wSeq, PD.tYes, PD.sFor, PD.frz, PD.mTup, PD.mLst, PD.mChain, PD.mCallR, PD.once, PD.pass, PD.pass1, PD.back, PD.back1, PD.inS, PD.outS, PD.okArg, PD.outs, PD.fnD, PD.noEx, Md.mut, Md.ow, PD.eqD, PD.neD, PD.eqB, PD.eqS, PD.isD, PD.isntD, PD.isNonD, PD.addD, PD.subD, PD.modD, PD.fdivD, PD.negD, PD.keyD, PD.dgetD, PD.lenD, PD.mAdd, PD.ownL, F__law_take, B__law_take, pl, ixD, atI, ixN, h, dvmD, hm]
  · have hm : 0 < m := by omega
    have s1 : 0 ≤ (b + 28657 * (c + 1)) % 2147483399 := Int.emod_nonneg _ (by omega)
    have s2 : (b + 28657 * (c + 1)) % 2147483399 < 2147483399 := Int.emod_lt_of_pos _ (by omega)
    have hs : mulD (.int ((b + 28657 * (c + 1)) % 2147483399)) (.int ((b + 28657 * (c + 1)) % 2147483399 % 5003 + 48271)) = some (.dat (.int ((b + 28657 * (c + 1)) % 2147483399 * ((b + 28657 * (c + 1)) % 2147483399 % 5003 + 48271)))) := mul_l _ _ (by omega) (by omega)
    refine ⟨a, ((b + 28657 * (c + 1)) % 2147483399 * ((b + 28657 * (c + 1)) % 2147483399 % 5003 + 48271) + 17 * (c + 1)) % 2147483399, c + 1, ((b + 28657 * (c + 1)) % 2147483399 * ((b + 28657 * (c + 1)) % 2147483399 % 5003 + 48271) + 17 * (c + 1)) % 2147483399 / 613 % m, Int.emod_nonneg _ (by omega), Int.emod_lt_of_pos _ (by omega), ?_⟩
    simp [PD.mK, PD.mVar, PD.m1, PD.m2, PD.mFz, PD.aNil, PD.aCons, PD.looks, PD.look, PD.dats, PD.mB, PD.truth, PD.tB, PD.tT, PD.tAnd, PD.tOr, PD.tNot, PD.mIf, PD.vAnd, PD.vOr, PD.vNot, PD.mCall, PD.sNx, PD.sSeq, PD.sDrop, PD.sIf, PD.ret, PD.sRet, PD.sRetN, PD.storeR, PD.store, PD.gN, PD.gNil, PD.gCons, PD.gT, PD.mut1, PD.setL, PD.gSub, PD.sSet, PD.sAsg, PD.stores, PD.noVar, PD.sPar, PD.items, PD.wSeq, PD.tYes, PD.sFor, PD.frz, PD.mTup, PD.mLst, PD.mChain, PD.mCallR, PD.once, PD.pass, PD.pass1, PD.back, PD.back1, PD.inS, PD.outS, PD.okArg, PD.outs, PD.fnD, PD.noEx, Md.mut, Md.ow, PD.eqD, PD.neD, PD.eqB, PD.eqS, PD.isD, PD.isntD, PD.isNonD, PD.addD, PD.subD, PD.modD, PD.fdivD, PD.negD, PD.keyD, PD.dgetD, PD.lenD, PD.mAdd, PD.ownL, F__law_take, B__law_take, pl, ixD, atI, ixN, h, hs, hm]
end Lk41
namespace Lk41
open PySem PySem.Spec L2 PD
theorem ixN_lt {n : Nat} {i : Int} (h1 : 0 ≤ i) (h2 : i < n) : ixN n i = some i.toNat := by unfold ixN; rw [if_pos h1, if_pos h2]
theorem of_ok (a b c : Int) (l : List D) (h1 : 1 ≤ l.length) (h2 : l.length < 1073741824) : ∃ a' b' c' d, d ∈ l ∧ F__law_of [⟨.own, pl a b c⟩, ⟨.own, .lst l⟩] = .ok (.dat d) [some ⟨.own, pl a' b' c'⟩, some ⟨.own, .lst l⟩] := by
  obtain ⟨a', b', c', r, r0, r1, e⟩ := take_ok a b c l.length (by omega) (by omega)
  have hr : r.toNat < l.length := by omega
  refine ⟨a', b', c', l[r.toNat], List.getElem_mem _, ?_⟩
  have hi : atI l r = some l[r.toNat] := by
    unfold atI
    rw [ixN_lt r0 r1]
    exact List.getElem?_eq_getElem hr
  simp [PD.mK, PD.mVar, PD.m1, PD.m2, PD.mFz, PD.aNil, PD.aCons, PD.looks, PD.look, PD.dats, PD.mB, PD.truth, PD.tB, PD.tT, PD.tAnd, PD.tOr, PD.tNot, PD.mIf, PD.vAnd, PD.vOr, PD.vNot, PD.mCall, PD.sNx, PD.sSeq, PD.sDrop, PD.sIf, PD.ret, PD.sRet, PD.sRetN, PD.storeR, PD.store, PD.gN, PD.gNil, PD.gCons, PD.gT, PD.mut1, PD.setL, PD.gSub, PD.sSet, PD.sAsg, PD.stores, PD.noVar, PD.sPar, PD.items, PD.wSeq, PD.tYes, PD.sFor, PD.frz, PD.mTup, PD.mLst, PD.mChain, PD.mCallR, PD.once, PD.pass, PD.pass1, PD.back, PD.back1, PD.inS, PD.outS, PD.okArg, PD.outs, PD.fnD, PD.noEx, Md.mut, Md.ow, PD.eqD, PD.neD, PD.eqB, PD.eqS, PD.isD, PD.isntD, PD.isNonD, PD.addD, PD.subD, PD.modD, PD.fdivD, PD.negD, PD.keyD, PD.dgetD, PD.lenD, PD.mAdd, PD.ownL, F__law_of, B__law_of, e, ixD, hi]
/-- a pool -/
def IsPool (d : D) : Prop := ∃ a b c, d = pl a b c
theorem wide_ok (Γ : EnD) : (m2 mulD (m2 mulD (m2 mulD (m2 mulD (m2 mulD (m2 powD (mK (.int 10)) (mK (.int 64))) (m2 powD (mK (.int 10)) (mK (.int 64)))) (m2 powD (mK (.int 10)) (mK (.int 64)))) (m2 powD (mK (.int 10)) (mK (.int 64)))) (m2 powD (mK (.int 10)) (mK (.int 64)))) (m2 powD (mK (.int 10)) (mK (.int 64)))) Γ = .ok (.dat (.int (10 ^ 384))) Γ := by
  rfl
theorem mem_cut {l : List D} {lo hi : Option Int} {d : D} (h : d ∈ cutD l lo hi) : d ∈ l := by
  unfold cutD at h
  exact List.mem_of_mem_drop (List.mem_of_mem_take h)
theorem pool_ok (ns : List Int) (k : Nat) : ∃ a b c outs, F__law_pool [⟨.dat, .lst (ns.map .int)⟩, ⟨.dat, .int k⟩] = .ok (.own (pl a b c)) outs := by
  obtain ⟨cell, hcell⟩ : ∃ cell : Int, cell = ((ns.drop (HT.sIx ns.length 0 (some (k : Int)))).take (HT.sIx ns.length ns.length (some ((k : Int) + 1)) - HT.sIx ns.length 0 (some (k : Int)))).sum := ⟨_, rfl⟩
  obtain ⟨W, hW⟩ : ∃ W : Int, W = 10 ^ 384 := ⟨_, rfl⟩
  have W0 : 0 < W := by rw [hW]; decide
  -- the loop
  obtain ⟨Γ', e1, x, m, rfl⟩ := forD_inv (g := gN 3) (b := PD.sSet 5 (m2 modD (mAdd (mAdd (m2 mulD (mVar 5) (mK (.int 48271))) (m2 mulD (m2 modD (mVar 3) (mK (.int 2147483399))) (mK (.int 19)))) (mK (.int 7))) (mK (.int 2147483399))))
    (fun _ Γ => ∃ x m, Γ = [some ⟨.dat, .lst (ns.map .int)⟩, some ⟨.dat, .int k⟩, some ⟨.dat, .int W⟩, od x, some ⟨.dat, .int cell⟩, some ⟨.dat, .int m⟩]) (cutD (ns.map .int) none (some 12)) 0 [some ⟨.dat, .lst (ns.map .int)⟩, some ⟨.dat, .int k⟩, some ⟨.dat, .int W⟩, none, some ⟨.dat, .int cell⟩, some ⟨.dat, .int (50021 + 977 * k)⟩] (fun i d Γ hi ⟨x, m, e⟩ => by
      obtain ⟨z, rfl⟩ : ∃ z, d = .int z := by
        obtain ⟨z, _, rfl⟩ := List.mem_map.mp (mem_cut (List.mem_of_getElem? hi))
        exact ⟨z, rfl⟩
      subst e
      refine ⟨[some ⟨.dat, .lst (ns.map .int)⟩, some ⟨.dat, .int k⟩, some ⟨.dat, .int W⟩, od (some (.int z)), some ⟨.dat, .int cell⟩, some ⟨.dat, .int m⟩], [some ⟨.dat, .lst (ns.map .int)⟩, some ⟨.dat, .int k⟩, some ⟨.dat, .int W⟩, od (some (.int z)), some ⟨.dat, .int cell⟩, some ⟨.dat, .int ((m*48271 + z % 2147483399*19 + 7) % 2147483399)⟩], ?_, ?_, some (.int z), _, rfl⟩
      · cases x <;> simp [PD.mK, PD.mVar, PD.m1, PD.m2, PD.mFz, PD.aNil, PD.aCons, PD.looks, PD.look, PD.dats, PD.mB, PD.truth, PD.tB, PD.tT, PD.tAnd, PD.tOr, PD.tNot, PD.mIf, PD.vAnd, PD.vOr, PD.vNot, PD.mCall, PD.sNx, PD.sSeq, PD.sDrop, PD.sIf, PD.ret, PD.sRet, PD.sRetN, PD.storeR, PD.store, PD.gN, PD.gNil, PD.gCons, PD.gT, PD.mut1, PD.setL, PD.gSub, PD.sSet, PD.sAsg, PD.stores, PD.noVar, PD.sPar, PD.items, PD.wSeq, PD.tYes, PD.sFor, PD.frz, PD.mTup, PD.mLst, PD.mChain, PD.mCallR, PD.once, PD.pass, PD.pass1, PD.back, PD.back1, PD.inS, PD.outS, PD.okArg, PD.outs, PD.fnD, PD.noEx, Md.mut, Md.ow, PD.eqD, PD.neD, PD.eqB, PD.eqS, PD.isD, PD.isntD, PD.isNonD, PD.addD, PD.subD, PD.modD, PD.fdivD, PD.negD, PD.keyD, PD.dgetD, PD.lenD, PD.mAdd, PD.ownL, od]
      · simp [PD.mK, PD.mVar, PD.m1, PD.m2, PD.mFz, PD.aNil, PD.aCons, PD.looks, PD.look, PD.dats, PD.mB, PD.truth, PD.tB, PD.tT, PD.tAnd, PD.tOr, PD.tNot, PD.mIf, PD.vAnd, PD.vOr, PD.vNot, PD.mCall, PD.sNx, PD.sSeq, PD.sDrop, PD.sIf, PD.ret, PD.sRet, PD.sRetN, PD.storeR, PD.store, PD.gN, PD.gNil, PD.gCons, PD.gT, PD.mut1, PD.setL, PD.gSub, PD.sSet, PD.sAsg, PD.stores, PD.noVar, PD.sPar, PD.items, PD.wSeq, PD.tYes, PD.sFor, PD.frz, PD.mTup, PD.mLst, PD.mChain, PD.mCallR, PD.once, PD.pass, PD.pass1, PD.back, PD.back1, PD.inS, PD.outS, PD.okArg, PD.outs, PD.fnD, PD.noEx, Md.mut, Md.ow, PD.eqD, PD.neD, PD.eqB, PD.eqS, PD.isD, PD.isntD, PD.isNonD, PD.addD, PD.subD, PD.modD, PD.fdivD, PD.negD, PD.keyD, PD.dgetD, PD.lenD, PD.mAdd, PD.ownL, od]) ⟨none, _, rfl⟩
  unfold F__law_pool
  suffices h : ∃ a b c, B__law_pool ([(⟨.dat, .lst (ns.map .int)⟩ : Sl), ⟨.dat, .int k⟩].map inS ++ List.replicate 4 none) = .ok (.rt (.own (pl a b c))) [some ⟨.dat, .lst (ns.map .int)⟩, some ⟨.dat, .int k⟩, some ⟨.dat, .int W⟩, od x, some ⟨.dat, .int cell⟩, some ⟨.dat, .int m⟩] by
    obtain ⟨a, b, c, h⟩ := h
    exact ⟨a, b, c, _, of_fn rfl rfl h⟩
  unfold B__law_pool
  rw [seq_nx (Γ' := [some ⟨.dat, .lst (ns.map .int)⟩, some ⟨.dat, .int k⟩, none, none, some ⟨.dat, .int cell⟩, some ⟨.dat, .int (50021 + 977 * k)⟩]) (by simp [PD.mK, PD.mVar, PD.m1, PD.m2, PD.mFz, PD.aNil, PD.aCons, PD.looks, PD.look, PD.dats, PD.mB, PD.truth, PD.tB, PD.tT, PD.tAnd, PD.tOr, PD.tNot, PD.mIf, PD.vAnd, PD.vOr, PD.vNot, PD.mCall, PD.sNx, PD.sSeq, PD.sDrop, PD.sIf, PD.ret, PD.sRet, PD.sRetN, PD.storeR, PD.store, PD.gN, PD.gNil, PD.gCons, PD.gT, PD.mut1, PD.setL, PD.gSub, PD.sSet, PD.sAsg, PD.stores, PD.noVar, PD.sPar, PD.items, PD.wSeq, PD.tYes, PD.sFor, PD.frz, PD.mTup, PD.mLst, PD.mChain, PD.mCallR, PD.once, PD.pass, PD.pass1, PD.back, PD.back1, PD.inS, PD.outS, PD.okArg, PD.outs, PD.fnD, PD.noEx, Md.mut, Md.ow, PD.eqD, PD.neD, PD.eqB, PD.eqS, PD.isD, PD.isntD, PD.isNonD, PD.addD, PD.subD, PD.modD, PD.fdivD, PD.negD, PD.keyD, PD.dgetD, PD.lenD, PD.mAdd, PD.ownL, mSl, mPart, slD, cutD, sumD, hcell])]
  rw [seq_nx (Γ' := [some ⟨.dat, .lst (ns.map .int)⟩, some ⟨.dat, .int k⟩, some ⟨.dat, .int W⟩, none, some ⟨.dat, .int cell⟩, some ⟨.dat, .int (50021 + 977 * k)⟩]) (by
    unfold PD.sSet
    rw [wide_ok, ← hW]
    simp [PD.mK, PD.mVar, PD.m1, PD.m2, PD.mFz, PD.aNil, PD.aCons, PD.looks, PD.look, PD.dats, PD.mB, PD.truth, PD.tB, PD.tT, PD.tAnd, PD.tOr, PD.tNot, PD.mIf, PD.vAnd, PD.vOr, PD.vNot, PD.mCall, PD.sNx, PD.sSeq, PD.sDrop, PD.sIf, PD.ret, PD.sRet, PD.sRetN, PD.storeR, PD.store, PD.gN, PD.gNil, PD.gCons, PD.gT, PD.mut1, PD.setL, PD.gSub, PD.sSet, PD.sAsg, PD.stores, PD.noVar, PD.sPar, PD.items, PD.wSeq, PD.tYes, PD.sFor, PD.frz, PD.mTup, PD.mLst, PD.mChain, PD.mCallR, PD.once, PD.pass, PD.pass1, PD.back, PD.back1, PD.inS, PD.outS, PD.okArg, PD.outs, PD.fnD, PD.noEx, Md.mut, Md.ow, PD.eqD, PD.neD, PD.eqB, PD.eqS, PD.isD, PD.isntD, PD.isNonD, PD.addD, PD.subD, PD.modD, PD.fdivD, PD.negD, PD.keyD, PD.dgetD, PD.lenD, PD.mAdd, PD.ownL])]
  rw [seq_nx (Γ' := _) (by
    show PD.sFor _ _ _ _ = _
    unfold PD.sFor wSeq
    simp only [mSl, mPart, slD, mVar, mK, R.bind_ok, look, R.opt_some, frz, items, List.getElem?_cons_zero]
    exact e1)]
  have h18 : powD (.int 10) (.int 18) = some (.dat (.int 1000000000000000000)) := by rfl
  by_cases h : cell < 0
  · exact ⟨_, _, _, by simp [PD.mK, PD.mVar, PD.m1, PD.m2, PD.mFz, PD.aNil, PD.aCons, PD.looks, PD.look, PD.dats, PD.mB, PD.truth, PD.tB, PD.tT, PD.tAnd, PD.tOr, PD.tNot, PD.mIf, PD.vAnd, PD.vOr, PD.vNot, PD.mCall, PD.sNx, PD.sSeq, PD.sDrop, PD.sIf, PD.ret, PD.sRet, PD.sRetN, PD.storeR, PD.store, PD.gN, PD.gNil, PD.gCons, PD.gT, PD.mut1, PD.setL, PD.gSub, PD.sSet, PD.sAsg, PD.stores, PD.noVar, PD.sPar, PD.items, PD.wSeq, PD.tYes, PD.sFor, PD.frz, PD.mTup, PD.mLst, PD.mChain, PD.mCallR, PD.once, PD.pass, PD.pass1, PD.back, PD.back1, PD.inS, PD.outS, PD.okArg, PD.outs, PD.fnD, PD.noEx, Md.mut, Md.ow, PD.eqD, PD.neD, PD.eqB, PD.eqS, PD.isD, PD.isntD, PD.isNonD, PD.addD, PD.subD, PD.modD, PD.fdivD, PD.negD, PD.keyD, PD.dgetD, PD.lenD, PD.mAdd, PD.ownL, h, absD, W0]; rfl⟩
  · by_cases h' : (1000000000000000000 : Int) ≤ cell
    · exact ⟨_, _, _, by simp [PD.mK, PD.mVar, PD.m1, PD.m2, PD.mFz, PD.aNil, PD.aCons, PD.looks, PD.look, PD.dats, PD.mB, PD.truth, PD.tB, PD.tT, PD.tAnd, PD.tOr, PD.tNot, PD.mIf, PD.vAnd, PD.vOr, PD.vNot, PD.mCall, PD.sNx, PD.sSeq, PD.sDrop, PD.sIf, PD.ret, PD.sRet, PD.sRetN, PD.storeR, PD.store, PD.gN, PD.gNil, PD.gCons, PD.gT, PD.mut1, PD.setL, PD.gSub, PD.sSet, PD.sAsg, PD.stores, PD.noVar, PD.sPar, PD.items, PD.wSeq, PD.tYes, PD.sFor, PD.frz, PD.mTup, PD.mLst, PD.mChain, PD.mCallR, PD.once, PD.pass, PD.pass1, PD.back, PD.back1, PD.inS, PD.outS, PD.okArg, PD.outs, PD.fnD, PD.noEx, Md.mut, Md.ow, PD.eqD, PD.neD, PD.eqB, PD.eqS, PD.isD, PD.isntD, PD.isNonD, PD.addD, PD.subD, PD.modD, PD.fdivD, PD.negD, PD.keyD, PD.dgetD, PD.lenD, PD.mAdd, PD.ownL, h, h18, h', absD, W0]; rfl⟩
    · exact ⟨_, _, _, by simp [PD.mK, PD.mVar, PD.m1, PD.m2, PD.mFz, PD.aNil, PD.aCons, PD.looks, PD.look, PD.dats, PD.mB, PD.truth, PD.tB, PD.tT, PD.tAnd, PD.tOr, PD.tNot, PD.mIf, PD.vAnd, PD.vOr, PD.vNot, PD.mCall, PD.sNx, PD.sSeq, PD.sDrop, PD.sIf, PD.ret, PD.sRet, PD.sRetN, PD.storeR, PD.store, PD.gN, PD.gNil, PD.gCons, PD.gT, PD.mut1, PD.setL, PD.gSub, PD.sSet, PD.sAsg, PD.stores, PD.noVar, PD.sPar, PD.items, PD.wSeq, PD.tYes, PD.sFor, PD.frz, PD.mTup, PD.mLst, PD.mChain, PD.mCallR, PD.once, PD.pass, PD.pass1, PD.back, PD.back1, PD.inS, PD.outS, PD.okArg, PD.outs, PD.fnD, PD.noEx, Md.mut, Md.ow, PD.eqD, PD.neD, PD.eqB, PD.eqS, PD.isD, PD.isntD, PD.isNonD, PD.addD, PD.subD, PD.modD, PD.fdivD, PD.negD, PD.keyD, PD.dgetD, PD.lenD, PD.mAdd, PD.ownL, h, h18, h', absD, W0]; rfl⟩
end Lk41

namespace Lk41
open PySem PySem.Spec L2 PD
@[simp] theorem whole_ok (v : Int) : F_is_whole [⟨.dat, .int v⟩] = .ok (.dat (.bl true)) [none] := by rfl
@[simp] theorem between_ok (v l m : Int) : F_is_between [⟨.dat, .int v⟩, ⟨.dat, .int l⟩, ⟨.dat, .int m⟩] = .ok (.dat (.bl (decide (l ≤ v) && decide (v ≤ m)))) [none, none, none] := by
  by_cases h : l ≤ v <;> by_cases h' : v ≤ m <;> simp [PD.mK, PD.mVar, PD.m1, PD.m2, PD.mFz, PD.aNil, PD.aCons, PD.looks, PD.look, PD.dats, PD.mB, PD.truth, PD.tB, PD.tT, PD.tAnd, PD.tOr, PD.tNot, PD.mIf, PD.vAnd, PD.vOr, PD.vNot, PD.mCall, PD.sNx, PD.sSeq, PD.sDrop, PD.sIf, PD.ret, PD.sRet, PD.sRetN, PD.storeR, PD.store, PD.gN, PD.gNil, PD.gCons, PD.gT, PD.mut1, PD.setL, PD.gSub, PD.sSet, PD.sAsg, PD.stores, PD.noVar, PD.sPar, PD.items, PD.wSeq, PD.tYes, PD.sFor, PD.frz, PD.mTup, PD.mLst, PD.mChain, PD.mCallR, PD.once, PD.pass, PD.pass1, PD.back, PD.back1, PD.inS, PD.outS, PD.okArg, PD.outs, PD.fnD, PD.noEx, Md.mut, Md.ow, PD.eqD, PD.neD, PD.eqB, PD.eqS, PD.isD, PD.isntD, PD.isNonD, PD.addD, PD.subD, PD.modD, PD.fdivD, PD.negD, PD.keyD, PD.dgetD, PD.lenD, PD.mAdd, PD.ownL, F_is_between, B_is_between, h, h']
@[simp] theorem tup_ok (l : List D) (n : Int) : F_is_tuple_of [⟨.dat, .tup l⟩, ⟨.dat, .int n⟩] = .ok (.dat (.bl (decide ((l.length : Int) = n)))) [none, none] := by
  have : isiD [0] [.tup l, .ty "tuple"] = some (.dat (.bl true)) := by rfl
  simp [PD.mK, PD.mVar, PD.m1, PD.m2, PD.mFz, PD.aNil, PD.aCons, PD.looks, PD.look, PD.dats, PD.mB, PD.truth, PD.tB, PD.tT, PD.tAnd, PD.tOr, PD.tNot, PD.mIf, PD.vAnd, PD.vOr, PD.vNot, PD.mCall, PD.sNx, PD.sSeq, PD.sDrop, PD.sIf, PD.ret, PD.sRet, PD.sRetN, PD.storeR, PD.store, PD.gN, PD.gNil, PD.gCons, PD.gT, PD.mut1, PD.setL, PD.gSub, PD.sSet, PD.sAsg, PD.stores, PD.noVar, PD.sPar, PD.items, PD.wSeq, PD.tYes, PD.sFor, PD.frz, PD.mTup, PD.mLst, PD.mChain, PD.mCallR, PD.once, PD.pass, PD.pass1, PD.back, PD.back1, PD.inS, PD.outS, PD.okArg, PD.outs, PD.fnD, PD.noEx, Md.mut, Md.ow, PD.eqD, PD.neD, PD.eqB, PD.eqS, PD.isD, PD.isntD, PD.isNonD, PD.addD, PD.subD, PD.modD, PD.fdivD, PD.negD, PD.keyD, PD.dgetD, PD.lenD, PD.mAdd, PD.ownL, F_is_tuple_of, B_is_tuple_of, this]
@[simp] theorem row_ok (l : List D) (n m : Int) : F_is_row [⟨.dat, .tup l⟩, ⟨.dat, .int n⟩, ⟨.dat, .int m⟩] = .ok (.dat (.bl (decide (n ≤ l.length) && decide ((l.length : Int) ≤ m)))) [none, none, none] := by
  have : isiD [0] [.tup l, .ty "tuple"] = some (.dat (.bl true)) := by rfl
  by_cases h : n ≤ l.length <;> by_cases h' : (l.length : Int) ≤ m <;> simp [PD.mK, PD.mVar, PD.m1, PD.m2, PD.mFz, PD.aNil, PD.aCons, PD.looks, PD.look, PD.dats, PD.mB, PD.truth, PD.tB, PD.tT, PD.tAnd, PD.tOr, PD.tNot, PD.mIf, PD.vAnd, PD.vOr, PD.vNot, PD.mCall, PD.sNx, PD.sSeq, PD.sDrop, PD.sIf, PD.ret, PD.sRet, PD.sRetN, PD.storeR, PD.store, PD.gN, PD.gNil, PD.gCons, PD.gT, PD.mut1, PD.setL, PD.gSub, PD.sSet, PD.sAsg, PD.stores, PD.noVar, PD.sPar, PD.items, PD.wSeq, PD.tYes, PD.sFor, PD.frz, PD.mTup, PD.mLst, PD.mChain, PD.mCallR, PD.once, PD.pass, PD.pass1, PD.back, PD.back1, PD.inS, PD.outS, PD.okArg, PD.outs, PD.fnD, PD.noEx, Md.mut, Md.ow, PD.eqD, PD.neD, PD.eqB, PD.eqS, PD.isD, PD.isntD, PD.isNonD, PD.addD, PD.subD, PD.modD, PD.fdivD, PD.negD, PD.keyD, PD.dgetD, PD.lenD, PD.mAdd, PD.ownL, F_is_row, B_is_row, this, h, h']
/-- a step -/
def stD (p : Int × Int) : D := .tup [.int p.1, .int p.2]
@[simp] theorem step_ok (a b : Int) (h : 1 ≤ a ∧ a ≤ 999 ∧ 1 ≤ b ∧ b ≤ 5) : F_is_step [⟨.dat, .tup [.int a, .int b]⟩] = .ok (.dat (.bl true)) [none] := by
  obtain ⟨h1, h2, h3, h4⟩ := h
  simp [PD.mK, PD.mVar, PD.m1, PD.m2, PD.mFz, PD.aNil, PD.aCons, PD.looks, PD.look, PD.dats, PD.mB, PD.truth, PD.tB, PD.tT, PD.tAnd, PD.tOr, PD.tNot, PD.mIf, PD.vAnd, PD.vOr, PD.vNot, PD.mCall, PD.sNx, PD.sSeq, PD.sDrop, PD.sIf, PD.ret, PD.sRet, PD.sRetN, PD.storeR, PD.store, PD.gN, PD.gNil, PD.gCons, PD.gT, PD.mut1, PD.setL, PD.gSub, PD.sSet, PD.sAsg, PD.stores, PD.noVar, PD.sPar, PD.items, PD.wSeq, PD.tYes, PD.sFor, PD.frz, PD.mTup, PD.mLst, PD.mChain, PD.mCallR, PD.once, PD.pass, PD.pass1, PD.back, PD.back1, PD.inS, PD.outS, PD.okArg, PD.outs, PD.fnD, PD.noEx, Md.mut, Md.ow, PD.eqD, PD.neD, PD.eqB, PD.eqS, PD.isD, PD.isntD, PD.isNonD, PD.addD, PD.subD, PD.modD, PD.fdivD, PD.negD, PD.keyD, PD.dgetD, PD.lenD, PD.mAdd, PD.ownL, F_is_step, B_is_step, stD, h1, h2, h3, h4, ixD, atI, ixN]
/-- a curve that holds -/
inductive CvOk (r B : Int) : List (Int × Int) → Prop
  | one {t1 : Int} : 1 ≤ t1 → t1 ≤ 5 → CvOk r B [(r + 1, t1)]
  | two {t1 s2 t2 : Int} : t1 ≤ 5 → r + 1 < s2 → s2 ≤ 1 + 2 * B → 1 ≤ t2 → t2 < t1 → CvOk r B [(r + 1, t1), (s2, t2)]
  | three {t1 s2 t2 s3 t3 : Int} : t1 ≤ 5 → r + 1 < s2 → s2 ≤ 1 + 2 * B → t2 < t1 → s2 < s3 → s3 ≤ 1 + 3 * B → 1 ≤ t3 → t3 < t2 → CvOk r B [(r + 1, t1), (s2, t2), (s3, t3)]
theorem curve_ok {r B : Int} {c : List (Int × Int)} (h : CvOk r B c) (h1 : 1 ≤ r) (h2 : r ≤ B) (h3 : B ≤ 20) : F_is_curve [⟨.dat, .int r⟩, ⟨.dat, .tup (c.map stD)⟩] = .ok (.dat (.bl true)) [none, none] := by
  have hs : ∀ a b : Int, 1 ≤ a → a ≤ 999 → 1 ≤ b → b ≤ 5 → F_is_step [⟨.dat, .tup [.int a, .int b]⟩] = .ok (.dat (.bl true)) [none] := fun a b x1 x2 x3 x4 => step_ok a b ⟨x1, x2, x3, x4⟩
  cases h with
  | one a1 a2 =>
    have s1 := hs (r + 1) _ (by omega) (by omega) a1 a2
    simp [PD.mK, PD.mVar, PD.m1, PD.m2, PD.mFz, PD.aNil, PD.aCons, PD.looks, PD.look, PD.dats, PD.mB, PD.truth, PD.tB, PD.tT, PD.tAnd, PD.tOr, PD.tNot, PD.mIf, PD.vAnd, PD.vOr, PD.vNot, PD.mCall, PD.sNx, PD.sSeq, PD.sDrop, PD.sIf, PD.ret, PD.sRet, PD.sRetN, PD.storeR, PD.store, PD.gN, PD.gNil, PD.gCons, PD.gT, PD.mut1, PD.setL, PD.gSub, PD.sSet, PD.sAsg, PD.stores, PD.noVar, PD.sPar, PD.items, PD.wSeq, PD.tYes, PD.sFor, PD.frz, PD.mTup, PD.mLst, PD.mChain, PD.mCallR, PD.once, PD.pass, PD.pass1, PD.back, PD.back1, PD.inS, PD.outS, PD.okArg, PD.outs, PD.fnD, PD.noEx, Md.mut, Md.ow, PD.eqD, PD.neD, PD.eqB, PD.eqS, PD.isD, PD.isntD, PD.isNonD, PD.addD, PD.subD, PD.modD, PD.fdivD, PD.negD, PD.keyD, PD.dgetD, PD.lenD, PD.mAdd, PD.ownL, F_is_curve, B_is_curve, mLc, compD, plainAt, wipeE, backE, s1, allD, bools, mSl, mPart, slD, cutD, HT.sIx, wZip, zip2, ixD, atI, ixN, stD]
  | two a1 a2 a3 a4 a5 =>
    rename_i t1 s2 t2
    have s1 := hs (r + 1) t1 (by omega) (by omega) (by omega) a1
    have s2 := hs s2 t2 (by omega) (by omega) (by omega) (by omega)
    simp [PD.mK, PD.mVar, PD.m1, PD.m2, PD.mFz, PD.aNil, PD.aCons, PD.looks, PD.look, PD.dats, PD.mB, PD.truth, PD.tB, PD.tT, PD.tAnd, PD.tOr, PD.tNot, PD.mIf, PD.vAnd, PD.vOr, PD.vNot, PD.mCall, PD.sNx, PD.sSeq, PD.sDrop, PD.sIf, PD.ret, PD.sRet, PD.sRetN, PD.storeR, PD.store, PD.gN, PD.gNil, PD.gCons, PD.gT, PD.mut1, PD.setL, PD.gSub, PD.sSet, PD.sAsg, PD.stores, PD.noVar, PD.sPar, PD.items, PD.wSeq, PD.tYes, PD.sFor, PD.frz, PD.mTup, PD.mLst, PD.mChain, PD.mCallR, PD.once, PD.pass, PD.pass1, PD.back, PD.back1, PD.inS, PD.outS, PD.okArg, PD.outs, PD.fnD, PD.noEx, Md.mut, Md.ow, PD.eqD, PD.neD, PD.eqB, PD.eqS, PD.isD, PD.isntD, PD.isNonD, PD.addD, PD.subD, PD.modD, PD.fdivD, PD.negD, PD.keyD, PD.dgetD, PD.lenD, PD.mAdd, PD.ownL, F_is_curve, B_is_curve, mLc, compD, plainAt, wipeE, backE, s1, s2, allD, bools, mSl, mPart, slD, cutD, HT.sIx, wZip, zip2, ixD, atI, ixN, stD, a2, a5]
  | three a1 a2 a3 a4 a5 a6 a7 a8 =>
    rename_i t1 s2 t2 s3 t3
    have s1 := hs (r + 1) t1 (by omega) (by omega) (by omega) a1
    have s2 := hs s2 t2 (by omega) (by omega) (by omega) (by omega)
    have s3 := hs s3 t3 (by omega) (by omega) (by omega) (by omega)
    simp [PD.mK, PD.mVar, PD.m1, PD.m2, PD.mFz, PD.aNil, PD.aCons, PD.looks, PD.look, PD.dats, PD.mB, PD.truth, PD.tB, PD.tT, PD.tAnd, PD.tOr, PD.tNot, PD.mIf, PD.vAnd, PD.vOr, PD.vNot, PD.mCall, PD.sNx, PD.sSeq, PD.sDrop, PD.sIf, PD.ret, PD.sRet, PD.sRetN, PD.storeR, PD.store, PD.gN, PD.gNil, PD.gCons, PD.gT, PD.mut1, PD.setL, PD.gSub, PD.sSet, PD.sAsg, PD.stores, PD.noVar, PD.sPar, PD.items, PD.wSeq, PD.tYes, PD.sFor, PD.frz, PD.mTup, PD.mLst, PD.mChain, PD.mCallR, PD.once, PD.pass, PD.pass1, PD.back, PD.back1, PD.inS, PD.outS, PD.okArg, PD.outs, PD.fnD, PD.noEx, Md.mut, Md.ow, PD.eqD, PD.neD, PD.eqB, PD.eqS, PD.isD, PD.isntD, PD.isNonD, PD.addD, PD.subD, PD.modD, PD.fdivD, PD.negD, PD.keyD, PD.dgetD, PD.lenD, PD.mAdd, PD.ownL, F_is_curve, B_is_curve, mLc, compD, plainAt, wipeE, backE, s1, s2, s3, allD, bools, mSl, mPart, slD, cutD, HT.sIx, wZip, zip2, ixD, atI, ixN, stD, a2, a4, a5, a8]
end Lk41

namespace Lk41
open PySem PySem.Spec L2 PD
def oD : Option Int → D
  | none => .non
  | some i => .int i
structure Sw where
  above : Option Int
  rating : Int
  curve : List (Int × Int)
  stop : Int
structure Th where
  at_ : Int
  amps : Int
  peak : Int
  long : Int
def swD (s : Sw) : D := .tup [oD s.above, .int s.rating, .tup (s.curve.map stD), .int s.stop]
def thD (t : Th) : D := .tup [.int t.at_, .int t.amps, .int t.peak, .int t.long]
structure SwOk (B : Int) (k : Nat) (s : Sw) : Prop where
  a0 : k = 0 → s.above = none
  a1 : k ≠ 0 → ∃ i : Int, s.above = some i ∧ 0 ≤ i ∧ i < k
  r1 : 1 ≤ s.rating
  r2 : s.rating ≤ B
  cv : CvOk s.rating B s.curve
  s1 : 1 ≤ s.stop
  s2 : s.stop ≤ 9 + 3 * B ∨ s.stop = 999
structure ThOk (n : Int) (t : Th) : Prop where
  a0 : 0 ≤ t.at_
  a1 : t.at_ < n
  b0 : 1 ≤ t.amps
  b1 : t.amps ≤ 5
  c0 : t.amps ≤ t.peak
  c1 : t.peak ≤ 8
  d0 : 0 ≤ t.long
  d1 : t.long ≤ 2
theorem above_ok {B : Int} {k : Nat} {s : Sw} (h : SwOk B k s) : F_is_above [⟨.dat, .int k⟩, ⟨.dat, oD s.above⟩] = .ok (.dat (.bl true)) [none, none] := by
  by_cases hk : k = 0
  · rw [h.a0 hk]
    subst hk
    simp [PD.mK, PD.mVar, PD.m1, PD.m2, PD.mFz, PD.aNil, PD.aCons, PD.looks, PD.look, PD.dats, PD.mB, PD.truth, PD.tB, PD.tT, PD.tAnd, PD.tOr, PD.tNot, PD.mIf, PD.vAnd, PD.vOr, PD.vNot, PD.mCall, PD.sNx, PD.sSeq, PD.sDrop, PD.sIf, PD.ret, PD.sRet, PD.sRetN, PD.storeR, PD.store, PD.gN, PD.gNil, PD.gCons, PD.gT, PD.mut1, PD.setL, PD.gSub, PD.sSet, PD.sAsg, PD.stores, PD.noVar, PD.sPar, PD.items, PD.wSeq, PD.tYes, PD.sFor, PD.frz, PD.mTup, PD.mLst, PD.mChain, PD.mCallR, PD.once, PD.pass, PD.pass1, PD.back, PD.back1, PD.inS, PD.outS, PD.okArg, PD.outs, PD.fnD, PD.noEx, Md.mut, Md.ow, PD.eqD, PD.neD, PD.eqB, PD.eqS, PD.isD, PD.isntD, PD.isNonD, PD.addD, PD.subD, PD.modD, PD.fdivD, PD.negD, PD.keyD, PD.dgetD, PD.lenD, PD.mAdd, PD.ownL, F_is_above, B_is_above, oD]
  · obtain ⟨i, e, i0, i1⟩ := h.a1 hk
    rw [e]
    have : ¬ ((k : Int) = 0) := by omega
    have h2 : i ≤ (k : Int) - 1 := by omega
    simp [PD.mK, PD.mVar, PD.m1, PD.m2, PD.mFz, PD.aNil, PD.aCons, PD.looks, PD.look, PD.dats, PD.mB, PD.truth, PD.tB, PD.tT, PD.tAnd, PD.tOr, PD.tNot, PD.mIf, PD.vAnd, PD.vOr, PD.vNot, PD.mCall, PD.sNx, PD.sSeq, PD.sDrop, PD.sIf, PD.ret, PD.sRet, PD.sRetN, PD.storeR, PD.store, PD.gN, PD.gNil, PD.gCons, PD.gT, PD.mut1, PD.setL, PD.gSub, PD.sSet, PD.sAsg, PD.stores, PD.noVar, PD.sPar, PD.items, PD.wSeq, PD.tYes, PD.sFor, PD.frz, PD.mTup, PD.mLst, PD.mChain, PD.mCallR, PD.once, PD.pass, PD.pass1, PD.back, PD.back1, PD.inS, PD.outS, PD.okArg, PD.outs, PD.fnD, PD.noEx, Md.mut, Md.ow, PD.eqD, PD.neD, PD.eqB, PD.eqS, PD.isD, PD.isntD, PD.isNonD, PD.addD, PD.subD, PD.modD, PD.fdivD, PD.negD, PD.keyD, PD.dgetD, PD.lenD, PD.mAdd, PD.ownL, F_is_above, B_is_above, oD, hk, i0, h2]
theorem switch_row_ok {B : Int} {k : Nat} {s : Sw} (h : SwOk B k s) (hB : B ≤ 20) : F_is_switch_row [⟨.dat, .int k⟩, ⟨.dat, swD s⟩] = .ok (.dat (.bl true)) [none, none] := by
  have e1 := above_ok h
  have e2 := curve_ok h.cv h.r1 h.r2 hB
  have e3 := h.r1
  have e4 : s.rating ≤ 99 := by have := h.r2; omega
  have e5 := h.s1
  have e6 : s.stop ≤ 999 := by have := h.s2; omega
  simp [PD.mK, PD.mVar, PD.m1, PD.m2, PD.mFz, PD.aNil, PD.aCons, PD.looks, PD.look, PD.dats, PD.mB, PD.truth, PD.tB, PD.tT, PD.tAnd, PD.tOr, PD.tNot, PD.mIf, PD.vAnd, PD.vOr, PD.vNot, PD.mCall, PD.sNx, PD.sSeq, PD.sDrop, PD.sIf, PD.ret, PD.sRet, PD.sRetN, PD.storeR, PD.store, PD.gN, PD.gNil, PD.gCons, PD.gT, PD.mut1, PD.setL, PD.gSub, PD.sSet, PD.sAsg, PD.stores, PD.noVar, PD.sPar, PD.items, PD.wSeq, PD.tYes, PD.sFor, PD.frz, PD.mTup, PD.mLst, PD.mChain, PD.mCallR, PD.once, PD.pass, PD.pass1, PD.back, PD.back1, PD.inS, PD.outS, PD.okArg, PD.outs, PD.fnD, PD.noEx, Md.mut, Md.ow, PD.eqD, PD.neD, PD.eqB, PD.eqS, PD.isD, PD.isntD, PD.isNonD, PD.addD, PD.subD, PD.modD, PD.fdivD, PD.negD, PD.keyD, PD.dgetD, PD.lenD, PD.mAdd, PD.ownL, F_is_switch_row, B_is_switch_row, swD, ixD, atI, ixN, e1, e2, e3, e4, e5, e6]
theorem thing_row_ok {n : Int} {t : Th} (h : ThOk n t) : F_is_thing_row [⟨.dat, .int n⟩, ⟨.dat, thD t⟩] = .ok (.dat (.bl true)) [none, none] := by
  have e0 := h.a0
  have e1 : t.at_ ≤ n - 1 := by have := h.a1; omega
  have e2 := h.b0
  have e3 : t.amps ≤ 99 := by have := h.b1; omega
  have e4 := h.c0
  have e5 : t.peak ≤ 99 := by have := h.c1; omega
  have e6 := h.d0
  have e7 := h.d1
  simp [PD.mK, PD.mVar, PD.m1, PD.m2, PD.mFz, PD.aNil, PD.aCons, PD.looks, PD.look, PD.dats, PD.mB, PD.truth, PD.tB, PD.tT, PD.tAnd, PD.tOr, PD.tNot, PD.mIf, PD.vAnd, PD.vOr, PD.vNot, PD.mCall, PD.sNx, PD.sSeq, PD.sDrop, PD.sIf, PD.ret, PD.sRet, PD.sRetN, PD.storeR, PD.store, PD.gN, PD.gNil, PD.gCons, PD.gT, PD.mut1, PD.setL, PD.gSub, PD.sSet, PD.sAsg, PD.stores, PD.noVar, PD.sPar, PD.items, PD.wSeq, PD.tYes, PD.sFor, PD.frz, PD.mTup, PD.mLst, PD.mChain, PD.mCallR, PD.once, PD.pass, PD.pass1, PD.back, PD.back1, PD.inS, PD.outS, PD.okArg, PD.outs, PD.fnD, PD.noEx, Md.mut, Md.ow, PD.eqD, PD.neD, PD.eqB, PD.eqS, PD.isD, PD.isntD, PD.isNonD, PD.addD, PD.subD, PD.modD, PD.fdivD, PD.negD, PD.keyD, PD.dgetD, PD.lenD, PD.mAdd, PD.ownL, F_is_thing_row, B_is_thing_row, thD, ixD, atI, ixN, e0, e1, e2, e3, e4, e5, e6, e7]
theorem back_dat (Γ : EnD) (a b : D) (os : List (Option Sl)) : back Γ [.dat a, .dat b] os = Γ := by
  match os with
  | [] => rfl
  | [_] => rfl
  | _ :: _ :: _ => rfl
theorem enumD_get : ∀ (ds : List D) (n i : Nat) (d : D), (enumD n ds)[i]? = some d → ∃ x, ds[i]? = some x ∧ d = .tup [.int ((n + i : Nat) : Int), x]
  | [], n, i, d, h => by simp [PD.mK, PD.mVar, PD.m1, PD.m2, PD.mFz, PD.aNil, PD.aCons, PD.looks, PD.look, PD.dats, PD.mB, PD.truth, PD.tB, PD.tT, PD.tAnd, PD.tOr, PD.tNot, PD.mIf, PD.vAnd, PD.vOr, PD.vNot, PD.mCall, PD.sNx, PD.sSeq, PD.sDrop, PD.sIf, PD.ret, PD.sRet, PD.sRetN, PD.storeR, PD.store, PD.gN, PD.gNil, PD.gCons, PD.gT, PD.mut1, PD.setL, PD.gSub, PD.sSet, PD.sAsg, PD.stores, PD.noVar, PD.sPar, PD.items, PD.wSeq, PD.tYes, PD.sFor, PD.frz, PD.mTup, PD.mLst, PD.mChain, PD.mCallR, PD.once, PD.pass, PD.pass1, PD.back, PD.back1, PD.inS, PD.outS, PD.okArg, PD.outs, PD.fnD, PD.noEx, Md.mut, Md.ow, PD.eqD, PD.neD, PD.eqB, PD.eqS, PD.isD, PD.isntD, PD.isNonD, PD.addD, PD.subD, PD.modD, PD.fdivD, PD.negD, PD.keyD, PD.dgetD, PD.lenD, PD.mAdd, PD.ownL, enumD] at h
  | x :: ds, n, 0, d, h => by
    simp [PD.mK, PD.mVar, PD.m1, PD.m2, PD.mFz, PD.aNil, PD.aCons, PD.looks, PD.look, PD.dats, PD.mB, PD.truth, PD.tB, PD.tT, PD.tAnd, PD.tOr, PD.tNot, PD.mIf, PD.vAnd, PD.vOr, PD.vNot, PD.mCall, PD.sNx, PD.sSeq, PD.sDrop, PD.sIf, PD.ret, PD.sRet, PD.sRetN, PD.storeR, PD.store, PD.gN, PD.gNil, PD.gCons, PD.gT, PD.mut1, PD.setL, PD.gSub, PD.sSet, PD.sAsg, PD.stores, PD.noVar, PD.sPar, PD.items, PD.wSeq, PD.tYes, PD.sFor, PD.frz, PD.mTup, PD.mLst, PD.mChain, PD.mCallR, PD.once, PD.pass, PD.pass1, PD.back, PD.back1, PD.inS, PD.outS, PD.okArg, PD.outs, PD.fnD, PD.noEx, Md.mut, Md.ow, PD.eqD, PD.neD, PD.eqB, PD.eqS, PD.isD, PD.isntD, PD.isNonD, PD.addD, PD.subD, PD.modD, PD.fdivD, PD.negD, PD.keyD, PD.dgetD, PD.lenD, PD.mAdd, PD.ownL, enumD] at h
    exact ⟨x, rfl, by rw [← h]; simp⟩
  | x :: ds, n, i + 1, d, h => by
    simp [PD.mK, PD.mVar, PD.m1, PD.m2, PD.mFz, PD.aNil, PD.aCons, PD.looks, PD.look, PD.dats, PD.mB, PD.truth, PD.tB, PD.tT, PD.tAnd, PD.tOr, PD.tNot, PD.mIf, PD.vAnd, PD.vOr, PD.vNot, PD.mCall, PD.sNx, PD.sSeq, PD.sDrop, PD.sIf, PD.ret, PD.sRet, PD.sRetN, PD.storeR, PD.store, PD.gN, PD.gNil, PD.gCons, PD.gT, PD.mut1, PD.setL, PD.gSub, PD.sSet, PD.sAsg, PD.stores, PD.noVar, PD.sPar, PD.items, PD.wSeq, PD.tYes, PD.sFor, PD.frz, PD.mTup, PD.mLst, PD.mChain, PD.mCallR, PD.once, PD.pass, PD.pass1, PD.back, PD.back1, PD.inS, PD.outS, PD.okArg, PD.outs, PD.fnD, PD.noEx, Md.mut, Md.ow, PD.eqD, PD.neD, PD.eqB, PD.eqS, PD.isD, PD.isntD, PD.isNonD, PD.addD, PD.subD, PD.modD, PD.fdivD, PD.negD, PD.keyD, PD.dgetD, PD.lenD, PD.mAdd, PD.ownL, enumD] at h
    obtain ⟨y, e, e'⟩ := enumD_get ds (n + 1) i d h
    exact ⟨y, by simpa using e, by rw [e']; congr 4; omega⟩
theorem cut_to (l : List D) (i : Nat) : cutD l none (some (i : Int)) = l.take i := by
  unfold cutD
  rw [HT.sIx_none, HT.sIx_nat]
  by_cases h : i ≤ l.length
  · rw [Nat.min_eq_left h]
    rfl
  · rw [Nat.min_eq_right (by omega)]
    simp [PD.mK, PD.mVar, PD.m1, PD.m2, PD.mFz, PD.aNil, PD.aCons, PD.looks, PD.look, PD.dats, PD.mB, PD.truth, PD.tB, PD.tT, PD.tAnd, PD.tOr, PD.tNot, PD.mIf, PD.vAnd, PD.vOr, PD.vNot, PD.mCall, PD.sNx, PD.sSeq, PD.sDrop, PD.sIf, PD.ret, PD.sRet, PD.sRetN, PD.storeR, PD.store, PD.gN, PD.gNil, PD.gCons, PD.gT, PD.mut1, PD.setL, PD.gSub, PD.sSet, PD.sAsg, PD.stores, PD.noVar, PD.sPar, PD.items, PD.wSeq, PD.tYes, PD.sFor, PD.frz, PD.mTup, PD.mLst, PD.mChain, PD.mCallR, PD.once, PD.pass, PD.pass1, PD.back, PD.back1, PD.inS, PD.outS, PD.okArg, PD.outs, PD.fnD, PD.noEx, Md.mut, Md.ow, PD.eqD, PD.neD, PD.eqB, PD.eqS, PD.isD, PD.isntD, PD.isNonD, PD.addD, PD.subD, PD.modD, PD.fdivD, PD.negD, PD.keyD, PD.dgetD, PD.lenD, PD.mAdd, PD.ownL, List.take_of_length_le (show l.length ≤ i by omega)]
theorem first_ok {fn : FS} {rows ds : List D} (h : ∀ i x, rows[i]? = some x → ∃ os, fn (⟨.dat, x⟩ :: ⟨.dat, .tup (rows.take i)⟩ :: ds.map fun d => ⟨.dat, d⟩) = .ok (.dat (.bl true)) os) : fnL2 4 (H_first_wrong fn) (.tup rows) ds = some (some (.dat .non)) := by
  obtain ⟨Γ', e1, x, y, rfl⟩ := forD_inv (g := gT 2 (PD.gCons (gN 2) (PD.gCons (gN 3) PD.gNil))) (b := PD.sIf (PD.tNot (tT (mCallL 1 fn (aCons (mVar 3) (aCons (mSl (mVar 0) none (some (mVar 2))) aNil))))) (PD.sRet (mVar 2)) sNx)
    (fun _ Γ => ∃ x y, Γ = [some ⟨.dat, .tup rows⟩, some ⟨.lam, .tup ds⟩, od x, od y]) (enumD 0 rows) 0 [some ⟨.dat, .tup rows⟩, some ⟨.lam, .tup ds⟩, none, none] (fun i d Γ hi ⟨x, y, e⟩ => by
      obtain ⟨z, hz, rfl⟩ := enumD_get rows 0 i d hi
      subst e
      obtain ⟨os, hf⟩ := h i z hz
      refine ⟨[some ⟨.dat, .tup rows⟩, some ⟨.lam, .tup ds⟩, od (some (.int (i : Int))), od (some z)], [some ⟨.dat, .tup rows⟩, some ⟨.lam, .tup ds⟩, od (some (.int (i : Int))), od (some z)], ?_, ?_, _, _, rfl⟩
      · cases x <;> cases y <;> simp [PD.mK, PD.mVar, PD.m1, PD.m2, PD.mFz, PD.aNil, PD.aCons, PD.looks, PD.look, PD.dats, PD.mB, PD.truth, PD.tB, PD.tT, PD.tAnd, PD.tOr, PD.tNot, PD.mIf, PD.vAnd, PD.vOr, PD.vNot, PD.mCall, PD.sNx, PD.sSeq, PD.sDrop, PD.sIf, PD.ret, PD.sRet, PD.sRetN, PD.storeR, PD.store, PD.gN, PD.gNil, PD.gCons, PD.gT, PD.mut1, PD.setL, PD.gSub, PD.sSet, PD.sAsg, PD.stores, PD.noVar, PD.sPar, PD.items, PD.wSeq, PD.tYes, PD.sFor, PD.frz, PD.mTup, PD.mLst, PD.mChain, PD.mCallR, PD.once, PD.pass, PD.pass1, PD.back, PD.back1, PD.inS, PD.outS, PD.okArg, PD.outs, PD.fnD, PD.noEx, Md.mut, Md.ow, PD.eqD, PD.neD, PD.eqB, PD.eqS, PD.isD, PD.isntD, PD.isNonD, PD.addD, PD.subD, PD.modD, PD.fdivD, PD.negD, PD.keyD, PD.dgetD, PD.lenD, PD.mAdd, PD.ownL, od]
      · simp [PD.mK, PD.mVar, PD.m1, PD.m2, PD.mFz, PD.aNil, PD.aCons, PD.looks, PD.look, PD.dats, PD.mB, PD.truth, PD.tB, PD.tT, PD.tAnd, PD.tOr, PD.tNot, PD.mIf, PD.vAnd, PD.vOr, PD.vNot, PD.mCall, PD.sNx, PD.sSeq, PD.sDrop, PD.sIf, PD.ret, PD.sRet, PD.sRetN, PD.storeR, PD.store, PD.gN, PD.gNil, PD.gCons, PD.gT, PD.mut1, PD.setL, PD.gSub, PD.sSet, PD.sAsg, PD.stores, PD.noVar, PD.sPar, PD.items, PD.wSeq, PD.tYes, PD.sFor, PD.frz, PD.mTup, PD.mLst, PD.mChain, PD.mCallR, PD.once, PD.pass, PD.pass1, PD.back, PD.back1, PD.inS, PD.outS, PD.okArg, PD.outs, PD.fnD, PD.noEx, Md.mut, Md.ow, PD.eqD, PD.neD, PD.eqB, PD.eqS, PD.isD, PD.isntD, PD.isNonD, PD.addD, PD.subD, PD.modD, PD.fdivD, PD.negD, PD.keyD, PD.dgetD, PD.lenD, PD.mAdd, PD.ownL, od, mCallL, mSl, mPart, slD, cut_to, hf, back_dat]) ⟨none, none, rfl⟩
  have e0 : H_first_wrong fn [some ⟨.dat, .tup rows⟩, some ⟨.lam, .tup ds⟩, none, none] = .ok (.rt (.dat .non)) [some ⟨.dat, .tup rows⟩, some ⟨.lam, .tup ds⟩, od x, od y] := by
    unfold H_first_wrong
    rw [seq_nx (Γ' := [some ⟨.dat, .tup rows⟩, some ⟨.lam, .tup ds⟩, od x, od y]) (by
      show PD.sFor _ _ _ _ = _
      unfold PD.sFor wEnum wSeq
      simp only [mVar, R.bind_ok, look, R.opt_some, frz, items, List.getElem?_cons_zero]
      exact e1)]
    simp [PD.mK, PD.mVar, PD.m1, PD.m2, PD.mFz, PD.aNil, PD.aCons, PD.looks, PD.look, PD.dats, PD.mB, PD.truth, PD.tB, PD.tT, PD.tAnd, PD.tOr, PD.tNot, PD.mIf, PD.vAnd, PD.vOr, PD.vNot, PD.mCall, PD.sNx, PD.sSeq, PD.sDrop, PD.sIf, PD.ret, PD.sRet, PD.sRetN, PD.storeR, PD.store, PD.gN, PD.gNil, PD.gCons, PD.gT, PD.mut1, PD.setL, PD.gSub, PD.sSet, PD.sAsg, PD.stores, PD.noVar, PD.sPar, PD.items, PD.wSeq, PD.tYes, PD.sFor, PD.frz, PD.mTup, PD.mLst, PD.mChain, PD.mCallR, PD.once, PD.pass, PD.pass1, PD.back, PD.back1, PD.inS, PD.outS, PD.okArg, PD.outs, PD.fnD, PD.noEx, Md.mut, Md.ow, PD.eqD, PD.neD, PD.eqB, PD.eqS, PD.isD, PD.isntD, PD.isNonD, PD.addD, PD.subD, PD.modD, PD.fdivD, PD.negD, PD.keyD, PD.dgetD, PD.lenD, PD.mAdd, PD.ownL]
  unfold fnL2
  show (match H_first_wrong fn [some ⟨.dat, .tup rows⟩, some ⟨.lam, .tup ds⟩, none, none] with | .ok (.rt r) _ => _ | .ok .nx _ => _ | _ => _) = _
  rw [e0]
end Lk41

namespace Lk41
open PySem PySem.Spec L2 PD
/-- a board that holds -/
structure BdOk (A B : Int) (ss : List Sw) (ts : List Th) : Prop where
  n1 : 1 ≤ ss.length
  nA : (ss.length : Int) ≤ A
  sw : ∀ (i : Nat) s, ss[i]? = some s → SwOk B i s
  tl : ts.length ≤ 5
  th : ∀ t, t ∈ ts → ThOk ss.length t
def bdD (ss : List Sw) (ts : List Th) : D := .dct [(.inr "switches", .tup (ss.map swD)), (.inr "things", .tup (ts.map thD))]
def objD (ss : List Sw) (ts : List Th) : D := .obj 0 [("switches", .tup (ss.map swD)), ("things", .tup (ts.map thD))]
variable {A B : Int} {ss : List Sw} {ts : List Th}
theorem wrong_switch_ok (h : BdOk A B ss ts) (hB : B ≤ 20) : F_wrong_switch [⟨.dat, .tup (ss.map swD)⟩] = .ok (.dat .non) [none] := by
  have e := first_ok (fn := noEx (fnD 2 2 (PD.sRet L_wrong_switch))) (rows := ss.map swD) (ds := []) (fun i x hx => by
    rw [List.getElem?_map] at hx
    obtain ⟨s, hs, rfl⟩ := Option.map_eq_some_iff.mp hx
    have e2 := switch_row_ok (h.sw i s hs) hB
    have hi : i < ss.length := by
      by_cases h : i < ss.length
      · exact h
      · rw [List.getElem?_eq_none (by omega)] at hs; cases hs
    have e3 : ((List.take i (ss.map swD)).length : Int) = (i : Int) := by
      rw [List.length_take, List.length_map]; omega
    refine ⟨[none, none], ?_⟩
    have hl : lenD [.tup (List.take i (ss.map swD))] = some (.dat (.int i)) := by
      show some (Rv.dat (.int ((List.take i (ss.map swD)).length : Int))) = _
      rw [e3]
    simp [PD.mK, PD.mVar, PD.m1, PD.m2, PD.mFz, PD.aNil, PD.aCons, PD.looks, PD.look, PD.dats, PD.mB, PD.truth, PD.tB, PD.tT, PD.tAnd, PD.tOr, PD.tNot, PD.mIf, PD.vAnd, PD.vOr, PD.vNot, PD.mCall, PD.sNx, PD.sSeq, PD.sDrop, PD.sIf, PD.ret, PD.sRet, PD.sRetN, PD.storeR, PD.store, PD.gN, PD.gNil, PD.gCons, PD.gT, PD.mut1, PD.setL, PD.gSub, PD.sSet, PD.sAsg, PD.stores, PD.noVar, PD.sPar, PD.items, PD.wSeq, PD.tYes, PD.sFor, PD.frz, PD.mTup, PD.mLst, PD.mChain, PD.mCallR, PD.once, PD.pass, PD.pass1, PD.back, PD.back1, PD.inS, PD.outS, PD.okArg, PD.outs, PD.fnD, PD.noEx, Md.mut, Md.ow, PD.eqD, PD.neD, PD.eqB, PD.eqS, PD.isD, PD.isntD, PD.isNonD, PD.addD, PD.subD, PD.modD, PD.fdivD, PD.negD, PD.keyD, PD.dgetD, PD.mAdd, PD.ownL, L_wrong_switch, hl, e2])
  simp [PD.mK, PD.mVar, PD.m1, PD.m2, PD.mFz, PD.aNil, PD.aCons, PD.looks, PD.look, PD.dats, PD.mB, PD.truth, PD.tB, PD.tT, PD.tAnd, PD.tOr, PD.tNot, PD.mIf, PD.vAnd, PD.vOr, PD.vNot, PD.mCall, PD.sNx, PD.sSeq, PD.sDrop, PD.sIf, PD.ret, PD.sRet, PD.sRetN, PD.storeR, PD.store, PD.gN, PD.gNil, PD.gCons, PD.gT, PD.mut1, PD.setL, PD.gSub, PD.sSet, PD.sAsg, PD.stores, PD.noVar, PD.sPar, PD.items, PD.wSeq, PD.tYes, PD.sFor, PD.frz, PD.mTup, PD.mLst, PD.mChain, PD.mCallR, PD.once, PD.pass, PD.pass1, PD.back, PD.back1, PD.inS, PD.outS, PD.okArg, PD.outs, PD.fnD, PD.noEx, Md.mut, Md.ow, PD.eqD, PD.neD, PD.eqB, PD.eqS, PD.isD, PD.isntD, PD.isNonD, PD.addD, PD.subD, PD.modD, PD.fdivD, PD.negD, PD.keyD, PD.dgetD, PD.lenD, PD.mAdd, PD.ownL, F_wrong_switch, B_wrong_switch, mLam, caps, e]
theorem wrong_thing_ok (h : BdOk A B ss ts) : F_wrong_thing [⟨.dat, .int (ss.length : Int)⟩, ⟨.dat, .tup (ts.map thD)⟩] = .ok (.dat .non) [none, none] := by
  have e := first_ok (fn := noEx (fnD 3 3 (PD.sRet L_wrong_thing))) (rows := ts.map thD) (ds := [.int (ss.length : Int)]) (fun i x hx => by
    rw [List.getElem?_map] at hx
    obtain ⟨t, ht, rfl⟩ := Option.map_eq_some_iff.mp hx
    have e2 := thing_row_ok (h.th t (List.mem_of_getElem? ht))
    refine ⟨[none, none, none], ?_⟩
    simp [PD.mK, PD.mVar, PD.m1, PD.m2, PD.mFz, PD.aNil, PD.aCons, PD.looks, PD.look, PD.dats, PD.mB, PD.truth, PD.tB, PD.tT, PD.tAnd, PD.tOr, PD.tNot, PD.mIf, PD.vAnd, PD.vOr, PD.vNot, PD.mCall, PD.sNx, PD.sSeq, PD.sDrop, PD.sIf, PD.ret, PD.sRet, PD.sRetN, PD.storeR, PD.store, PD.gN, PD.gNil, PD.gCons, PD.gT, PD.mut1, PD.setL, PD.gSub, PD.sSet, PD.sAsg, PD.stores, PD.noVar, PD.sPar, PD.items, PD.wSeq, PD.tYes, PD.sFor, PD.frz, PD.mTup, PD.mLst, PD.mChain, PD.mCallR, PD.once, PD.pass, PD.pass1, PD.back, PD.back1, PD.inS, PD.outS, PD.okArg, PD.outs, PD.fnD, PD.noEx, Md.mut, Md.ow, PD.eqD, PD.neD, PD.eqB, PD.eqS, PD.isD, PD.isntD, PD.isNonD, PD.addD, PD.subD, PD.modD, PD.fdivD, PD.negD, PD.keyD, PD.dgetD, PD.lenD, PD.mAdd, PD.ownL, L_wrong_thing, e2])
  simp [PD.mK, PD.mVar, PD.m1, PD.m2, PD.mFz, PD.aNil, PD.aCons, PD.looks, PD.look, PD.dats, PD.mB, PD.truth, PD.tB, PD.tT, PD.tAnd, PD.tOr, PD.tNot, PD.mIf, PD.vAnd, PD.vOr, PD.vNot, PD.mCall, PD.sNx, PD.sSeq, PD.sDrop, PD.sIf, PD.ret, PD.sRet, PD.sRetN, PD.storeR, PD.store, PD.gN, PD.gNil, PD.gCons, PD.gT, PD.mut1, PD.setL, PD.gSub, PD.sSet, PD.sAsg, PD.stores, PD.noVar, PD.sPar, PD.items, PD.wSeq, PD.tYes, PD.sFor, PD.frz, PD.mTup, PD.mLst, PD.mChain, PD.mCallR, PD.once, PD.pass, PD.pass1, PD.back, PD.back1, PD.inS, PD.outS, PD.okArg, PD.outs, PD.fnD, PD.noEx, Md.mut, Md.ow, PD.eqD, PD.neD, PD.eqB, PD.eqS, PD.isD, PD.isntD, PD.isNonD, PD.addD, PD.subD, PD.modD, PD.fdivD, PD.negD, PD.keyD, PD.dgetD, PD.lenD, PD.mAdd, PD.ownL, F_wrong_thing, B_wrong_thing, mLam, caps, e]
theorem check_switches_ok (h : BdOk A B ss ts) (hB : B ≤ 20) (hA : A ≤ 7) : F_check_switches [⟨.dat, .tup (ss.map swD)⟩] = .ok (.dat .non) [none] := by
  have e := wrong_switch_ok h hB
  have h1 : (1 : Int) ≤ ss.length := by have := h.n1; omega
  have h2 : (ss.length : Int) ≤ 7 := by have := h.nA; omega
  simp [PD.mK, PD.mVar, PD.m1, PD.m2, PD.mFz, PD.aNil, PD.aCons, PD.looks, PD.look, PD.dats, PD.mB, PD.truth, PD.tB, PD.tT, PD.tAnd, PD.tOr, PD.tNot, PD.mIf, PD.vAnd, PD.vOr, PD.vNot, PD.mCall, PD.sNx, PD.sSeq, PD.sDrop, PD.sIf, PD.ret, PD.sRet, PD.sRetN, PD.storeR, PD.store, PD.gN, PD.gNil, PD.gCons, PD.gT, PD.mut1, PD.setL, PD.gSub, PD.sSet, PD.sAsg, PD.stores, PD.noVar, PD.sPar, PD.items, PD.wSeq, PD.tYes, PD.sFor, PD.frz, PD.mTup, PD.mLst, PD.mChain, PD.mCallR, PD.once, PD.pass, PD.pass1, PD.back, PD.back1, PD.inS, PD.outS, PD.okArg, PD.outs, PD.fnD, PD.noEx, Md.mut, Md.ow, PD.eqD, PD.neD, PD.eqB, PD.eqS, PD.isD, PD.isntD, PD.isNonD, PD.addD, PD.subD, PD.modD, PD.fdivD, PD.negD, PD.keyD, PD.dgetD, PD.lenD, PD.mAdd, PD.ownL, F_check_switches, B_check_switches, e, h1, h2]
theorem check_things_ok (h : BdOk A B ss ts) : F_check_things [⟨.dat, .tup (ss.map swD)⟩, ⟨.dat, .tup (ts.map thD)⟩] = .ok (.dat .non) [none, none] := by
  have e := wrong_thing_ok h
  have h1 : (0 : Int) ≤ ts.length := by omega
  have h2 : (ts.length : Int) ≤ 5 := by have := h.tl; omega
  simp [PD.mK, PD.mVar, PD.m1, PD.m2, PD.mFz, PD.aNil, PD.aCons, PD.looks, PD.look, PD.dats, PD.mB, PD.truth, PD.tB, PD.tT, PD.tAnd, PD.tOr, PD.tNot, PD.mIf, PD.vAnd, PD.vOr, PD.vNot, PD.mCall, PD.sNx, PD.sSeq, PD.sDrop, PD.sIf, PD.ret, PD.sRet, PD.sRetN, PD.storeR, PD.store, PD.gN, PD.gNil, PD.gCons, PD.gT, PD.mut1, PD.setL, PD.gSub, PD.sSet, PD.sAsg, PD.stores, PD.noVar, PD.sPar, PD.items, PD.wSeq, PD.tYes, PD.sFor, PD.frz, PD.mTup, PD.mLst, PD.mChain, PD.mCallR, PD.once, PD.pass, PD.pass1, PD.back, PD.back1, PD.inS, PD.outS, PD.okArg, PD.outs, PD.fnD, PD.noEx, Md.mut, Md.ow, PD.eqD, PD.neD, PD.eqB, PD.eqS, PD.isD, PD.isntD, PD.isNonD, PD.addD, PD.subD, PD.modD, PD.fdivD, PD.negD, PD.keyD, PD.dgetD, PD.lenD, PD.mAdd, PD.ownL, F_check_things, B_check_things, e, h1, h2]
theorem get_sw : dgetD (bdD ss ts) (.str "switches") = some (.dat (.tup (ss.map swD))) := by rfl
theorem get_th : dgetD (bdD ss ts) (.str "things") = some (.dat (.tup (ts.map thD))) := by rfl
theorem put1 (x : D) : putD "switches" x [] = [(("switches" : Str), x)] := by rfl
theorem put2 (x y : D) : putD "things" y [(("switches" : Str), x)] = [(("switches" : Str), x), (("things" : Str), y)] := by rfl
theorem made_ok (h : BdOk A B ss ts) (hB : B ≤ 20) (hA : A ≤ 7) : F__law_made [⟨.dat, bdD ss ts⟩] = .ok (.dat (objD ss ts)) [none] := by
  have e1 := check_switches_ok h hB hA
  have e2 := check_things_ok h
  simp [PD.mK, PD.mVar, PD.m1, PD.m2, PD.mFz, PD.aNil, PD.aCons, PD.looks, PD.look, PD.dats, PD.mB, PD.truth, PD.tB, PD.tT, PD.tAnd, PD.tOr, PD.tNot, PD.mIf, PD.vAnd, PD.vOr, PD.vNot, PD.mCall, PD.sNx, PD.sSeq, PD.sDrop, PD.sIf, PD.ret, PD.sRet, PD.sRetN, PD.storeR, PD.store, PD.gN, PD.gNil, PD.gCons, PD.gT, PD.mut1, PD.setL, PD.gSub, PD.sSet, PD.sAsg, PD.stores, PD.noVar, PD.sPar, PD.items, PD.wSeq, PD.tYes, PD.sFor, PD.frz, PD.mTup, PD.mLst, PD.mChain, PD.mCallR, PD.once, PD.pass, PD.pass1, PD.back, PD.back1, PD.inS, PD.outS, PD.okArg, PD.outs, PD.fnD, PD.noEx, Md.mut, Md.ow, PD.eqD, PD.neD, PD.eqB, PD.eqS, PD.isD, PD.isntD, PD.isNonD, PD.addD, PD.subD, PD.modD, PD.fdivD, PD.negD, PD.keyD, PD.lenD, PD.mAdd, PD.ownL, F__law_made, B__law_made, mMake, F_Board, B_Board, e1, e2, get_sw, get_th, objD, sFldS, setF, put1, put2]
/-- the data of a board in a slot -/
theorem ix_sw {i : Nat} {s : Sw} (h : ss[i]? = some s) : ixD (.tup (ss.map swD)) (.int (i : Int)) = some (.dat (swD s)) := by
  have hi : i < ss.length := by
    by_cases h' : i < ss.length
    · exact h'
    · rw [List.getElem?_eq_none (by omega)] at h; cases h
  have : atI (ss.map swD) (i : Int) = some (swD s) := by
    unfold atI
    rw [ixN_lt (by omega) (by rw [List.length_map]; omega)]
    simp [PD.mK, PD.mVar, PD.m1, PD.m2, PD.mFz, PD.aNil, PD.aCons, PD.looks, PD.look, PD.dats, PD.mB, PD.truth, PD.tB, PD.tT, PD.tAnd, PD.tOr, PD.tNot, PD.mIf, PD.vAnd, PD.vOr, PD.vNot, PD.mCall, PD.sNx, PD.sSeq, PD.sDrop, PD.sIf, PD.ret, PD.sRet, PD.sRetN, PD.storeR, PD.store, PD.gN, PD.gNil, PD.gCons, PD.gT, PD.mut1, PD.setL, PD.gSub, PD.sSet, PD.sAsg, PD.stores, PD.noVar, PD.sPar, PD.items, PD.wSeq, PD.tYes, PD.sFor, PD.frz, PD.mTup, PD.mLst, PD.mChain, PD.mCallR, PD.once, PD.pass, PD.pass1, PD.back, PD.back1, PD.inS, PD.outS, PD.okArg, PD.outs, PD.fnD, PD.noEx, Md.mut, Md.ow, PD.eqD, PD.neD, PD.eqB, PD.eqS, PD.isD, PD.isntD, PD.isNonD, PD.addD, PD.subD, PD.modD, PD.fdivD, PD.negD, PD.keyD, PD.dgetD, PD.lenD, PD.mAdd, PD.ownL, h]
  simp [PD.mK, PD.mVar, PD.m1, PD.m2, PD.mFz, PD.aNil, PD.aCons, PD.looks, PD.look, PD.dats, PD.mB, PD.truth, PD.tB, PD.tT, PD.tAnd, PD.tOr, PD.tNot, PD.mIf, PD.vAnd, PD.vOr, PD.vNot, PD.mCall, PD.sNx, PD.sSeq, PD.sDrop, PD.sIf, PD.ret, PD.sRet, PD.sRetN, PD.storeR, PD.store, PD.gN, PD.gNil, PD.gCons, PD.gT, PD.mut1, PD.setL, PD.gSub, PD.sSet, PD.sAsg, PD.stores, PD.noVar, PD.sPar, PD.items, PD.wSeq, PD.tYes, PD.sFor, PD.frz, PD.mTup, PD.mLst, PD.mChain, PD.mCallR, PD.once, PD.pass, PD.pass1, PD.back, PD.back1, PD.inS, PD.outS, PD.okArg, PD.outs, PD.fnD, PD.noEx, Md.mut, Md.ow, PD.eqD, PD.neD, PD.eqB, PD.eqS, PD.isD, PD.isntD, PD.isNonD, PD.addD, PD.subD, PD.modD, PD.fdivD, PD.negD, PD.keyD, PD.dgetD, PD.lenD, PD.mAdd, PD.ownL, ixD, this]
end Lk41

namespace Lk41
open PySem PySem.Spec L2 PD
variable {A B : Int} {ss : List Sw} {ts : List Th}
/-! ### times -/
/-- the ticks of the last step that a current reaches -/
def lastT (c : Int) (l : List (Int × Int)) : Option Int := (l.filter fun p => decide (p.1 ≤ c)).getLast?.map (·.2)
def timeOf (s : Sw) (c : Int) : Option Int := if c ≤ s.stop then lastT c s.curve else none
theorem ne_nil : ∀ l : List Int, l.length ≤ 3 → neD (.lst (l.map .int)) (.lst []) = some (.dat (.bl (!l.isEmpty)))
  | [], _ => by rfl
  | [_], _ => by rfl
  | [_, _], _ => by rfl
  | [_, _, _], _ => by rfl
  | _ :: _ :: _ :: _ :: _, h => by simp [PD.mK, PD.mVar, PD.m1, PD.m2, PD.mFz, PD.aNil, PD.aCons, PD.looks, PD.look, PD.dats, PD.mB, PD.truth, PD.tB, PD.tT, PD.tAnd, PD.tOr, PD.tNot, PD.mIf, PD.vAnd, PD.vOr, PD.vNot, PD.mCall, PD.sNx, PD.sSeq, PD.sDrop, PD.sIf, PD.ret, PD.sRet, PD.sRetN, PD.storeR, PD.store, PD.gN, PD.gNil, PD.gCons, PD.gT, PD.mut1, PD.setL, PD.gSub, PD.sSet, PD.sAsg, PD.stores, PD.noVar, PD.sPar, PD.items, PD.wSeq, PD.tYes, PD.sFor, PD.frz, PD.mTup, PD.mLst, PD.mChain, PD.mCallR, PD.once, PD.pass, PD.pass1, PD.back, PD.back1, PD.inS, PD.outS, PD.okArg, PD.outs, PD.fnD, PD.noEx, Md.mut, Md.ow, PD.eqD, PD.neD, PD.eqB, PD.eqS, PD.isD, PD.isntD, PD.isNonD, PD.addD, PD.subD, PD.modD, PD.fdivD, PD.negD, PD.keyD, PD.dgetD, PD.lenD, PD.mAdd, PD.ownL] at h
theorem neg1 : negD (.int 1) = some (.dat (.int (-1))) := by rfl
theorem ix_last (l : List D) (x : D) : ixD (.lst (l ++ [x])) (.int (-1)) = some (.dat x) := by
  have : atI (l ++ [x]) (-1) = some x := by
    have h : ixN (l ++ [x]).length (-1) = some l.length := by
      simp [PD.mK, PD.mVar, PD.m1, PD.m2, PD.mFz, PD.aNil, PD.aCons, PD.looks, PD.look, PD.dats, PD.mB, PD.truth, PD.tB, PD.tT, PD.tAnd, PD.tOr, PD.tNot, PD.mIf, PD.vAnd, PD.vOr, PD.vNot, PD.mCall, PD.sNx, PD.sSeq, PD.sDrop, PD.sIf, PD.ret, PD.sRet, PD.sRetN, PD.storeR, PD.store, PD.gN, PD.gNil, PD.gCons, PD.gT, PD.mut1, PD.setL, PD.gSub, PD.sSet, PD.sAsg, PD.stores, PD.noVar, PD.sPar, PD.items, PD.wSeq, PD.tYes, PD.sFor, PD.frz, PD.mTup, PD.mLst, PD.mChain, PD.mCallR, PD.once, PD.pass, PD.pass1, PD.back, PD.back1, PD.inS, PD.outS, PD.okArg, PD.outs, PD.fnD, PD.noEx, Md.mut, Md.ow, PD.eqD, PD.neD, PD.eqB, PD.eqS, PD.isD, PD.isntD, PD.isNonD, PD.addD, PD.subD, PD.modD, PD.fdivD, PD.negD, PD.keyD, PD.dgetD, PD.lenD, PD.mAdd, PD.ownL, ixN]
      omega
    unfold atI
    rw [h]
    simp [PD.mK, PD.mVar, PD.m1, PD.m2, PD.mFz, PD.aNil, PD.aCons, PD.looks, PD.look, PD.dats, PD.mB, PD.truth, PD.tB, PD.tT, PD.tAnd, PD.tOr, PD.tNot, PD.mIf, PD.vAnd, PD.vOr, PD.vNot, PD.mCall, PD.sNx, PD.sSeq, PD.sDrop, PD.sIf, PD.ret, PD.sRet, PD.sRetN, PD.storeR, PD.store, PD.gN, PD.gNil, PD.gCons, PD.gT, PD.mut1, PD.setL, PD.gSub, PD.sSet, PD.sAsg, PD.stores, PD.noVar, PD.sPar, PD.items, PD.wSeq, PD.tYes, PD.sFor, PD.frz, PD.mTup, PD.mLst, PD.mChain, PD.mCallR, PD.once, PD.pass, PD.pass1, PD.back, PD.back1, PD.inS, PD.outS, PD.okArg, PD.outs, PD.fnD, PD.noEx, Md.mut, Md.ow, PD.eqD, PD.neD, PD.eqB, PD.eqS, PD.isD, PD.isntD, PD.isNonD, PD.addD, PD.subD, PD.modD, PD.fdivD, PD.negD, PD.keyD, PD.dgetD, PD.lenD, PD.mAdd, PD.ownL]
  simp [PD.mK, PD.mVar, PD.m1, PD.m2, PD.mFz, PD.aNil, PD.aCons, PD.looks, PD.look, PD.dats, PD.mB, PD.truth, PD.tB, PD.tT, PD.tAnd, PD.tOr, PD.tNot, PD.mIf, PD.vAnd, PD.vOr, PD.vNot, PD.mCall, PD.sNx, PD.sSeq, PD.sDrop, PD.sIf, PD.ret, PD.sRet, PD.sRetN, PD.storeR, PD.store, PD.gN, PD.gNil, PD.gCons, PD.gT, PD.mut1, PD.setL, PD.gSub, PD.sSet, PD.sAsg, PD.stores, PD.noVar, PD.sPar, PD.items, PD.wSeq, PD.tYes, PD.sFor, PD.frz, PD.mTup, PD.mLst, PD.mChain, PD.mCallR, PD.once, PD.pass, PD.pass1, PD.back, PD.back1, PD.inS, PD.outS, PD.okArg, PD.outs, PD.fnD, PD.noEx, Md.mut, Md.ow, PD.eqD, PD.neD, PD.eqB, PD.eqS, PD.isD, PD.isntD, PD.isNonD, PD.addD, PD.subD, PD.modD, PD.fdivD, PD.negD, PD.keyD, PD.dgetD, PD.lenD, PD.mAdd, PD.ownL, ixD, this]
theorem foldl_last (c : Int) : ∀ (l : List (Int × Int)) (x : Option Int), l.foldl (fun f p => if p.1 ≤ c then some p.2 else f) x = (lastT c l).or x
  | [], x => by simp [PD.mK, PD.mVar, PD.m1, PD.m2, PD.mFz, PD.aNil, PD.aCons, PD.looks, PD.look, PD.dats, PD.mB, PD.truth, PD.tB, PD.tT, PD.tAnd, PD.tOr, PD.tNot, PD.mIf, PD.vAnd, PD.vOr, PD.vNot, PD.mCall, PD.sNx, PD.sSeq, PD.sDrop, PD.sIf, PD.ret, PD.sRet, PD.sRetN, PD.storeR, PD.store, PD.gN, PD.gNil, PD.gCons, PD.gT, PD.mut1, PD.setL, PD.gSub, PD.sSet, PD.sAsg, PD.stores, PD.noVar, PD.sPar, PD.items, PD.wSeq, PD.tYes, PD.sFor, PD.frz, PD.mTup, PD.mLst, PD.mChain, PD.mCallR, PD.once, PD.pass, PD.pass1, PD.back, PD.back1, PD.inS, PD.outS, PD.okArg, PD.outs, PD.fnD, PD.noEx, Md.mut, Md.ow, PD.eqD, PD.neD, PD.eqB, PD.eqS, PD.isD, PD.isntD, PD.isNonD, PD.addD, PD.subD, PD.modD, PD.fdivD, PD.negD, PD.keyD, PD.dgetD, PD.lenD, PD.mAdd, PD.ownL, lastT]
  | p :: l, x => by
    rw [List.foldl_cons, foldl_last c l]
    unfold lastT
    rw [List.filter_cons]
    by_cases h : p.1 ≤ c
    · simp only [h, if_pos, decide_true]
      rw [List.getLast?_cons]
      cases (List.filter (fun p => decide (p.1 ≤ c)) l).getLast? <;> simp [PD.mK, PD.mVar, PD.m1, PD.m2, PD.mFz, PD.aNil, PD.aCons, PD.looks, PD.look, PD.dats, PD.mB, PD.truth, PD.tB, PD.tT, PD.tAnd, PD.tOr, PD.tNot, PD.mIf, PD.vAnd, PD.vOr, PD.vNot, PD.mCall, PD.sNx, PD.sSeq, PD.sDrop, PD.sIf, PD.ret, PD.sRet, PD.sRetN, PD.storeR, PD.store, PD.gN, PD.gNil, PD.gCons, PD.gT, PD.mut1, PD.setL, PD.gSub, PD.sSet, PD.sAsg, PD.stores, PD.noVar, PD.sPar, PD.items, PD.wSeq, PD.tYes, PD.sFor, PD.frz, PD.mTup, PD.mLst, PD.mChain, PD.mCallR, PD.once, PD.pass, PD.pass1, PD.back, PD.back1, PD.inS, PD.outS, PD.okArg, PD.outs, PD.fnD, PD.noEx, Md.mut, Md.ow, PD.eqD, PD.neD, PD.eqB, PD.eqS, PD.isD, PD.isntD, PD.isNonD, PD.addD, PD.subD, PD.modD, PD.fdivD, PD.negD, PD.keyD, PD.dgetD, PD.lenD, PD.mAdd, PD.ownL]
    · simp [PD.mK, PD.mVar, PD.m1, PD.m2, PD.mFz, PD.aNil, PD.aCons, PD.looks, PD.look, PD.dats, PD.mB, PD.truth, PD.tB, PD.tT, PD.tAnd, PD.tOr, PD.tNot, PD.mIf, PD.vAnd, PD.vOr, PD.vNot, PD.mCall, PD.sNx, PD.sSeq, PD.sDrop, PD.sIf, PD.ret, PD.sRet, PD.sRetN, PD.storeR, PD.store, PD.gN, PD.gNil, PD.gCons, PD.gT, PD.mut1, PD.setL, PD.gSub, PD.sSet, PD.sAsg, PD.stores, PD.noVar, PD.sPar, PD.items, PD.wSeq, PD.tYes, PD.sFor, PD.frz, PD.mTup, PD.mLst, PD.mChain, PD.mCallR, PD.once, PD.pass, PD.pass1, PD.back, PD.back1, PD.inS, PD.outS, PD.okArg, PD.outs, PD.fnD, PD.noEx, Md.mut, Md.ow, PD.eqD, PD.neD, PD.eqB, PD.eqS, PD.isD, PD.isntD, PD.isNonD, PD.addD, PD.subD, PD.modD, PD.fdivD, PD.negD, PD.keyD, PD.dgetD, PD.lenD, PD.mAdd, PD.ownL, h]
theorem law_time_ok {i : Nat} {s : Sw} (c : Int) (h : ss[i]? = some s) : F__law_time [⟨.dat, bdD ss ts⟩, ⟨.dat, .int (i : Int)⟩, ⟨.dat, .int c⟩] = .ok (.dat (oD (timeOf s c))) [none, none, none] := by
  have e1 := ix_sw h
  obtain ⟨Γ', e3, x, y, rfl⟩ := forD_inv (g := gT 2 (PD.gCons (gN 8) (PD.gCons (gN 9) PD.gNil))) (b := PD.sSet 3 (mIf (PD.tB (mChain leD leD (mVar 8) (mVar 2) (mVar 7))) (mVar 9) (mVar 3)))
    (fun n Γ => ∃ x y, Γ = [some ⟨.dat, bdD ss ts⟩, some ⟨.dat, .int (i : Int)⟩, some ⟨.dat, .int c⟩, some ⟨.dat, oD ((s.curve.take n).foldl (fun f p => if p.1 ≤ c ∧ c ≤ s.stop then some p.2 else f) none)⟩, some ⟨.dat, oD s.above⟩, some ⟨.dat, .int s.rating⟩, some ⟨.dat, .tup (s.curve.map stD)⟩, some ⟨.dat, .int s.stop⟩, od x, od y])
    (s.curve.map stD) 0 [some ⟨.dat, bdD ss ts⟩, some ⟨.dat, .int (i : Int)⟩, some ⟨.dat, .int c⟩, some ⟨.dat, .non⟩, some ⟨.dat, oD s.above⟩, some ⟨.dat, .int s.rating⟩, some ⟨.dat, .tup (s.curve.map stD)⟩, some ⟨.dat, .int s.stop⟩, none, none] (fun n d Γ hn ⟨x, y, e⟩ => by
      rw [List.getElem?_map] at hn
      obtain ⟨⟨a, b⟩, hp, rfl⟩ := Option.map_eq_some_iff.mp hn
      rw [Nat.zero_add] at e
      have e4 : s.curve.take (0 + n + 1) = s.curve.take n ++ [(a, b)] := by
        rw [Nat.zero_add, List.take_succ, hp]
        rfl
      refine ⟨[some ⟨.dat, bdD ss ts⟩, some ⟨.dat, .int (i : Int)⟩, some ⟨.dat, .int c⟩, some ⟨.dat, oD ((s.curve.take n).foldl (fun f p => if p.1 ≤ c ∧ c ≤ s.stop then some p.2 else f) none)⟩, some ⟨.dat, oD s.above⟩, some ⟨.dat, .int s.rating⟩, some ⟨.dat, .tup (s.curve.map stD)⟩, some ⟨.dat, .int s.stop⟩, od (some (.int a)), od (some (.int b))],
        [some ⟨.dat, bdD ss ts⟩, some ⟨.dat, .int (i : Int)⟩, some ⟨.dat, .int c⟩, some ⟨.dat, oD ((s.curve.take (0 + n + 1)).foldl (fun f p => if p.1 ≤ c ∧ c ≤ s.stop then some p.2 else f) none)⟩, some ⟨.dat, oD s.above⟩, some ⟨.dat, .int s.rating⟩, some ⟨.dat, .tup (s.curve.map stD)⟩, some ⟨.dat, .int s.stop⟩, od (some (.int a)), od (some (.int b))], ?_, ?_, _, _, rfl⟩
      · subst e
        cases x <;> cases y <;> simp [PD.mK, PD.mVar, PD.m1, PD.m2, PD.mFz, PD.aNil, PD.aCons, PD.looks, PD.look, PD.dats, PD.mB, PD.truth, PD.tB, PD.tT, PD.tAnd, PD.tOr, PD.tNot, PD.mIf, PD.vAnd, PD.vOr, PD.vNot, PD.mCall, PD.sNx, PD.sSeq, PD.sDrop, PD.sIf, PD.ret, PD.sRet, PD.sRetN, PD.storeR, PD.store, PD.gN, PD.gNil, PD.gCons, PD.gT, PD.mut1, PD.setL, PD.gSub, PD.sSet, PD.sAsg, PD.stores, PD.noVar, PD.sPar, PD.items, PD.wSeq, PD.tYes, PD.sFor, PD.frz, PD.mTup, PD.mLst, PD.mChain, PD.mCallR, PD.once, PD.pass, PD.pass1, PD.back, PD.back1, PD.inS, PD.outS, PD.okArg, PD.outs, PD.fnD, PD.noEx, Md.mut, Md.ow, PD.eqD, PD.neD, PD.eqB, PD.eqS, PD.isD, PD.isntD, PD.isNonD, PD.addD, PD.subD, PD.modD, PD.fdivD, PD.negD, PD.keyD, PD.dgetD, PD.lenD, PD.mAdd, PD.ownL, od, stD]
      · rw [e4, List.foldl_append]
        generalize List.foldl _ none (List.take n s.curve) = f
        by_cases h1 : a ≤ c <;> by_cases h2 : c ≤ s.stop <;> simp [PD.mK, PD.mVar, PD.m1, PD.m2, PD.mFz, PD.aNil, PD.aCons, PD.looks, PD.look, PD.dats, PD.mB, PD.truth, PD.tB, PD.tT, PD.tAnd, PD.tOr, PD.tNot, PD.mIf, PD.vAnd, PD.vOr, PD.vNot, PD.mCall, PD.sNx, PD.sSeq, PD.sDrop, PD.sIf, PD.ret, PD.sRet, PD.sRetN, PD.storeR, PD.store, PD.gN, PD.gNil, PD.gCons, PD.gT, PD.mut1, PD.setL, PD.gSub, PD.sSet, PD.sAsg, PD.stores, PD.noVar, PD.sPar, PD.items, PD.wSeq, PD.tYes, PD.sFor, PD.frz, PD.mTup, PD.mLst, PD.mChain, PD.mCallR, PD.once, PD.pass, PD.pass1, PD.back, PD.back1, PD.inS, PD.outS, PD.okArg, PD.outs, PD.fnD, PD.noEx, Md.mut, Md.ow, PD.eqD, PD.neD, PD.eqB, PD.eqS, PD.isD, PD.isntD, PD.isNonD, PD.addD, PD.subD, PD.modD, PD.fdivD, PD.negD, PD.keyD, PD.dgetD, PD.lenD, PD.mAdd, PD.ownL, od, h1, h2, oD]) ⟨none, none, by simp [PD.mK, PD.mVar, PD.m1, PD.m2, PD.mFz, PD.aNil, PD.aCons, PD.looks, PD.look, PD.dats, PD.mB, PD.truth, PD.tB, PD.tT, PD.tAnd, PD.tOr, PD.tNot, PD.mIf, PD.vAnd, PD.vOr, PD.vNot, PD.mCall, PD.sNx, PD.sSeq, PD.sDrop, PD.sIf, PD.ret, PD.sRet, PD.sRetN, PD.storeR, PD.store, PD.gN, PD.gNil, PD.gCons, PD.gT, PD.mut1, PD.setL, PD.gSub, PD.sSet, PD.sAsg, PD.stores, PD.noVar, PD.sPar, PD.items, PD.wSeq, PD.tYes, PD.sFor, PD.frz, PD.mTup, PD.mLst, PD.mChain, PD.mCallR, PD.once, PD.pass, PD.pass1, PD.back, PD.back1, PD.inS, PD.outS, PD.okArg, PD.outs, PD.fnD, PD.noEx, Md.mut, Md.ow, PD.eqD, PD.neD, PD.eqB, PD.eqS, PD.isD, PD.isntD, PD.isNonD, PD.addD, PD.subD, PD.modD, PD.fdivD, PD.negD, PD.keyD, PD.dgetD, PD.lenD, PD.mAdd, PD.ownL, oD, od]⟩
  have e5 : (s.curve.take (0 + (s.curve.map stD).length)).foldl (fun f p => if p.1 ≤ c ∧ c ≤ s.stop then some p.2 else f) none = timeOf s c := by
    rw [Nat.zero_add, List.length_map, List.take_length]
    unfold timeOf
    by_cases h2 : c ≤ s.stop
    · simp only [h2, and_true, if_pos]
      rw [foldl_last c s.curve none]
      simp [PD.mK, PD.mVar, PD.m1, PD.m2, PD.mFz, PD.aNil, PD.aCons, PD.looks, PD.look, PD.dats, PD.mB, PD.truth, PD.tB, PD.tT, PD.tAnd, PD.tOr, PD.tNot, PD.mIf, PD.vAnd, PD.vOr, PD.vNot, PD.mCall, PD.sNx, PD.sSeq, PD.sDrop, PD.sIf, PD.ret, PD.sRet, PD.sRetN, PD.storeR, PD.store, PD.gN, PD.gNil, PD.gCons, PD.gT, PD.mut1, PD.setL, PD.gSub, PD.sSet, PD.sAsg, PD.stores, PD.noVar, PD.sPar, PD.items, PD.wSeq, PD.tYes, PD.sFor, PD.frz, PD.mTup, PD.mLst, PD.mChain, PD.mCallR, PD.once, PD.pass, PD.pass1, PD.back, PD.back1, PD.inS, PD.outS, PD.okArg, PD.outs, PD.fnD, PD.noEx, Md.mut, Md.ow, PD.eqD, PD.neD, PD.eqB, PD.eqS, PD.isD, PD.isntD, PD.isNonD, PD.addD, PD.subD, PD.modD, PD.fdivD, PD.negD, PD.keyD, PD.dgetD, PD.lenD, PD.mAdd, PD.ownL]
    · simp only [h2, and_false, if_false]
      clear e3 e1 h
      induction s.curve with
      | nil => rfl
      | cons p l ih => exact ih
  rw [e5] at e3
  have hb : B__law_time ([(⟨.dat, bdD ss ts⟩ : Sl), ⟨.dat, .int (i : Int)⟩, ⟨.dat, .int c⟩].map inS ++ List.replicate 7 none) = .ok (.rt (.dat (oD (timeOf s c)))) [some ⟨.dat, bdD ss ts⟩, some ⟨.dat, .int (i : Int)⟩, some ⟨.dat, .int c⟩, some ⟨.dat, oD (timeOf s c)⟩, some ⟨.dat, oD s.above⟩, some ⟨.dat, .int s.rating⟩, some ⟨.dat, .tup (s.curve.map stD)⟩, some ⟨.dat, .int s.stop⟩, od x, od y] := by
    unfold B__law_time
    rw [seq_nx (Γ' := [some ⟨.dat, bdD ss ts⟩, some ⟨.dat, .int (i : Int)⟩, some ⟨.dat, .int c⟩, none, some ⟨.dat, oD s.above⟩, some ⟨.dat, .int s.rating⟩, some ⟨.dat, .tup (s.curve.map stD)⟩, some ⟨.dat, .int s.stop⟩, none, none]) (by
      simp [PD.mK, PD.mVar, PD.m1, PD.m2, PD.mFz, PD.aNil, PD.aCons, PD.looks, PD.look, PD.dats, PD.mB, PD.truth, PD.tB, PD.tT, PD.tAnd, PD.tOr, PD.tNot, PD.mIf, PD.vAnd, PD.vOr, PD.vNot, PD.mCall, PD.sNx, PD.sSeq, PD.sDrop, PD.sIf, PD.ret, PD.sRet, PD.sRetN, PD.storeR, PD.store, PD.gN, PD.gNil, PD.gCons, PD.gT, PD.mut1, PD.setL, PD.gSub, PD.sSet, PD.sAsg, PD.stores, PD.noVar, PD.sPar, PD.items, PD.wSeq, PD.tYes, PD.sFor, PD.frz, PD.mTup, PD.mLst, PD.mChain, PD.mCallR, PD.once, PD.pass, PD.pass1, PD.back, PD.back1, PD.inS, PD.outS, PD.okArg, PD.outs, PD.fnD, PD.noEx, Md.mut, Md.ow, PD.eqD, PD.neD, PD.eqB, PD.eqS, PD.isD, PD.isntD, PD.isNonD, PD.addD, PD.subD, PD.modD, PD.fdivD, PD.negD, PD.keyD, PD.lenD, PD.mAdd, PD.ownL, get_sw, e1]
      simp [PD.mK, PD.mVar, PD.m1, PD.m2, PD.mFz, PD.aNil, PD.aCons, PD.looks, PD.look, PD.dats, PD.mB, PD.truth, PD.tB, PD.tT, PD.tAnd, PD.tOr, PD.tNot, PD.mIf, PD.vAnd, PD.vOr, PD.vNot, PD.mCall, PD.sNx, PD.sSeq, PD.sDrop, PD.sIf, PD.ret, PD.sRet, PD.sRetN, PD.storeR, PD.store, PD.gN, PD.gNil, PD.gCons, PD.gT, PD.mut1, PD.setL, PD.gSub, PD.sSet, PD.sAsg, PD.stores, PD.noVar, PD.sPar, PD.items, PD.wSeq, PD.tYes, PD.sFor, PD.frz, PD.mTup, PD.mLst, PD.mChain, PD.mCallR, PD.once, PD.pass, PD.pass1, PD.back, PD.back1, PD.inS, PD.outS, PD.okArg, PD.outs, PD.fnD, PD.noEx, Md.mut, Md.ow, PD.eqD, PD.neD, PD.eqB, PD.eqS, PD.isD, PD.isntD, PD.isNonD, PD.addD, PD.subD, PD.modD, PD.fdivD, PD.negD, PD.keyD, PD.dgetD, PD.lenD, PD.mAdd, PD.ownL, swD])]
    rw [seq_nx (Γ' := [some ⟨.dat, bdD ss ts⟩, some ⟨.dat, .int (i : Int)⟩, some ⟨.dat, .int c⟩, some ⟨.dat, .non⟩, some ⟨.dat, oD s.above⟩, some ⟨.dat, .int s.rating⟩, some ⟨.dat, .tup (s.curve.map stD)⟩, some ⟨.dat, .int s.stop⟩, none, none]) (by simp [PD.mK, PD.mVar, PD.m1, PD.m2, PD.mFz, PD.aNil, PD.aCons, PD.looks, PD.look, PD.dats, PD.mB, PD.truth, PD.tB, PD.tT, PD.tAnd, PD.tOr, PD.tNot, PD.mIf, PD.vAnd, PD.vOr, PD.vNot, PD.mCall, PD.sNx, PD.sSeq, PD.sDrop, PD.sIf, PD.ret, PD.sRet, PD.sRetN, PD.storeR, PD.store, PD.gN, PD.gNil, PD.gCons, PD.gT, PD.mut1, PD.setL, PD.gSub, PD.sSet, PD.sAsg, PD.stores, PD.noVar, PD.sPar, PD.items, PD.wSeq, PD.tYes, PD.sFor, PD.frz, PD.mTup, PD.mLst, PD.mChain, PD.mCallR, PD.once, PD.pass, PD.pass1, PD.back, PD.back1, PD.inS, PD.outS, PD.okArg, PD.outs, PD.fnD, PD.noEx, Md.mut, Md.ow, PD.eqD, PD.neD, PD.eqB, PD.eqS, PD.isD, PD.isntD, PD.isNonD, PD.addD, PD.subD, PD.modD, PD.fdivD, PD.negD, PD.keyD, PD.dgetD, PD.lenD, PD.mAdd, PD.ownL])]
    rw [seq_nx (Γ' := _) (by
      show PD.sFor _ _ _ _ = _
      unfold PD.sFor wSeq
      simp only [mVar, R.bind_ok, look, R.opt_some, frz, items, List.getElem?_cons_zero, List.getElem?_cons_succ]
      exact e3)]
    simp [PD.mK, PD.mVar, PD.m1, PD.m2, PD.mFz, PD.aNil, PD.aCons, PD.looks, PD.look, PD.dats, PD.mB, PD.truth, PD.tB, PD.tT, PD.tAnd, PD.tOr, PD.tNot, PD.mIf, PD.vAnd, PD.vOr, PD.vNot, PD.mCall, PD.sNx, PD.sSeq, PD.sDrop, PD.sIf, PD.ret, PD.sRet, PD.sRetN, PD.storeR, PD.store, PD.gN, PD.gNil, PD.gCons, PD.gT, PD.mut1, PD.setL, PD.gSub, PD.sSet, PD.sAsg, PD.stores, PD.noVar, PD.sPar, PD.items, PD.wSeq, PD.tYes, PD.sFor, PD.frz, PD.mTup, PD.mLst, PD.mChain, PD.mCallR, PD.once, PD.pass, PD.pass1, PD.back, PD.back1, PD.inS, PD.outS, PD.okArg, PD.outs, PD.fnD, PD.noEx, Md.mut, Md.ow, PD.eqD, PD.neD, PD.eqB, PD.eqS, PD.isD, PD.isntD, PD.isNonD, PD.addD, PD.subD, PD.modD, PD.fdivD, PD.negD, PD.keyD, PD.dgetD, PD.lenD, PD.mAdd, PD.ownL]
  exact of_fn (np := 3) (n := 10) (b := B__law_time) (ss := [(⟨.dat, bdD ss ts⟩ : Sl), ⟨.dat, .int (i : Int)⟩, ⟨.dat, .int c⟩]) rfl rfl hb
theorem lt_len {i : Nat} {s : Sw} (h : ss[i]? = some s) : i < ss.length := by
  by_cases h' : i < ss.length
  · exact h'
  · rw [List.getElem?_eq_none (by omega)] at h; cases h
theorem fld_sw : fld 0 "switches" (objD ss ts) = some (.dat (.tup (ss.map swD))) := by rfl
theorem isi_b (o : List (Str × D)) : isiD [0] [.obj 0 o, .glb 0] = some (.dat (.bl true)) := by rfl
theorem time_by_ok {i : Nat} {s : Sw} (c : Int) (h : ss[i]? = some s) (cv : CvOk s.rating B s.curve) : F_time_by [⟨.dat, objD ss ts⟩, ⟨.dat, .int (i : Int)⟩, ⟨.dat, .int c⟩] = .ok (.dat (oD (timeOf s c))) [none, none, none] := by
  have e2 := ix_sw h
  have e3 : F_steps_of [⟨.dat, objD ss ts⟩, ⟨.dat, .int (i : Int)⟩] = .ok (.dat (.tup (s.curve.map stD))) [none, none] := by
    simp [PD.mK, PD.mVar, PD.m1, PD.m2, PD.mFz, PD.aNil, PD.aCons, PD.looks, PD.look, PD.dats, PD.mB, PD.truth, PD.tB, PD.tT, PD.tAnd, PD.tOr, PD.tNot, PD.mIf, PD.vAnd, PD.vOr, PD.vNot, PD.mCall, PD.sNx, PD.sSeq, PD.sDrop, PD.sIf, PD.ret, PD.sRet, PD.sRetN, PD.storeR, PD.store, PD.gN, PD.gNil, PD.gCons, PD.gT, PD.mut1, PD.setL, PD.gSub, PD.sSet, PD.sAsg, PD.stores, PD.noVar, PD.sPar, PD.items, PD.wSeq, PD.tYes, PD.sFor, PD.frz, PD.mTup, PD.mLst, PD.mChain, PD.mCallR, PD.once, PD.pass, PD.pass1, PD.back, PD.back1, PD.inS, PD.outS, PD.okArg, PD.outs, PD.fnD, PD.noEx, Md.mut, Md.ow, PD.eqD, PD.neD, PD.eqB, PD.eqS, PD.isD, PD.isntD, PD.isNonD, PD.addD, PD.subD, PD.modD, PD.fdivD, PD.negD, PD.keyD, PD.dgetD, PD.lenD, PD.mAdd, PD.ownL, F_steps_of, B_steps_of, fld_sw, e2]
    simp [PD.mK, PD.mVar, PD.m1, PD.m2, PD.mFz, PD.aNil, PD.aCons, PD.looks, PD.look, PD.dats, PD.mB, PD.truth, PD.tB, PD.tT, PD.tAnd, PD.tOr, PD.tNot, PD.mIf, PD.vAnd, PD.vOr, PD.vNot, PD.mCall, PD.sNx, PD.sSeq, PD.sDrop, PD.sIf, PD.ret, PD.sRet, PD.sRetN, PD.storeR, PD.store, PD.gN, PD.gNil, PD.gCons, PD.gT, PD.mut1, PD.setL, PD.gSub, PD.sSet, PD.sAsg, PD.stores, PD.noVar, PD.sPar, PD.items, PD.wSeq, PD.tYes, PD.sFor, PD.frz, PD.mTup, PD.mLst, PD.mChain, PD.mCallR, PD.once, PD.pass, PD.pass1, PD.back, PD.back1, PD.inS, PD.outS, PD.okArg, PD.outs, PD.fnD, PD.noEx, Md.mut, Md.ow, PD.eqD, PD.neD, PD.eqB, PD.eqS, PD.isD, PD.isntD, PD.isNonD, PD.addD, PD.subD, PD.modD, PD.fdivD, PD.negD, PD.keyD, PD.dgetD, PD.lenD, PD.mAdd, PD.ownL, swD, ixD, atI, ixN]
  have e4 : compD (gT 2 (PD.gCons (gN 4) (PD.gCons (gN 5) PD.gNil))) (PD.tB (m2 leD (mVar 4) (mVar 2))) (mVar 5) [4, 5] (s.curve.map stD) [] [some ⟨.dat, objD ss ts⟩, some ⟨.dat, .int (i : Int)⟩, some ⟨.dat, .int c⟩, none, none, none]
      = .ok (((s.curve.filter fun p => decide (p.1 ≤ c)).map fun p => D.int p.2)) [some ⟨.dat, objD ss ts⟩, some ⟨.dat, .int (i : Int)⟩, some ⟨.dat, .int c⟩, none, none, none] := by
    rw [compD_filter (f := fun d => match d with | .tup [_, y] => y | _ => .non) (p := fun d => match d with | .tup [.int x, _] => decide (x ≤ c) | _ => false) (s.curve.map stD) [] (fun x hx => by
      obtain ⟨⟨a, b⟩, _, rfl⟩ := List.mem_map.mp hx
      refine ⟨[some ⟨.dat, objD ss ts⟩, some ⟨.dat, .int (i : Int)⟩, some ⟨.dat, .int c⟩, none, some ⟨.dat, .int a⟩, some ⟨.dat, .int b⟩], [some ⟨.dat, objD ss ts⟩, some ⟨.dat, .int (i : Int)⟩, some ⟨.dat, .int c⟩, none, some ⟨.dat, .int a⟩, some ⟨.dat, .int b⟩], by simp [PD.mK, PD.mVar, PD.m1, PD.m2, PD.mFz, PD.aNil, PD.aCons, PD.looks, PD.look, PD.dats, PD.mB, PD.truth, PD.tB, PD.tT, PD.tAnd, PD.tOr, PD.tNot, PD.mIf, PD.vAnd, PD.vOr, PD.vNot, PD.mCall, PD.sNx, PD.sSeq, PD.sDrop, PD.sIf, PD.ret, PD.sRet, PD.sRetN, PD.storeR, PD.store, PD.gN, PD.gNil, PD.gCons, PD.gT, PD.mut1, PD.setL, PD.gSub, PD.sSet, PD.sAsg, PD.stores, PD.noVar, PD.sPar, PD.items, PD.wSeq, PD.tYes, PD.sFor, PD.frz, PD.mTup, PD.mLst, PD.mChain, PD.mCallR, PD.once, PD.pass, PD.pass1, PD.back, PD.back1, PD.inS, PD.outS, PD.okArg, PD.outs, PD.fnD, PD.noEx, Md.mut, Md.ow, PD.eqD, PD.neD, PD.eqB, PD.eqS, PD.isD, PD.isntD, PD.isNonD, PD.addD, PD.subD, PD.modD, PD.fdivD, PD.negD, PD.keyD, PD.dgetD, PD.lenD, PD.mAdd, PD.ownL, stD], by simp [PD.mK, PD.mVar, PD.m1, PD.m2, PD.mFz, PD.aNil, PD.aCons, PD.looks, PD.look, PD.dats, PD.mB, PD.truth, PD.tB, PD.tT, PD.tAnd, PD.tOr, PD.tNot, PD.mIf, PD.vAnd, PD.vOr, PD.vNot, PD.mCall, PD.sNx, PD.sSeq, PD.sDrop, PD.sIf, PD.ret, PD.sRet, PD.sRetN, PD.storeR, PD.store, PD.gN, PD.gNil, PD.gCons, PD.gT, PD.mut1, PD.setL, PD.gSub, PD.sSet, PD.sAsg, PD.stores, PD.noVar, PD.sPar, PD.items, PD.wSeq, PD.tYes, PD.sFor, PD.frz, PD.mTup, PD.mLst, PD.mChain, PD.mCallR, PD.once, PD.pass, PD.pass1, PD.back, PD.back1, PD.inS, PD.outS, PD.okArg, PD.outs, PD.fnD, PD.noEx, Md.mut, Md.ow, PD.eqD, PD.neD, PD.eqB, PD.eqS, PD.isD, PD.isntD, PD.isNonD, PD.addD, PD.subD, PD.modD, PD.fdivD, PD.negD, PD.keyD, PD.dgetD, PD.lenD, PD.mAdd, PD.ownL, stD], fun _ => ⟨[some ⟨.dat, objD ss ts⟩, some ⟨.dat, .int (i : Int)⟩, some ⟨.dat, .int c⟩, none, some ⟨.dat, .int a⟩, some ⟨.dat, .int b⟩], by simp [PD.mK, PD.mVar, PD.m1, PD.m2, PD.mFz, PD.aNil, PD.aCons, PD.looks, PD.look, PD.dats, PD.mB, PD.truth, PD.tB, PD.tT, PD.tAnd, PD.tOr, PD.tNot, PD.mIf, PD.vAnd, PD.vOr, PD.vNot, PD.mCall, PD.sNx, PD.sSeq, PD.sDrop, PD.sIf, PD.ret, PD.sRet, PD.sRetN, PD.storeR, PD.store, PD.gN, PD.gNil, PD.gCons, PD.gT, PD.mut1, PD.setL, PD.gSub, PD.sSet, PD.sAsg, PD.stores, PD.noVar, PD.sPar, PD.items, PD.wSeq, PD.tYes, PD.sFor, PD.frz, PD.mTup, PD.mLst, PD.mChain, PD.mCallR, PD.once, PD.pass, PD.pass1, PD.back, PD.back1, PD.inS, PD.outS, PD.okArg, PD.outs, PD.fnD, PD.noEx, Md.mut, Md.ow, PD.eqD, PD.neD, PD.eqB, PD.eqS, PD.isD, PD.isntD, PD.isNonD, PD.addD, PD.subD, PD.modD, PD.fdivD, PD.negD, PD.keyD, PD.dgetD, PD.lenD, PD.mAdd, PD.ownL, stD], by simp [PD.mK, PD.mVar, PD.m1, PD.m2, PD.mFz, PD.aNil, PD.aCons, PD.looks, PD.look, PD.dats, PD.mB, PD.truth, PD.tB, PD.tT, PD.tAnd, PD.tOr, PD.tNot, PD.mIf, PD.vAnd, PD.vOr, PD.vNot, PD.mCall, PD.sNx, PD.sSeq, PD.sDrop, PD.sIf, PD.ret, PD.sRet, PD.sRetN, PD.storeR, PD.store, PD.gN, PD.gNil, PD.gCons, PD.gT, PD.mut1, PD.setL, PD.gSub, PD.sSet, PD.sAsg, PD.stores, PD.noVar, PD.sPar, PD.items, PD.wSeq, PD.tYes, PD.sFor, PD.frz, PD.mTup, PD.mLst, PD.mChain, PD.mCallR, PD.once, PD.pass, PD.pass1, PD.back, PD.back1, PD.inS, PD.outS, PD.okArg, PD.outs, PD.fnD, PD.noEx, Md.mut, Md.ow, PD.eqD, PD.neD, PD.eqB, PD.eqS, PD.isD, PD.isntD, PD.isNonD, PD.addD, PD.subD, PD.modD, PD.fdivD, PD.negD, PD.keyD, PD.dgetD, PD.lenD, PD.mAdd, PD.ownL, wipeE]⟩, fun _ => by simp [PD.mK, PD.mVar, PD.m1, PD.m2, PD.mFz, PD.aNil, PD.aCons, PD.looks, PD.look, PD.dats, PD.mB, PD.truth, PD.tB, PD.tT, PD.tAnd, PD.tOr, PD.tNot, PD.mIf, PD.vAnd, PD.vOr, PD.vNot, PD.mCall, PD.sNx, PD.sSeq, PD.sDrop, PD.sIf, PD.ret, PD.sRet, PD.sRetN, PD.storeR, PD.store, PD.gN, PD.gNil, PD.gCons, PD.gT, PD.mut1, PD.setL, PD.gSub, PD.sSet, PD.sAsg, PD.stores, PD.noVar, PD.sPar, PD.items, PD.wSeq, PD.tYes, PD.sFor, PD.frz, PD.mTup, PD.mLst, PD.mChain, PD.mCallR, PD.once, PD.pass, PD.pass1, PD.back, PD.back1, PD.inS, PD.outS, PD.okArg, PD.outs, PD.fnD, PD.noEx, Md.mut, Md.ow, PD.eqD, PD.neD, PD.eqB, PD.eqS, PD.isD, PD.isntD, PD.isNonD, PD.addD, PD.subD, PD.modD, PD.fdivD, PD.negD, PD.keyD, PD.dgetD, PD.lenD, PD.mAdd, PD.ownL, wipeE]⟩)]
    rw [List.filter_map, List.map_map]
    rfl
  have hcv : s.curve.length ≤ 3 := by
    generalize s.curve = q at cv
    cases cv <;> simp [PD.mK, PD.mVar, PD.m1, PD.m2, PD.mFz, PD.aNil, PD.aCons, PD.looks, PD.look, PD.dats, PD.mB, PD.truth, PD.tB, PD.tT, PD.tAnd, PD.tOr, PD.tNot, PD.mIf, PD.vAnd, PD.vOr, PD.vNot, PD.mCall, PD.sNx, PD.sSeq, PD.sDrop, PD.sIf, PD.ret, PD.sRet, PD.sRetN, PD.storeR, PD.store, PD.gN, PD.gNil, PD.gCons, PD.gT, PD.mut1, PD.setL, PD.gSub, PD.sSet, PD.sAsg, PD.stores, PD.noVar, PD.sPar, PD.items, PD.wSeq, PD.tYes, PD.sFor, PD.frz, PD.mTup, PD.mLst, PD.mChain, PD.mCallR, PD.once, PD.pass, PD.pass1, PD.back, PD.back1, PD.inS, PD.outS, PD.okArg, PD.outs, PD.fnD, PD.noEx, Md.mut, Md.ow, PD.eqD, PD.neD, PD.eqB, PD.eqS, PD.isD, PD.isntD, PD.isNonD, PD.addD, PD.subD, PD.modD, PD.fdivD, PD.negD, PD.keyD, PD.dgetD, PD.lenD, PD.mAdd, PD.ownL]
  have e5 : F_time_by [⟨.dat, objD ss ts⟩, ⟨.dat, .int (i : Int)⟩, ⟨.dat, .int c⟩] = .ok (.dat (oD (timeOf s c))) [none, none, none] := by
    obtain ⟨tl, htl⟩ : ∃ tl : List Int, tl = (s.curve.filter fun p => decide (p.1 ≤ c)).map (·.2) := ⟨_, rfl⟩
    have e6 : ((s.curve.filter fun p => decide (p.1 ≤ c)).map fun p => D.int p.2) = tl.map .int := by rw [htl, List.map_map]; rfl
    rw [e6] at e4
    have h3 : tl.length ≤ 3 := by
      rw [htl, List.length_map]
      exact Nat.le_trans (List.length_filter_le _ _) hcv
    have e7 := ne_nil tl h3
    have e8 : lastT c s.curve = tl.getLast? := by
      unfold lastT
      rw [htl, List.getLast?_map]
    have e9 : ixD (swD s) (.int 3) = some (.dat (.int s.stop)) := by simp [PD.mK, PD.mVar, PD.m1, PD.m2, PD.mFz, PD.aNil, PD.aCons, PD.looks, PD.look, PD.dats, PD.mB, PD.truth, PD.tB, PD.tT, PD.tAnd, PD.tOr, PD.tNot, PD.mIf, PD.vAnd, PD.vOr, PD.vNot, PD.mCall, PD.sNx, PD.sSeq, PD.sDrop, PD.sIf, PD.ret, PD.sRet, PD.sRetN, PD.storeR, PD.store, PD.gN, PD.gNil, PD.gCons, PD.gT, PD.mut1, PD.setL, PD.gSub, PD.sSet, PD.sAsg, PD.stores, PD.noVar, PD.sPar, PD.items, PD.wSeq, PD.tYes, PD.sFor, PD.frz, PD.mTup, PD.mLst, PD.mChain, PD.mCallR, PD.once, PD.pass, PD.pass1, PD.back, PD.back1, PD.inS, PD.outS, PD.okArg, PD.outs, PD.fnD, PD.noEx, Md.mut, Md.ow, PD.eqD, PD.neD, PD.eqB, PD.eqS, PD.isD, PD.isntD, PD.isNonD, PD.addD, PD.subD, PD.modD, PD.fdivD, PD.negD, PD.keyD, PD.dgetD, PD.lenD, PD.mAdd, PD.ownL, swD, ixD, atI, ixN]
    simp [PD.mK, PD.mVar, PD.m1, PD.m2, PD.mFz, PD.aNil, PD.aCons, PD.looks, PD.look, PD.dats, PD.mB, PD.truth, PD.tB, PD.tT, PD.tAnd, PD.tOr, PD.tNot, PD.mIf, PD.vAnd, PD.vOr, PD.vNot, PD.mCall, PD.sNx, PD.sSeq, PD.sDrop, PD.sIf, PD.ret, PD.sRet, PD.sRetN, PD.storeR, PD.store, PD.gN, PD.gNil, PD.gCons, PD.gT, PD.mut1, PD.setL, PD.gSub, PD.sSet, PD.sAsg, PD.stores, PD.noVar, PD.sPar, PD.items, PD.wSeq, PD.tYes, PD.sFor, PD.frz, PD.mTup, PD.mLst, PD.mChain, PD.mCallR, PD.once, PD.pass, PD.pass1, PD.back, PD.back1, PD.inS, PD.outS, PD.okArg, PD.outs, PD.fnD, PD.noEx, Md.mut, Md.ow, PD.eqD, PD.eqB, PD.eqS, PD.isD, PD.isntD, PD.isNonD, PD.addD, PD.subD, PD.modD, PD.fdivD, PD.keyD, PD.dgetD, PD.lenD, PD.mAdd, PD.ownL, F_time_by, B_time_by, e3, mLc, plainAt, wipeE, backE, e4, fld_sw, e2, e7, neg1, e9]
    unfold timeOf
    rw [e8]
    rcases List.eq_nil_or_concat tl with z | ⟨l, x, z⟩
    · subst z
      simp [PD.mK, PD.mVar, PD.m1, PD.m2, PD.mFz, PD.aNil, PD.aCons, PD.looks, PD.look, PD.dats, PD.mB, PD.truth, PD.tB, PD.tT, PD.tAnd, PD.tOr, PD.tNot, PD.mIf, PD.vAnd, PD.vOr, PD.vNot, PD.mCall, PD.sNx, PD.sSeq, PD.sDrop, PD.sIf, PD.ret, PD.sRet, PD.sRetN, PD.storeR, PD.store, PD.gN, PD.gNil, PD.gCons, PD.gT, PD.mut1, PD.setL, PD.gSub, PD.sSet, PD.sAsg, PD.stores, PD.noVar, PD.sPar, PD.items, PD.wSeq, PD.tYes, PD.sFor, PD.frz, PD.mTup, PD.mLst, PD.mChain, PD.mCallR, PD.once, PD.pass, PD.pass1, PD.back, PD.back1, PD.inS, PD.outS, PD.okArg, PD.outs, PD.fnD, PD.noEx, Md.mut, Md.ow, PD.eqD, PD.neD, PD.eqB, PD.eqS, PD.isD, PD.isntD, PD.isNonD, PD.addD, PD.subD, PD.modD, PD.fdivD, PD.negD, PD.keyD, PD.dgetD, PD.lenD, PD.mAdd, PD.ownL, oD]
    · rw [List.concat_eq_append] at z
      subst z
      by_cases hs : c ≤ s.stop
      · simp [PD.mK, PD.mVar, PD.m1, PD.m2, PD.mFz, PD.aNil, PD.aCons, PD.looks, PD.look, PD.dats, PD.mB, PD.truth, PD.tB, PD.tT, PD.tAnd, PD.tOr, PD.tNot, PD.mIf, PD.vAnd, PD.vOr, PD.vNot, PD.mCall, PD.sNx, PD.sSeq, PD.sDrop, PD.sIf, PD.ret, PD.sRet, PD.sRetN, PD.storeR, PD.store, PD.gN, PD.gNil, PD.gCons, PD.gT, PD.mut1, PD.setL, PD.gSub, PD.sSet, PD.sAsg, PD.stores, PD.noVar, PD.sPar, PD.items, PD.wSeq, PD.tYes, PD.sFor, PD.frz, PD.mTup, PD.mLst, PD.mChain, PD.mCallR, PD.once, PD.pass, PD.pass1, PD.back, PD.back1, PD.inS, PD.outS, PD.okArg, PD.outs, PD.fnD, PD.noEx, Md.mut, Md.ow, PD.eqD, PD.neD, PD.eqB, PD.eqS, PD.isD, PD.isntD, PD.isNonD, PD.addD, PD.subD, PD.modD, PD.fdivD, PD.negD, PD.keyD, PD.dgetD, PD.lenD, PD.mAdd, PD.ownL, hs, oD, ix_last]
      · simp [PD.mK, PD.mVar, PD.m1, PD.m2, PD.mFz, PD.aNil, PD.aCons, PD.looks, PD.look, PD.dats, PD.mB, PD.truth, PD.tB, PD.tT, PD.tAnd, PD.tOr, PD.tNot, PD.mIf, PD.vAnd, PD.vOr, PD.vNot, PD.mCall, PD.sNx, PD.sSeq, PD.sDrop, PD.sIf, PD.ret, PD.sRet, PD.sRetN, PD.storeR, PD.store, PD.gN, PD.gNil, PD.gCons, PD.gT, PD.mut1, PD.setL, PD.gSub, PD.sSet, PD.sAsg, PD.stores, PD.noVar, PD.sPar, PD.items, PD.wSeq, PD.tYes, PD.sFor, PD.frz, PD.mTup, PD.mLst, PD.mChain, PD.mCallR, PD.once, PD.pass, PD.pass1, PD.back, PD.back1, PD.inS, PD.outS, PD.okArg, PD.outs, PD.fnD, PD.noEx, Md.mut, Md.ow, PD.eqD, PD.neD, PD.eqB, PD.eqS, PD.isD, PD.isntD, PD.isNonD, PD.addD, PD.subD, PD.modD, PD.fdivD, PD.negD, PD.keyD, PD.dgetD, PD.lenD, PD.mAdd, PD.ownL, hs, oD, ix_last]
  exact e5
end Lk41

namespace Lk41
open PySem PySem.Spec L2 PD
variable {A B : Int} {ss : List Sw} {ts : List Th}
def swC (s : Sw) : List Int := [s.rating, s.stop, s.stop + 1, s.stop - 1] ++ s.curve.map (·.1) ++ s.curve.map fun p => p.1 - 1
def allC (ss : List Sw) : List Int := [1, 2, 998, 999] ++ ss.flatMap swC
def curs (ss : List Sw) : List Int := (srt (dd (allC ss))).filter fun c => decide (1 ≤ c) && decide (c ≤ 999)
abbrev cE (d : D) (l : List D) (x y : D) (s : Sw) : EnD := [some ⟨.dat, d⟩, some ⟨.own, .lst l⟩, some ⟨.dat, x⟩, some ⟨.dat, y⟩, some ⟨.dat, .tup (s.curve.map stD)⟩, some ⟨.dat, .int s.stop⟩, none, none, none]
theorem comp1 (d : D) (l : List D) (x y : D) (s : Sw) : compD (gT 2 (PD.gCons (gN 7) (PD.gCons (gN 8) PD.gNil))) tYes (mVar 7) [7, 8] (s.curve.map stD) [] (cE d l x y s) = .ok (s.curve.map fun p => D.int p.1) (cE d l x y s) := by
  rw [compD_map (f := fun d => match d with | .tup [y, _] => y | _ => .non) (s.curve.map stD) [] (fun z hz => by
    obtain ⟨⟨a, b⟩, _, rfl⟩ := List.mem_map.mp hz
    refine ⟨[some ⟨.dat, d⟩, some ⟨.own, .lst l⟩, some ⟨.dat, x⟩, some ⟨.dat, y⟩, some ⟨.dat, .tup (s.curve.map stD)⟩, some ⟨.dat, .int s.stop⟩, none, some ⟨.dat, .int a⟩, some ⟨.dat, .int b⟩], [some ⟨.dat, d⟩, some ⟨.own, .lst l⟩, some ⟨.dat, x⟩, some ⟨.dat, y⟩, some ⟨.dat, .tup (s.curve.map stD)⟩, some ⟨.dat, .int s.stop⟩, none, some ⟨.dat, .int a⟩, some ⟨.dat, .int b⟩],
      [some ⟨.dat, d⟩, some ⟨.own, .lst l⟩, some ⟨.dat, x⟩, some ⟨.dat, y⟩, some ⟨.dat, .tup (s.curve.map stD)⟩, some ⟨.dat, .int s.stop⟩, none, some ⟨.dat, .int a⟩, some ⟨.dat, .int b⟩], by simp [PD.mK, PD.mVar, PD.m1, PD.m2, PD.mFz, PD.aNil, PD.aCons, PD.looks, PD.look, PD.dats, PD.mB, PD.truth, PD.tB, PD.tT, PD.tAnd, PD.tOr, PD.tNot, PD.mIf, PD.vAnd, PD.vOr, PD.vNot, PD.mCall, PD.sNx, PD.sSeq, PD.sDrop, PD.sIf, PD.ret, PD.sRet, PD.sRetN, PD.storeR, PD.store, PD.gN, PD.gNil, PD.gCons, PD.gT, PD.mut1, PD.setL, PD.gSub, PD.sSet, PD.sAsg, PD.stores, PD.noVar, PD.sPar, PD.items, PD.wSeq, PD.tYes, PD.sFor, PD.frz, PD.mTup, PD.mLst, PD.mChain, PD.mCallR, PD.once, PD.pass, PD.pass1, PD.back, PD.back1, PD.inS, PD.outS, PD.okArg, PD.outs, PD.fnD, PD.noEx, Md.mut, Md.ow, PD.eqD, PD.neD, PD.eqB, PD.eqS, PD.isD, PD.isntD, PD.isNonD, PD.addD, PD.subD, PD.modD, PD.fdivD, PD.negD, PD.keyD, PD.dgetD, PD.lenD, PD.mAdd, PD.ownL, stD], by simp [PD.mK, PD.mVar, PD.m1, PD.m2, PD.mFz, PD.aNil, PD.aCons, PD.looks, PD.look, PD.dats, PD.mB, PD.truth, PD.tB, PD.tT, PD.tAnd, PD.tOr, PD.tNot, PD.mIf, PD.vAnd, PD.vOr, PD.vNot, PD.mCall, PD.sNx, PD.sSeq, PD.sDrop, PD.sIf, PD.ret, PD.sRet, PD.sRetN, PD.storeR, PD.store, PD.gN, PD.gNil, PD.gCons, PD.gT, PD.mut1, PD.setL, PD.gSub, PD.sSet, PD.sAsg, PD.stores, PD.noVar, PD.sPar, PD.items, PD.wSeq, PD.tYes, PD.sFor, PD.frz, PD.mTup, PD.mLst, PD.mChain, PD.mCallR, PD.once, PD.pass, PD.pass1, PD.back, PD.back1, PD.inS, PD.outS, PD.okArg, PD.outs, PD.fnD, PD.noEx, Md.mut, Md.ow, PD.eqD, PD.neD, PD.eqB, PD.eqS, PD.isD, PD.isntD, PD.isNonD, PD.addD, PD.subD, PD.modD, PD.fdivD, PD.negD, PD.keyD, PD.dgetD, PD.lenD, PD.mAdd, PD.ownL], by simp [PD.mK, PD.mVar, PD.m1, PD.m2, PD.mFz, PD.aNil, PD.aCons, PD.looks, PD.look, PD.dats, PD.mB, PD.truth, PD.tB, PD.tT, PD.tAnd, PD.tOr, PD.tNot, PD.mIf, PD.vAnd, PD.vOr, PD.vNot, PD.mCall, PD.sNx, PD.sSeq, PD.sDrop, PD.sIf, PD.ret, PD.sRet, PD.sRetN, PD.storeR, PD.store, PD.gN, PD.gNil, PD.gCons, PD.gT, PD.mut1, PD.setL, PD.gSub, PD.sSet, PD.sAsg, PD.stores, PD.noVar, PD.sPar, PD.items, PD.wSeq, PD.tYes, PD.sFor, PD.frz, PD.mTup, PD.mLst, PD.mChain, PD.mCallR, PD.once, PD.pass, PD.pass1, PD.back, PD.back1, PD.inS, PD.outS, PD.okArg, PD.outs, PD.fnD, PD.noEx, Md.mut, Md.ow, PD.eqD, PD.neD, PD.eqB, PD.eqS, PD.isD, PD.isntD, PD.isNonD, PD.addD, PD.subD, PD.modD, PD.fdivD, PD.negD, PD.keyD, PD.dgetD, PD.lenD, PD.mAdd, PD.ownL, stD], by simp [PD.mK, PD.mVar, PD.m1, PD.m2, PD.mFz, PD.aNil, PD.aCons, PD.looks, PD.look, PD.dats, PD.mB, PD.truth, PD.tB, PD.tT, PD.tAnd, PD.tOr, PD.tNot, PD.mIf, PD.vAnd, PD.vOr, PD.vNot, PD.mCall, PD.sNx, PD.sSeq, PD.sDrop, PD.sIf, PD.ret, PD.sRet, PD.sRetN, PD.storeR, PD.store, PD.gN, PD.gNil, PD.gCons, PD.gT, PD.mut1, PD.setL, PD.gSub, PD.sSet, PD.sAsg, PD.stores, PD.noVar, PD.sPar, PD.items, PD.wSeq, PD.tYes, PD.sFor, PD.frz, PD.mTup, PD.mLst, PD.mChain, PD.mCallR, PD.once, PD.pass, PD.pass1, PD.back, PD.back1, PD.inS, PD.outS, PD.okArg, PD.outs, PD.fnD, PD.noEx, Md.mut, Md.ow, PD.eqD, PD.neD, PD.eqB, PD.eqS, PD.isD, PD.isntD, PD.isNonD, PD.addD, PD.subD, PD.modD, PD.fdivD, PD.negD, PD.keyD, PD.dgetD, PD.lenD, PD.mAdd, PD.ownL, wipeE]⟩)]
  rw [List.map_map]
  rfl
theorem comp2 (d : D) (l : List D) (x y : D) (s : Sw) : compD (gT 2 (PD.gCons (gN 7) (PD.gCons (gN 8) PD.gNil))) tYes (m2 subD (mVar 7) (mK (.int 1))) [7, 8] (s.curve.map stD) [] (cE d l x y s) = .ok (s.curve.map fun p => D.int (p.1 - 1)) (cE d l x y s) := by
  rw [compD_map (f := fun d => match d with | .tup [.int y, _] => .int (y - 1) | _ => .non) (s.curve.map stD) [] (fun z hz => by
    obtain ⟨⟨a, b⟩, _, rfl⟩ := List.mem_map.mp hz
    refine ⟨[some ⟨.dat, d⟩, some ⟨.own, .lst l⟩, some ⟨.dat, x⟩, some ⟨.dat, y⟩, some ⟨.dat, .tup (s.curve.map stD)⟩, some ⟨.dat, .int s.stop⟩, none, some ⟨.dat, .int a⟩, some ⟨.dat, .int b⟩], [some ⟨.dat, d⟩, some ⟨.own, .lst l⟩, some ⟨.dat, x⟩, some ⟨.dat, y⟩, some ⟨.dat, .tup (s.curve.map stD)⟩, some ⟨.dat, .int s.stop⟩, none, some ⟨.dat, .int a⟩, some ⟨.dat, .int b⟩],
      [some ⟨.dat, d⟩, some ⟨.own, .lst l⟩, some ⟨.dat, x⟩, some ⟨.dat, y⟩, some ⟨.dat, .tup (s.curve.map stD)⟩, some ⟨.dat, .int s.stop⟩, none, some ⟨.dat, .int a⟩, some ⟨.dat, .int b⟩], by simp [PD.mK, PD.mVar, PD.m1, PD.m2, PD.mFz, PD.aNil, PD.aCons, PD.looks, PD.look, PD.dats, PD.mB, PD.truth, PD.tB, PD.tT, PD.tAnd, PD.tOr, PD.tNot, PD.mIf, PD.vAnd, PD.vOr, PD.vNot, PD.mCall, PD.sNx, PD.sSeq, PD.sDrop, PD.sIf, PD.ret, PD.sRet, PD.sRetN, PD.storeR, PD.store, PD.gN, PD.gNil, PD.gCons, PD.gT, PD.mut1, PD.setL, PD.gSub, PD.sSet, PD.sAsg, PD.stores, PD.noVar, PD.sPar, PD.items, PD.wSeq, PD.tYes, PD.sFor, PD.frz, PD.mTup, PD.mLst, PD.mChain, PD.mCallR, PD.once, PD.pass, PD.pass1, PD.back, PD.back1, PD.inS, PD.outS, PD.okArg, PD.outs, PD.fnD, PD.noEx, Md.mut, Md.ow, PD.eqD, PD.neD, PD.eqB, PD.eqS, PD.isD, PD.isntD, PD.isNonD, PD.addD, PD.subD, PD.modD, PD.fdivD, PD.negD, PD.keyD, PD.dgetD, PD.lenD, PD.mAdd, PD.ownL, stD], by simp [PD.mK, PD.mVar, PD.m1, PD.m2, PD.mFz, PD.aNil, PD.aCons, PD.looks, PD.look, PD.dats, PD.mB, PD.truth, PD.tB, PD.tT, PD.tAnd, PD.tOr, PD.tNot, PD.mIf, PD.vAnd, PD.vOr, PD.vNot, PD.mCall, PD.sNx, PD.sSeq, PD.sDrop, PD.sIf, PD.ret, PD.sRet, PD.sRetN, PD.storeR, PD.store, PD.gN, PD.gNil, PD.gCons, PD.gT, PD.mut1, PD.setL, PD.gSub, PD.sSet, PD.sAsg, PD.stores, PD.noVar, PD.sPar, PD.items, PD.wSeq, PD.tYes, PD.sFor, PD.frz, PD.mTup, PD.mLst, PD.mChain, PD.mCallR, PD.once, PD.pass, PD.pass1, PD.back, PD.back1, PD.inS, PD.outS, PD.okArg, PD.outs, PD.fnD, PD.noEx, Md.mut, Md.ow, PD.eqD, PD.neD, PD.eqB, PD.eqS, PD.isD, PD.isntD, PD.isNonD, PD.addD, PD.subD, PD.modD, PD.fdivD, PD.negD, PD.keyD, PD.dgetD, PD.lenD, PD.mAdd, PD.ownL], by simp [PD.mK, PD.mVar, PD.m1, PD.m2, PD.mFz, PD.aNil, PD.aCons, PD.looks, PD.look, PD.dats, PD.mB, PD.truth, PD.tB, PD.tT, PD.tAnd, PD.tOr, PD.tNot, PD.mIf, PD.vAnd, PD.vOr, PD.vNot, PD.mCall, PD.sNx, PD.sSeq, PD.sDrop, PD.sIf, PD.ret, PD.sRet, PD.sRetN, PD.storeR, PD.store, PD.gN, PD.gNil, PD.gCons, PD.gT, PD.mut1, PD.setL, PD.gSub, PD.sSet, PD.sAsg, PD.stores, PD.noVar, PD.sPar, PD.items, PD.wSeq, PD.tYes, PD.sFor, PD.frz, PD.mTup, PD.mLst, PD.mChain, PD.mCallR, PD.once, PD.pass, PD.pass1, PD.back, PD.back1, PD.inS, PD.outS, PD.okArg, PD.outs, PD.fnD, PD.noEx, Md.mut, Md.ow, PD.eqD, PD.neD, PD.eqB, PD.eqS, PD.isD, PD.isntD, PD.isNonD, PD.addD, PD.subD, PD.modD, PD.fdivD, PD.negD, PD.keyD, PD.dgetD, PD.lenD, PD.mAdd, PD.ownL, stD], by simp [PD.mK, PD.mVar, PD.m1, PD.m2, PD.mFz, PD.aNil, PD.aCons, PD.looks, PD.look, PD.dats, PD.mB, PD.truth, PD.tB, PD.tT, PD.tAnd, PD.tOr, PD.tNot, PD.mIf, PD.vAnd, PD.vOr, PD.vNot, PD.mCall, PD.sNx, PD.sSeq, PD.sDrop, PD.sIf, PD.ret, PD.sRet, PD.sRetN, PD.storeR, PD.store, PD.gN, PD.gNil, PD.gCons, PD.gT, PD.mut1, PD.setL, PD.gSub, PD.sSet, PD.sAsg, PD.stores, PD.noVar, PD.sPar, PD.items, PD.wSeq, PD.tYes, PD.sFor, PD.frz, PD.mTup, PD.mLst, PD.mChain, PD.mCallR, PD.once, PD.pass, PD.pass1, PD.back, PD.back1, PD.inS, PD.outS, PD.okArg, PD.outs, PD.fnD, PD.noEx, Md.mut, Md.ow, PD.eqD, PD.neD, PD.eqB, PD.eqS, PD.isD, PD.isntD, PD.isNonD, PD.addD, PD.subD, PD.modD, PD.fdivD, PD.negD, PD.keyD, PD.dgetD, PD.lenD, PD.mAdd, PD.ownL, wipeE]⟩)]
  rw [List.map_map]
  rfl
def cB : M Fl := (sSeq (PD.sSet 1 (mAdd (mAdd (mVar 1) (mLst (aCons (mFz (mVar 3)) (aCons (mFz (mVar 5)) (aCons (mFz (mAdd (mVar 5) (mK (.int 1)))) (aCons (m2 subD (mVar 5) (mK (.int 1))) aNil)))))) (mLc (wSeq (mVar 4)) (gT 2 (PD.gCons (gN 7) (PD.gCons (gN 8) PD.gNil))) tYes (mVar 7) (List.map (·.2) ([("start", 7), ("ticks", 8)] : List (Str × Nat))))))
  (PD.sSet 1 (mAdd (mVar 1) (mLc (wSeq (mVar 4)) (gT 2 (PD.gCons (gN 7) (PD.gCons (gN 8) PD.gNil))) tYes (m2 subD (mVar 7) (mK (.int 1))) (List.map (·.2) ([("start", 7), ("ticks", 8)] : List (Str × Nat)))))))
theorem cB_ok (d : D) (l : List Int) (x : D) (s : Sw) (hl : l.length < 1000) (hc : s.curve.length ≤ 3) : cB (cE d (l.map .int) x (.int s.rating) s) = .ok .nx (cE d ((l ++ swC s).map .int) x (.int s.rating) s) := by
  have c1 := comp1 d (l.map .int) x (.int s.rating) s
  obtain ⟨m, hm⟩ : ∃ m : List Int, m = l ++ ([s.rating, s.stop, s.stop + 1, s.stop - 1] ++ s.curve.map (·.1)) := ⟨_, rfl⟩
  have hml : m.length ≤ 1010 := by rw [hm]; simp [PD.mK, PD.mVar, PD.m1, PD.m2, PD.mFz, PD.aNil, PD.aCons, PD.looks, PD.look, PD.dats, PD.mB, PD.truth, PD.tB, PD.tT, PD.tAnd, PD.tOr, PD.tNot, PD.mIf, PD.vAnd, PD.vOr, PD.vNot, PD.mCall, PD.sNx, PD.sSeq, PD.sDrop, PD.sIf, PD.ret, PD.sRet, PD.sRetN, PD.storeR, PD.store, PD.gN, PD.gNil, PD.gCons, PD.gT, PD.mut1, PD.setL, PD.gSub, PD.sSet, PD.sAsg, PD.stores, PD.noVar, PD.sPar, PD.items, PD.wSeq, PD.tYes, PD.sFor, PD.frz, PD.mTup, PD.mLst, PD.mChain, PD.mCallR, PD.once, PD.pass, PD.pass1, PD.back, PD.back1, PD.inS, PD.outS, PD.okArg, PD.outs, PD.fnD, PD.noEx, Md.mut, Md.ow, PD.eqD, PD.neD, PD.eqB, PD.eqS, PD.isD, PD.isntD, PD.isNonD, PD.addD, PD.subD, PD.modD, PD.fdivD, PD.negD, PD.keyD, PD.dgetD, PD.lenD, PD.mAdd, PD.ownL]; omega
  have c2 := comp2 d (m.map .int) x (.int s.rating) s
  have h4 : l.length + 4 ≤ LIM := by unfold LIM; omega
  have h5 : l.length + 4 + s.curve.length ≤ LIM := by unfold LIM; omega
  have h6 : m.length + s.curve.length ≤ LIM := by unfold LIM; omega
  have h0 : (4 : Nat) ≤ LIM := by unfold LIM; omega
  unfold cB
  rw [seq_nx (Γ' := cE d (m.map .int) x (.int s.rating) s) (by
    rw [hm]
    simp [PD.mK, PD.mVar, PD.m1, PD.m2, PD.mFz, PD.aNil, PD.aCons, PD.looks, PD.look, PD.dats, PD.mB, PD.truth, PD.tB, PD.tT, PD.tAnd, PD.tOr, PD.tNot, PD.mIf, PD.vAnd, PD.vOr, PD.vNot, PD.mCall, PD.sNx, PD.sSeq, PD.sDrop, PD.sIf, PD.ret, PD.sRet, PD.sRetN, PD.storeR, PD.store, PD.gN, PD.gNil, PD.gCons, PD.gT, PD.mut1, PD.setL, PD.gSub, PD.sSet, PD.sAsg, PD.stores, PD.noVar, PD.sPar, PD.items, PD.wSeq, PD.tYes, PD.sFor, PD.frz, PD.mTup, PD.mLst, PD.mChain, PD.mCallR, PD.once, PD.pass, PD.pass1, PD.back, PD.back1, PD.inS, PD.outS, PD.okArg, PD.outs, PD.fnD, PD.noEx, Md.mut, Md.ow, PD.eqD, PD.neD, PD.eqB, PD.eqS, PD.isD, PD.isntD, PD.isNonD, PD.addD, PD.subD, PD.modD, PD.fdivD, PD.negD, PD.keyD, PD.dgetD, PD.lenD, PD.mAdd, PD.ownL, mLc, plainAt, wipeE, backE, h0, h4, h5, c1])]
  have e : (l ++ swC s) = m ++ s.curve.map fun p => p.1 - 1 := by
    rw [hm]
    unfold swC
    simp [PD.mK, PD.mVar, PD.m1, PD.m2, PD.mFz, PD.aNil, PD.aCons, PD.looks, PD.look, PD.dats, PD.mB, PD.truth, PD.tB, PD.tT, PD.tAnd, PD.tOr, PD.tNot, PD.mIf, PD.vAnd, PD.vOr, PD.vNot, PD.mCall, PD.sNx, PD.sSeq, PD.sDrop, PD.sIf, PD.ret, PD.sRet, PD.sRetN, PD.storeR, PD.store, PD.gN, PD.gNil, PD.gCons, PD.gT, PD.mut1, PD.setL, PD.gSub, PD.sSet, PD.sAsg, PD.stores, PD.noVar, PD.sPar, PD.items, PD.wSeq, PD.tYes, PD.sFor, PD.frz, PD.mTup, PD.mLst, PD.mChain, PD.mCallR, PD.once, PD.pass, PD.pass1, PD.back, PD.back1, PD.inS, PD.outS, PD.okArg, PD.outs, PD.fnD, PD.noEx, Md.mut, Md.ow, PD.eqD, PD.neD, PD.eqB, PD.eqS, PD.isD, PD.isntD, PD.isNonD, PD.addD, PD.subD, PD.modD, PD.fdivD, PD.negD, PD.keyD, PD.dgetD, PD.lenD, PD.mAdd, PD.ownL]
  rw [e]
  simp [PD.mK, PD.mVar, PD.m1, PD.m2, PD.mFz, PD.aNil, PD.aCons, PD.looks, PD.look, PD.dats, PD.mB, PD.truth, PD.tB, PD.tT, PD.tAnd, PD.tOr, PD.tNot, PD.mIf, PD.vAnd, PD.vOr, PD.vNot, PD.mCall, PD.sNx, PD.sSeq, PD.sDrop, PD.sIf, PD.ret, PD.sRet, PD.sRetN, PD.storeR, PD.store, PD.gN, PD.gNil, PD.gCons, PD.gT, PD.mut1, PD.setL, PD.gSub, PD.sSet, PD.sAsg, PD.stores, PD.noVar, PD.sPar, PD.items, PD.wSeq, PD.tYes, PD.sFor, PD.frz, PD.mTup, PD.mLst, PD.mChain, PD.mCallR, PD.once, PD.pass, PD.pass1, PD.back, PD.back1, PD.inS, PD.outS, PD.okArg, PD.outs, PD.fnD, PD.noEx, Md.mut, Md.ow, PD.eqD, PD.neD, PD.eqB, PD.eqS, PD.isD, PD.isntD, PD.isNonD, PD.addD, PD.subD, PD.modD, PD.fdivD, PD.negD, PD.keyD, PD.dgetD, PD.lenD, PD.mAdd, PD.ownL, mLc, plainAt, wipeE, backE, c2, h6]
theorem map_z {α β : Type} {f g : α → β} {l : List α} (h : ∀ x ∈ l, f x = g x) : l.map f = l.map g := List.map_congr_left h
theorem comp3 (Γ : List (Option Sl)) (d : D) (l : List D) (x y z u : Option D) (cs : List Int) : compD (gN 6) (PD.tB (mChain leD leD (mK (.int 1)) (mVar 6) (mK (.int 999)))) (mVar 6) [6] (cs.map .int) [] [some ⟨.dat, d⟩, some ⟨.own, .lst l⟩, od x, od y, od z, od u, none, none, none]
    = .ok ((cs.filter fun c => decide (1 ≤ c) && decide (c ≤ 999)).map .int) [some ⟨.dat, d⟩, some ⟨.own, .lst l⟩, od x, od y, od z, od u, none, none, none] := by
  rw [compD_filter (f := fun d => d) (p := fun d => match d with | .int c => decide (1 ≤ c) && decide (c ≤ 999) | _ => false) (cs.map .int) [] (fun q hq => by
    obtain ⟨c, _, rfl⟩ := List.mem_map.mp hq
    refine ⟨[some ⟨.dat, d⟩, some ⟨.own, .lst l⟩, od x, od y, od z, od u, some ⟨.dat, .int c⟩, none, none], [some ⟨.dat, d⟩, some ⟨.own, .lst l⟩, od x, od y, od z, od u, some ⟨.dat, .int c⟩, none, none], by simp [PD.mK, PD.mVar, PD.m1, PD.m2, PD.mFz, PD.aNil, PD.aCons, PD.looks, PD.look, PD.dats, PD.mB, PD.truth, PD.tB, PD.tT, PD.tAnd, PD.tOr, PD.tNot, PD.mIf, PD.vAnd, PD.vOr, PD.vNot, PD.mCall, PD.sNx, PD.sSeq, PD.sDrop, PD.sIf, PD.ret, PD.sRet, PD.sRetN, PD.storeR, PD.store, PD.gN, PD.gNil, PD.gCons, PD.gT, PD.mut1, PD.setL, PD.gSub, PD.sSet, PD.sAsg, PD.stores, PD.noVar, PD.sPar, PD.items, PD.wSeq, PD.tYes, PD.sFor, PD.frz, PD.mTup, PD.mLst, PD.mChain, PD.mCallR, PD.once, PD.pass, PD.pass1, PD.back, PD.back1, PD.inS, PD.outS, PD.okArg, PD.outs, PD.fnD, PD.noEx, Md.mut, Md.ow, PD.eqD, PD.neD, PD.eqB, PD.eqS, PD.isD, PD.isntD, PD.isNonD, PD.addD, PD.subD, PD.modD, PD.fdivD, PD.negD, PD.keyD, PD.dgetD, PD.lenD, PD.mAdd, PD.ownL], ?_, fun _ => ⟨[some ⟨.dat, d⟩, some ⟨.own, .lst l⟩, od x, od y, od z, od u, some ⟨.dat, .int c⟩, none, none], by simp [PD.mK, PD.mVar, PD.m1, PD.m2, PD.mFz, PD.aNil, PD.aCons, PD.looks, PD.look, PD.dats, PD.mB, PD.truth, PD.tB, PD.tT, PD.tAnd, PD.tOr, PD.tNot, PD.mIf, PD.vAnd, PD.vOr, PD.vNot, PD.mCall, PD.sNx, PD.sSeq, PD.sDrop, PD.sIf, PD.ret, PD.sRet, PD.sRetN, PD.storeR, PD.store, PD.gN, PD.gNil, PD.gCons, PD.gT, PD.mut1, PD.setL, PD.gSub, PD.sSet, PD.sAsg, PD.stores, PD.noVar, PD.sPar, PD.items, PD.wSeq, PD.tYes, PD.sFor, PD.frz, PD.mTup, PD.mLst, PD.mChain, PD.mCallR, PD.once, PD.pass, PD.pass1, PD.back, PD.back1, PD.inS, PD.outS, PD.okArg, PD.outs, PD.fnD, PD.noEx, Md.mut, Md.ow, PD.eqD, PD.neD, PD.eqB, PD.eqS, PD.isD, PD.isntD, PD.isNonD, PD.addD, PD.subD, PD.modD, PD.fdivD, PD.negD, PD.keyD, PD.dgetD, PD.lenD, PD.mAdd, PD.ownL], by simp [PD.mK, PD.mVar, PD.m1, PD.m2, PD.mFz, PD.aNil, PD.aCons, PD.looks, PD.look, PD.dats, PD.mB, PD.truth, PD.tB, PD.tT, PD.tAnd, PD.tOr, PD.tNot, PD.mIf, PD.vAnd, PD.vOr, PD.vNot, PD.mCall, PD.sNx, PD.sSeq, PD.sDrop, PD.sIf, PD.ret, PD.sRet, PD.sRetN, PD.storeR, PD.store, PD.gN, PD.gNil, PD.gCons, PD.gT, PD.mut1, PD.setL, PD.gSub, PD.sSet, PD.sAsg, PD.stores, PD.noVar, PD.sPar, PD.items, PD.wSeq, PD.tYes, PD.sFor, PD.frz, PD.mTup, PD.mLst, PD.mChain, PD.mCallR, PD.once, PD.pass, PD.pass1, PD.back, PD.back1, PD.inS, PD.outS, PD.okArg, PD.outs, PD.fnD, PD.noEx, Md.mut, Md.ow, PD.eqD, PD.neD, PD.eqB, PD.eqS, PD.isD, PD.isntD, PD.isNonD, PD.addD, PD.subD, PD.modD, PD.fdivD, PD.negD, PD.keyD, PD.dgetD, PD.lenD, PD.mAdd, PD.ownL, wipeE]⟩, fun _ => by simp [PD.mK, PD.mVar, PD.m1, PD.m2, PD.mFz, PD.aNil, PD.aCons, PD.looks, PD.look, PD.dats, PD.mB, PD.truth, PD.tB, PD.tT, PD.tAnd, PD.tOr, PD.tNot, PD.mIf, PD.vAnd, PD.vOr, PD.vNot, PD.mCall, PD.sNx, PD.sSeq, PD.sDrop, PD.sIf, PD.ret, PD.sRet, PD.sRetN, PD.storeR, PD.store, PD.gN, PD.gNil, PD.gCons, PD.gT, PD.mut1, PD.setL, PD.gSub, PD.sSet, PD.sAsg, PD.stores, PD.noVar, PD.sPar, PD.items, PD.wSeq, PD.tYes, PD.sFor, PD.frz, PD.mTup, PD.mLst, PD.mChain, PD.mCallR, PD.once, PD.pass, PD.pass1, PD.back, PD.back1, PD.inS, PD.outS, PD.okArg, PD.outs, PD.fnD, PD.noEx, Md.mut, Md.ow, PD.eqD, PD.neD, PD.eqB, PD.eqS, PD.isD, PD.isntD, PD.isNonD, PD.addD, PD.subD, PD.modD, PD.fdivD, PD.negD, PD.keyD, PD.dgetD, PD.lenD, PD.mAdd, PD.ownL, wipeE]⟩
    by_cases h1 : 1 ≤ c <;> by_cases h2 : c ≤ 999 <;> simp [PD.mK, PD.mVar, PD.m1, PD.m2, PD.mFz, PD.aNil, PD.aCons, PD.looks, PD.look, PD.dats, PD.mB, PD.truth, PD.tB, PD.tT, PD.tAnd, PD.tOr, PD.tNot, PD.mIf, PD.vAnd, PD.vOr, PD.vNot, PD.mCall, PD.sNx, PD.sSeq, PD.sDrop, PD.sIf, PD.ret, PD.sRet, PD.sRetN, PD.storeR, PD.store, PD.gN, PD.gNil, PD.gCons, PD.gT, PD.mut1, PD.setL, PD.gSub, PD.sSet, PD.sAsg, PD.stores, PD.noVar, PD.sPar, PD.items, PD.wSeq, PD.tYes, PD.sFor, PD.frz, PD.mTup, PD.mLst, PD.mChain, PD.mCallR, PD.once, PD.pass, PD.pass1, PD.back, PD.back1, PD.inS, PD.outS, PD.okArg, PD.outs, PD.fnD, PD.noEx, Md.mut, Md.ow, PD.eqD, PD.neD, PD.eqB, PD.eqS, PD.isD, PD.isntD, PD.isNonD, PD.addD, PD.subD, PD.modD, PD.fdivD, PD.negD, PD.keyD, PD.dgetD, PD.lenD, PD.mAdd, PD.ownL, h1, h2])]
  rw [List.filter_map]
  simp [PD.mK, PD.mVar, PD.m1, PD.m2, PD.mFz, PD.aNil, PD.aCons, PD.looks, PD.look, PD.dats, PD.mB, PD.truth, PD.tB, PD.tT, PD.tAnd, PD.tOr, PD.tNot, PD.mIf, PD.vAnd, PD.vOr, PD.vNot, PD.mCall, PD.sNx, PD.sSeq, PD.sDrop, PD.sIf, PD.ret, PD.sRet, PD.sRetN, PD.storeR, PD.store, PD.gN, PD.gNil, PD.gCons, PD.gT, PD.mut1, PD.setL, PD.gSub, PD.sSet, PD.sAsg, PD.stores, PD.noVar, PD.sPar, PD.items, PD.wSeq, PD.tYes, PD.sFor, PD.frz, PD.mTup, PD.mLst, PD.mChain, PD.mCallR, PD.once, PD.pass, PD.pass1, PD.back, PD.back1, PD.inS, PD.outS, PD.okArg, PD.outs, PD.fnD, PD.noEx, Md.mut, Md.ow, PD.eqD, PD.neD, PD.eqB, PD.eqS, PD.isD, PD.isntD, PD.isNonD, PD.addD, PD.subD, PD.modD, PD.fdivD, PD.negD, PD.keyD, PD.dgetD, PD.lenD, PD.mAdd, PD.ownL]
  rfl
theorem currents_ok (hd : (dd (allC ss)).length < 64) (hs : ∀ s ∈ ss, s.curve.length ≤ 3) (hn : ss.length ≤ 7) : F__law_currents [⟨.dat, bdD ss ts⟩] = .ok (.own (.lst ((curs ss).map .int))) [none] := by
  have hlen : ∀ n, ([1, 2, 998, 999] ++ (ss.take n).flatMap swC).length ≤ 74 := fun n => by
    have h : ∀ l : List Sw, (∀ s ∈ l, s.curve.length ≤ 3) → (l.flatMap swC).length ≤ 10 * l.length := by
      intro l
      induction l with
      | nil => intro _; simp [PD.mK, PD.mVar, PD.m1, PD.m2, PD.mFz, PD.aNil, PD.aCons, PD.looks, PD.look, PD.dats, PD.mB, PD.truth, PD.tB, PD.tT, PD.tAnd, PD.tOr, PD.tNot, PD.mIf, PD.vAnd, PD.vOr, PD.vNot, PD.mCall, PD.sNx, PD.sSeq, PD.sDrop, PD.sIf, PD.ret, PD.sRet, PD.sRetN, PD.storeR, PD.store, PD.gN, PD.gNil, PD.gCons, PD.gT, PD.mut1, PD.setL, PD.gSub, PD.sSet, PD.sAsg, PD.stores, PD.noVar, PD.sPar, PD.items, PD.wSeq, PD.tYes, PD.sFor, PD.frz, PD.mTup, PD.mLst, PD.mChain, PD.mCallR, PD.once, PD.pass, PD.pass1, PD.back, PD.back1, PD.inS, PD.outS, PD.okArg, PD.outs, PD.fnD, PD.noEx, Md.mut, Md.ow, PD.eqD, PD.neD, PD.eqB, PD.eqS, PD.isD, PD.isntD, PD.isNonD, PD.addD, PD.subD, PD.modD, PD.fdivD, PD.negD, PD.keyD, PD.dgetD, PD.lenD, PD.mAdd, PD.ownL]
      | cons s l ih =>
        intro h
        have := ih fun s hs => h s (List.mem_cons_of_mem _ hs)
        have := h s List.mem_cons_self
        rw [List.flatMap_cons, List.length_append, List.length_cons]
        have : (swC s).length ≤ 10 := by unfold swC; simp [PD.mK, PD.mVar, PD.m1, PD.m2, PD.mFz, PD.aNil, PD.aCons, PD.looks, PD.look, PD.dats, PD.mB, PD.truth, PD.tB, PD.tT, PD.tAnd, PD.tOr, PD.tNot, PD.mIf, PD.vAnd, PD.vOr, PD.vNot, PD.mCall, PD.sNx, PD.sSeq, PD.sDrop, PD.sIf, PD.ret, PD.sRet, PD.sRetN, PD.storeR, PD.store, PD.gN, PD.gNil, PD.gCons, PD.gT, PD.mut1, PD.setL, PD.gSub, PD.sSet, PD.sAsg, PD.stores, PD.noVar, PD.sPar, PD.items, PD.wSeq, PD.tYes, PD.sFor, PD.frz, PD.mTup, PD.mLst, PD.mChain, PD.mCallR, PD.once, PD.pass, PD.pass1, PD.back, PD.back1, PD.inS, PD.outS, PD.okArg, PD.outs, PD.fnD, PD.noEx, Md.mut, Md.ow, PD.eqD, PD.neD, PD.eqB, PD.eqS, PD.isD, PD.isntD, PD.isNonD, PD.addD, PD.subD, PD.modD, PD.fdivD, PD.negD, PD.keyD, PD.dgetD, PD.lenD, PD.mAdd, PD.ownL]; omega
        omega
    have := h (ss.take n) fun s hs' => hs s (List.mem_of_mem_take hs')
    have : (ss.take n).length ≤ 7 := by rw [List.length_take]; omega
    rw [List.length_append]
    simp only [List.length_cons, List.length_nil]
    omega
  obtain ⟨Γ', e3, x, y, z, u, rfl⟩ := forD_inv (g := gT 4 (PD.gCons (gN 2) (PD.gCons (gN 3) (PD.gCons (gN 4) (PD.gCons (gN 5) PD.gNil))))) (b := cB)
    (fun n Γ => ∃ x y z u, Γ = [some ⟨.dat, bdD ss ts⟩, some ⟨.own, .lst (([1, 2, 998, 999] ++ (ss.take n).flatMap swC).map .int)⟩, od x, od y, od z, od u, none, none, none])
    (ss.map swD) 0 [some ⟨.dat, bdD ss ts⟩, some ⟨.own, .lst (([1, 2, 998, 999] : List Int).map .int)⟩, none, none, none, none, none, none, none] (fun n d Γ hn ⟨x, y, z, u, e⟩ => by
      rw [List.getElem?_map] at hn
      obtain ⟨s, hp, rfl⟩ := Option.map_eq_some_iff.mp hn
      rw [Nat.zero_add] at e
      have e4 : ss.take (0 + n + 1) = ss.take n ++ [s] := by
        rw [Nat.zero_add, List.take_succ, hp]
        rfl
      refine ⟨cE (bdD ss ts) (([1, 2, 998, 999] ++ (ss.take n).flatMap swC).map .int) (oD s.above) (.int s.rating) s, cE (bdD ss ts) ((([1, 2, 998, 999] ++ (ss.take n).flatMap swC) ++ swC s).map .int) (oD s.above) (.int s.rating) s, ?_, cB_ok _ _ _ _ (by have := hlen n; omega) (hs s (List.mem_of_getElem? hp)), some (oD s.above), some (.int s.rating), some (.tup (s.curve.map stD)), some (.int s.stop), ?_⟩
      · subst e
        cases x <;> cases y <;> cases z <;> cases u <;> simp [PD.mK, PD.mVar, PD.m1, PD.m2, PD.mFz, PD.aNil, PD.aCons, PD.looks, PD.look, PD.dats, PD.mB, PD.truth, PD.tB, PD.tT, PD.tAnd, PD.tOr, PD.tNot, PD.mIf, PD.vAnd, PD.vOr, PD.vNot, PD.mCall, PD.sNx, PD.sSeq, PD.sDrop, PD.sIf, PD.ret, PD.sRet, PD.sRetN, PD.storeR, PD.store, PD.gN, PD.gNil, PD.gCons, PD.gT, PD.mut1, PD.setL, PD.gSub, PD.sSet, PD.sAsg, PD.stores, PD.noVar, PD.sPar, PD.items, PD.wSeq, PD.tYes, PD.sFor, PD.frz, PD.mTup, PD.mLst, PD.mChain, PD.mCallR, PD.once, PD.pass, PD.pass1, PD.back, PD.back1, PD.inS, PD.outS, PD.okArg, PD.outs, PD.fnD, PD.noEx, Md.mut, Md.ow, PD.eqD, PD.neD, PD.eqB, PD.eqS, PD.isD, PD.isntD, PD.isNonD, PD.addD, PD.subD, PD.modD, PD.fdivD, PD.negD, PD.keyD, PD.dgetD, PD.lenD, PD.mAdd, PD.ownL, od, swD]
      · rw [e4, List.flatMap_append, List.flatMap_singleton, ← List.append_assoc]
        rfl) ⟨none, none, none, none, by simp [PD.mK, PD.mVar, PD.m1, PD.m2, PD.mFz, PD.aNil, PD.aCons, PD.looks, PD.look, PD.dats, PD.mB, PD.truth, PD.tB, PD.tT, PD.tAnd, PD.tOr, PD.tNot, PD.mIf, PD.vAnd, PD.vOr, PD.vNot, PD.mCall, PD.sNx, PD.sSeq, PD.sDrop, PD.sIf, PD.ret, PD.sRet, PD.sRetN, PD.storeR, PD.store, PD.gN, PD.gNil, PD.gCons, PD.gT, PD.mut1, PD.setL, PD.gSub, PD.sSet, PD.sAsg, PD.stores, PD.noVar, PD.sPar, PD.items, PD.wSeq, PD.tYes, PD.sFor, PD.frz, PD.mTup, PD.mLst, PD.mChain, PD.mCallR, PD.once, PD.pass, PD.pass1, PD.back, PD.back1, PD.inS, PD.outS, PD.okArg, PD.outs, PD.fnD, PD.noEx, Md.mut, Md.ow, PD.eqD, PD.neD, PD.eqB, PD.eqS, PD.isD, PD.isntD, PD.isNonD, PD.addD, PD.subD, PD.modD, PD.fdivD, PD.negD, PD.keyD, PD.dgetD, PD.lenD, PD.mAdd, PD.ownL, od]⟩
  rw [Nat.zero_add, List.length_map, List.take_length] at e3
  have hss : sortSet [.lst ((allC ss).map .int)] = some (.own (.lst ((srt (dd (allC ss))).map .int))) := by
    have h1 : (allC ss).length < 4000 := by
      have := hlen ss.length
      rw [List.take_length] at this
      unfold allC
      omega
    simp only [sortSet, intsD_map, Option.bind_some]
    rw [if_pos ⟨h1, hd⟩]
  have hb : B__law_currents ([(⟨.dat, bdD ss ts⟩ : Sl)].map inS ++ List.replicate 8 none) = .ok (.rt (.own (.lst ((curs ss).map .int)))) [some ⟨.dat, bdD ss ts⟩, some ⟨.own, .lst ((allC ss).map .int)⟩, od x, od y, od z, od u, none, none, none] := by
    have h4 : (4 : Nat) ≤ LIM := by unfold LIM; omega
    unfold B__law_currents
    rw [seq_nx (Γ' := [some ⟨.dat, bdD ss ts⟩, some ⟨.own, .lst (([1, 2, 998, 999] : List Int).map .int)⟩, none, none, none, none, none, none, none]) (by simp [PD.mK, PD.mVar, PD.m1, PD.m2, PD.mFz, PD.aNil, PD.aCons, PD.looks, PD.look, PD.dats, PD.mB, PD.truth, PD.tB, PD.tT, PD.tAnd, PD.tOr, PD.tNot, PD.mIf, PD.vAnd, PD.vOr, PD.vNot, PD.mCall, PD.sNx, PD.sSeq, PD.sDrop, PD.sIf, PD.ret, PD.sRet, PD.sRetN, PD.storeR, PD.store, PD.gN, PD.gNil, PD.gCons, PD.gT, PD.mut1, PD.setL, PD.gSub, PD.sSet, PD.sAsg, PD.stores, PD.noVar, PD.sPar, PD.items, PD.wSeq, PD.tYes, PD.sFor, PD.frz, PD.mTup, PD.mLst, PD.mChain, PD.mCallR, PD.once, PD.pass, PD.pass1, PD.back, PD.back1, PD.inS, PD.outS, PD.okArg, PD.outs, PD.fnD, PD.noEx, Md.mut, Md.ow, PD.eqD, PD.neD, PD.eqB, PD.eqS, PD.isD, PD.isntD, PD.isNonD, PD.addD, PD.subD, PD.modD, PD.fdivD, PD.negD, PD.keyD, PD.dgetD, PD.lenD, PD.mAdd, PD.ownL, h4])]
    rw [seq_nx (Γ' := _) (by
      show PD.sFor _ _ cB _ = _
      unfold PD.sFor wSeq
      simp only [m2, mVar, mK, R.bind_ok, look, R.opt_some, List.getElem?_cons_zero, get_sw, frz, items]
      exact e3)]
    have c3 := comp3 [] (bdD ss ts) ((allC ss).map .int) x y z u (srt (dd (allC ss)))
    have hall : [1, 2, 998, 999] ++ ss.flatMap swC = allC ss := rfl
    rw [hall]
    simp [PD.mK, PD.mVar, PD.m1, PD.m2, PD.mFz, PD.aNil, PD.aCons, PD.looks, PD.look, PD.dats, PD.mB, PD.truth, PD.tB, PD.tT, PD.tAnd, PD.tOr, PD.tNot, PD.mIf, PD.vAnd, PD.vOr, PD.vNot, PD.mCall, PD.sNx, PD.sSeq, PD.sDrop, PD.sIf, PD.ret, PD.sRet, PD.sRetN, PD.storeR, PD.store, PD.gN, PD.gNil, PD.gCons, PD.gT, PD.mut1, PD.setL, PD.gSub, PD.sSet, PD.sAsg, PD.stores, PD.noVar, PD.sPar, PD.items, PD.wSeq, PD.tYes, PD.sFor, PD.frz, PD.mTup, PD.mLst, PD.mChain, PD.mCallR, PD.once, PD.pass, PD.pass1, PD.back, PD.back1, PD.inS, PD.outS, PD.okArg, PD.outs, PD.fnD, PD.noEx, Md.mut, Md.ow, PD.eqD, PD.neD, PD.eqB, PD.eqS, PD.isD, PD.isntD, PD.isNonD, PD.addD, PD.subD, PD.modD, PD.fdivD, PD.negD, PD.keyD, PD.dgetD, PD.lenD, PD.mAdd, PD.ownL, mLc, plainAt, wipeE, backE, hss, c3, curs]
  exact of_fn (np := 1) (n := 9) (b := B__law_currents) (ss := [(⟨.dat, bdD ss ts⟩ : Sl)]) rfl rfl hb
end Lk41

namespace Lk41
open PySem PySem.Spec L2 PD
def ow (x : Option (List D)) : Option Sl := x.map fun l => ⟨.own, .lst l⟩
@[simp] theorem isLck_ow (x : Option (List D)) : isLck (ow x) = false := by cases x <;> rfl
abbrev mD (A B C : Int) : D := .lst [.int A, .int B, .int C]
abbrev wE (A B C : Int) (kk : D) (sws ths : List D) (st : Option D) (ab : D) (r a b c s t : Int) (cs : List (Int × Int)) : EnD := [some ⟨.par, pl a b c⟩, some ⟨.dat, mD A B C⟩, some ⟨.dat, kk⟩, none, some ⟨.own, .lst sws⟩, some ⟨.own, .lst ths⟩, od st, none, some ⟨.dat, ab⟩, some ⟨.dat, .int r⟩, some ⟨.dat, .int s⟩, some ⟨.dat, .int t⟩, some ⟨.own, .lst (cs.map stD)⟩]
def wC : M Bool := (PD.tAnd (PD.tB (m2 gtD (mVar 11) (mK (.int 0)))) (PD.tB (m2 ltD (mB lenD (aCons (mVar 12) aNil)) (mK (.int 3)))))
def wB : M Fl := (sSeq (sDrop (mApp 12 (mTup (aCons (mFz (mVar 10)) (aCons (mFz (mVar 11)) aNil)))))
  (sPar [10, 11] (aCons (mAdd (mAdd (mVar 10) (mK (.int 1))) (mCall F__law_take [] (aCons (mVar 0) (aCons (m2 ixD (mVar 1) (mK (.int 1))) aNil)))) (aCons (m2 subD (m2 subD (mVar 11) (mK (.int 1))) (mCall F__law_take [] (aCons (mVar 0) (aCons (mK (.int 3)) aNil)))) aNil))))
variable {A B C : Int} {kk : D} {sws ths : List D} {st : Option D} {ab : D} {r : Int}
theorem ixm (A B C : Int) : ixD (mD A B C) (.int 1) = some (.dat (.int B)) := by rfl
theorem ixm0 (A B C : Int) : ixD (mD A B C) (.int 0) = some (.dat (.int A)) := by rfl
theorem ixm2 (A B C : Int) : ixD (mD A B C) (.int 2) = some (.dat (.int C)) := by rfl
theorem wC_ok (a b c s t : Int) (cs : List (Int × Int)) : wC (wE A B C kk sws ths st ab r a b c s t cs) = .ok (decide (0 < t) && decide (cs.length < 3)) (wE A B C kk sws ths st ab r a b c s t cs) := by
  have e : ((cs.length : Int) < 3) ↔ cs.length < 3 := by omega
  by_cases h : 0 < t <;> by_cases h' : cs.length < 3 <;> simp [PD.mK, PD.mVar, PD.m1, PD.m2, PD.mFz, PD.aNil, PD.aCons, PD.looks, PD.look, PD.dats, PD.mB, PD.truth, PD.tB, PD.tT, PD.tAnd, PD.tOr, PD.tNot, PD.mIf, PD.vAnd, PD.vOr, PD.vNot, PD.mCall, PD.sNx, PD.sSeq, PD.sDrop, PD.sIf, PD.ret, PD.sRet, PD.sRetN, PD.storeR, PD.store, PD.gN, PD.gNil, PD.gCons, PD.gT, PD.mut1, PD.setL, PD.gSub, PD.sSet, PD.sAsg, PD.stores, PD.noVar, PD.sPar, PD.items, PD.wSeq, PD.tYes, PD.sFor, PD.frz, PD.mTup, PD.mLst, PD.mChain, PD.mCallR, PD.once, PD.pass, PD.pass1, PD.back, PD.back1, PD.inS, PD.outS, PD.okArg, PD.outs, PD.fnD, PD.noEx, Md.mut, Md.ow, PD.eqD, PD.neD, PD.eqB, PD.eqS, PD.isD, PD.isntD, PD.isNonD, PD.addD, PD.subD, PD.modD, PD.fdivD, PD.negD, PD.keyD, PD.dgetD, PD.lenD, PD.mAdd, PD.ownL, wC, h, h', e]
theorem wB_ok (hB : 1 ≤ B) (hB' : B ≤ 20) (a b c s t : Int) (cs : List (Int × Int)) (hc : cs.length < 3) : ∃ a' b' c' s' t', s < s' ∧ s' ≤ s + B ∧ t' < t ∧ wB (wE A B C kk sws ths st ab r a b c s t cs) = .ok .nx (wE A B C kk sws ths st ab r a' b' c' s' t' (cs ++ [(s, t)])) := by
  obtain ⟨a1, b1, c1, r1, p1, q1, e1⟩ := take_ok a b c B (by omega) (by omega)
  obtain ⟨a2, b2, c2, r2, p2, q2, e2⟩ := take_ok a1 b1 c1 3 (by omega) (by omega)
  refine ⟨a2, b2, c2, s + 1 + r1, t - 1 - r2, by omega, by omega, by omega, ?_⟩
  have hL : cs.length < LIM := by unfold LIM; omega
  have hL2 : (2 : Nat) ≤ LIM := by unfold LIM; omega
  unfold wB
  rw [seq_nx (Γ' := wE A B C kk sws ths st ab r a b c s t (cs ++ [(s, t)])) (by
    simp [PD.mK, PD.mVar, PD.m1, PD.m2, PD.mFz, PD.aNil, PD.aCons, PD.looks, PD.look, PD.dats, PD.mB, PD.truth, PD.tB, PD.tT, PD.tAnd, PD.tOr, PD.tNot, PD.mIf, PD.vAnd, PD.vOr, PD.vNot, PD.mCall, PD.sNx, PD.sSeq, PD.sDrop, PD.sIf, PD.ret, PD.sRet, PD.sRetN, PD.storeR, PD.store, PD.gN, PD.gNil, PD.gCons, PD.gT, PD.mut1, PD.setL, PD.gSub, PD.sSet, PD.sAsg, PD.stores, PD.noVar, PD.sPar, PD.items, PD.wSeq, PD.tYes, PD.sFor, PD.frz, PD.mTup, PD.mLst, PD.mChain, PD.mCallR, PD.once, PD.pass, PD.pass1, PD.back, PD.back1, PD.inS, PD.outS, PD.okArg, PD.outs, PD.fnD, PD.noEx, Md.mut, Md.ow, PD.eqD, PD.neD, PD.eqB, PD.eqS, PD.isD, PD.isntD, PD.isNonD, PD.addD, PD.subD, PD.modD, PD.fdivD, PD.negD, PD.keyD, PD.dgetD, PD.lenD, PD.mAdd, PD.ownL, mApp, isL, appD, hL, hL2, stD])]
  simp [PD.mK, PD.mVar, PD.m1, PD.m2, PD.mFz, PD.aNil, PD.aCons, PD.looks, PD.look, PD.dats, PD.mB, PD.truth, PD.tB, PD.tT, PD.tAnd, PD.tOr, PD.tNot, PD.mIf, PD.vAnd, PD.vOr, PD.vNot, PD.mCall, PD.sNx, PD.sSeq, PD.sDrop, PD.sIf, PD.ret, PD.sRet, PD.sRetN, PD.storeR, PD.store, PD.gN, PD.gNil, PD.gCons, PD.gT, PD.mut1, PD.setL, PD.gSub, PD.sSet, PD.sAsg, PD.stores, PD.noVar, PD.sPar, PD.items, PD.wSeq, PD.tYes, PD.sFor, PD.frz, PD.mTup, PD.mLst, PD.mChain, PD.mCallR, PD.once, PD.pass, PD.pass1, PD.back, PD.back1, PD.inS, PD.outS, PD.okArg, PD.outs, PD.fnD, PD.noEx, Md.mut, Md.ow, PD.eqD, PD.neD, PD.eqB, PD.eqS, PD.isD, PD.isntD, PD.isNonD, PD.addD, PD.subD, PD.modD, PD.fdivD, PD.negD, PD.keyD, PD.dgetD, PD.lenD, PD.mAdd, PD.ownL, e1, e2, ixm]
theorem while_ok (hB : 1 ≤ B) (hB' : B ≤ 20) (hr : 1 ≤ r) (hr' : r ≤ B) (a b c t : Int) (ht : 1 ≤ t) (ht' : t ≤ 5) : ∃ a' b' c' s' t' cs, CvOk r B cs ∧ sWhile wC wB (wE A B C kk sws ths st ab r a b c (r + 1) t []) = .ok .nx (wE A B C kk sws ths st ab r a' b' c' s' t' cs) := by
  obtain ⟨a1, b1, c1, s1, t1, g1, g2, g3, e1⟩ := wB_ok (A := A) (C := C) (kk := kk) (sws := sws) (ths := ths) (st := st) (ab := ab) (r := r) hB hB' a b c (r + 1) t [] (by simp [PD.mK, PD.mVar, PD.m1, PD.m2, PD.mFz, PD.aNil, PD.aCons, PD.looks, PD.look, PD.dats, PD.mB, PD.truth, PD.tB, PD.tT, PD.tAnd, PD.tOr, PD.tNot, PD.mIf, PD.vAnd, PD.vOr, PD.vNot, PD.mCall, PD.sNx, PD.sSeq, PD.sDrop, PD.sIf, PD.ret, PD.sRet, PD.sRetN, PD.storeR, PD.store, PD.gN, PD.gNil, PD.gCons, PD.gT, PD.mut1, PD.setL, PD.gSub, PD.sSet, PD.sAsg, PD.stores, PD.noVar, PD.sPar, PD.items, PD.wSeq, PD.tYes, PD.sFor, PD.frz, PD.mTup, PD.mLst, PD.mChain, PD.mCallR, PD.once, PD.pass, PD.pass1, PD.back, PD.back1, PD.inS, PD.outS, PD.okArg, PD.outs, PD.fnD, PD.noEx, Md.mut, Md.ow, PD.eqD, PD.neD, PD.eqB, PD.eqS, PD.isD, PD.isntD, PD.isNonD, PD.addD, PD.subD, PD.modD, PD.fdivD, PD.negD, PD.keyD, PD.dgetD, PD.lenD, PD.mAdd, PD.ownL])
  have f1 := wC_ok (A := A) (B := B) (C := C) (kk := kk) (sws := sws) (ths := ths) (st := st) (ab := ab) (r := r) a b c (r + 1) t []
  have f2 := wC_ok (A := A) (B := B) (C := C) (kk := kk) (sws := sws) (ths := ths) (st := st) (ab := ab) (r := r) a1 b1 c1 s1 t1 [(r + 1, t)]
  have h0 : 0 < t := by omega
  by_cases h1 : 0 < t1
  · obtain ⟨a2, b2, c2, s2, t2, g4, g5, g6, e2⟩ := wB_ok (A := A) (C := C) (kk := kk) (sws := sws) (ths := ths) (st := st) (ab := ab) (r := r) hB hB' a1 b1 c1 s1 t1 [(r + 1, t)] (by simp [PD.mK, PD.mVar, PD.m1, PD.m2, PD.mFz, PD.aNil, PD.aCons, PD.looks, PD.look, PD.dats, PD.mB, PD.truth, PD.tB, PD.tT, PD.tAnd, PD.tOr, PD.tNot, PD.mIf, PD.vAnd, PD.vOr, PD.vNot, PD.mCall, PD.sNx, PD.sSeq, PD.sDrop, PD.sIf, PD.ret, PD.sRet, PD.sRetN, PD.storeR, PD.store, PD.gN, PD.gNil, PD.gCons, PD.gT, PD.mut1, PD.setL, PD.gSub, PD.sSet, PD.sAsg, PD.stores, PD.noVar, PD.sPar, PD.items, PD.wSeq, PD.tYes, PD.sFor, PD.frz, PD.mTup, PD.mLst, PD.mChain, PD.mCallR, PD.once, PD.pass, PD.pass1, PD.back, PD.back1, PD.inS, PD.outS, PD.okArg, PD.outs, PD.fnD, PD.noEx, Md.mut, Md.ow, PD.eqD, PD.neD, PD.eqB, PD.eqS, PD.isD, PD.isntD, PD.isNonD, PD.addD, PD.subD, PD.modD, PD.fdivD, PD.negD, PD.keyD, PD.dgetD, PD.lenD, PD.mAdd, PD.ownL])
    have f3 := wC_ok (A := A) (B := B) (C := C) (kk := kk) (sws := sws) (ths := ths) (st := st) (ab := ab) (r := r) a2 b2 c2 s2 t2 [(r + 1, t), (s1, t1)]
    by_cases h2 : 0 < t2
    · obtain ⟨a3, b3, c3, s3, t3, g7, g8, g9, e3⟩ := wB_ok (A := A) (C := C) (kk := kk) (sws := sws) (ths := ths) (st := st) (ab := ab) (r := r) hB hB' a2 b2 c2 s2 t2 [(r + 1, t), (s1, t1)] (by simp [PD.mK, PD.mVar, PD.m1, PD.m2, PD.mFz, PD.aNil, PD.aCons, PD.looks, PD.look, PD.dats, PD.mB, PD.truth, PD.tB, PD.tT, PD.tAnd, PD.tOr, PD.tNot, PD.mIf, PD.vAnd, PD.vOr, PD.vNot, PD.mCall, PD.sNx, PD.sSeq, PD.sDrop, PD.sIf, PD.ret, PD.sRet, PD.sRetN, PD.storeR, PD.store, PD.gN, PD.gNil, PD.gCons, PD.gT, PD.mut1, PD.setL, PD.gSub, PD.sSet, PD.sAsg, PD.stores, PD.noVar, PD.sPar, PD.items, PD.wSeq, PD.tYes, PD.sFor, PD.frz, PD.mTup, PD.mLst, PD.mChain, PD.mCallR, PD.once, PD.pass, PD.pass1, PD.back, PD.back1, PD.inS, PD.outS, PD.okArg, PD.outs, PD.fnD, PD.noEx, Md.mut, Md.ow, PD.eqD, PD.neD, PD.eqB, PD.eqS, PD.isD, PD.isntD, PD.isNonD, PD.addD, PD.subD, PD.modD, PD.fdivD, PD.negD, PD.keyD, PD.dgetD, PD.lenD, PD.mAdd, PD.ownL])
      have f4 := wC_ok (A := A) (B := B) (C := C) (kk := kk) (sws := sws) (ths := ths) (st := st) (ab := ab) (r := r) a3 b3 c3 s3 t3 [(r + 1, t), (s1, t1), (s2, t2)]
      refine ⟨a3, b3, c3, s3, t3, [(r + 1, t), (s1, t1), (s2, t2)], .three ht' (by omega) (by omega) (by omega) (by omega) (by omega) (by omega) (by omega), ?_⟩
      refine sWhile_of (n := 4) ?_ (by intro z; cases z)
      simp only [List.nil_append, List.cons_append] at e1 e2 e3
      simp only [whileD, f1, f2, f3, f4, e1, e2, e3, R.bind_ok, h0, h1, h2, decide_true, Bool.and_self, if_pos, List.length_nil, List.length_cons]
      simp [PD.mK, PD.mVar, PD.m1, PD.m2, PD.mFz, PD.aNil, PD.aCons, PD.looks, PD.look, PD.dats, PD.mB, PD.truth, PD.tB, PD.tT, PD.tAnd, PD.tOr, PD.tNot, PD.mIf, PD.vAnd, PD.vOr, PD.vNot, PD.mCall, PD.sNx, PD.sSeq, PD.sDrop, PD.sIf, PD.ret, PD.sRet, PD.sRetN, PD.storeR, PD.store, PD.gN, PD.gNil, PD.gCons, PD.gT, PD.mut1, PD.setL, PD.gSub, PD.sSet, PD.sAsg, PD.stores, PD.noVar, PD.sPar, PD.items, PD.wSeq, PD.tYes, PD.sFor, PD.frz, PD.mTup, PD.mLst, PD.mChain, PD.mCallR, PD.once, PD.pass, PD.pass1, PD.back, PD.back1, PD.inS, PD.outS, PD.okArg, PD.outs, PD.fnD, PD.noEx, Md.mut, Md.ow, PD.eqD, PD.neD, PD.eqB, PD.eqS, PD.isD, PD.isntD, PD.isNonD, PD.addD, PD.subD, PD.modD, PD.fdivD, PD.negD, PD.keyD, PD.dgetD, PD.lenD, PD.mAdd, PD.ownL]
    · refine ⟨a2, b2, c2, s2, t2, [(r + 1, t), (s1, t1)], .two ht' (by omega) (by omega) (by omega) (by omega), ?_⟩
      refine sWhile_of (n := 3) ?_ (by intro z; cases z)
      simp only [List.nil_append, List.cons_append] at e1 e2
      simp only [whileD, f1, f2, f3, e1, e2, R.bind_ok, h0, h1, h2, decide_true, decide_false, Bool.and_self, Bool.false_and, if_pos, List.length_nil, List.length_cons]
      simp [PD.mK, PD.mVar, PD.m1, PD.m2, PD.mFz, PD.aNil, PD.aCons, PD.looks, PD.look, PD.dats, PD.mB, PD.truth, PD.tB, PD.tT, PD.tAnd, PD.tOr, PD.tNot, PD.mIf, PD.vAnd, PD.vOr, PD.vNot, PD.mCall, PD.sNx, PD.sSeq, PD.sDrop, PD.sIf, PD.ret, PD.sRet, PD.sRetN, PD.storeR, PD.store, PD.gN, PD.gNil, PD.gCons, PD.gT, PD.mut1, PD.setL, PD.gSub, PD.sSet, PD.sAsg, PD.stores, PD.noVar, PD.sPar, PD.items, PD.wSeq, PD.tYes, PD.sFor, PD.frz, PD.mTup, PD.mLst, PD.mChain, PD.mCallR, PD.once, PD.pass, PD.pass1, PD.back, PD.back1, PD.inS, PD.outS, PD.okArg, PD.outs, PD.fnD, PD.noEx, Md.mut, Md.ow, PD.eqD, PD.neD, PD.eqB, PD.eqS, PD.isD, PD.isntD, PD.isNonD, PD.addD, PD.subD, PD.modD, PD.fdivD, PD.negD, PD.keyD, PD.dgetD, PD.lenD, PD.mAdd, PD.ownL]
  · refine ⟨a1, b1, c1, s1, t1, [(r + 1, t)], .one ht ht', ?_⟩
    refine sWhile_of (n := 2) ?_ (by intro z; cases z)
    simp only [List.nil_append, List.cons_append] at e1
    simp only [whileD, f1, f2, e1, R.bind_ok, h0, h1, decide_true, decide_false, Bool.and_self, Bool.false_and, if_pos, List.length_nil, List.length_cons]
    simp [PD.mK, PD.mVar, PD.m1, PD.m2, PD.mFz, PD.aNil, PD.aCons, PD.looks, PD.look, PD.dats, PD.mB, PD.truth, PD.tB, PD.tT, PD.tAnd, PD.tOr, PD.tNot, PD.mIf, PD.vAnd, PD.vOr, PD.vNot, PD.mCall, PD.sNx, PD.sSeq, PD.sDrop, PD.sIf, PD.ret, PD.sRet, PD.sRetN, PD.storeR, PD.store, PD.gN, PD.gNil, PD.gCons, PD.gT, PD.mut1, PD.setL, PD.gSub, PD.sSet, PD.sAsg, PD.stores, PD.noVar, PD.sPar, PD.items, PD.wSeq, PD.tYes, PD.sFor, PD.frz, PD.mTup, PD.mLst, PD.mChain, PD.mCallR, PD.once, PD.pass, PD.pass1, PD.back, PD.back1, PD.inS, PD.outS, PD.okArg, PD.outs, PD.fnD, PD.noEx, Md.mut, Md.ow, PD.eqD, PD.neD, PD.eqB, PD.eqS, PD.isD, PD.isntD, PD.isNonD, PD.addD, PD.subD, PD.modD, PD.fdivD, PD.negD, PD.keyD, PD.dgetD, PD.lenD, PD.mAdd, PD.ownL]
end Lk41

namespace Lk41
open PySem PySem.Spec L2 PD
/-- the slots at the start of a turn -/
abbrev tE (A B C a b c : Int) (sws ths : List D) (kk st ab r s t : Option D) (cs : Option (List D)) : EnD := [some ⟨.par, pl a b c⟩, some ⟨.dat, mD A B C⟩, od kk, none, some ⟨.own, .lst sws⟩, some ⟨.own, .lst ths⟩, od st, none, od ab, od r, od s, od t, ow cs]
noncomputable def bB : M Fl := (sSeq (sPar [8, 9] (aCons (mIf (PD.tB (m2 eqD (mVar 2) (mK (.int 0)))) (mK .non) (mCall F__law_take [] (aCons (mVar 0) (aCons (mVar 2) aNil)))) (aCons (mAdd (mK (.int 1)) (mCall F__law_take [] (aCons (mVar 0) (aCons (m2 ixD (mVar 1) (mK (.int 1))) aNil)))) aNil)))
  (sSeq (sPar [10, 11, 12] (aCons (mAdd (mVar 9) (mK (.int 1))) (aCons (mCall F__law_of [] (aCons (mVar 0) (aCons (mLst (aCons (mK (.int 5)) (aCons (mK (.int 4)) (aCons (mK (.int 3)) (aCons (mK (.int 2)) (aCons (mK (.int 1)) aNil)))))) aNil))) (aCons (mLst aNil) aNil))))
  (sSeq (sWhile wC wB)
  (sSeq (PD.sSet 6 (mCall F__law_of [] (aCons (mVar 0) (aCons (mLst (aCons (mK (.int 999)) (aCons (mK (.int 999)) (aCons (mFz (mAdd (m2 ixD (m2 ixD (mVar 12) (m1 negD (mK (.int 1)))) (mK (.int 0))) (mCall F__law_take [] (aCons (mVar 0) (aCons (mK (.int 9)) aNil))))) (aCons (mFz (mAdd (mK (.int 1)) (mCall F__law_take [] (aCons (mVar 0) (aCons (m2 mulD (mK (.int 2)) (m2 ixD (mVar 1) (mK (.int 1)))) aNil))))) aNil))))) aNil))))
  (sDrop (mApp 4 (mTup (aCons (mFz (mVar 8)) (aCons (mFz (mVar 9)) (aCons (mB tupD (aCons (mVar 12) aNil)) (aCons (mB minD (aCons (mK (.int 999)) (aCons (mVar 6) aNil))) aNil)))))))))))
theorem last_ok {r B : Int} {cs : List (Int × Int)} (h : CvOk r B cs) (h1 : 1 ≤ r) (h2 : r ≤ B) : ∃ p : Int × Int, ixD (.lst (cs.map stD)) (.int (-1)) = some (.dat (stD p)) ∧ 1 ≤ p.1 ∧ p.1 ≤ 1 + 3 * B := by
  cases h with
  | one a1 a2 => exact ⟨(r + 1, _), by rfl, by simp [PD.mK, PD.mVar, PD.m1, PD.m2, PD.mFz, PD.aNil, PD.aCons, PD.looks, PD.look, PD.dats, PD.mB, PD.truth, PD.tB, PD.tT, PD.tAnd, PD.tOr, PD.tNot, PD.mIf, PD.vAnd, PD.vOr, PD.vNot, PD.mCall, PD.sNx, PD.sSeq, PD.sDrop, PD.sIf, PD.ret, PD.sRet, PD.sRetN, PD.storeR, PD.store, PD.gN, PD.gNil, PD.gCons, PD.gT, PD.mut1, PD.setL, PD.gSub, PD.sSet, PD.sAsg, PD.stores, PD.noVar, PD.sPar, PD.items, PD.wSeq, PD.tYes, PD.sFor, PD.frz, PD.mTup, PD.mLst, PD.mChain, PD.mCallR, PD.once, PD.pass, PD.pass1, PD.back, PD.back1, PD.inS, PD.outS, PD.okArg, PD.outs, PD.fnD, PD.noEx, Md.mut, Md.ow, PD.eqD, PD.neD, PD.eqB, PD.eqS, PD.isD, PD.isntD, PD.isNonD, PD.addD, PD.subD, PD.modD, PD.fdivD, PD.negD, PD.keyD, PD.dgetD, PD.lenD, PD.mAdd, PD.ownL]; omega, by simp [PD.mK, PD.mVar, PD.m1, PD.m2, PD.mFz, PD.aNil, PD.aCons, PD.looks, PD.look, PD.dats, PD.mB, PD.truth, PD.tB, PD.tT, PD.tAnd, PD.tOr, PD.tNot, PD.mIf, PD.vAnd, PD.vOr, PD.vNot, PD.mCall, PD.sNx, PD.sSeq, PD.sDrop, PD.sIf, PD.ret, PD.sRet, PD.sRetN, PD.storeR, PD.store, PD.gN, PD.gNil, PD.gCons, PD.gT, PD.mut1, PD.setL, PD.gSub, PD.sSet, PD.sAsg, PD.stores, PD.noVar, PD.sPar, PD.items, PD.wSeq, PD.tYes, PD.sFor, PD.frz, PD.mTup, PD.mLst, PD.mChain, PD.mCallR, PD.once, PD.pass, PD.pass1, PD.back, PD.back1, PD.inS, PD.outS, PD.okArg, PD.outs, PD.fnD, PD.noEx, Md.mut, Md.ow, PD.eqD, PD.neD, PD.eqB, PD.eqS, PD.isD, PD.isntD, PD.isNonD, PD.addD, PD.subD, PD.modD, PD.fdivD, PD.negD, PD.keyD, PD.dgetD, PD.lenD, PD.mAdd, PD.ownL]; omega⟩
  | two a1 a2 a3 a4 a5 => exact ⟨(_, _), by rfl, by simp [PD.mK, PD.mVar, PD.m1, PD.m2, PD.mFz, PD.aNil, PD.aCons, PD.looks, PD.look, PD.dats, PD.mB, PD.truth, PD.tB, PD.tT, PD.tAnd, PD.tOr, PD.tNot, PD.mIf, PD.vAnd, PD.vOr, PD.vNot, PD.mCall, PD.sNx, PD.sSeq, PD.sDrop, PD.sIf, PD.ret, PD.sRet, PD.sRetN, PD.storeR, PD.store, PD.gN, PD.gNil, PD.gCons, PD.gT, PD.mut1, PD.setL, PD.gSub, PD.sSet, PD.sAsg, PD.stores, PD.noVar, PD.sPar, PD.items, PD.wSeq, PD.tYes, PD.sFor, PD.frz, PD.mTup, PD.mLst, PD.mChain, PD.mCallR, PD.once, PD.pass, PD.pass1, PD.back, PD.back1, PD.inS, PD.outS, PD.okArg, PD.outs, PD.fnD, PD.noEx, Md.mut, Md.ow, PD.eqD, PD.neD, PD.eqB, PD.eqS, PD.isD, PD.isntD, PD.isNonD, PD.addD, PD.subD, PD.modD, PD.fdivD, PD.negD, PD.keyD, PD.dgetD, PD.lenD, PD.mAdd, PD.ownL]; omega, by simp [PD.mK, PD.mVar, PD.m1, PD.m2, PD.mFz, PD.aNil, PD.aCons, PD.looks, PD.look, PD.dats, PD.mB, PD.truth, PD.tB, PD.tT, PD.tAnd, PD.tOr, PD.tNot, PD.mIf, PD.vAnd, PD.vOr, PD.vNot, PD.mCall, PD.sNx, PD.sSeq, PD.sDrop, PD.sIf, PD.ret, PD.sRet, PD.sRetN, PD.storeR, PD.store, PD.gN, PD.gNil, PD.gCons, PD.gT, PD.mut1, PD.setL, PD.gSub, PD.sSet, PD.sAsg, PD.stores, PD.noVar, PD.sPar, PD.items, PD.wSeq, PD.tYes, PD.sFor, PD.frz, PD.mTup, PD.mLst, PD.mChain, PD.mCallR, PD.once, PD.pass, PD.pass1, PD.back, PD.back1, PD.inS, PD.outS, PD.okArg, PD.outs, PD.fnD, PD.noEx, Md.mut, Md.ow, PD.eqD, PD.neD, PD.eqB, PD.eqS, PD.isD, PD.isntD, PD.isNonD, PD.addD, PD.subD, PD.modD, PD.fdivD, PD.negD, PD.keyD, PD.dgetD, PD.lenD, PD.mAdd, PD.ownL]; omega⟩
  | three a1 a2 a3 a4 a5 a6 a7 a8 => exact ⟨(_, _), by rfl, by simp [PD.mK, PD.mVar, PD.m1, PD.m2, PD.mFz, PD.aNil, PD.aCons, PD.looks, PD.look, PD.dats, PD.mB, PD.truth, PD.tB, PD.tT, PD.tAnd, PD.tOr, PD.tNot, PD.mIf, PD.vAnd, PD.vOr, PD.vNot, PD.mCall, PD.sNx, PD.sSeq, PD.sDrop, PD.sIf, PD.ret, PD.sRet, PD.sRetN, PD.storeR, PD.store, PD.gN, PD.gNil, PD.gCons, PD.gT, PD.mut1, PD.setL, PD.gSub, PD.sSet, PD.sAsg, PD.stores, PD.noVar, PD.sPar, PD.items, PD.wSeq, PD.tYes, PD.sFor, PD.frz, PD.mTup, PD.mLst, PD.mChain, PD.mCallR, PD.once, PD.pass, PD.pass1, PD.back, PD.back1, PD.inS, PD.outS, PD.okArg, PD.outs, PD.fnD, PD.noEx, Md.mut, Md.ow, PD.eqD, PD.neD, PD.eqB, PD.eqS, PD.isD, PD.isntD, PD.isNonD, PD.addD, PD.subD, PD.modD, PD.fdivD, PD.negD, PD.keyD, PD.dgetD, PD.lenD, PD.mAdd, PD.ownL]; omega, by simp [PD.mK, PD.mVar, PD.m1, PD.m2, PD.mFz, PD.aNil, PD.aCons, PD.looks, PD.look, PD.dats, PD.mB, PD.truth, PD.tB, PD.tT, PD.tAnd, PD.tOr, PD.tNot, PD.mIf, PD.vAnd, PD.vOr, PD.vNot, PD.mCall, PD.sNx, PD.sSeq, PD.sDrop, PD.sIf, PD.ret, PD.sRet, PD.sRetN, PD.storeR, PD.store, PD.gN, PD.gNil, PD.gCons, PD.gT, PD.mut1, PD.setL, PD.gSub, PD.sSet, PD.sAsg, PD.stores, PD.noVar, PD.sPar, PD.items, PD.wSeq, PD.tYes, PD.sFor, PD.frz, PD.mTup, PD.mLst, PD.mChain, PD.mCallR, PD.once, PD.pass, PD.pass1, PD.back, PD.back1, PD.inS, PD.outS, PD.okArg, PD.outs, PD.fnD, PD.noEx, Md.mut, Md.ow, PD.eqD, PD.neD, PD.eqB, PD.eqS, PD.isD, PD.isntD, PD.isNonD, PD.addD, PD.subD, PD.modD, PD.fdivD, PD.negD, PD.keyD, PD.dgetD, PD.lenD, PD.mAdd, PD.ownL]; omega⟩
variable {A B C : Int}
/-- the first two lines of a turn -/
theorem turn1 (hB : 1 ≤ B) (hB' : B ≤ 20) (a b c : Int) (k : Nat) (hk : k ≤ 7) (sws ths : List D) (st ab r s t : Option D) (cs : Option (List D)) : ∃ a' b' c' above r',
    (k = 0 → above = none) ∧ (k ≠ 0 → ∃ i : Int, above = some i ∧ 0 ≤ i ∧ i < k) ∧ 1 ≤ r' ∧ r' ≤ B ∧
    (sPar [8, 9] (aCons (mIf (PD.tB (m2 eqD (mVar 2) (mK (.int 0)))) (mK .non) (mCall F__law_take [] (aCons (mVar 0) (aCons (mVar 2) aNil)))) (aCons (mAdd (mK (.int 1)) (mCall F__law_take [] (aCons (mVar 0) (aCons (m2 ixD (mVar 1) (mK (.int 1))) aNil)))) aNil))) (tE A B C a b c sws ths (some (.int (k : Int))) st ab r s t cs)
      = .ok .nx (tE A B C a' b' c' sws ths (some (.int (k : Int))) st (some (oD above)) (some (.int r')) s t cs) := by
  by_cases hk0 : k = 0
  · obtain ⟨a2, b2, c2, r2, p2, q2, e2⟩ := take_ok a b c B (by omega) (by omega)
    refine ⟨a2, b2, c2, none, 1 + r2, fun _ => rfl, fun h => absurd hk0 h, by omega, by omega, ?_⟩
    subst hk0
    cases ab <;> cases r <;> simp [PD.mK, PD.mVar, PD.m1, PD.m2, PD.mFz, PD.aNil, PD.aCons, PD.looks, PD.look, PD.dats, PD.mB, PD.truth, PD.tB, PD.tT, PD.tAnd, PD.tOr, PD.tNot, PD.mIf, PD.vAnd, PD.vOr, PD.vNot, PD.mCall, PD.sNx, PD.sSeq, PD.sDrop, PD.sIf, PD.ret, PD.sRet, PD.sRetN, PD.storeR, PD.store, PD.gN, PD.gNil, PD.gCons, PD.gT, PD.mut1, PD.setL, PD.gSub, PD.sSet, PD.sAsg, PD.stores, PD.noVar, PD.sPar, PD.items, PD.wSeq, PD.tYes, PD.sFor, PD.frz, PD.mTup, PD.mLst, PD.mChain, PD.mCallR, PD.once, PD.pass, PD.pass1, PD.back, PD.back1, PD.inS, PD.outS, PD.okArg, PD.outs, PD.fnD, PD.noEx, Md.mut, Md.ow, PD.eqD, PD.neD, PD.eqB, PD.eqS, PD.isD, PD.isntD, PD.isNonD, PD.addD, PD.subD, PD.modD, PD.fdivD, PD.negD, PD.keyD, PD.dgetD, PD.lenD, PD.mAdd, PD.ownL, od, e2, ixm, oD]
  · obtain ⟨a1, b1, c1, r1, p1, q1, e1⟩ := take_ok a b c k (by omega) (by omega)
    obtain ⟨a2, b2, c2, r2, p2, q2, e2⟩ := take_ok a1 b1 c1 B (by omega) (by omega)
    refine ⟨a2, b2, c2, some r1, 1 + r2, fun h => absurd h hk0, fun _ => ⟨r1, rfl, p1, q1⟩, by omega, by omega, ?_⟩
    cases ab <;> cases r <;> simp [PD.mK, PD.mVar, PD.m1, PD.m2, PD.mFz, PD.aNil, PD.aCons, PD.looks, PD.look, PD.dats, PD.mB, PD.truth, PD.tB, PD.tT, PD.tAnd, PD.tOr, PD.tNot, PD.mIf, PD.vAnd, PD.vOr, PD.vNot, PD.mCall, PD.sNx, PD.sSeq, PD.sDrop, PD.sIf, PD.ret, PD.sRet, PD.sRetN, PD.storeR, PD.store, PD.gN, PD.gNil, PD.gCons, PD.gT, PD.mut1, PD.setL, PD.gSub, PD.sSet, PD.sAsg, PD.stores, PD.noVar, PD.sPar, PD.items, PD.wSeq, PD.tYes, PD.sFor, PD.frz, PD.mTup, PD.mLst, PD.mChain, PD.mCallR, PD.once, PD.pass, PD.pass1, PD.back, PD.back1, PD.inS, PD.outS, PD.okArg, PD.outs, PD.fnD, PD.noEx, Md.mut, Md.ow, PD.eqD, PD.neD, PD.eqB, PD.eqS, PD.isD, PD.isntD, PD.isNonD, PD.addD, PD.subD, PD.modD, PD.fdivD, PD.negD, PD.keyD, PD.dgetD, PD.lenD, PD.mAdd, PD.ownL, od, e1, e2, ixm, oD, hk0]
theorem turn2 (a b c : Int) (kk ab : D) (r : Int) (sws ths : List D) (st s t : Option D) (cs : Option (List D)) : ∃ a' b' c' t', 1 ≤ t' ∧ t' ≤ 5 ∧
    (sPar [10, 11, 12] (aCons (mAdd (mVar 9) (mK (.int 1))) (aCons (mCall F__law_of [] (aCons (mVar 0) (aCons (mLst (aCons (mK (.int 5)) (aCons (mK (.int 4)) (aCons (mK (.int 3)) (aCons (mK (.int 2)) (aCons (mK (.int 1)) aNil)))))) aNil))) (aCons (mLst aNil) aNil)))) (tE A B C a b c sws ths (some kk) st (some ab) (some (.int r)) s t cs)
      = .ok .nx (wE A B C kk sws ths st ab r a' b' c' (r + 1) t' []) := by
  obtain ⟨a1, b1, c1, d, hd, e1⟩ := of_ok a b c [.int 5, .int 4, .int 3, .int 2, .int 1] (by simp [PD.mK, PD.mVar, PD.m1, PD.m2, PD.mFz, PD.aNil, PD.aCons, PD.looks, PD.look, PD.dats, PD.mB, PD.truth, PD.tB, PD.tT, PD.tAnd, PD.tOr, PD.tNot, PD.mIf, PD.vAnd, PD.vOr, PD.vNot, PD.mCall, PD.sNx, PD.sSeq, PD.sDrop, PD.sIf, PD.ret, PD.sRet, PD.sRetN, PD.storeR, PD.store, PD.gN, PD.gNil, PD.gCons, PD.gT, PD.mut1, PD.setL, PD.gSub, PD.sSet, PD.sAsg, PD.stores, PD.noVar, PD.sPar, PD.items, PD.wSeq, PD.tYes, PD.sFor, PD.frz, PD.mTup, PD.mLst, PD.mChain, PD.mCallR, PD.once, PD.pass, PD.pass1, PD.back, PD.back1, PD.inS, PD.outS, PD.okArg, PD.outs, PD.fnD, PD.noEx, Md.mut, Md.ow, PD.eqD, PD.neD, PD.eqB, PD.eqS, PD.isD, PD.isntD, PD.isNonD, PD.addD, PD.subD, PD.modD, PD.fdivD, PD.negD, PD.keyD, PD.dgetD, PD.lenD, PD.mAdd, PD.ownL]) (by simp [PD.mK, PD.mVar, PD.m1, PD.m2, PD.mFz, PD.aNil, PD.aCons, PD.looks, PD.look, PD.dats, PD.mB, PD.truth, PD.tB, PD.tT, PD.tAnd, PD.tOr, PD.tNot, PD.mIf, PD.vAnd, PD.vOr, PD.vNot, PD.mCall, PD.sNx, PD.sSeq, PD.sDrop, PD.sIf, PD.ret, PD.sRet, PD.sRetN, PD.storeR, PD.store, PD.gN, PD.gNil, PD.gCons, PD.gT, PD.mut1, PD.setL, PD.gSub, PD.sSet, PD.sAsg, PD.stores, PD.noVar, PD.sPar, PD.items, PD.wSeq, PD.tYes, PD.sFor, PD.frz, PD.mTup, PD.mLst, PD.mChain, PD.mCallR, PD.once, PD.pass, PD.pass1, PD.back, PD.back1, PD.inS, PD.outS, PD.okArg, PD.outs, PD.fnD, PD.noEx, Md.mut, Md.ow, PD.eqD, PD.neD, PD.eqB, PD.eqS, PD.isD, PD.isntD, PD.isNonD, PD.addD, PD.subD, PD.modD, PD.fdivD, PD.negD, PD.keyD, PD.dgetD, PD.lenD, PD.mAdd, PD.ownL])
  have h0 : 0 ≤ LIM := by unfold LIM; omega
  have h5 : 5 ≤ LIM := by unfold LIM; omega
  obtain ⟨t', rfl, h1, h2⟩ : ∃ t' : Int, d = .int t' ∧ 1 ≤ t' ∧ t' ≤ 5 := by
    simp [PD.mK, PD.mVar, PD.m1, PD.m2, PD.mFz, PD.aNil, PD.aCons, PD.looks, PD.look, PD.dats, PD.mB, PD.truth, PD.tB, PD.tT, PD.tAnd, PD.tOr, PD.tNot, PD.mIf, PD.vAnd, PD.vOr, PD.vNot, PD.mCall, PD.sNx, PD.sSeq, PD.sDrop, PD.sIf, PD.ret, PD.sRet, PD.sRetN, PD.storeR, PD.store, PD.gN, PD.gNil, PD.gCons, PD.gT, PD.mut1, PD.setL, PD.gSub, PD.sSet, PD.sAsg, PD.stores, PD.noVar, PD.sPar, PD.items, PD.wSeq, PD.tYes, PD.sFor, PD.frz, PD.mTup, PD.mLst, PD.mChain, PD.mCallR, PD.once, PD.pass, PD.pass1, PD.back, PD.back1, PD.inS, PD.outS, PD.okArg, PD.outs, PD.fnD, PD.noEx, Md.mut, Md.ow, PD.eqD, PD.neD, PD.eqB, PD.eqS, PD.isD, PD.isntD, PD.isNonD, PD.addD, PD.subD, PD.modD, PD.fdivD, PD.negD, PD.keyD, PD.dgetD, PD.lenD, PD.mAdd, PD.ownL] at hd
    rcases hd with rfl | rfl | rfl | rfl | rfl <;> exact ⟨_, rfl, by omega, by omega⟩
  refine ⟨a1, b1, c1, t', h1, h2, ?_⟩
  cases s <;> cases t <;> cases cs <;> simp [PD.mK, PD.mVar, PD.m1, PD.m2, PD.mFz, PD.aNil, PD.aCons, PD.looks, PD.look, PD.dats, PD.mB, PD.truth, PD.tB, PD.tT, PD.tAnd, PD.tOr, PD.tNot, PD.mIf, PD.vAnd, PD.vOr, PD.vNot, PD.mCall, PD.sNx, PD.sSeq, PD.sDrop, PD.sIf, PD.ret, PD.sRet, PD.sRetN, PD.storeR, PD.store, PD.gN, PD.gNil, PD.gCons, PD.gT, PD.mut1, PD.setL, PD.gSub, PD.sSet, PD.sAsg, PD.stores, PD.noVar, PD.sPar, PD.items, PD.wSeq, PD.tYes, PD.sFor, PD.frz, PD.mTup, PD.mLst, PD.mChain, PD.mCallR, PD.once, PD.pass, PD.pass1, PD.back, PD.back1, PD.inS, PD.outS, PD.okArg, PD.outs, PD.fnD, PD.noEx, Md.mut, Md.ow, PD.eqD, PD.neD, PD.eqB, PD.eqS, PD.isD, PD.isntD, PD.isNonD, PD.addD, PD.subD, PD.modD, PD.fdivD, PD.negD, PD.keyD, PD.dgetD, PD.lenD, PD.mAdd, PD.ownL, od, ow, e1, h5]
theorem turn3 (hB : 1 ≤ B) (hB' : B ≤ 20) (hr : 1 ≤ r) (hr' : r ≤ B) (a b c s t : Int) (kk ab : D) (sws ths : List D) (st : Option D) (cs : List (Int × Int)) (hc : CvOk r B cs) : ∃ a' b' c' v, 1 ≤ v ∧ (v ≤ 9 + 3 * B ∨ v = 999) ∧
    (PD.sSet 6 (mCall F__law_of [] (aCons (mVar 0) (aCons (mLst (aCons (mK (.int 999)) (aCons (mK (.int 999)) (aCons (mFz (mAdd (m2 ixD (m2 ixD (mVar 12) (m1 negD (mK (.int 1)))) (mK (.int 0))) (mCall F__law_take [] (aCons (mVar 0) (aCons (mK (.int 9)) aNil))))) (aCons (mFz (mAdd (mK (.int 1)) (mCall F__law_take [] (aCons (mVar 0) (aCons (m2 mulD (mK (.int 2)) (m2 ixD (mVar 1) (mK (.int 1)))) aNil))))) aNil))))) aNil)))) (wE A B C kk sws ths st ab r a b c s t cs)
      = .ok .nx (wE A B C kk sws ths (some (.int v)) ab r a' b' c' s t cs) := by
  obtain ⟨p, hp, p1, p2⟩ := last_ok hc hr hr'
  obtain ⟨a1, b1, c1, r1, q1, q2, e1⟩ := take_ok a b c 9 (by omega) (by omega)
  obtain ⟨a2, b2, c2, r2, q3, q4, e2⟩ := take_ok a1 b1 c1 (2 * B) (by omega) (by omega)
  obtain ⟨a3, b3, c3, d, hd, e3⟩ := of_ok a2 b2 c2 [.int 999, .int 999, .int (p.1 + r1), .int (1 + r2)] (by simp [PD.mK, PD.mVar, PD.m1, PD.m2, PD.mFz, PD.aNil, PD.aCons, PD.looks, PD.look, PD.dats, PD.mB, PD.truth, PD.tB, PD.tT, PD.tAnd, PD.tOr, PD.tNot, PD.mIf, PD.vAnd, PD.vOr, PD.vNot, PD.mCall, PD.sNx, PD.sSeq, PD.sDrop, PD.sIf, PD.ret, PD.sRet, PD.sRetN, PD.storeR, PD.store, PD.gN, PD.gNil, PD.gCons, PD.gT, PD.mut1, PD.setL, PD.gSub, PD.sSet, PD.sAsg, PD.stores, PD.noVar, PD.sPar, PD.items, PD.wSeq, PD.tYes, PD.sFor, PD.frz, PD.mTup, PD.mLst, PD.mChain, PD.mCallR, PD.once, PD.pass, PD.pass1, PD.back, PD.back1, PD.inS, PD.outS, PD.okArg, PD.outs, PD.fnD, PD.noEx, Md.mut, Md.ow, PD.eqD, PD.neD, PD.eqB, PD.eqS, PD.isD, PD.isntD, PD.isNonD, PD.addD, PD.subD, PD.modD, PD.fdivD, PD.negD, PD.keyD, PD.dgetD, PD.lenD, PD.mAdd, PD.ownL]) (by simp [PD.mK, PD.mVar, PD.m1, PD.m2, PD.mFz, PD.aNil, PD.aCons, PD.looks, PD.look, PD.dats, PD.mB, PD.truth, PD.tB, PD.tT, PD.tAnd, PD.tOr, PD.tNot, PD.mIf, PD.vAnd, PD.vOr, PD.vNot, PD.mCall, PD.sNx, PD.sSeq, PD.sDrop, PD.sIf, PD.ret, PD.sRet, PD.sRetN, PD.storeR, PD.store, PD.gN, PD.gNil, PD.gCons, PD.gT, PD.mut1, PD.setL, PD.gSub, PD.sSet, PD.sAsg, PD.stores, PD.noVar, PD.sPar, PD.items, PD.wSeq, PD.tYes, PD.sFor, PD.frz, PD.mTup, PD.mLst, PD.mChain, PD.mCallR, PD.once, PD.pass, PD.pass1, PD.back, PD.back1, PD.inS, PD.outS, PD.okArg, PD.outs, PD.fnD, PD.noEx, Md.mut, Md.ow, PD.eqD, PD.neD, PD.eqB, PD.eqS, PD.isD, PD.isntD, PD.isNonD, PD.addD, PD.subD, PD.modD, PD.fdivD, PD.negD, PD.keyD, PD.dgetD, PD.lenD, PD.mAdd, PD.ownL])
  have h4 : 4 ≤ LIM := by unfold LIM; omega
  have hx : ixD (stD p) (.int 0) = some (.dat (.int p.1)) := by simp [PD.mK, PD.mVar, PD.m1, PD.m2, PD.mFz, PD.aNil, PD.aCons, PD.looks, PD.look, PD.dats, PD.mB, PD.truth, PD.tB, PD.tT, PD.tAnd, PD.tOr, PD.tNot, PD.mIf, PD.vAnd, PD.vOr, PD.vNot, PD.mCall, PD.sNx, PD.sSeq, PD.sDrop, PD.sIf, PD.ret, PD.sRet, PD.sRetN, PD.storeR, PD.store, PD.gN, PD.gNil, PD.gCons, PD.gT, PD.mut1, PD.setL, PD.gSub, PD.sSet, PD.sAsg, PD.stores, PD.noVar, PD.sPar, PD.items, PD.wSeq, PD.tYes, PD.sFor, PD.frz, PD.mTup, PD.mLst, PD.mChain, PD.mCallR, PD.once, PD.pass, PD.pass1, PD.back, PD.back1, PD.inS, PD.outS, PD.okArg, PD.outs, PD.fnD, PD.noEx, Md.mut, Md.ow, PD.eqD, PD.neD, PD.eqB, PD.eqS, PD.isD, PD.isntD, PD.isNonD, PD.addD, PD.subD, PD.modD, PD.fdivD, PD.negD, PD.keyD, PD.dgetD, PD.lenD, PD.mAdd, PD.ownL, stD, ixD, atI, ixN]
  have hn : negD (.int 1) = some (.dat (.int (-1))) := by rfl
  obtain ⟨v, rfl, h1, h2⟩ : ∃ v : Int, d = .int v ∧ 1 ≤ v ∧ (v ≤ 9 + 3 * B ∨ v = 999) := by
    simp [PD.mK, PD.mVar, PD.m1, PD.m2, PD.mFz, PD.aNil, PD.aCons, PD.looks, PD.look, PD.dats, PD.mB, PD.truth, PD.tB, PD.tT, PD.tAnd, PD.tOr, PD.tNot, PD.mIf, PD.vAnd, PD.vOr, PD.vNot, PD.mCall, PD.sNx, PD.sSeq, PD.sDrop, PD.sIf, PD.ret, PD.sRet, PD.sRetN, PD.storeR, PD.store, PD.gN, PD.gNil, PD.gCons, PD.gT, PD.mut1, PD.setL, PD.gSub, PD.sSet, PD.sAsg, PD.stores, PD.noVar, PD.sPar, PD.items, PD.wSeq, PD.tYes, PD.sFor, PD.frz, PD.mTup, PD.mLst, PD.mChain, PD.mCallR, PD.once, PD.pass, PD.pass1, PD.back, PD.back1, PD.inS, PD.outS, PD.okArg, PD.outs, PD.fnD, PD.noEx, Md.mut, Md.ow, PD.eqD, PD.neD, PD.eqB, PD.eqS, PD.isD, PD.isntD, PD.isNonD, PD.addD, PD.subD, PD.modD, PD.fdivD, PD.negD, PD.keyD, PD.dgetD, PD.lenD, PD.mAdd, PD.ownL] at hd
    rcases hd with rfl | rfl | rfl <;> exact ⟨_, rfl, by omega, by omega⟩
  refine ⟨a3, b3, c3, v, h1, h2, ?_⟩
  cases st <;> simp [PD.mK, PD.mVar, PD.m1, PD.m2, PD.mFz, PD.aNil, PD.aCons, PD.looks, PD.look, PD.dats, PD.mB, PD.truth, PD.tB, PD.tT, PD.tAnd, PD.tOr, PD.tNot, PD.mIf, PD.vAnd, PD.vOr, PD.vNot, PD.mCall, PD.sNx, PD.sSeq, PD.sDrop, PD.sIf, PD.ret, PD.sRet, PD.sRetN, PD.storeR, PD.store, PD.gN, PD.gNil, PD.gCons, PD.gT, PD.mut1, PD.setL, PD.gSub, PD.sSet, PD.sAsg, PD.stores, PD.noVar, PD.sPar, PD.items, PD.wSeq, PD.tYes, PD.sFor, PD.frz, PD.mTup, PD.mLst, PD.mChain, PD.mCallR, PD.once, PD.pass, PD.pass1, PD.back, PD.back1, PD.inS, PD.outS, PD.okArg, PD.outs, PD.fnD, PD.noEx, Md.mut, Md.ow, PD.eqD, PD.neD, PD.eqB, PD.eqS, PD.isD, PD.isntD, PD.isNonD, PD.addD, PD.subD, PD.modD, PD.fdivD, PD.keyD, PD.dgetD, PD.lenD, PD.mAdd, PD.ownL, od, e1, e2, e3, hp, hx, hn, ixm, h4]
theorem turn_ok (hB : 1 ≤ B) (hB' : B ≤ 20) (a b c : Int) (k : Nat) (hk : k ≤ 7) (sws ths : List D) (hs : sws.length ≤ 7) (st ab r s t : Option D) (cs : Option (List D)) : ∃ a' b' c' sw st' ab' r' s' t' cs', SwOk B k sw ∧
    bB (tE A B C a b c sws ths (some (.int (k : Int))) st ab r s t cs) = .ok .nx (tE A B C a' b' c' (sws ++ [swD sw]) ths (some (.int (k : Int))) st' ab' r' s' t' cs') := by
  obtain ⟨a1, b1, c1, above, r1, x1, x2, x3, x4, e1⟩ := turn1 (A := A) (C := C) hB hB' a b c k hk sws ths st ab r s t cs
  obtain ⟨a2, b2, c2, t2, y1, y2, e2⟩ := turn2 (A := A) (B := B) (C := C) a1 b1 c1 (.int (k : Int)) (oD above) r1 sws ths st s t cs
  obtain ⟨a3, b3, c3, s3, t3, cs3, cv, e3⟩ := while_ok (A := A) (C := C) (kk := .int (k : Int)) (sws := sws) (ths := ths) (st := st) (ab := oD above) hB hB' x3 x4 a2 b2 c2 t2 y1 y2
  obtain ⟨a4, b4, c4, v, z1, z2, e4⟩ := turn3 (A := A) (C := C) hB hB' x3 x4 a3 b3 c3 s3 t3 (.int (k : Int)) (oD above) sws ths st cs3 cv
  have h1 : sws.length < LIM := by unfold LIM; omega
  have h4 : 4 ≤ LIM := by unfold LIM; omega
  refine ⟨a4, b4, c4, ⟨above, r1, cs3, min 999 v⟩, some (.int v), some (oD above), some (.int r1), some (.int s3), some (.int t3), some (cs3.map stD), ⟨x1, x2, x3, x4, cv, ?_, ?_⟩, ?_⟩
  · show 1 ≤ min 999 v; omega
  · show min 999 v ≤ 9 + 3 * B ∨ min 999 v = 999; omega
  · unfold bB
    rw [seq_nx e1, seq_nx e2, seq_nx e3, seq_nx e4]
    have hm : (if v < 999 then v else 999) = min 999 v := by split <;> omega
    simp [PD.mK, PD.mVar, PD.m1, PD.m2, PD.mFz, PD.aNil, PD.aCons, PD.looks, PD.look, PD.dats, PD.mB, PD.truth, PD.tB, PD.tT, PD.tAnd, PD.tOr, PD.tNot, PD.mIf, PD.vAnd, PD.vOr, PD.vNot, PD.mCall, PD.sNx, PD.sSeq, PD.sDrop, PD.sIf, PD.ret, PD.sRet, PD.sRetN, PD.storeR, PD.store, PD.gN, PD.gNil, PD.gCons, PD.gT, PD.mut1, PD.setL, PD.gSub, PD.sSet, PD.sAsg, PD.stores, PD.noVar, PD.sPar, PD.items, PD.wSeq, PD.tYes, PD.sFor, PD.frz, PD.mTup, PD.mLst, PD.mChain, PD.mCallR, PD.once, PD.pass, PD.pass1, PD.back, PD.back1, PD.inS, PD.outS, PD.okArg, PD.outs, PD.fnD, PD.noEx, Md.mut, Md.ow, PD.eqD, PD.neD, PD.eqB, PD.eqS, PD.isD, PD.isntD, PD.isNonD, PD.addD, PD.subD, PD.modD, PD.fdivD, PD.negD, PD.keyD, PD.dgetD, PD.lenD, PD.mAdd, PD.ownL, od, ow, mApp, isL, appD, tupD, minD, hm, h1, h4, swD]
end Lk41

namespace Lk41
open PySem PySem.Spec L2 PD
variable {A B C : Int}
theorem rngD_get {n i : Nat} {d : D} (h : (rngD 0 n)[i]? = some d) : d = .int (i : Int) ∧ i < n := by
  unfold rngD at h
  rw [List.getElem?_map] at h
  obtain ⟨k, hk, rfl⟩ := Option.map_eq_some_iff.mp h
  have hi : i < n := by
    by_cases hi : i < n
    · exact hi
    · rw [List.getElem?_eq_none (by rw [List.length_range]; omega)] at hk; cases hk
  rw [List.getElem?_range hi] at hk
  cases hk
  exact ⟨by rw [Int.zero_add], hi⟩
theorem rngD_len (n : Nat) : (rngD 0 n).length = n := by simp [PD.mK, PD.mVar, PD.m1, PD.m2, PD.mFz, PD.aNil, PD.aCons, PD.looks, PD.look, PD.dats, PD.mB, PD.truth, PD.tB, PD.tT, PD.tAnd, PD.tOr, PD.tNot, PD.mIf, PD.vAnd, PD.vOr, PD.vNot, PD.mCall, PD.sNx, PD.sSeq, PD.sDrop, PD.sIf, PD.ret, PD.sRet, PD.sRetN, PD.storeR, PD.store, PD.gN, PD.gNil, PD.gCons, PD.gT, PD.mut1, PD.setL, PD.gSub, PD.sSet, PD.sAsg, PD.stores, PD.noVar, PD.sPar, PD.items, PD.wSeq, PD.tYes, PD.sFor, PD.frz, PD.mTup, PD.mLst, PD.mChain, PD.mCallR, PD.once, PD.pass, PD.pass1, PD.back, PD.back1, PD.inS, PD.outS, PD.okArg, PD.outs, PD.fnD, PD.noEx, Md.mut, Md.ow, PD.eqD, PD.neD, PD.eqB, PD.eqS, PD.isD, PD.isntD, PD.isNonD, PD.addD, PD.subD, PD.modD, PD.fdivD, PD.negD, PD.keyD, PD.dgetD, PD.lenD, PD.mAdd, PD.ownL, rngD]
/-- the slots in the second loop -/
abbrev uE (A B C a b c : Int) (sws ths : List D) (kk tt st am ab r s t : Option D) (cs : Option (List D)) : EnD := [some ⟨.par, pl a b c⟩, some ⟨.dat, mD A B C⟩, od kk, od tt, some ⟨.own, .lst sws⟩, some ⟨.own, .lst ths⟩, od st, od am, od ab, od r, od s, od t, ow cs]
def hB : M Fl := (sSeq (PD.sSet 7 (mAdd (mK (.int 1)) (mCall F__law_take [] (aCons (mVar 0) (aCons (mK (.int 5)) aNil)))))
  (sDrop (mApp 5 (mTup (aCons (mFz (mCall F__law_take [] (aCons (mVar 0) (aCons (mB lenD (aCons (mVar 4) aNil)) aNil)))) (aCons (mFz (mVar 7)) (aCons (mFz (mAdd (mVar 7) (mCall F__law_take [] (aCons (mVar 0) (aCons (mK (.int 4)) aNil))))) (aCons (mFz (mCall F__law_take [] (aCons (mVar 0) (aCons (mK (.int 3)) aNil)))) aNil))))))))
theorem hB_ok (a b c : Int) (sws ths : List D) (hs : 1 ≤ sws.length) (hs7 : sws.length ≤ 7) (ht : ths.length ≤ 7) (kk tt st am ab r s t : Option D) (cs : Option (List D)) : ∃ a' b' c' th am', ThOk sws.length th ∧ hB (uE A B C a b c sws ths kk tt st am ab r s t cs) = .ok .nx (uE A B C a' b' c' sws (ths ++ [thD th]) kk tt st am' ab r s t cs) := by
  obtain ⟨a1, b1, c1, r1, p1, q1, e1⟩ := take_ok a b c 5 (by omega) (by omega)
  obtain ⟨a2, b2, c2, r2, p2, q2, e2⟩ := take_ok a1 b1 c1 sws.length (by omega) (by omega)
  obtain ⟨a3, b3, c3, r3, p3, q3, e3⟩ := take_ok a2 b2 c2 4 (by omega) (by omega)
  obtain ⟨a4, b4, c4, r4, p4, q4, e4⟩ := take_ok a3 b3 c3 3 (by omega) (by omega)
  have h1 : ths.length < LIM := by unfold LIM; omega
  have h4 : 4 ≤ LIM := by unfold LIM; omega
  refine ⟨a4, b4, c4, ⟨r2, 1 + r1, 1 + r1 + r3, r4⟩, some (.int (1 + r1)), ⟨p2, q2, by show 1 ≤ 1 + r1; omega, by show 1 + r1 ≤ 5; omega, by show 1 + r1 ≤ 1 + r1 + r3; omega, by show 1 + r1 + r3 ≤ 8; omega, p4, by show r4 ≤ 2; omega⟩, ?_⟩
  unfold hB
  rw [seq_nx (Γ' := uE A B C a1 b1 c1 sws ths kk tt st (some (.int (1 + r1))) ab r s t cs) (by cases am <;> simp [PD.mK, PD.mVar, PD.m1, PD.m2, PD.mFz, PD.aNil, PD.aCons, PD.looks, PD.look, PD.dats, PD.mB, PD.truth, PD.tB, PD.tT, PD.tAnd, PD.tOr, PD.tNot, PD.mIf, PD.vAnd, PD.vOr, PD.vNot, PD.mCall, PD.sNx, PD.sSeq, PD.sDrop, PD.sIf, PD.ret, PD.sRet, PD.sRetN, PD.storeR, PD.store, PD.gN, PD.gNil, PD.gCons, PD.gT, PD.mut1, PD.setL, PD.gSub, PD.sSet, PD.sAsg, PD.stores, PD.noVar, PD.sPar, PD.items, PD.wSeq, PD.tYes, PD.sFor, PD.frz, PD.mTup, PD.mLst, PD.mChain, PD.mCallR, PD.once, PD.pass, PD.pass1, PD.back, PD.back1, PD.inS, PD.outS, PD.okArg, PD.outs, PD.fnD, PD.noEx, Md.mut, Md.ow, PD.eqD, PD.neD, PD.eqB, PD.eqS, PD.isD, PD.isntD, PD.isNonD, PD.addD, PD.subD, PD.modD, PD.fdivD, PD.negD, PD.keyD, PD.dgetD, PD.lenD, PD.mAdd, PD.ownL, od, e1])]
  simp [PD.mK, PD.mVar, PD.m1, PD.m2, PD.mFz, PD.aNil, PD.aCons, PD.looks, PD.look, PD.dats, PD.mB, PD.truth, PD.tB, PD.tT, PD.tAnd, PD.tOr, PD.tNot, PD.mIf, PD.vAnd, PD.vOr, PD.vNot, PD.mCall, PD.sNx, PD.sSeq, PD.sDrop, PD.sIf, PD.ret, PD.sRet, PD.sRetN, PD.storeR, PD.store, PD.gN, PD.gNil, PD.gCons, PD.gT, PD.mut1, PD.setL, PD.gSub, PD.sSet, PD.sAsg, PD.stores, PD.noVar, PD.sPar, PD.items, PD.wSeq, PD.tYes, PD.sFor, PD.frz, PD.mTup, PD.mLst, PD.mChain, PD.mCallR, PD.once, PD.pass, PD.pass1, PD.back, PD.back1, PD.inS, PD.outS, PD.okArg, PD.outs, PD.fnD, PD.noEx, Md.mut, Md.ow, PD.eqD, PD.neD, PD.eqB, PD.eqS, PD.isD, PD.isntD, PD.isNonD, PD.addD, PD.subD, PD.modD, PD.fdivD, PD.negD, PD.keyD, PD.dgetD, PD.lenD, PD.mAdd, PD.ownL, od, mApp, isL, appD, e2, e3, e4, h1, h4, thD]
theorem board_ok (hA : 1 ≤ A) (hA' : A ≤ 7) (hB1 : 1 ≤ B) (hB2 : B ≤ 20) (hC : 0 ≤ C) (hC' : C ≤ 5) (a b c : Int) : ∃ a' b' c' ss ts, BdOk A B ss ts ∧ F__law_board [⟨.own, pl a b c⟩, ⟨.dat, mD A B C⟩] = .ok (.dat (bdD ss ts)) [some ⟨.own, pl a' b' c'⟩, none] := by
  obtain ⟨a1, b1, c1, r1, p1, q1, e1⟩ := take_ok a b c A (by omega) (by omega)
  -- the first loop
  obtain ⟨Γ1, f1, a2, b2, c2, ss, kk, st, ab, r, s, t, cs, hl, hss, rfl⟩ := forD_inv (g := gN 2) (b := bB)
    (fun n Γ => ∃ a b c ss kk st ab r s t cs, ss.length = n ∧ (∀ (i : Nat) s, ss[i]? = some s → SwOk B i s) ∧ Γ = tE A B C a b c (ss.map swD) [] kk st ab r s t cs)
    (rngD 0 (1 + r1).toNat) 0 (tE A B C a1 b1 c1 [] [] none none none none none none none) (fun n d Γ hn ⟨a, b, c, ss, kk, st, ab, r, s, t, cs, hl, hss, e⟩ => by
      obtain ⟨rfl, hn'⟩ := rngD_get hn
      rw [Nat.zero_add] at hl
      obtain ⟨a', b', c', sw, st', ab', r', s', t', cs', ok, e'⟩ := turn_ok (A := A) (C := C) hB1 hB2 a b c n (by omega) (ss.map swD) [] (by rw [List.length_map]; omega) st ab r s t cs
      refine ⟨tE A B C a b c (ss.map swD) [] (some (.int (n : Int))) st ab r s t cs, _, ?_, e', a', b', c', ss ++ [sw], some (.int (n : Int)), st', ab', r', s', t', cs', ?_, ?_, ?_⟩
      · subst e
        cases kk <;> simp [PD.mK, PD.mVar, PD.m1, PD.m2, PD.mFz, PD.aNil, PD.aCons, PD.looks, PD.look, PD.dats, PD.mB, PD.truth, PD.tB, PD.tT, PD.tAnd, PD.tOr, PD.tNot, PD.mIf, PD.vAnd, PD.vOr, PD.vNot, PD.mCall, PD.sNx, PD.sSeq, PD.sDrop, PD.sIf, PD.ret, PD.sRet, PD.sRetN, PD.storeR, PD.store, PD.gN, PD.gNil, PD.gCons, PD.gT, PD.mut1, PD.setL, PD.gSub, PD.sSet, PD.sAsg, PD.stores, PD.noVar, PD.sPar, PD.items, PD.wSeq, PD.tYes, PD.sFor, PD.frz, PD.mTup, PD.mLst, PD.mChain, PD.mCallR, PD.once, PD.pass, PD.pass1, PD.back, PD.back1, PD.inS, PD.outS, PD.okArg, PD.outs, PD.fnD, PD.noEx, Md.mut, Md.ow, PD.eqD, PD.neD, PD.eqB, PD.eqS, PD.isD, PD.isntD, PD.isNonD, PD.addD, PD.subD, PD.modD, PD.fdivD, PD.negD, PD.keyD, PD.dgetD, PD.lenD, PD.mAdd, PD.ownL, od]
      · rw [List.length_append, hl]; simp [PD.mK, PD.mVar, PD.m1, PD.m2, PD.mFz, PD.aNil, PD.aCons, PD.looks, PD.look, PD.dats, PD.mB, PD.truth, PD.tB, PD.tT, PD.tAnd, PD.tOr, PD.tNot, PD.mIf, PD.vAnd, PD.vOr, PD.vNot, PD.mCall, PD.sNx, PD.sSeq, PD.sDrop, PD.sIf, PD.ret, PD.sRet, PD.sRetN, PD.storeR, PD.store, PD.gN, PD.gNil, PD.gCons, PD.gT, PD.mut1, PD.setL, PD.gSub, PD.sSet, PD.sAsg, PD.stores, PD.noVar, PD.sPar, PD.items, PD.wSeq, PD.tYes, PD.sFor, PD.frz, PD.mTup, PD.mLst, PD.mChain, PD.mCallR, PD.once, PD.pass, PD.pass1, PD.back, PD.back1, PD.inS, PD.outS, PD.okArg, PD.outs, PD.fnD, PD.noEx, Md.mut, Md.ow, PD.eqD, PD.neD, PD.eqB, PD.eqS, PD.isD, PD.isntD, PD.isNonD, PD.addD, PD.subD, PD.modD, PD.fdivD, PD.negD, PD.keyD, PD.dgetD, PD.lenD, PD.mAdd, PD.ownL]
      · intro i z hz
        by_cases hi : i < ss.length
        · rw [List.getElem?_append_left hi] at hz
          exact hss i z hz
        · rw [List.getElem?_append_right (by omega)] at hz
          have : i = n := by
            by_cases h0 : i - ss.length = 0
            · omega
            · rw [List.getElem?_eq_none (by simp [PD.mK, PD.mVar, PD.m1, PD.m2, PD.mFz, PD.aNil, PD.aCons, PD.looks, PD.look, PD.dats, PD.mB, PD.truth, PD.tB, PD.tT, PD.tAnd, PD.tOr, PD.tNot, PD.mIf, PD.vAnd, PD.vOr, PD.vNot, PD.mCall, PD.sNx, PD.sSeq, PD.sDrop, PD.sIf, PD.ret, PD.sRet, PD.sRetN, PD.storeR, PD.store, PD.gN, PD.gNil, PD.gCons, PD.gT, PD.mut1, PD.setL, PD.gSub, PD.sSet, PD.sAsg, PD.stores, PD.noVar, PD.sPar, PD.items, PD.wSeq, PD.tYes, PD.sFor, PD.frz, PD.mTup, PD.mLst, PD.mChain, PD.mCallR, PD.once, PD.pass, PD.pass1, PD.back, PD.back1, PD.inS, PD.outS, PD.okArg, PD.outs, PD.fnD, PD.noEx, Md.mut, Md.ow, PD.eqD, PD.neD, PD.eqB, PD.eqS, PD.isD, PD.isntD, PD.isNonD, PD.addD, PD.subD, PD.modD, PD.fdivD, PD.negD, PD.keyD, PD.dgetD, PD.lenD, PD.mAdd, PD.ownL]; omega)] at hz; cases hz
          subst this
          rw [hl, Nat.sub_self] at hz
          cases hz
          exact ok
      · rw [List.map_append]; rfl) ⟨a1, b1, c1, [], none, none, none, none, none, none, none, rfl, fun i s h => by simp [PD.mK, PD.mVar, PD.m1, PD.m2, PD.mFz, PD.aNil, PD.aCons, PD.looks, PD.look, PD.dats, PD.mB, PD.truth, PD.tB, PD.tT, PD.tAnd, PD.tOr, PD.tNot, PD.mIf, PD.vAnd, PD.vOr, PD.vNot, PD.mCall, PD.sNx, PD.sSeq, PD.sDrop, PD.sIf, PD.ret, PD.sRet, PD.sRetN, PD.storeR, PD.store, PD.gN, PD.gNil, PD.gCons, PD.gT, PD.mut1, PD.setL, PD.gSub, PD.sSet, PD.sAsg, PD.stores, PD.noVar, PD.sPar, PD.items, PD.wSeq, PD.tYes, PD.sFor, PD.frz, PD.mTup, PD.mLst, PD.mChain, PD.mCallR, PD.once, PD.pass, PD.pass1, PD.back, PD.back1, PD.inS, PD.outS, PD.okArg, PD.outs, PD.fnD, PD.noEx, Md.mut, Md.ow, PD.eqD, PD.neD, PD.eqB, PD.eqS, PD.isD, PD.isntD, PD.isNonD, PD.addD, PD.subD, PD.modD, PD.fdivD, PD.negD, PD.keyD, PD.dgetD, PD.lenD, PD.mAdd, PD.ownL] at h, rfl⟩
  rw [Nat.zero_add, rngD_len] at hl
  obtain ⟨a3, b3, c3, r3, p3, q3, e3⟩ := take_ok a2 b2 c2 (C + 1) (by omega) (by omega)
  have hsl : (ss.map swD).length = ss.length := List.length_map ..
  obtain ⟨Γ2, f2, a4, b4, c4, ts, tt, am, hl2, hts, rfl⟩ := forD_inv (g := gN 3) (b := hB)
    (fun n Γ => ∃ a b c ts tt am, ts.length = n ∧ (∀ t, t ∈ ts → ThOk ss.length t) ∧ Γ = uE A B C a b c (ss.map swD) (ts.map thD) kk tt st am ab r s t cs)
    (rngD 0 r3.toNat) 0 (uE A B C a3 b3 c3 (ss.map swD) [] kk none st none ab r s t cs) (fun n d Γ hn ⟨a, b, c, ts, tt, am, hl', hts, e⟩ => by
      obtain ⟨rfl, hn'⟩ := rngD_get hn
      rw [Nat.zero_add] at hl'
      obtain ⟨a', b', c', th, am', ok, e'⟩ := hB_ok (A := A) (B := B) (C := C) a b c (ss.map swD) (ts.map thD) (by omega) (by omega) (by rw [List.length_map]; omega) kk (some (.int (n : Int))) st am ab r s t cs
      refine ⟨uE A B C a b c (ss.map swD) (ts.map thD) kk (some (.int (n : Int))) st am ab r s t cs, _, ?_, e', a', b', c', ts ++ [th], some (.int (n : Int)), am', ?_, ?_, ?_⟩
      · subst e
        cases tt <;> simp [PD.mK, PD.mVar, PD.m1, PD.m2, PD.mFz, PD.aNil, PD.aCons, PD.looks, PD.look, PD.dats, PD.mB, PD.truth, PD.tB, PD.tT, PD.tAnd, PD.tOr, PD.tNot, PD.mIf, PD.vAnd, PD.vOr, PD.vNot, PD.mCall, PD.sNx, PD.sSeq, PD.sDrop, PD.sIf, PD.ret, PD.sRet, PD.sRetN, PD.storeR, PD.store, PD.gN, PD.gNil, PD.gCons, PD.gT, PD.mut1, PD.setL, PD.gSub, PD.sSet, PD.sAsg, PD.stores, PD.noVar, PD.sPar, PD.items, PD.wSeq, PD.tYes, PD.sFor, PD.frz, PD.mTup, PD.mLst, PD.mChain, PD.mCallR, PD.once, PD.pass, PD.pass1, PD.back, PD.back1, PD.inS, PD.outS, PD.okArg, PD.outs, PD.fnD, PD.noEx, Md.mut, Md.ow, PD.eqD, PD.neD, PD.eqB, PD.eqS, PD.isD, PD.isntD, PD.isNonD, PD.addD, PD.subD, PD.modD, PD.fdivD, PD.negD, PD.keyD, PD.dgetD, PD.lenD, PD.mAdd, PD.ownL, od]
      · rw [List.length_append, hl']; simp [PD.mK, PD.mVar, PD.m1, PD.m2, PD.mFz, PD.aNil, PD.aCons, PD.looks, PD.look, PD.dats, PD.mB, PD.truth, PD.tB, PD.tT, PD.tAnd, PD.tOr, PD.tNot, PD.mIf, PD.vAnd, PD.vOr, PD.vNot, PD.mCall, PD.sNx, PD.sSeq, PD.sDrop, PD.sIf, PD.ret, PD.sRet, PD.sRetN, PD.storeR, PD.store, PD.gN, PD.gNil, PD.gCons, PD.gT, PD.mut1, PD.setL, PD.gSub, PD.sSet, PD.sAsg, PD.stores, PD.noVar, PD.sPar, PD.items, PD.wSeq, PD.tYes, PD.sFor, PD.frz, PD.mTup, PD.mLst, PD.mChain, PD.mCallR, PD.once, PD.pass, PD.pass1, PD.back, PD.back1, PD.inS, PD.outS, PD.okArg, PD.outs, PD.fnD, PD.noEx, Md.mut, Md.ow, PD.eqD, PD.neD, PD.eqB, PD.eqS, PD.isD, PD.isntD, PD.isNonD, PD.addD, PD.subD, PD.modD, PD.fdivD, PD.negD, PD.keyD, PD.dgetD, PD.lenD, PD.mAdd, PD.ownL]
      · intro z hz
        rcases List.mem_append.mp hz with h | h
        · exact hts z h
        · rw [List.mem_singleton] at h
          subst h
          rw [hsl] at ok
          exact ok
      · rw [List.map_append]; rfl) ⟨a3, b3, c3, [], none, none, rfl, fun t h => by simp [PD.mK, PD.mVar, PD.m1, PD.m2, PD.mFz, PD.aNil, PD.aCons, PD.looks, PD.look, PD.dats, PD.mB, PD.truth, PD.tB, PD.tT, PD.tAnd, PD.tOr, PD.tNot, PD.mIf, PD.vAnd, PD.vOr, PD.vNot, PD.mCall, PD.sNx, PD.sSeq, PD.sDrop, PD.sIf, PD.ret, PD.sRet, PD.sRetN, PD.storeR, PD.store, PD.gN, PD.gNil, PD.gCons, PD.gT, PD.mut1, PD.setL, PD.gSub, PD.sSet, PD.sAsg, PD.stores, PD.noVar, PD.sPar, PD.items, PD.wSeq, PD.tYes, PD.sFor, PD.frz, PD.mTup, PD.mLst, PD.mChain, PD.mCallR, PD.once, PD.pass, PD.pass1, PD.back, PD.back1, PD.inS, PD.outS, PD.okArg, PD.outs, PD.fnD, PD.noEx, Md.mut, Md.ow, PD.eqD, PD.neD, PD.eqB, PD.eqS, PD.isD, PD.isntD, PD.isNonD, PD.addD, PD.subD, PD.modD, PD.fdivD, PD.negD, PD.keyD, PD.dgetD, PD.lenD, PD.mAdd, PD.ownL] at h, rfl⟩
  rw [Nat.zero_add, rngD_len] at hl2
  refine ⟨a4, b4, c4, ss, ts, ⟨by omega, by omega, hss, by omega, hts⟩, ?_⟩
  have hb : B__law_board ([(⟨.own, pl a b c⟩ : Sl), ⟨.dat, mD A B C⟩].map inS ++ List.replicate 11 none) = .ok (.rt (.dat (bdD ss ts))) (uE A B C a4 b4 c4 (ss.map swD) (ts.map thD) kk tt st am ab r s t cs) := by
    have h0 : 0 ≤ LIM := by unfold LIM; omega
    have k1 : okR (1 + r1) = true := by unfold okR; simp [PD.mK, PD.mVar, PD.m1, PD.m2, PD.mFz, PD.aNil, PD.aCons, PD.looks, PD.look, PD.dats, PD.mB, PD.truth, PD.tB, PD.tT, PD.tAnd, PD.tOr, PD.tNot, PD.mIf, PD.vAnd, PD.vOr, PD.vNot, PD.mCall, PD.sNx, PD.sSeq, PD.sDrop, PD.sIf, PD.ret, PD.sRet, PD.sRetN, PD.storeR, PD.store, PD.gN, PD.gNil, PD.gCons, PD.gT, PD.mut1, PD.setL, PD.gSub, PD.sSet, PD.sAsg, PD.stores, PD.noVar, PD.sPar, PD.items, PD.wSeq, PD.tYes, PD.sFor, PD.frz, PD.mTup, PD.mLst, PD.mChain, PD.mCallR, PD.once, PD.pass, PD.pass1, PD.back, PD.back1, PD.inS, PD.outS, PD.okArg, PD.outs, PD.fnD, PD.noEx, Md.mut, Md.ow, PD.eqD, PD.neD, PD.eqB, PD.eqS, PD.isD, PD.isntD, PD.isNonD, PD.addD, PD.subD, PD.modD, PD.fdivD, PD.negD, PD.keyD, PD.dgetD, PD.lenD, PD.mAdd, PD.ownL]; omega
    have k2 : okR r3 = true := by unfold okR; simp [PD.mK, PD.mVar, PD.m1, PD.m2, PD.mFz, PD.aNil, PD.aCons, PD.looks, PD.look, PD.dats, PD.mB, PD.truth, PD.tB, PD.tT, PD.tAnd, PD.tOr, PD.tNot, PD.mIf, PD.vAnd, PD.vOr, PD.vNot, PD.mCall, PD.sNx, PD.sSeq, PD.sDrop, PD.sIf, PD.ret, PD.sRet, PD.sRetN, PD.storeR, PD.store, PD.gN, PD.gNil, PD.gCons, PD.gT, PD.mut1, PD.setL, PD.gSub, PD.sSet, PD.sAsg, PD.stores, PD.noVar, PD.sPar, PD.items, PD.wSeq, PD.tYes, PD.sFor, PD.frz, PD.mTup, PD.mLst, PD.mChain, PD.mCallR, PD.once, PD.pass, PD.pass1, PD.back, PD.back1, PD.inS, PD.outS, PD.okArg, PD.outs, PD.fnD, PD.noEx, Md.mut, Md.ow, PD.eqD, PD.neD, PD.eqB, PD.eqS, PD.isD, PD.isntD, PD.isNonD, PD.addD, PD.subD, PD.modD, PD.fdivD, PD.negD, PD.keyD, PD.dgetD, PD.lenD, PD.mAdd, PD.ownL]; omega
    unfold B__law_board
    rw [seq_nx (Γ' := tE A B C a b c [] [] none none none none none none none) (by simp [PD.mK, PD.mVar, PD.m1, PD.m2, PD.mFz, PD.aNil, PD.aCons, PD.looks, PD.look, PD.dats, PD.mB, PD.truth, PD.tB, PD.tT, PD.tAnd, PD.tOr, PD.tNot, PD.mIf, PD.vAnd, PD.vOr, PD.vNot, PD.mCall, PD.sNx, PD.sSeq, PD.sDrop, PD.sIf, PD.ret, PD.sRet, PD.sRetN, PD.storeR, PD.store, PD.gN, PD.gNil, PD.gCons, PD.gT, PD.mut1, PD.setL, PD.gSub, PD.sSet, PD.sAsg, PD.stores, PD.noVar, PD.sPar, PD.items, PD.wSeq, PD.tYes, PD.sFor, PD.frz, PD.mTup, PD.mLst, PD.mChain, PD.mCallR, PD.once, PD.pass, PD.pass1, PD.back, PD.back1, PD.inS, PD.outS, PD.okArg, PD.outs, PD.fnD, PD.noEx, Md.mut, Md.ow, PD.eqD, PD.neD, PD.eqB, PD.eqS, PD.isD, PD.isntD, PD.isNonD, PD.addD, PD.subD, PD.modD, PD.fdivD, PD.negD, PD.keyD, PD.dgetD, PD.lenD, PD.mAdd, PD.ownL, od, ow])]
    rw [seq_nx (Γ' := _) (by
      show PD.sFor _ _ bB _ = _
      unfold PD.sFor
      rw [show wRng1 (aCons (mAdd (mK (.int 1)) (mCall F__law_take [] (aCons (mVar 0) (aCons (m2 ixD (mVar 1) (mK (.int 0))) aNil)))) aNil) (tE A B C a b c [] [] none none none none none none none) = .ok (rngD 0 (1 + r1).toNat) (tE A B C a1 b1 c1 [] [] none none none none none none none) by
        simp [PD.mK, PD.mVar, PD.m1, PD.m2, PD.mFz, PD.aNil, PD.aCons, PD.looks, PD.look, PD.dats, PD.mB, PD.truth, PD.tB, PD.tT, PD.tAnd, PD.tOr, PD.tNot, PD.mIf, PD.vAnd, PD.vOr, PD.vNot, PD.mCall, PD.sNx, PD.sSeq, PD.sDrop, PD.sIf, PD.ret, PD.sRet, PD.sRetN, PD.storeR, PD.store, PD.gN, PD.gNil, PD.gCons, PD.gT, PD.mut1, PD.setL, PD.gSub, PD.sSet, PD.sAsg, PD.stores, PD.noVar, PD.sPar, PD.items, PD.wSeq, PD.tYes, PD.sFor, PD.frz, PD.mTup, PD.mLst, PD.mChain, PD.mCallR, PD.once, PD.pass, PD.pass1, PD.back, PD.back1, PD.inS, PD.outS, PD.okArg, PD.outs, PD.fnD, PD.noEx, Md.mut, Md.ow, PD.eqD, PD.neD, PD.eqB, PD.eqS, PD.isD, PD.isntD, PD.isNonD, PD.addD, PD.subD, PD.modD, PD.fdivD, PD.negD, PD.keyD, PD.dgetD, PD.lenD, PD.mAdd, PD.ownL, wRng1, e1, ixm0, k1, od, ow]]
      exact f1)]
    rw [seq_nx (Γ' := _) (by
      show PD.sFor _ _ hB _ = _
      unfold PD.sFor
      rw [show wRng1 (aCons (mCall F__law_take [] (aCons (mVar 0) (aCons (mAdd (m2 ixD (mVar 1) (mK (.int 2))) (mK (.int 1))) aNil))) aNil) (tE A B C a2 b2 c2 (ss.map swD) [] kk st ab r s t cs) = .ok (rngD 0 r3.toNat) (uE A B C a3 b3 c3 (ss.map swD) [] kk none st none ab r s t cs) by
        simp [PD.mK, PD.mVar, PD.m1, PD.m2, PD.mFz, PD.aNil, PD.aCons, PD.looks, PD.look, PD.dats, PD.mB, PD.truth, PD.tB, PD.tT, PD.tAnd, PD.tOr, PD.tNot, PD.mIf, PD.vAnd, PD.vOr, PD.vNot, PD.mCall, PD.sNx, PD.sSeq, PD.sDrop, PD.sIf, PD.ret, PD.sRet, PD.sRetN, PD.storeR, PD.store, PD.gN, PD.gNil, PD.gCons, PD.gT, PD.mut1, PD.setL, PD.gSub, PD.sSet, PD.sAsg, PD.stores, PD.noVar, PD.sPar, PD.items, PD.wSeq, PD.tYes, PD.sFor, PD.frz, PD.mTup, PD.mLst, PD.mChain, PD.mCallR, PD.once, PD.pass, PD.pass1, PD.back, PD.back1, PD.inS, PD.outS, PD.okArg, PD.outs, PD.fnD, PD.noEx, Md.mut, Md.ow, PD.eqD, PD.neD, PD.eqB, PD.eqS, PD.isD, PD.isntD, PD.isNonD, PD.addD, PD.subD, PD.modD, PD.fdivD, PD.negD, PD.keyD, PD.dgetD, PD.lenD, PD.mAdd, PD.ownL, wRng1, e3, ixm2, k2, od, ow]]
      exact f2)]
    simp [PD.mK, PD.mVar, PD.m1, PD.m2, PD.mFz, PD.aNil, PD.aCons, PD.looks, PD.look, PD.dats, PD.mB, PD.truth, PD.tB, PD.tT, PD.tAnd, PD.tOr, PD.tNot, PD.mIf, PD.vAnd, PD.vOr, PD.vNot, PD.mCall, PD.sNx, PD.sSeq, PD.sDrop, PD.sIf, PD.ret, PD.sRet, PD.sRetN, PD.storeR, PD.store, PD.gN, PD.gNil, PD.gCons, PD.gT, PD.mut1, PD.setL, PD.gSub, PD.sSet, PD.sAsg, PD.stores, PD.noVar, PD.sPar, PD.items, PD.wSeq, PD.tYes, PD.sFor, PD.frz, PD.mTup, PD.mLst, PD.mChain, PD.mCallR, PD.once, PD.pass, PD.pass1, PD.back, PD.back1, PD.inS, PD.outS, PD.okArg, PD.outs, PD.fnD, PD.noEx, Md.mut, Md.ow, PD.eqD, PD.neD, PD.eqB, PD.eqS, PD.isD, PD.isntD, PD.isNonD, PD.addD, PD.subD, PD.modD, PD.fdivD, PD.negD, PD.keyD, PD.dgetD, PD.lenD, PD.mAdd, PD.ownL, mDct2, tupD, bdD]
  exact of_fn (np := 2) (n := 13) (b := B__law_board) (ss := [(⟨.own, pl a b c⟩ : Sl), ⟨.dat, mD A B C⟩]) rfl rfl hb
/-- few currents -/
theorem dd_ok {ss : List Sw} {ts : List Th} (h : BdOk A B ss ts) (hB : B ≤ 20) (hAB : A ≤ 5 ∨ B ≤ 9) : (dd (allC ss)).length < 64 := by
  have hcv : ∀ s ∈ ss, s.curve.length ≤ 3 := fun s hs => by
    obtain ⟨i, hi⟩ := List.mem_iff_getElem?.mp hs
    have cv := (h.sw i s hi).cv
    generalize s.curve = q at cv
    cases cv <;> simp [PD.mK, PD.mVar, PD.m1, PD.m2, PD.mFz, PD.aNil, PD.aCons, PD.looks, PD.look, PD.dats, PD.mB, PD.truth, PD.tB, PD.tT, PD.tAnd, PD.tOr, PD.tNot, PD.mIf, PD.vAnd, PD.vOr, PD.vNot, PD.mCall, PD.sNx, PD.sSeq, PD.sDrop, PD.sIf, PD.ret, PD.sRet, PD.sRetN, PD.storeR, PD.store, PD.gN, PD.gNil, PD.gCons, PD.gT, PD.mut1, PD.setL, PD.gSub, PD.sSet, PD.sAsg, PD.stores, PD.noVar, PD.sPar, PD.items, PD.wSeq, PD.tYes, PD.sFor, PD.frz, PD.mTup, PD.mLst, PD.mChain, PD.mCallR, PD.once, PD.pass, PD.pass1, PD.back, PD.back1, PD.inS, PD.outS, PD.okArg, PD.outs, PD.fnD, PD.noEx, Md.mut, Md.ow, PD.eqD, PD.neD, PD.eqB, PD.eqS, PD.isD, PD.isntD, PD.isNonD, PD.addD, PD.subD, PD.modD, PD.fdivD, PD.negD, PD.keyD, PD.dgetD, PD.lenD, PD.mAdd, PD.ownL]
  rcases hAB with hA | hB9
  · have hl : ∀ l : List Sw, (∀ s ∈ l, s.curve.length ≤ 3) → (l.flatMap swC).length ≤ 10 * l.length := by
      intro l
      induction l with
      | nil => intro _; simp [PD.mK, PD.mVar, PD.m1, PD.m2, PD.mFz, PD.aNil, PD.aCons, PD.looks, PD.look, PD.dats, PD.mB, PD.truth, PD.tB, PD.tT, PD.tAnd, PD.tOr, PD.tNot, PD.mIf, PD.vAnd, PD.vOr, PD.vNot, PD.mCall, PD.sNx, PD.sSeq, PD.sDrop, PD.sIf, PD.ret, PD.sRet, PD.sRetN, PD.storeR, PD.store, PD.gN, PD.gNil, PD.gCons, PD.gT, PD.mut1, PD.setL, PD.gSub, PD.sSet, PD.sAsg, PD.stores, PD.noVar, PD.sPar, PD.items, PD.wSeq, PD.tYes, PD.sFor, PD.frz, PD.mTup, PD.mLst, PD.mChain, PD.mCallR, PD.once, PD.pass, PD.pass1, PD.back, PD.back1, PD.inS, PD.outS, PD.okArg, PD.outs, PD.fnD, PD.noEx, Md.mut, Md.ow, PD.eqD, PD.neD, PD.eqB, PD.eqS, PD.isD, PD.isntD, PD.isNonD, PD.addD, PD.subD, PD.modD, PD.fdivD, PD.negD, PD.keyD, PD.dgetD, PD.lenD, PD.mAdd, PD.ownL]
      | cons s l ih =>
        intro h
        have := ih fun s hs => h s (List.mem_cons_of_mem _ hs)
        have := h s List.mem_cons_self
        rw [List.flatMap_cons, List.length_append, List.length_cons]
        have : (swC s).length ≤ 10 := by unfold swC; simp [PD.mK, PD.mVar, PD.m1, PD.m2, PD.mFz, PD.aNil, PD.aCons, PD.looks, PD.look, PD.dats, PD.mB, PD.truth, PD.tB, PD.tT, PD.tAnd, PD.tOr, PD.tNot, PD.mIf, PD.vAnd, PD.vOr, PD.vNot, PD.mCall, PD.sNx, PD.sSeq, PD.sDrop, PD.sIf, PD.ret, PD.sRet, PD.sRetN, PD.storeR, PD.store, PD.gN, PD.gNil, PD.gCons, PD.gT, PD.mut1, PD.setL, PD.gSub, PD.sSet, PD.sAsg, PD.stores, PD.noVar, PD.sPar, PD.items, PD.wSeq, PD.tYes, PD.sFor, PD.frz, PD.mTup, PD.mLst, PD.mChain, PD.mCallR, PD.once, PD.pass, PD.pass1, PD.back, PD.back1, PD.inS, PD.outS, PD.okArg, PD.outs, PD.fnD, PD.noEx, Md.mut, Md.ow, PD.eqD, PD.neD, PD.eqB, PD.eqS, PD.isD, PD.isntD, PD.isNonD, PD.addD, PD.subD, PD.modD, PD.fdivD, PD.negD, PD.keyD, PD.dgetD, PD.lenD, PD.mAdd, PD.ownL]; omega
        omega
    have h1 := hl ss hcv
    have h2 := dd_le (allC ss)
    have h3 := h.nA
    have h4 : (allC ss).length = 4 + (ss.flatMap swC).length := by unfold allC; simp [PD.mK, PD.mVar, PD.m1, PD.m2, PD.mFz, PD.aNil, PD.aCons, PD.looks, PD.look, PD.dats, PD.mB, PD.truth, PD.tB, PD.tT, PD.tAnd, PD.tOr, PD.tNot, PD.mIf, PD.vAnd, PD.vOr, PD.vNot, PD.mCall, PD.sNx, PD.sSeq, PD.sDrop, PD.sIf, PD.ret, PD.sRet, PD.sRetN, PD.storeR, PD.store, PD.gN, PD.gNil, PD.gCons, PD.gT, PD.mut1, PD.setL, PD.gSub, PD.sSet, PD.sAsg, PD.stores, PD.noVar, PD.sPar, PD.items, PD.wSeq, PD.tYes, PD.sFor, PD.frz, PD.mTup, PD.mLst, PD.mChain, PD.mCallR, PD.once, PD.pass, PD.pass1, PD.back, PD.back1, PD.inS, PD.outS, PD.okArg, PD.outs, PD.fnD, PD.noEx, Md.mut, Md.ow, PD.eqD, PD.neD, PD.eqB, PD.eqS, PD.isD, PD.isntD, PD.isNonD, PD.addD, PD.subD, PD.modD, PD.fdivD, PD.negD, PD.keyD, PD.dgetD, PD.lenD, PD.mAdd, PD.ownL]; omega
    omega
  · have hm : ∀ x ∈ allC ss, (0 ≤ x ∧ x ≤ 37) ∨ x = 998 ∨ x = 999 ∨ x = 1000 := by
      intro x hx
      unfold allC at hx
      rcases List.mem_append.mp hx with hx | hx
      · simp [PD.mK, PD.mVar, PD.m1, PD.m2, PD.mFz, PD.aNil, PD.aCons, PD.looks, PD.look, PD.dats, PD.mB, PD.truth, PD.tB, PD.tT, PD.tAnd, PD.tOr, PD.tNot, PD.mIf, PD.vAnd, PD.vOr, PD.vNot, PD.mCall, PD.sNx, PD.sSeq, PD.sDrop, PD.sIf, PD.ret, PD.sRet, PD.sRetN, PD.storeR, PD.store, PD.gN, PD.gNil, PD.gCons, PD.gT, PD.mut1, PD.setL, PD.gSub, PD.sSet, PD.sAsg, PD.stores, PD.noVar, PD.sPar, PD.items, PD.wSeq, PD.tYes, PD.sFor, PD.frz, PD.mTup, PD.mLst, PD.mChain, PD.mCallR, PD.once, PD.pass, PD.pass1, PD.back, PD.back1, PD.inS, PD.outS, PD.okArg, PD.outs, PD.fnD, PD.noEx, Md.mut, Md.ow, PD.eqD, PD.neD, PD.eqB, PD.eqS, PD.isD, PD.isntD, PD.isNonD, PD.addD, PD.subD, PD.modD, PD.fdivD, PD.negD, PD.keyD, PD.dgetD, PD.lenD, PD.mAdd, PD.ownL] at hx; omega
      · obtain ⟨s, hs, hx⟩ := List.mem_flatMap.mp hx
        obtain ⟨i, hi⟩ := List.mem_iff_getElem?.mp hs
        have ok := h.sw i s hi
        have o1 := ok.r1
        have o2 := ok.r2
        have o3 := ok.s1
        have o4 := ok.s2
        have hst : ∀ p ∈ s.curve, 1 ≤ p.1 ∧ p.1 ≤ 1 + 3 * B ∧ 1 < p.1 := by
          have cv := ok.cv
          generalize s.curve = q at cv
          intro p hp
          cases cv <;> simp [PD.mK, PD.mVar, PD.m1, PD.m2, PD.mFz, PD.aNil, PD.aCons, PD.looks, PD.look, PD.dats, PD.mB, PD.truth, PD.tB, PD.tT, PD.tAnd, PD.tOr, PD.tNot, PD.mIf, PD.vAnd, PD.vOr, PD.vNot, PD.mCall, PD.sNx, PD.sSeq, PD.sDrop, PD.sIf, PD.ret, PD.sRet, PD.sRetN, PD.storeR, PD.store, PD.gN, PD.gNil, PD.gCons, PD.gT, PD.mut1, PD.setL, PD.gSub, PD.sSet, PD.sAsg, PD.stores, PD.noVar, PD.sPar, PD.items, PD.wSeq, PD.tYes, PD.sFor, PD.frz, PD.mTup, PD.mLst, PD.mChain, PD.mCallR, PD.once, PD.pass, PD.pass1, PD.back, PD.back1, PD.inS, PD.outS, PD.okArg, PD.outs, PD.fnD, PD.noEx, Md.mut, Md.ow, PD.eqD, PD.neD, PD.eqB, PD.eqS, PD.isD, PD.isntD, PD.isNonD, PD.addD, PD.subD, PD.modD, PD.fdivD, PD.negD, PD.keyD, PD.dgetD, PD.lenD, PD.mAdd, PD.ownL] at hp
          · subst hp; simp [PD.mK, PD.mVar, PD.m1, PD.m2, PD.mFz, PD.aNil, PD.aCons, PD.looks, PD.look, PD.dats, PD.mB, PD.truth, PD.tB, PD.tT, PD.tAnd, PD.tOr, PD.tNot, PD.mIf, PD.vAnd, PD.vOr, PD.vNot, PD.mCall, PD.sNx, PD.sSeq, PD.sDrop, PD.sIf, PD.ret, PD.sRet, PD.sRetN, PD.storeR, PD.store, PD.gN, PD.gNil, PD.gCons, PD.gT, PD.mut1, PD.setL, PD.gSub, PD.sSet, PD.sAsg, PD.stores, PD.noVar, PD.sPar, PD.items, PD.wSeq, PD.tYes, PD.sFor, PD.frz, PD.mTup, PD.mLst, PD.mChain, PD.mCallR, PD.once, PD.pass, PD.pass1, PD.back, PD.back1, PD.inS, PD.outS, PD.okArg, PD.outs, PD.fnD, PD.noEx, Md.mut, Md.ow, PD.eqD, PD.neD, PD.eqB, PD.eqS, PD.isD, PD.isntD, PD.isNonD, PD.addD, PD.subD, PD.modD, PD.fdivD, PD.negD, PD.keyD, PD.dgetD, PD.lenD, PD.mAdd, PD.ownL]; omega
          · rcases hp with rfl | rfl <;> simp [PD.mK, PD.mVar, PD.m1, PD.m2, PD.mFz, PD.aNil, PD.aCons, PD.looks, PD.look, PD.dats, PD.mB, PD.truth, PD.tB, PD.tT, PD.tAnd, PD.tOr, PD.tNot, PD.mIf, PD.vAnd, PD.vOr, PD.vNot, PD.mCall, PD.sNx, PD.sSeq, PD.sDrop, PD.sIf, PD.ret, PD.sRet, PD.sRetN, PD.storeR, PD.store, PD.gN, PD.gNil, PD.gCons, PD.gT, PD.mut1, PD.setL, PD.gSub, PD.sSet, PD.sAsg, PD.stores, PD.noVar, PD.sPar, PD.items, PD.wSeq, PD.tYes, PD.sFor, PD.frz, PD.mTup, PD.mLst, PD.mChain, PD.mCallR, PD.once, PD.pass, PD.pass1, PD.back, PD.back1, PD.inS, PD.outS, PD.okArg, PD.outs, PD.fnD, PD.noEx, Md.mut, Md.ow, PD.eqD, PD.neD, PD.eqB, PD.eqS, PD.isD, PD.isntD, PD.isNonD, PD.addD, PD.subD, PD.modD, PD.fdivD, PD.negD, PD.keyD, PD.dgetD, PD.lenD, PD.mAdd, PD.ownL] <;> omega
          · rcases hp with rfl | rfl | rfl <;> simp [PD.mK, PD.mVar, PD.m1, PD.m2, PD.mFz, PD.aNil, PD.aCons, PD.looks, PD.look, PD.dats, PD.mB, PD.truth, PD.tB, PD.tT, PD.tAnd, PD.tOr, PD.tNot, PD.mIf, PD.vAnd, PD.vOr, PD.vNot, PD.mCall, PD.sNx, PD.sSeq, PD.sDrop, PD.sIf, PD.ret, PD.sRet, PD.sRetN, PD.storeR, PD.store, PD.gN, PD.gNil, PD.gCons, PD.gT, PD.mut1, PD.setL, PD.gSub, PD.sSet, PD.sAsg, PD.stores, PD.noVar, PD.sPar, PD.items, PD.wSeq, PD.tYes, PD.sFor, PD.frz, PD.mTup, PD.mLst, PD.mChain, PD.mCallR, PD.once, PD.pass, PD.pass1, PD.back, PD.back1, PD.inS, PD.outS, PD.okArg, PD.outs, PD.fnD, PD.noEx, Md.mut, Md.ow, PD.eqD, PD.neD, PD.eqB, PD.eqS, PD.isD, PD.isntD, PD.isNonD, PD.addD, PD.subD, PD.modD, PD.fdivD, PD.negD, PD.keyD, PD.dgetD, PD.lenD, PD.mAdd, PD.ownL] <;> omega
        unfold swC at hx
        rcases List.mem_append.mp hx with hx | hx
        · rcases List.mem_append.mp hx with hx | hx
          · simp [PD.mK, PD.mVar, PD.m1, PD.m2, PD.mFz, PD.aNil, PD.aCons, PD.looks, PD.look, PD.dats, PD.mB, PD.truth, PD.tB, PD.tT, PD.tAnd, PD.tOr, PD.tNot, PD.mIf, PD.vAnd, PD.vOr, PD.vNot, PD.mCall, PD.sNx, PD.sSeq, PD.sDrop, PD.sIf, PD.ret, PD.sRet, PD.sRetN, PD.storeR, PD.store, PD.gN, PD.gNil, PD.gCons, PD.gT, PD.mut1, PD.setL, PD.gSub, PD.sSet, PD.sAsg, PD.stores, PD.noVar, PD.sPar, PD.items, PD.wSeq, PD.tYes, PD.sFor, PD.frz, PD.mTup, PD.mLst, PD.mChain, PD.mCallR, PD.once, PD.pass, PD.pass1, PD.back, PD.back1, PD.inS, PD.outS, PD.okArg, PD.outs, PD.fnD, PD.noEx, Md.mut, Md.ow, PD.eqD, PD.neD, PD.eqB, PD.eqS, PD.isD, PD.isntD, PD.isNonD, PD.addD, PD.subD, PD.modD, PD.fdivD, PD.negD, PD.keyD, PD.dgetD, PD.lenD, PD.mAdd, PD.ownL] at hx; omega
          · obtain ⟨p, hp, rfl⟩ := List.mem_map.mp hx
            have := hst p hp
            omega
        · obtain ⟨p, hp, rfl⟩ := List.mem_map.mp hx
          have := hst p hp
          omega
    have := nodup_sub (l := dd (allC ss)) (S := (List.range 38).map (fun n : Nat => (n : Int)) ++ [998, 999, 1000]) (dd_nodup _) fun x hx => by
      have := hm x (dd_mem.mp hx)
      by_cases h1 : 0 ≤ x ∧ x ≤ 37
      · exact List.mem_append_left _ (List.mem_map.mpr ⟨x.toNat, List.mem_range.mpr (by omega), by omega⟩)
      · refine List.mem_append_right _ ?_
        simp [PD.mK, PD.mVar, PD.m1, PD.m2, PD.mFz, PD.aNil, PD.aCons, PD.looks, PD.look, PD.dats, PD.mB, PD.truth, PD.tB, PD.tT, PD.tAnd, PD.tOr, PD.tNot, PD.mIf, PD.vAnd, PD.vOr, PD.vNot, PD.mCall, PD.sNx, PD.sSeq, PD.sDrop, PD.sIf, PD.ret, PD.sRet, PD.sRetN, PD.storeR, PD.store, PD.gN, PD.gNil, PD.gCons, PD.gT, PD.mut1, PD.setL, PD.gSub, PD.sSet, PD.sAsg, PD.stores, PD.noVar, PD.sPar, PD.items, PD.wSeq, PD.tYes, PD.sFor, PD.frz, PD.mTup, PD.mLst, PD.mChain, PD.mCallR, PD.once, PD.pass, PD.pass1, PD.back, PD.back1, PD.inS, PD.outS, PD.okArg, PD.outs, PD.fnD, PD.noEx, Md.mut, Md.ow, PD.eqD, PD.neD, PD.eqB, PD.eqS, PD.isD, PD.isntD, PD.isNonD, PD.addD, PD.subD, PD.modD, PD.fdivD, PD.negD, PD.keyD, PD.dgetD, PD.lenD, PD.mAdd, PD.ownL]
        omega
    simp [PD.mK, PD.mVar, PD.m1, PD.m2, PD.mFz, PD.aNil, PD.aCons, PD.looks, PD.look, PD.dats, PD.mB, PD.truth, PD.tB, PD.tT, PD.tAnd, PD.tOr, PD.tNot, PD.mIf, PD.vAnd, PD.vOr, PD.vNot, PD.mCall, PD.sNx, PD.sSeq, PD.sDrop, PD.sIf, PD.ret, PD.sRet, PD.sRetN, PD.storeR, PD.store, PD.gN, PD.gNil, PD.gCons, PD.gT, PD.mut1, PD.setL, PD.gSub, PD.sSet, PD.sAsg, PD.stores, PD.noVar, PD.sPar, PD.items, PD.wSeq, PD.tYes, PD.sFor, PD.frz, PD.mTup, PD.mLst, PD.mChain, PD.mCallR, PD.once, PD.pass, PD.pass1, PD.back, PD.back1, PD.inS, PD.outS, PD.okArg, PD.outs, PD.fnD, PD.noEx, Md.mut, Md.ow, PD.eqD, PD.neD, PD.eqB, PD.eqS, PD.isD, PD.isntD, PD.isNonD, PD.addD, PD.subD, PD.modD, PD.fdivD, PD.negD, PD.keyD, PD.dgetD, PD.lenD, PD.mAdd, PD.ownL] at this
    omega
end Lk41

namespace Lk41
open PySem PySem.Spec L2 PD
/-! ### the times that last (plain) -/
theorem countP_ins (p : Int → Bool) (i : Int) : ∀ l : List Int, (ins i l).countP p = (i :: l).countP p
  | [] => rfl
  | j :: r => by
    unfold ins
    split
    · rfl
    · rw [List.countP_cons, countP_ins p i r, List.countP_cons, List.countP_cons, List.countP_cons]
      omega
theorem countP_srt (p : Int → Bool) : ∀ l : List Int, (srt l).countP p = l.countP p
  | [] => rfl
  | i :: l => by
    show (ins i (srt l)).countP p = _
    rw [countP_ins, List.countP_cons, List.countP_cons, countP_srt p l]
theorem length_srt (l : List Int) : (srt l).length = l.length := by
  have h := countP_srt (fun _ => true) l
  simp only [List.countP_true] at h
  exact h
theorem mem_ins {x i : Int} : ∀ {l : List Int}, x ∈ ins i l ↔ x = i ∨ x ∈ l
  | [] => by simp [PD.mK, PD.mVar, PD.m1, PD.m2, PD.mFz, PD.aNil, PD.aCons, PD.looks, PD.look, PD.dats, PD.mB, PD.truth, PD.tB, PD.tT, PD.tAnd, PD.tOr, PD.tNot, PD.mIf, PD.vAnd, PD.vOr, PD.vNot, PD.mCall, PD.sNx, PD.sSeq, PD.sDrop, PD.sIf, PD.ret, PD.sRet, PD.sRetN, PD.storeR, PD.store, PD.gN, PD.gNil, PD.gCons, PD.gT, PD.mut1, PD.setL, PD.gSub, PD.sSet, PD.sAsg, PD.stores, PD.noVar, PD.sPar, PD.items, PD.wSeq, PD.tYes, PD.sFor, PD.frz, PD.mTup, PD.mLst, PD.mChain, PD.mCallR, PD.once, PD.pass, PD.pass1, PD.back, PD.back1, PD.inS, PD.outS, PD.okArg, PD.outs, PD.fnD, PD.noEx, Md.mut, Md.ow, PD.eqD, PD.neD, PD.eqB, PD.eqS, PD.isD, PD.isntD, PD.isNonD, PD.addD, PD.subD, PD.modD, PD.fdivD, PD.negD, PD.keyD, PD.dgetD, PD.lenD, PD.mAdd, PD.ownL, ins]
  | j :: r => by
    unfold ins
    split
    · simp [PD.mK, PD.mVar, PD.m1, PD.m2, PD.mFz, PD.aNil, PD.aCons, PD.looks, PD.look, PD.dats, PD.mB, PD.truth, PD.tB, PD.tT, PD.tAnd, PD.tOr, PD.tNot, PD.mIf, PD.vAnd, PD.vOr, PD.vNot, PD.mCall, PD.sNx, PD.sSeq, PD.sDrop, PD.sIf, PD.ret, PD.sRet, PD.sRetN, PD.storeR, PD.store, PD.gN, PD.gNil, PD.gCons, PD.gT, PD.mut1, PD.setL, PD.gSub, PD.sSet, PD.sAsg, PD.stores, PD.noVar, PD.sPar, PD.items, PD.wSeq, PD.tYes, PD.sFor, PD.frz, PD.mTup, PD.mLst, PD.mChain, PD.mCallR, PD.once, PD.pass, PD.pass1, PD.back, PD.back1, PD.inS, PD.outS, PD.okArg, PD.outs, PD.fnD, PD.noEx, Md.mut, Md.ow, PD.eqD, PD.neD, PD.eqB, PD.eqS, PD.isD, PD.isntD, PD.isNonD, PD.addD, PD.subD, PD.modD, PD.fdivD, PD.negD, PD.keyD, PD.dgetD, PD.lenD, PD.mAdd, PD.ownL]
    · rw [List.mem_cons, mem_ins, List.mem_cons]
      constructor
      · rintro (h | h | h)
        · exact .inr (.inl h)
        · exact .inl h
        · exact .inr (.inr h)
      · rintro (h | h | h)
        · exact .inr (.inl h)
        · exact .inl h
        · exact .inr (.inr h)
theorem mem_srt {x : Int} : ∀ {l : List Int}, x ∈ srt l ↔ x ∈ l
  | [] => Iff.rfl
  | i :: l => by
    show x ∈ ins i (srt l) ↔ _
    rw [mem_ins, mem_srt, List.mem_cons]
theorem sorted_ins (i : Int) : ∀ {l : List Int}, l.Pairwise (· ≤ ·) → (ins i l).Pairwise (· ≤ ·)
  | [], _ => by simp [PD.mK, PD.mVar, PD.m1, PD.m2, PD.mFz, PD.aNil, PD.aCons, PD.looks, PD.look, PD.dats, PD.mB, PD.truth, PD.tB, PD.tT, PD.tAnd, PD.tOr, PD.tNot, PD.mIf, PD.vAnd, PD.vOr, PD.vNot, PD.mCall, PD.sNx, PD.sSeq, PD.sDrop, PD.sIf, PD.ret, PD.sRet, PD.sRetN, PD.storeR, PD.store, PD.gN, PD.gNil, PD.gCons, PD.gT, PD.mut1, PD.setL, PD.gSub, PD.sSet, PD.sAsg, PD.stores, PD.noVar, PD.sPar, PD.items, PD.wSeq, PD.tYes, PD.sFor, PD.frz, PD.mTup, PD.mLst, PD.mChain, PD.mCallR, PD.once, PD.pass, PD.pass1, PD.back, PD.back1, PD.inS, PD.outS, PD.okArg, PD.outs, PD.fnD, PD.noEx, Md.mut, Md.ow, PD.eqD, PD.neD, PD.eqB, PD.eqS, PD.isD, PD.isntD, PD.isNonD, PD.addD, PD.subD, PD.modD, PD.fdivD, PD.negD, PD.keyD, PD.dgetD, PD.lenD, PD.mAdd, PD.ownL, ins]
  | j :: r, h => by
    obtain ⟨h1, h2⟩ := List.pairwise_cons.mp h
    unfold ins
    split
    · rename_i hij
      refine List.pairwise_cons.mpr ⟨fun x hx => ?_, h⟩
      rcases List.mem_cons.mp hx with rfl | hx
      · exact hij
      · have := h1 x hx; omega
    · rename_i hij
      refine List.pairwise_cons.mpr ⟨fun x hx => ?_, sorted_ins i h2⟩
      rcases mem_ins.mp hx with rfl | hx
      · omega
      · exact h1 x hx
theorem sorted_srt : ∀ l : List Int, (srt l).Pairwise (· ≤ ·)
  | [] => .nil
  | i :: l => sorted_ins i (sorted_srt l)
/-- the s-th of a list in order: so many are less, so many are at most it -/
theorem sorted_counts {l : List Int} (h : l.Pairwise (· ≤ ·)) {s : Nat} (hs : s < l.length) : l.countP (fun x => decide (x < l[s])) ≤ s ∧ s + 1 ≤ l.countP (fun x => decide (x ≤ l[s])) := by
  induction l generalizing s with
  | nil => exact absurd hs (by simp [PD.mK, PD.mVar, PD.m1, PD.m2, PD.mFz, PD.aNil, PD.aCons, PD.looks, PD.look, PD.dats, PD.mB, PD.truth, PD.tB, PD.tT, PD.tAnd, PD.tOr, PD.tNot, PD.mIf, PD.vAnd, PD.vOr, PD.vNot, PD.mCall, PD.sNx, PD.sSeq, PD.sDrop, PD.sIf, PD.ret, PD.sRet, PD.sRetN, PD.storeR, PD.store, PD.gN, PD.gNil, PD.gCons, PD.gT, PD.mut1, PD.setL, PD.gSub, PD.sSet, PD.sAsg, PD.stores, PD.noVar, PD.sPar, PD.items, PD.wSeq, PD.tYes, PD.sFor, PD.frz, PD.mTup, PD.mLst, PD.mChain, PD.mCallR, PD.once, PD.pass, PD.pass1, PD.back, PD.back1, PD.inS, PD.outS, PD.okArg, PD.outs, PD.fnD, PD.noEx, Md.mut, Md.ow, PD.eqD, PD.neD, PD.eqB, PD.eqS, PD.isD, PD.isntD, PD.isNonD, PD.addD, PD.subD, PD.modD, PD.fdivD, PD.negD, PD.keyD, PD.dgetD, PD.lenD, PD.mAdd, PD.ownL])
  | cons a l ih =>
    obtain ⟨h1, h2⟩ := List.pairwise_cons.mp h
    match s, hs with
    | 0, hs =>
      simp only [List.getElem_cons_zero]
      constructor
      · have : (a :: l).countP (fun x => decide (x < a)) = 0 := by
          rw [List.countP_eq_zero]
          intro x hx
          rcases List.mem_cons.mp hx with rfl | hx
          · simp [PD.mK, PD.mVar, PD.m1, PD.m2, PD.mFz, PD.aNil, PD.aCons, PD.looks, PD.look, PD.dats, PD.mB, PD.truth, PD.tB, PD.tT, PD.tAnd, PD.tOr, PD.tNot, PD.mIf, PD.vAnd, PD.vOr, PD.vNot, PD.mCall, PD.sNx, PD.sSeq, PD.sDrop, PD.sIf, PD.ret, PD.sRet, PD.sRetN, PD.storeR, PD.store, PD.gN, PD.gNil, PD.gCons, PD.gT, PD.mut1, PD.setL, PD.gSub, PD.sSet, PD.sAsg, PD.stores, PD.noVar, PD.sPar, PD.items, PD.wSeq, PD.tYes, PD.sFor, PD.frz, PD.mTup, PD.mLst, PD.mChain, PD.mCallR, PD.once, PD.pass, PD.pass1, PD.back, PD.back1, PD.inS, PD.outS, PD.okArg, PD.outs, PD.fnD, PD.noEx, Md.mut, Md.ow, PD.eqD, PD.neD, PD.eqB, PD.eqS, PD.isD, PD.isntD, PD.isNonD, PD.addD, PD.subD, PD.modD, PD.fdivD, PD.negD, PD.keyD, PD.dgetD, PD.lenD, PD.mAdd, PD.ownL]
          · have := h1 x hx; simp [PD.mK, PD.mVar, PD.m1, PD.m2, PD.mFz, PD.aNil, PD.aCons, PD.looks, PD.look, PD.dats, PD.mB, PD.truth, PD.tB, PD.tT, PD.tAnd, PD.tOr, PD.tNot, PD.mIf, PD.vAnd, PD.vOr, PD.vNot, PD.mCall, PD.sNx, PD.sSeq, PD.sDrop, PD.sIf, PD.ret, PD.sRet, PD.sRetN, PD.storeR, PD.store, PD.gN, PD.gNil, PD.gCons, PD.gT, PD.mut1, PD.setL, PD.gSub, PD.sSet, PD.sAsg, PD.stores, PD.noVar, PD.sPar, PD.items, PD.wSeq, PD.tYes, PD.sFor, PD.frz, PD.mTup, PD.mLst, PD.mChain, PD.mCallR, PD.once, PD.pass, PD.pass1, PD.back, PD.back1, PD.inS, PD.outS, PD.okArg, PD.outs, PD.fnD, PD.noEx, Md.mut, Md.ow, PD.eqD, PD.neD, PD.eqB, PD.eqS, PD.isD, PD.isntD, PD.isNonD, PD.addD, PD.subD, PD.modD, PD.fdivD, PD.negD, PD.keyD, PD.dgetD, PD.lenD, PD.mAdd, PD.ownL]; omega
        omega
      · rw [List.countP_cons]; simp [PD.mK, PD.mVar, PD.m1, PD.m2, PD.mFz, PD.aNil, PD.aCons, PD.looks, PD.look, PD.dats, PD.mB, PD.truth, PD.tB, PD.tT, PD.tAnd, PD.tOr, PD.tNot, PD.mIf, PD.vAnd, PD.vOr, PD.vNot, PD.mCall, PD.sNx, PD.sSeq, PD.sDrop, PD.sIf, PD.ret, PD.sRet, PD.sRetN, PD.storeR, PD.store, PD.gN, PD.gNil, PD.gCons, PD.gT, PD.mut1, PD.setL, PD.gSub, PD.sSet, PD.sAsg, PD.stores, PD.noVar, PD.sPar, PD.items, PD.wSeq, PD.tYes, PD.sFor, PD.frz, PD.mTup, PD.mLst, PD.mChain, PD.mCallR, PD.once, PD.pass, PD.pass1, PD.back, PD.back1, PD.inS, PD.outS, PD.okArg, PD.outs, PD.fnD, PD.noEx, Md.mut, Md.ow, PD.eqD, PD.neD, PD.eqB, PD.eqS, PD.isD, PD.isntD, PD.isNonD, PD.addD, PD.subD, PD.modD, PD.fdivD, PD.negD, PD.keyD, PD.dgetD, PD.lenD, PD.mAdd, PD.ownL]
    | s + 1, hs =>
      simp only [List.getElem_cons_succ]
      have hs' : s < l.length := by simp [PD.mK, PD.mVar, PD.m1, PD.m2, PD.mFz, PD.aNil, PD.aCons, PD.looks, PD.look, PD.dats, PD.mB, PD.truth, PD.tB, PD.tT, PD.tAnd, PD.tOr, PD.tNot, PD.mIf, PD.vAnd, PD.vOr, PD.vNot, PD.mCall, PD.sNx, PD.sSeq, PD.sDrop, PD.sIf, PD.ret, PD.sRet, PD.sRetN, PD.storeR, PD.store, PD.gN, PD.gNil, PD.gCons, PD.gT, PD.mut1, PD.setL, PD.gSub, PD.sSet, PD.sAsg, PD.stores, PD.noVar, PD.sPar, PD.items, PD.wSeq, PD.tYes, PD.sFor, PD.frz, PD.mTup, PD.mLst, PD.mChain, PD.mCallR, PD.once, PD.pass, PD.pass1, PD.back, PD.back1, PD.inS, PD.outS, PD.okArg, PD.outs, PD.fnD, PD.noEx, Md.mut, Md.ow, PD.eqD, PD.neD, PD.eqB, PD.eqS, PD.isD, PD.isntD, PD.isNonD, PD.addD, PD.subD, PD.modD, PD.fdivD, PD.negD, PD.keyD, PD.dgetD, PD.lenD, PD.mAdd, PD.ownL] at hs; omega
      obtain ⟨i1, i2⟩ := ih h2 hs'
      have ha : a ≤ l[s] := h1 _ (List.getElem_mem hs')
      constructor
      · rw [List.countP_cons]
        split <;> omega
      · rw [List.countP_cons]
        have : decide (a ≤ l[s]) = true := by simp [PD.mK, PD.mVar, PD.m1, PD.m2, PD.mFz, PD.aNil, PD.aCons, PD.looks, PD.look, PD.dats, PD.mB, PD.truth, PD.tB, PD.tT, PD.tAnd, PD.tOr, PD.tNot, PD.mIf, PD.vAnd, PD.vOr, PD.vNot, PD.mCall, PD.sNx, PD.sSeq, PD.sDrop, PD.sIf, PD.ret, PD.sRet, PD.sRetN, PD.storeR, PD.store, PD.gN, PD.gNil, PD.gCons, PD.gT, PD.mut1, PD.setL, PD.gSub, PD.sSet, PD.sAsg, PD.stores, PD.noVar, PD.sPar, PD.items, PD.wSeq, PD.tYes, PD.sFor, PD.frz, PD.mTup, PD.mLst, PD.mChain, PD.mCallR, PD.once, PD.pass, PD.pass1, PD.back, PD.back1, PD.inS, PD.outS, PD.okArg, PD.outs, PD.fnD, PD.noEx, Md.mut, Md.ow, PD.eqD, PD.neD, PD.eqB, PD.eqS, PD.isD, PD.isntD, PD.isNonD, PD.addD, PD.subD, PD.modD, PD.fdivD, PD.negD, PD.keyD, PD.dgetD, PD.lenD, PD.mAdd, PD.ownL, ha]
        rw [if_pos this]
        omega
def restOf (tm : Int → Option Int) (P lot : List Int) : List Int := (P.filter fun j => !decide (j ∈ lot)).filterMap tm
/-- the s-th least of the times, if there are so many -/
def lastP (tm : Int → Option Int) (P : List Int) (s : Nat) : Option Int := (srt (P.filterMap tm))[s]?
theorem countP_fm (tm : Int → Option Int) (p : Int → Bool) : ∀ P : List Int, (P.filterMap tm).countP p = P.countP fun j => match tm j with | some t => p t | none => false
  | [] => rfl
  | j :: P => by
    rw [List.filterMap_cons, List.countP_cons]
    cases h : tm j with
    | none => simp only; rw [countP_fm tm p P]; simp [PD.mK, PD.mVar, PD.m1, PD.m2, PD.mFz, PD.aNil, PD.aCons, PD.looks, PD.look, PD.dats, PD.mB, PD.truth, PD.tB, PD.tT, PD.tAnd, PD.tOr, PD.tNot, PD.mIf, PD.vAnd, PD.vOr, PD.vNot, PD.mCall, PD.sNx, PD.sSeq, PD.sDrop, PD.sIf, PD.ret, PD.sRet, PD.sRetN, PD.storeR, PD.store, PD.gN, PD.gNil, PD.gCons, PD.gT, PD.mut1, PD.setL, PD.gSub, PD.sSet, PD.sAsg, PD.stores, PD.noVar, PD.sPar, PD.items, PD.wSeq, PD.tYes, PD.sFor, PD.frz, PD.mTup, PD.mLst, PD.mChain, PD.mCallR, PD.once, PD.pass, PD.pass1, PD.back, PD.back1, PD.inS, PD.outS, PD.okArg, PD.outs, PD.fnD, PD.noEx, Md.mut, Md.ow, PD.eqD, PD.neD, PD.eqB, PD.eqS, PD.isD, PD.isntD, PD.isNonD, PD.addD, PD.subD, PD.modD, PD.fdivD, PD.negD, PD.keyD, PD.dgetD, PD.lenD, PD.mAdd, PD.ownL]
    | some t => simp only; rw [List.countP_cons, countP_fm tm p P]
theorem length_fm (tm : Int → Option Int) (P : List Int) : (P.filterMap tm).length = P.countP fun j => (tm j).isSome := by
  have h := countP_fm tm (fun _ => true) P
  rw [List.countP_true] at h
  rw [h]
  refine congrArg (fun q => List.countP q P) (funext fun j => ?_)
  cases tm j <;> rfl
theorem count_in {P lot : List Int} (hP : P.Nodup) : P.countP (fun j => decide (j ∈ lot)) ≤ lot.length := by
  rw [List.countP_eq_length_filter]
  exact nodup_sub (hP.filter _) fun x hx => by simpa using (List.mem_filter.mp hx).2
theorem count_split (q r : Int → Bool) : ∀ P : List Int, P.countP q ≤ P.countP (fun j => !r j && q j) + P.countP r
  | [] => by simp [PD.mK, PD.mVar, PD.m1, PD.m2, PD.mFz, PD.aNil, PD.aCons, PD.looks, PD.look, PD.dats, PD.mB, PD.truth, PD.tB, PD.tT, PD.tAnd, PD.tOr, PD.tNot, PD.mIf, PD.vAnd, PD.vOr, PD.vNot, PD.mCall, PD.sNx, PD.sSeq, PD.sDrop, PD.sIf, PD.ret, PD.sRet, PD.sRetN, PD.storeR, PD.store, PD.gN, PD.gNil, PD.gCons, PD.gT, PD.mut1, PD.setL, PD.gSub, PD.sSet, PD.sAsg, PD.stores, PD.noVar, PD.sPar, PD.items, PD.wSeq, PD.tYes, PD.sFor, PD.frz, PD.mTup, PD.mLst, PD.mChain, PD.mCallR, PD.once, PD.pass, PD.pass1, PD.back, PD.back1, PD.inS, PD.outS, PD.okArg, PD.outs, PD.fnD, PD.noEx, Md.mut, Md.ow, PD.eqD, PD.neD, PD.eqB, PD.eqS, PD.isD, PD.isntD, PD.isNonD, PD.addD, PD.subD, PD.modD, PD.fdivD, PD.negD, PD.keyD, PD.dgetD, PD.lenD, PD.mAdd, PD.ownL]
  | j :: P => by
    have := count_split q r P
    rw [List.countP_cons, List.countP_cons, List.countP_cons]
    cases q j <;> cases r j <;> simp [PD.mK, PD.mVar, PD.m1, PD.m2, PD.mFz, PD.aNil, PD.aCons, PD.looks, PD.look, PD.dats, PD.mB, PD.truth, PD.tB, PD.tT, PD.tAnd, PD.tOr, PD.tNot, PD.mIf, PD.vAnd, PD.vOr, PD.vNot, PD.mCall, PD.sNx, PD.sSeq, PD.sDrop, PD.sIf, PD.ret, PD.sRet, PD.sRetN, PD.storeR, PD.store, PD.gN, PD.gNil, PD.gCons, PD.gT, PD.mut1, PD.setL, PD.gSub, PD.sSet, PD.sAsg, PD.stores, PD.noVar, PD.sPar, PD.items, PD.wSeq, PD.tYes, PD.sFor, PD.frz, PD.mTup, PD.mLst, PD.mChain, PD.mCallR, PD.once, PD.pass, PD.pass1, PD.back, PD.back1, PD.inS, PD.outS, PD.okArg, PD.outs, PD.fnD, PD.noEx, Md.mut, Md.ow, PD.eqD, PD.neD, PD.eqB, PD.eqS, PD.isD, PD.isntD, PD.isNonD, PD.addD, PD.subD, PD.modD, PD.fdivD, PD.negD, PD.keyD, PD.dgetD, PD.lenD, PD.mAdd, PD.ownL] <;> omega
theorem count_rest (tm : Int → Option Int) (p : Int → Bool) {P lot : List Int} (hP : P.Nodup) : (P.filterMap tm).countP p ≤ (restOf tm P lot).countP p + lot.length := by
  have h1 := count_split (fun j => match tm j with | some t => p t | none => false) (fun j => decide (j ∈ lot)) P
  have h2 := count_in (lot := lot) hP
  unfold restOf
  rw [countP_fm, countP_fm, List.countP_filter]
  have e : P.countP (fun a => (match tm a with | some t => p t | none => false) && !decide (a ∈ lot)) = P.countP (fun j => !decide (j ∈ lot) && match tm j with | some t => p t | none => false) :=
    congrArg (fun q => List.countP q P) (funext fun j => Bool.and_comm _ _)
  rw [e]
  omega
theorem min_mem : ∀ {l : List Int}, l ≠ [] → minI l ∈ l
  | [a], _ => by simp [PD.mK, PD.mVar, PD.m1, PD.m2, PD.mFz, PD.aNil, PD.aCons, PD.looks, PD.look, PD.dats, PD.mB, PD.truth, PD.tB, PD.tT, PD.tAnd, PD.tOr, PD.tNot, PD.mIf, PD.vAnd, PD.vOr, PD.vNot, PD.mCall, PD.sNx, PD.sSeq, PD.sDrop, PD.sIf, PD.ret, PD.sRet, PD.sRetN, PD.storeR, PD.store, PD.gN, PD.gNil, PD.gCons, PD.gT, PD.mut1, PD.setL, PD.gSub, PD.sSet, PD.sAsg, PD.stores, PD.noVar, PD.sPar, PD.items, PD.wSeq, PD.tYes, PD.sFor, PD.frz, PD.mTup, PD.mLst, PD.mChain, PD.mCallR, PD.once, PD.pass, PD.pass1, PD.back, PD.back1, PD.inS, PD.outS, PD.okArg, PD.outs, PD.fnD, PD.noEx, Md.mut, Md.ow, PD.eqD, PD.neD, PD.eqB, PD.eqS, PD.isD, PD.isntD, PD.isNonD, PD.addD, PD.subD, PD.modD, PD.fdivD, PD.negD, PD.keyD, PD.dgetD, PD.lenD, PD.mAdd, PD.ownL, minI]
  | a :: b :: r, _ => by
    have ih := min_mem (l := b :: r) (by simp [PD.mK, PD.mVar, PD.m1, PD.m2, PD.mFz, PD.aNil, PD.aCons, PD.looks, PD.look, PD.dats, PD.mB, PD.truth, PD.tB, PD.tT, PD.tAnd, PD.tOr, PD.tNot, PD.mIf, PD.vAnd, PD.vOr, PD.vNot, PD.mCall, PD.sNx, PD.sSeq, PD.sDrop, PD.sIf, PD.ret, PD.sRet, PD.sRetN, PD.storeR, PD.store, PD.gN, PD.gNil, PD.gCons, PD.gT, PD.mut1, PD.setL, PD.gSub, PD.sSet, PD.sAsg, PD.stores, PD.noVar, PD.sPar, PD.items, PD.wSeq, PD.tYes, PD.sFor, PD.frz, PD.mTup, PD.mLst, PD.mChain, PD.mCallR, PD.once, PD.pass, PD.pass1, PD.back, PD.back1, PD.inS, PD.outS, PD.okArg, PD.outs, PD.fnD, PD.noEx, Md.mut, Md.ow, PD.eqD, PD.neD, PD.eqB, PD.eqS, PD.isD, PD.isntD, PD.isNonD, PD.addD, PD.subD, PD.modD, PD.fdivD, PD.negD, PD.keyD, PD.dgetD, PD.lenD, PD.mAdd, PD.ownL])
    rw [show minI (a :: b :: r) = if minI (b :: r) < a then minI (b :: r) else a from rfl]
    split
    · exact List.mem_cons_of_mem _ ih
    · exact List.mem_cons_self
theorem min_le_of : ∀ {l : List Int} {y : Int}, y ∈ l → minI l ≤ y
  | [a], y, h => by simp [PD.mK, PD.mVar, PD.m1, PD.m2, PD.mFz, PD.aNil, PD.aCons, PD.looks, PD.look, PD.dats, PD.mB, PD.truth, PD.tB, PD.tT, PD.tAnd, PD.tOr, PD.tNot, PD.mIf, PD.vAnd, PD.vOr, PD.vNot, PD.mCall, PD.sNx, PD.sSeq, PD.sDrop, PD.sIf, PD.ret, PD.sRet, PD.sRetN, PD.storeR, PD.store, PD.gN, PD.gNil, PD.gCons, PD.gT, PD.mut1, PD.setL, PD.gSub, PD.sSet, PD.sAsg, PD.stores, PD.noVar, PD.sPar, PD.items, PD.wSeq, PD.tYes, PD.sFor, PD.frz, PD.mTup, PD.mLst, PD.mChain, PD.mCallR, PD.once, PD.pass, PD.pass1, PD.back, PD.back1, PD.inS, PD.outS, PD.okArg, PD.outs, PD.fnD, PD.noEx, Md.mut, Md.ow, PD.eqD, PD.neD, PD.eqB, PD.eqS, PD.isD, PD.isntD, PD.isNonD, PD.addD, PD.subD, PD.modD, PD.fdivD, PD.negD, PD.keyD, PD.dgetD, PD.lenD, PD.mAdd, PD.ownL] at h; subst h; simp [PD.mK, PD.mVar, PD.m1, PD.m2, PD.mFz, PD.aNil, PD.aCons, PD.looks, PD.look, PD.dats, PD.mB, PD.truth, PD.tB, PD.tT, PD.tAnd, PD.tOr, PD.tNot, PD.mIf, PD.vAnd, PD.vOr, PD.vNot, PD.mCall, PD.sNx, PD.sSeq, PD.sDrop, PD.sIf, PD.ret, PD.sRet, PD.sRetN, PD.storeR, PD.store, PD.gN, PD.gNil, PD.gCons, PD.gT, PD.mut1, PD.setL, PD.gSub, PD.sSet, PD.sAsg, PD.stores, PD.noVar, PD.sPar, PD.items, PD.wSeq, PD.tYes, PD.sFor, PD.frz, PD.mTup, PD.mLst, PD.mChain, PD.mCallR, PD.once, PD.pass, PD.pass1, PD.back, PD.back1, PD.inS, PD.outS, PD.okArg, PD.outs, PD.fnD, PD.noEx, Md.mut, Md.ow, PD.eqD, PD.neD, PD.eqB, PD.eqS, PD.isD, PD.isntD, PD.isNonD, PD.addD, PD.subD, PD.modD, PD.fdivD, PD.negD, PD.keyD, PD.dgetD, PD.lenD, PD.mAdd, PD.ownL, minI]
  | a :: b :: r, y, h => by
    rw [show minI (a :: b :: r) = if minI (b :: r) < a then minI (b :: r) else a from rfl]
    rcases List.mem_cons.mp h with rfl | h
    · split <;> omega
    · have := min_le_of (l := b :: r) h
      split <;> omega
section
variable {tm : Int → Option Int} {P : List Int} {s : Nat}
theorem rest_some (hP : P.Nodup) {lot : List Int} (hl : lot.length ≤ s) (hs : s < (P.filterMap tm).length) : restOf tm P lot ≠ [] := fun h => by
  have := count_rest tm (fun _ => true) (lot := lot) hP
  rw [h, List.countP_true] at this
  simp [PD.mK, PD.mVar, PD.m1, PD.m2, PD.mFz, PD.aNil, PD.aCons, PD.looks, PD.look, PD.dats, PD.mB, PD.truth, PD.tB, PD.tT, PD.tAnd, PD.tOr, PD.tNot, PD.mIf, PD.vAnd, PD.vOr, PD.vNot, PD.mCall, PD.sNx, PD.sSeq, PD.sDrop, PD.sIf, PD.ret, PD.sRet, PD.sRetN, PD.storeR, PD.store, PD.gN, PD.gNil, PD.gCons, PD.gT, PD.mut1, PD.setL, PD.gSub, PD.sSet, PD.sAsg, PD.stores, PD.noVar, PD.sPar, PD.items, PD.wSeq, PD.tYes, PD.sFor, PD.frz, PD.mTup, PD.mLst, PD.mChain, PD.mCallR, PD.once, PD.pass, PD.pass1, PD.back, PD.back1, PD.inS, PD.outS, PD.okArg, PD.outs, PD.fnD, PD.noEx, Md.mut, Md.ow, PD.eqD, PD.neD, PD.eqB, PD.eqS, PD.isD, PD.isntD, PD.isNonD, PD.addD, PD.subD, PD.modD, PD.fdivD, PD.negD, PD.keyD, PD.dgetD, PD.lenD, PD.mAdd, PD.ownL] at this
  omega
theorem rest_le (hP : P.Nodup) {lot : List Int} (hl : lot.length ≤ s) {v : Int} (hv : lastP tm P s = some v) : minI (restOf tm P lot) ≤ v := by
  unfold lastP at hv
  obtain ⟨hs, hv⟩ := List.getElem?_eq_some_iff.mp hv
  have h1 := (sorted_counts (sorted_srt (P.filterMap tm)) hs).2
  rw [hv, countP_srt] at h1
  have h2 := count_rest tm (fun x => decide (x ≤ v)) (lot := lot) hP
  have h3 : 0 < (restOf tm P lot).countP (fun x => decide (x ≤ v)) := by omega
  obtain ⟨x, hx, hxv⟩ := List.countP_pos_iff.mp h3
  have := min_le_of hx
  have : x ≤ v := by simpa using hxv
  omega
/-- the lot that leaves nothing below v -/
def lotBelow (tm : Int → Option Int) (P : List Int) (n : Nat) (q : Int → Bool) : List Int := ((List.range n).map fun k : Nat => (k : Int)).filter fun j => decide (j ∈ P) && (match tm j with | some t => q t | none => false)
theorem lotBelow_len (q : Int → Bool) (n : Nat) : (lotBelow tm P n q).length ≤ (P.filterMap tm).countP q := by
  rw [countP_fm, List.countP_eq_length_filter]
  refine nodup_sub ?_ fun x hx => ?_
  · refine List.Pairwise.filter _ ?_
    rw [List.pairwise_map]
    exact List.pairwise_lt_range.imp fun h z => by omega
  · have := (List.mem_filter.mp hx).2
    rw [Bool.and_eq_true] at this
    exact List.mem_filter.mpr ⟨by simpa using this.1, this.2⟩
theorem lotBelow_rest (q : Int → Bool) {n : Nat} (hn : ∀ j ∈ P, 0 ≤ j ∧ j < (n : Int)) {x : Int} (hx : x ∈ restOf tm P (lotBelow tm P n q)) : q x = false := by
  unfold restOf at hx
  obtain ⟨j, hj, ht⟩ := List.mem_filterMap.mp hx
  obtain ⟨hjP, hj⟩ := List.mem_filter.mp hj
  cases hq : q x with
  | false => rfl
  | true =>
    exfalso
    have : j ∈ lotBelow tm P n q := by
      refine List.mem_filter.mpr ⟨List.mem_map.mpr ⟨j.toNat, List.mem_range.mpr (by have := hn j hjP; omega), by have := hn j hjP; omega⟩, ?_⟩
      rw [ht]
      simp [PD.mK, PD.mVar, PD.m1, PD.m2, PD.mFz, PD.aNil, PD.aCons, PD.looks, PD.look, PD.dats, PD.mB, PD.truth, PD.tB, PD.tT, PD.tAnd, PD.tOr, PD.tNot, PD.mIf, PD.vAnd, PD.vOr, PD.vNot, PD.mCall, PD.sNx, PD.sSeq, PD.sDrop, PD.sIf, PD.ret, PD.sRet, PD.sRetN, PD.storeR, PD.store, PD.gN, PD.gNil, PD.gCons, PD.gT, PD.mut1, PD.setL, PD.gSub, PD.sSet, PD.sAsg, PD.stores, PD.noVar, PD.sPar, PD.items, PD.wSeq, PD.tYes, PD.sFor, PD.frz, PD.mTup, PD.mLst, PD.mChain, PD.mCallR, PD.once, PD.pass, PD.pass1, PD.back, PD.back1, PD.inS, PD.outS, PD.okArg, PD.outs, PD.fnD, PD.noEx, Md.mut, Md.ow, PD.eqD, PD.neD, PD.eqB, PD.eqS, PD.isD, PD.isntD, PD.isNonD, PD.addD, PD.subD, PD.modD, PD.fdivD, PD.negD, PD.keyD, PD.dgetD, PD.lenD, PD.mAdd, PD.ownL, hjP, hq]
    simp [PD.mK, PD.mVar, PD.m1, PD.m2, PD.mFz, PD.aNil, PD.aCons, PD.looks, PD.look, PD.dats, PD.mB, PD.truth, PD.tB, PD.tT, PD.tAnd, PD.tOr, PD.tNot, PD.mIf, PD.vAnd, PD.vOr, PD.vNot, PD.mCall, PD.sNx, PD.sSeq, PD.sDrop, PD.sIf, PD.ret, PD.sRet, PD.sRetN, PD.storeR, PD.store, PD.gN, PD.gNil, PD.gCons, PD.gT, PD.mut1, PD.setL, PD.gSub, PD.sSet, PD.sAsg, PD.stores, PD.noVar, PD.sPar, PD.items, PD.wSeq, PD.tYes, PD.sFor, PD.frz, PD.mTup, PD.mLst, PD.mChain, PD.mCallR, PD.once, PD.pass, PD.pass1, PD.back, PD.back1, PD.inS, PD.outS, PD.okArg, PD.outs, PD.fnD, PD.noEx, Md.mut, Md.ow, PD.eqD, PD.neD, PD.eqB, PD.eqS, PD.isD, PD.isntD, PD.isNonD, PD.addD, PD.subD, PD.modD, PD.fdivD, PD.negD, PD.keyD, PD.dgetD, PD.lenD, PD.mAdd, PD.ownL, this] at hj
theorem rest_ge {n : Nat} (hP : P.Nodup) (hn : ∀ j ∈ P, 0 ≤ j ∧ j < (n : Int)) {v : Int} (hv : lastP tm P s = some v) : ∃ lot, lot = lotBelow tm P n (fun x => decide (x < v)) ∧ lot.length ≤ s ∧ v ≤ minI (restOf tm P lot) := by
  refine ⟨_, rfl, ?_, ?_⟩
  · unfold lastP at hv
    obtain ⟨hs, hv⟩ := List.getElem?_eq_some_iff.mp hv
    have h1 := (sorted_counts (sorted_srt (P.filterMap tm)) hs).1
    rw [hv, countP_srt] at h1
    exact Nat.le_trans (lotBelow_len _ _) h1
  · have hl : (lotBelow tm P n (fun x => decide (x < v))).length ≤ s := by
      unfold lastP at hv
      obtain ⟨hs, hv⟩ := List.getElem?_eq_some_iff.mp hv
      have h1 := (sorted_counts (sorted_srt (P.filterMap tm)) hs).1
      rw [hv, countP_srt] at h1
      exact Nat.le_trans (lotBelow_len _ _) h1
    have hs : s < (P.filterMap tm).length := by
      unfold lastP at hv
      obtain ⟨hs, _⟩ := List.getElem?_eq_some_iff.mp hv
      rw [length_srt] at hs
      exact hs
    have hm := min_mem (rest_some hP hl hs)
    have := lotBelow_rest (fun x => decide (x < v)) hn hm
    simp [PD.mK, PD.mVar, PD.m1, PD.m2, PD.mFz, PD.aNil, PD.aCons, PD.looks, PD.look, PD.dats, PD.mB, PD.truth, PD.tB, PD.tT, PD.tAnd, PD.tOr, PD.tNot, PD.mIf, PD.vAnd, PD.vOr, PD.vNot, PD.mCall, PD.sNx, PD.sSeq, PD.sDrop, PD.sIf, PD.ret, PD.sRet, PD.sRetN, PD.storeR, PD.store, PD.gN, PD.gNil, PD.gCons, PD.gT, PD.mut1, PD.setL, PD.gSub, PD.sSet, PD.sAsg, PD.stores, PD.noVar, PD.sPar, PD.items, PD.wSeq, PD.tYes, PD.sFor, PD.frz, PD.mTup, PD.mLst, PD.mChain, PD.mCallR, PD.once, PD.pass, PD.pass1, PD.back, PD.back1, PD.inS, PD.outS, PD.okArg, PD.outs, PD.fnD, PD.noEx, Md.mut, Md.ow, PD.eqD, PD.neD, PD.eqB, PD.eqS, PD.isD, PD.isntD, PD.isNonD, PD.addD, PD.subD, PD.modD, PD.fdivD, PD.negD, PD.keyD, PD.dgetD, PD.lenD, PD.mAdd, PD.ownL] at this
    exact this
theorem rest_none {n : Nat} (hn : ∀ j ∈ P, 0 ≤ j ∧ j < (n : Int)) (hv : lastP tm P s = none) : ∃ lot, lot = lotBelow tm P n (fun _ => true) ∧ lot.length ≤ s ∧ restOf tm P lot = [] := by
  refine ⟨_, rfl, ?_, ?_⟩
  · unfold lastP at hv
    have := List.getElem?_eq_none_iff.mp hv
    rw [length_srt] at this
    have h := lotBelow_len (tm := tm) (P := P) (fun _ => true) n
    rw [List.countP_true] at h
    omega
  · refine List.eq_nil_iff_forall_not_mem.mpr fun x hx => ?_
    have := lotBelow_rest (fun _ => true) hn hx
    cases this
end
/-! ### all lots of at most so many -/
def asc : List Int → Bool
  | a :: b :: r => decide (a < b) && asc (b :: r)
  | _ => true
def putOn (n : Nat) (lot : List Int) : List (List Int) := (((List.range n).map fun k : Nat => (k : Int)).filter fun t => lot.isEmpty || (match lot.getLast? with | some x => decide (x < t) | none => false)).map fun t => lot ++ [t]
def grow (n : Nat) (edge : List (List Int)) : List (List Int) := edge.flatMap (putOn n)
def lotsS (n : Nat) : Nat → List (List Int) × List (List Int)
  | 0 => ([[]], [[]])
  | k + 1 => ((lotsS n k).1 ++ grow n (lotsS n k).2, grow n (lotsS n k).2)
def LotOk (n : Nat) (lot : List Int) : Prop := asc lot = true ∧ ∀ j ∈ lot, 0 ≤ j ∧ j < (n : Int)
theorem asc_init : ∀ {l : List Int} {t : Int}, asc (l ++ [t]) = true → asc l = true ∧ ∀ x, l.getLast? = some x → x < t
  | [], t, _ => ⟨rfl, fun x h => by cases h⟩
  | [a], t, h => by
    simp [PD.mK, PD.mVar, PD.m1, PD.m2, PD.mFz, PD.aNil, PD.aCons, PD.looks, PD.look, PD.dats, PD.mB, PD.truth, PD.tB, PD.tT, PD.tAnd, PD.tOr, PD.tNot, PD.mIf, PD.vAnd, PD.vOr, PD.vNot, PD.mCall, PD.sNx, PD.sSeq, PD.sDrop, PD.sIf, PD.ret, PD.sRet, PD.sRetN, PD.storeR, PD.store, PD.gN, PD.gNil, PD.gCons, PD.gT, PD.mut1, PD.setL, PD.gSub, PD.sSet, PD.sAsg, PD.stores, PD.noVar, PD.sPar, PD.items, PD.wSeq, PD.tYes, PD.sFor, PD.frz, PD.mTup, PD.mLst, PD.mChain, PD.mCallR, PD.once, PD.pass, PD.pass1, PD.back, PD.back1, PD.inS, PD.outS, PD.okArg, PD.outs, PD.fnD, PD.noEx, Md.mut, Md.ow, PD.eqD, PD.neD, PD.eqB, PD.eqS, PD.isD, PD.isntD, PD.isNonD, PD.addD, PD.subD, PD.modD, PD.fdivD, PD.negD, PD.keyD, PD.dgetD, PD.lenD, PD.mAdd, PD.ownL, asc] at h
    exact ⟨rfl, fun x e => by simp [PD.mK, PD.mVar, PD.m1, PD.m2, PD.mFz, PD.aNil, PD.aCons, PD.looks, PD.look, PD.dats, PD.mB, PD.truth, PD.tB, PD.tT, PD.tAnd, PD.tOr, PD.tNot, PD.mIf, PD.vAnd, PD.vOr, PD.vNot, PD.mCall, PD.sNx, PD.sSeq, PD.sDrop, PD.sIf, PD.ret, PD.sRet, PD.sRetN, PD.storeR, PD.store, PD.gN, PD.gNil, PD.gCons, PD.gT, PD.mut1, PD.setL, PD.gSub, PD.sSet, PD.sAsg, PD.stores, PD.noVar, PD.sPar, PD.items, PD.wSeq, PD.tYes, PD.sFor, PD.frz, PD.mTup, PD.mLst, PD.mChain, PD.mCallR, PD.once, PD.pass, PD.pass1, PD.back, PD.back1, PD.inS, PD.outS, PD.okArg, PD.outs, PD.fnD, PD.noEx, Md.mut, Md.ow, PD.eqD, PD.neD, PD.eqB, PD.eqS, PD.isD, PD.isntD, PD.isNonD, PD.addD, PD.subD, PD.modD, PD.fdivD, PD.negD, PD.keyD, PD.dgetD, PD.lenD, PD.mAdd, PD.ownL] at e; omega⟩
  | a :: b :: r, t, h => by
    simp only [List.cons_append, asc, Bool.and_eq_true, decide_eq_true_eq] at h
    obtain ⟨i1, i2⟩ := asc_init (l := b :: r) (t := t) h.2
    refine ⟨by simp only [asc, Bool.and_eq_true, decide_eq_true_eq]; exact ⟨h.1, i1⟩, fun x hx => ?_⟩
    rw [List.getLast?_cons_cons] at hx
    exact i2 x hx
theorem edge_len (n : Nat) : ∀ (k : Nat) (lot : List Int), lot ∈ (lotsS n k).2 → lot.length = k
  | 0, lot, h => by
    have : lot = [] := by simpa [lotsS] using h
    rw [this]; rfl
  | k + 1, lot, h => by
    obtain ⟨e, he, hl⟩ := List.mem_flatMap.mp (show lot ∈ (lotsS n k).2.flatMap (putOn n) from h)
    obtain ⟨t, _, rfl⟩ := List.mem_map.mp hl
    rw [List.length_append, edge_len n k e he]
    rfl
theorem lots_len (n : Nat) : ∀ (k : Nat) (lot : List Int), lot ∈ (lotsS n k).1 → lot.length ≤ k
  | 0, lot, h => by
    have : lot = [] := by simpa [lotsS] using h
    rw [this]; exact Nat.le_refl _
  | k + 1, lot, h => by
    rcases List.mem_append.mp (show lot ∈ (lotsS n k).1 ++ grow n (lotsS n k).2 from h) with h | h
    · have := lots_len n k lot h; omega
    · have := edge_len n (k + 1) lot h; omega
theorem edge_all (n : Nat) : ∀ (k : Nat) (lot : List Int), LotOk n lot → lot.length = k → lot ∈ (lotsS n k).2
  | 0, lot, _, h => by
    have : lot = [] := List.length_eq_zero_iff.mp h
    rw [this]; exact List.mem_cons_self
  | k + 1, lot, ok, h => by
    rcases List.eq_nil_or_concat lot with e | ⟨l, t, e⟩
    · rw [e] at h; cases h
    · rw [List.concat_eq_append] at e
      subst e
      obtain ⟨i1, i2⟩ := asc_init ok.1
      have hl : l.length = k := by rw [List.length_append] at h; simpa using h
      have ih := edge_all n k l ⟨i1, fun j hj => ok.2 j (List.mem_append_left _ hj)⟩ hl
      refine List.mem_flatMap.mpr ⟨l, ih, List.mem_map.mpr ⟨t, List.mem_filter.mpr ⟨?_, ?_⟩, rfl⟩⟩
      · have := ok.2 t (List.mem_append_right _ List.mem_cons_self)
        exact List.mem_map.mpr ⟨t.toNat, List.mem_range.mpr (by omega), by omega⟩
      · cases hg : l.getLast? with
        | none =>
          rw [List.getLast?_eq_none_iff] at hg
          rw [hg]; rfl
        | some x =>
          have := i2 x hg
          simp [PD.mK, PD.mVar, PD.m1, PD.m2, PD.mFz, PD.aNil, PD.aCons, PD.looks, PD.look, PD.dats, PD.mB, PD.truth, PD.tB, PD.tT, PD.tAnd, PD.tOr, PD.tNot, PD.mIf, PD.vAnd, PD.vOr, PD.vNot, PD.mCall, PD.sNx, PD.sSeq, PD.sDrop, PD.sIf, PD.ret, PD.sRet, PD.sRetN, PD.storeR, PD.store, PD.gN, PD.gNil, PD.gCons, PD.gT, PD.mut1, PD.setL, PD.gSub, PD.sSet, PD.sAsg, PD.stores, PD.noVar, PD.sPar, PD.items, PD.wSeq, PD.tYes, PD.sFor, PD.frz, PD.mTup, PD.mLst, PD.mChain, PD.mCallR, PD.once, PD.pass, PD.pass1, PD.back, PD.back1, PD.inS, PD.outS, PD.okArg, PD.outs, PD.fnD, PD.noEx, Md.mut, Md.ow, PD.eqD, PD.neD, PD.eqB, PD.eqS, PD.isD, PD.isntD, PD.isNonD, PD.addD, PD.subD, PD.modD, PD.fdivD, PD.negD, PD.keyD, PD.dgetD, PD.lenD, PD.mAdd, PD.ownL, this]
theorem lots_all (n : Nat) : ∀ (k : Nat) (lot : List Int), LotOk n lot → lot.length ≤ k → lot ∈ (lotsS n k).1
  | 0, lot, _, h => by
    have : lot = [] := List.length_eq_zero_iff.mp (by omega)
    rw [this]; exact List.mem_cons_self
  | k + 1, lot, ok, h => by
    by_cases he : lot.length = k + 1
    · exact List.mem_append_right _ (edge_all n (k + 1) lot ok he)
    · exact List.mem_append_left _ (lots_all n k lot ok (by omega))
theorem asc_filter (p : Int → Bool) : ∀ l : List Int, l.Pairwise (· < ·) → asc (l.filter p) = true := by
  intro l h
  have h2 := h.filter p
  generalize l.filter p = m at h2
  induction m with
  | nil => rfl
  | cons a m ih =>
    obtain ⟨h3, h4⟩ := List.pairwise_cons.mp h2
    cases m with
    | nil => rfl
    | cons b r =>
      simp only [asc, Bool.and_eq_true, decide_eq_true_eq]
      exact ⟨h3 b List.mem_cons_self, ih h4⟩
theorem lotBelow_ok (tm : Int → Option Int) (P : List Int) (n : Nat) (q : Int → Bool) : LotOk n (lotBelow tm P n q) := by
  refine ⟨asc_filter _ _ ?_, fun j hj => ?_⟩
  · rw [List.pairwise_map]
    exact List.pairwise_lt_range.imp fun h => by omega
  · obtain ⟨k, hk, rfl⟩ := List.mem_map.mp (List.mem_filter.mp hj).1
    have := List.mem_range.mp hk
    omega
theorem lotOk_len {n : Nat} {lot : List Int} (h : LotOk n lot) : lot.length ≤ n := by
  have : lot.Nodup := by
    have : lot.Pairwise (· < ·) := by
      have h1 := h.1
      clear h
      induction lot with
      | nil => exact .nil
      | cons a l ih =>
        cases l with
        | nil => simp [PD.mK, PD.mVar, PD.m1, PD.m2, PD.mFz, PD.aNil, PD.aCons, PD.looks, PD.look, PD.dats, PD.mB, PD.truth, PD.tB, PD.tT, PD.tAnd, PD.tOr, PD.tNot, PD.mIf, PD.vAnd, PD.vOr, PD.vNot, PD.mCall, PD.sNx, PD.sSeq, PD.sDrop, PD.sIf, PD.ret, PD.sRet, PD.sRetN, PD.storeR, PD.store, PD.gN, PD.gNil, PD.gCons, PD.gT, PD.mut1, PD.setL, PD.gSub, PD.sSet, PD.sAsg, PD.stores, PD.noVar, PD.sPar, PD.items, PD.wSeq, PD.tYes, PD.sFor, PD.frz, PD.mTup, PD.mLst, PD.mChain, PD.mCallR, PD.once, PD.pass, PD.pass1, PD.back, PD.back1, PD.inS, PD.outS, PD.okArg, PD.outs, PD.fnD, PD.noEx, Md.mut, Md.ow, PD.eqD, PD.neD, PD.eqB, PD.eqS, PD.isD, PD.isntD, PD.isNonD, PD.addD, PD.subD, PD.modD, PD.fdivD, PD.negD, PD.keyD, PD.dgetD, PD.lenD, PD.mAdd, PD.ownL]
        | cons b r =>
          simp only [asc, Bool.and_eq_true, decide_eq_true_eq] at h1
          have i := ih h1.2
          refine List.pairwise_cons.mpr ⟨fun x hx => ?_, i⟩
          rcases List.mem_cons.mp hx with rfl | hx
          · exact h1.1
          · have := (List.pairwise_cons.mp i).1 x hx; omega
    exact this.imp fun h z => by omega
  have h2 := nodup_sub (S := (List.range n).map fun k : Nat => (k : Int)) this fun x hx => List.mem_map.mpr ⟨x.toNat, List.mem_range.mpr (by have := h.2 x hx; omega), by have := h.2 x hx; omega⟩
  simpa using h2
end Lk41

namespace Lk41
open PySem PySem.Spec L2 PD
variable {A B : Int} {ss : List Sw} {ts : List Th}
/-! ### the path of a switch -/
def up (ss : List Sw) : Nat → Int → List Int
  | 0, i => [i]
  | n + 1, i => i :: (match (ss[i.toNat]?).bind (·.above) with | none => [] | some j => up ss n j)
def pathOf (ss : List Sw) (i : Int) : List Int := up ss i.toNat i
/-- each switch hangs on an earlier one -/
def Hangs (ss : List Sw) : Prop := ∀ (i : Nat) s, ss[i]? = some s → (i = 0 → s.above = none) ∧ ∀ j : Int, s.above = some j → 0 ≤ j ∧ j < i
theorem BdOk.hangs (h : BdOk A B ss ts) : Hangs ss := fun i s hs => by
  have := h.sw i s hs
  refine ⟨this.a0, fun j hj => ?_⟩
  by_cases hi : i = 0
  · rw [this.a0 hi] at hj; cases hj
  · obtain ⟨k, e, h0, h1⟩ := this.a1 hi
    rw [e] at hj
    cases hj
    exact ⟨h0, h1⟩
theorem fld_th : fld 0 "things" (objD ss ts) = some (.dat (.tup (ts.map thD))) := by rfl
theorem ix_lastT (l : List D) (x : D) : ixD (.tup (l ++ [x])) (.int (-1)) = some (.dat x) := by
  have : atI (l ++ [x]) (-1) = some x := by
    have h : ixN (l ++ [x]).length (-1) = some l.length := by
      simp [PD.mK, PD.mVar, PD.m1, PD.m2, PD.mFz, PD.aNil, PD.aCons, PD.looks, PD.look, PD.dats, PD.mB, PD.truth, PD.tB, PD.tT, PD.tAnd, PD.tOr, PD.tNot, PD.mIf, PD.vAnd, PD.vOr, PD.vNot, PD.mCall, PD.sNx, PD.sSeq, PD.sDrop, PD.sIf, PD.ret, PD.sRet, PD.sRetN, PD.storeR, PD.store, PD.gN, PD.gNil, PD.gCons, PD.gT, PD.mut1, PD.setL, PD.gSub, PD.sSet, PD.sAsg, PD.stores, PD.noVar, PD.sPar, PD.items, PD.wSeq, PD.tYes, PD.sFor, PD.frz, PD.mTup, PD.mLst, PD.mChain, PD.mCallR, PD.once, PD.pass, PD.pass1, PD.back, PD.back1, PD.inS, PD.outS, PD.okArg, PD.outs, PD.fnD, PD.noEx, Md.mut, Md.ow, PD.eqD, PD.neD, PD.eqB, PD.eqS, PD.isD, PD.isntD, PD.isNonD, PD.addD, PD.subD, PD.modD, PD.fdivD, PD.negD, PD.keyD, PD.dgetD, PD.lenD, PD.mAdd, PD.ownL, ixN]
      omega
    unfold atI
    rw [h]
    simp [PD.mK, PD.mVar, PD.m1, PD.m2, PD.mFz, PD.aNil, PD.aCons, PD.looks, PD.look, PD.dats, PD.mB, PD.truth, PD.tB, PD.tT, PD.tAnd, PD.tOr, PD.tNot, PD.mIf, PD.vAnd, PD.vOr, PD.vNot, PD.mCall, PD.sNx, PD.sSeq, PD.sDrop, PD.sIf, PD.ret, PD.sRet, PD.sRetN, PD.storeR, PD.store, PD.gN, PD.gNil, PD.gCons, PD.gT, PD.mut1, PD.setL, PD.gSub, PD.sSet, PD.sAsg, PD.stores, PD.noVar, PD.sPar, PD.items, PD.wSeq, PD.tYes, PD.sFor, PD.frz, PD.mTup, PD.mLst, PD.mChain, PD.mCallR, PD.once, PD.pass, PD.pass1, PD.back, PD.back1, PD.inS, PD.outS, PD.okArg, PD.outs, PD.fnD, PD.noEx, Md.mut, Md.ow, PD.eqD, PD.neD, PD.eqB, PD.eqS, PD.isD, PD.isntD, PD.isNonD, PD.addD, PD.subD, PD.modD, PD.fdivD, PD.negD, PD.keyD, PD.dgetD, PD.lenD, PD.mAdd, PD.ownL]
  simp [PD.mK, PD.mVar, PD.m1, PD.m2, PD.mFz, PD.aNil, PD.aCons, PD.looks, PD.look, PD.dats, PD.mB, PD.truth, PD.tB, PD.tT, PD.tAnd, PD.tOr, PD.tNot, PD.mIf, PD.vAnd, PD.vOr, PD.vNot, PD.mCall, PD.sNx, PD.sSeq, PD.sDrop, PD.sIf, PD.ret, PD.sRet, PD.sRetN, PD.storeR, PD.store, PD.gN, PD.gNil, PD.gCons, PD.gT, PD.mut1, PD.setL, PD.gSub, PD.sSet, PD.sAsg, PD.stores, PD.noVar, PD.sPar, PD.items, PD.wSeq, PD.tYes, PD.sFor, PD.frz, PD.mTup, PD.mLst, PD.mChain, PD.mCallR, PD.once, PD.pass, PD.pass1, PD.back, PD.back1, PD.inS, PD.outS, PD.okArg, PD.outs, PD.fnD, PD.noEx, Md.mut, Md.ow, PD.eqD, PD.neD, PD.eqB, PD.eqS, PD.isD, PD.isntD, PD.isNonD, PD.addD, PD.subD, PD.modD, PD.fdivD, PD.negD, PD.keyD, PD.dgetD, PD.lenD, PD.mAdd, PD.ownL, ixD, this]
theorem sw_above (s : Sw) : ixD (swD s) (.int 0) = some (.dat (oD s.above)) := by simp [PD.mK, PD.mVar, PD.m1, PD.m2, PD.mFz, PD.aNil, PD.aCons, PD.looks, PD.look, PD.dats, PD.mB, PD.truth, PD.tB, PD.tT, PD.tAnd, PD.tOr, PD.tNot, PD.mIf, PD.vAnd, PD.vOr, PD.vNot, PD.mCall, PD.sNx, PD.sSeq, PD.sDrop, PD.sIf, PD.ret, PD.sRet, PD.sRetN, PD.storeR, PD.store, PD.gN, PD.gNil, PD.gCons, PD.gT, PD.mut1, PD.setL, PD.gSub, PD.sSet, PD.sAsg, PD.stores, PD.noVar, PD.sPar, PD.items, PD.wSeq, PD.tYes, PD.sFor, PD.frz, PD.mTup, PD.mLst, PD.mChain, PD.mCallR, PD.once, PD.pass, PD.pass1, PD.back, PD.back1, PD.inS, PD.outS, PD.okArg, PD.outs, PD.fnD, PD.noEx, Md.mut, Md.ow, PD.eqD, PD.neD, PD.eqB, PD.eqS, PD.isD, PD.isntD, PD.isNonD, PD.addD, PD.subD, PD.modD, PD.fdivD, PD.negD, PD.keyD, PD.dgetD, PD.lenD, PD.mAdd, PD.ownL, swD, ixD, atI, ixN]
theorem sw_rating (s : Sw) : ixD (swD s) (.int 1) = some (.dat (.int s.rating)) := by simp [PD.mK, PD.mVar, PD.m1, PD.m2, PD.mFz, PD.aNil, PD.aCons, PD.looks, PD.look, PD.dats, PD.mB, PD.truth, PD.tB, PD.tT, PD.tAnd, PD.tOr, PD.tNot, PD.mIf, PD.vAnd, PD.vOr, PD.vNot, PD.mCall, PD.sNx, PD.sSeq, PD.sDrop, PD.sIf, PD.ret, PD.sRet, PD.sRetN, PD.storeR, PD.store, PD.gN, PD.gNil, PD.gCons, PD.gT, PD.mut1, PD.setL, PD.gSub, PD.sSet, PD.sAsg, PD.stores, PD.noVar, PD.sPar, PD.items, PD.wSeq, PD.tYes, PD.sFor, PD.frz, PD.mTup, PD.mLst, PD.mChain, PD.mCallR, PD.once, PD.pass, PD.pass1, PD.back, PD.back1, PD.inS, PD.outS, PD.okArg, PD.outs, PD.fnD, PD.noEx, Md.mut, Md.ow, PD.eqD, PD.neD, PD.eqB, PD.eqS, PD.isD, PD.isntD, PD.isNonD, PD.addD, PD.subD, PD.modD, PD.fdivD, PD.negD, PD.keyD, PD.dgetD, PD.lenD, PD.mAdd, PD.ownL, swD, ixD, atI, ixN]
theorem isnt_oD (x : Option Int) : isntD (oD x) .non = some (.dat (.bl x.isSome)) := by cases x <;> rfl
theorem up_stop (n : Nat) (i : Int) (h : (ss[i.toNat]?).bind (·.above) = none) : up ss n i = [i] := by
  cases n with
  | zero => rfl
  | succ n => unfold up; rw [h]
theorem dats_pre (x y : D) : ∀ l : List Int, dats (List.map (Rv.dat ∘ D.int) l ++ [Rv.dat x, Rv.dat y]) = some (l.map D.int ++ [x, y])
  | [] => rfl
  | i :: l => by
    have ih := dats_pre x y l
    simp only [List.map_cons, List.cons_append, Function.comp, dats] at ih ⊢
    rw [ih]
    rfl
/-- a while that goes up: c asks whether the last has one above, b puts it on -/
theorem up_while {c : M Bool} {b : M Fl} {E : List Int → EnD} (hs : Hangs ss)
    (hc : ∀ (l : List Int) (i : Nat) (s : Sw), ss[i]? = some s → c (E (l ++ [(i : Int)])) = .ok s.above.isSome (E (l ++ [(i : Int)])))
    (hb : ∀ (l : List Int) (i : Nat) (s : Sw) (j : Int), ss[i]? = some s → s.above = some j → l.length ≤ 100 → b (E (l ++ [(i : Int)])) = .ok .nx (E (l ++ [(i : Int)] ++ [j]))) :
    ∀ (n i : Nat) (l : List Int), i ≤ n → i < ss.length → l.length + i ≤ 100 → whileD c b (n + 1) (E (l ++ [(i : Int)])) = .ok .nx (E (l ++ up ss n (i : Int)))
  | n, i, l, hn, hi, hl => by
    have hget : ss[i]? = some ss[i] := List.getElem?_eq_getElem hi
    generalize ss[i] = s at hget
    have hc' := hc l i s hget
    have hbind : (ss[(i : Int).toNat]?).bind (·.above) = s.above := by rw [Int.toNat_natCast, hget]; rfl
    cases ha : s.above with
    | none =>
      rw [up_stop n (i : Int) (by rw [hbind, ha])]
      rw [ha] at hc'
      show (c _).bind _ = _
      rw [hc']
      rfl
    | some j =>
      rw [ha] at hc'
      obtain ⟨h0, h1⟩ := (hs i s hget).2 j ha
      match n, hn with
      | 0, hn =>
        have : i = 0 := by omega
        rw [(hs i s hget).1 this] at ha
        cases ha
      | n + 1, hn =>
        have hb' := hb l i s j hget ha (by omega)
        obtain ⟨k, rfl⟩ : ∃ k : Nat, j = (k : Int) := ⟨j.toNat, by omega⟩
        have ih := up_while hs hc hb n k (l ++ [(i : Int)]) (by omega) (by omega) (by rw [List.length_append]; simp [PD.mK, PD.mVar, PD.m1, PD.m2, PD.mFz, PD.aNil, PD.aCons, PD.looks, PD.look, PD.dats, PD.mB, PD.truth, PD.tB, PD.tT, PD.tAnd, PD.tOr, PD.tNot, PD.mIf, PD.vAnd, PD.vOr, PD.vNot, PD.mCall, PD.sNx, PD.sSeq, PD.sDrop, PD.sIf, PD.ret, PD.sRet, PD.sRetN, PD.storeR, PD.store, PD.gN, PD.gNil, PD.gCons, PD.gT, PD.mut1, PD.setL, PD.gSub, PD.sSet, PD.sAsg, PD.stores, PD.noVar, PD.sPar, PD.items, PD.wSeq, PD.tYes, PD.sFor, PD.frz, PD.mTup, PD.mLst, PD.mChain, PD.mCallR, PD.once, PD.pass, PD.pass1, PD.back, PD.back1, PD.inS, PD.outS, PD.okArg, PD.outs, PD.fnD, PD.noEx, Md.mut, Md.ow, PD.eqD, PD.neD, PD.eqB, PD.eqS, PD.isD, PD.isntD, PD.isNonD, PD.addD, PD.subD, PD.modD, PD.fdivD, PD.negD, PD.keyD, PD.dgetD, PD.lenD, PD.mAdd, PD.ownL]; omega)
        show (c _).bind _ = _
        rw [hc']
        simp only [R.bind_ok, Option.isSome_some, if_pos]
        rw [hb']
        simp only [R.bind_ok]
        rw [ih]
        have : up ss (n + 1) (i : Int) = (i : Int) :: up ss n (k : Int) := by
          show (i : Int) :: _ = _
          rw [hbind, ha]
        rw [this]
        simp [PD.mK, PD.mVar, PD.m1, PD.m2, PD.mFz, PD.aNil, PD.aCons, PD.looks, PD.look, PD.dats, PD.mB, PD.truth, PD.tB, PD.tT, PD.tAnd, PD.tOr, PD.tNot, PD.mIf, PD.vAnd, PD.vOr, PD.vNot, PD.mCall, PD.sNx, PD.sSeq, PD.sDrop, PD.sIf, PD.ret, PD.sRet, PD.sRetN, PD.storeR, PD.store, PD.gN, PD.gNil, PD.gCons, PD.gT, PD.mut1, PD.setL, PD.gSub, PD.sSet, PD.sAsg, PD.stores, PD.noVar, PD.sPar, PD.items, PD.wSeq, PD.tYes, PD.sFor, PD.frz, PD.mTup, PD.mLst, PD.mChain, PD.mCallR, PD.once, PD.pass, PD.pass1, PD.back, PD.back1, PD.inS, PD.outS, PD.okArg, PD.outs, PD.fnD, PD.noEx, Md.mut, Md.ow, PD.eqD, PD.neD, PD.eqB, PD.eqS, PD.isD, PD.isntD, PD.isNonD, PD.addD, PD.subD, PD.modD, PD.fdivD, PD.negD, PD.keyD, PD.dgetD, PD.lenD, PD.mAdd, PD.ownL]
theorem path_by_ok (hs : Hangs ss) (hl : ss.length ≤ 20) {i : Nat} (hi : i < ss.length) : F_path_by [⟨.dat, objD ss ts⟩, ⟨.dat, .int (i : Int)⟩] = .ok (.dat (.tup ((pathOf ss (i : Int)).map .int))) [none, none] := by
  have h1 : (1 : Nat) ≤ LIM := by unfold LIM; omega
  have hw := up_while (ss := ss) (c := (PD.tB (m2 isntD (m2 ixD (m2 ixD (m1 (fld 0 "switches") (mVar 0)) (m2 ixD (mVar 2) (m1 negD (mK (.int 1))))) (mK (.int 0))) (mK .non)))) (b := (PD.sSet 2 (mTup (aStar (mVar 2) (aCons (m2 ixD (m2 ixD (m1 (fld 0 "switches") (mVar 0)) (m2 ixD (mVar 2) (m1 negD (mK (.int 1))))) (mK (.int 0))) aNil)))))
    (E := fun l => [some ⟨.dat, objD ss ts⟩, some ⟨.dat, .int (i : Int)⟩, some ⟨.dat, .tup (l.map .int)⟩]) hs
    (fun l k s hk => by
      have e := ix_sw hk
      simp [PD.mK, PD.mVar, PD.m1, PD.m2, PD.mFz, PD.aNil, PD.aCons, PD.looks, PD.look, PD.dats, PD.mB, PD.truth, PD.tB, PD.tT, PD.tAnd, PD.tOr, PD.tNot, PD.mIf, PD.vAnd, PD.vOr, PD.vNot, PD.mCall, PD.sNx, PD.sSeq, PD.sDrop, PD.sIf, PD.ret, PD.sRet, PD.sRetN, PD.storeR, PD.store, PD.gN, PD.gNil, PD.gCons, PD.gT, PD.mut1, PD.setL, PD.gSub, PD.sSet, PD.sAsg, PD.stores, PD.noVar, PD.sPar, PD.items, PD.wSeq, PD.tYes, PD.sFor, PD.frz, PD.mTup, PD.mLst, PD.mChain, PD.mCallR, PD.once, PD.pass, PD.pass1, PD.back, PD.back1, PD.inS, PD.outS, PD.okArg, PD.outs, PD.fnD, PD.noEx, Md.mut, Md.ow, PD.eqD, PD.neD, PD.eqB, PD.eqS, PD.isD, PD.isNonD, PD.addD, PD.subD, PD.modD, PD.fdivD, PD.keyD, PD.dgetD, PD.lenD, PD.mAdd, PD.ownL, fld_sw, ix_lastT, neg1, e, sw_above, isnt_oD])
    (fun l k s j hk hj hll => by
      have e := ix_sw hk
      have h2 : l.length + 1 + 1 ≤ LIM := by unfold LIM; omega
      simp [PD.mK, PD.mVar, PD.m1, PD.m2, PD.mFz, PD.aNil, PD.aCons, PD.looks, PD.look, PD.mB, PD.truth, PD.tB, PD.tT, PD.tAnd, PD.tOr, PD.tNot, PD.mIf, PD.vAnd, PD.vOr, PD.vNot, PD.mCall, PD.sNx, PD.sSeq, PD.sDrop, PD.sIf, PD.ret, PD.sRet, PD.sRetN, PD.storeR, PD.store, PD.gN, PD.gNil, PD.gCons, PD.gT, PD.mut1, PD.setL, PD.gSub, PD.sSet, PD.sAsg, PD.stores, PD.noVar, PD.sPar, PD.items, PD.wSeq, PD.tYes, PD.sFor, PD.frz, PD.mTup, PD.mLst, PD.mChain, PD.mCallR, PD.once, PD.pass, PD.pass1, PD.back, PD.back1, PD.inS, PD.outS, PD.okArg, PD.outs, PD.fnD, PD.noEx, Md.mut, Md.ow, PD.eqD, PD.neD, PD.eqB, PD.eqS, PD.isD, PD.isntD, PD.isNonD, PD.addD, PD.subD, PD.modD, PD.fdivD, PD.keyD, PD.dgetD, PD.lenD, PD.mAdd, PD.ownL, fld_sw, ix_lastT, neg1, e, sw_above, hj, oD, aStar, seqD, dats_pre, h2]) i i [] (Nat.le_refl _) hi (by simp [PD.mK, PD.mVar, PD.m1, PD.m2, PD.mFz, PD.aNil, PD.aCons, PD.looks, PD.look, PD.dats, PD.mB, PD.truth, PD.tB, PD.tT, PD.tAnd, PD.tOr, PD.tNot, PD.mIf, PD.vAnd, PD.vOr, PD.vNot, PD.mCall, PD.sNx, PD.sSeq, PD.sDrop, PD.sIf, PD.ret, PD.sRet, PD.sRetN, PD.storeR, PD.store, PD.gN, PD.gNil, PD.gCons, PD.gT, PD.mut1, PD.setL, PD.gSub, PD.sSet, PD.sAsg, PD.stores, PD.noVar, PD.sPar, PD.items, PD.wSeq, PD.tYes, PD.sFor, PD.frz, PD.mTup, PD.mLst, PD.mChain, PD.mCallR, PD.once, PD.pass, PD.pass1, PD.back, PD.back1, PD.inS, PD.outS, PD.okArg, PD.outs, PD.fnD, PD.noEx, Md.mut, Md.ow, PD.eqD, PD.neD, PD.eqB, PD.eqS, PD.isD, PD.isntD, PD.isNonD, PD.addD, PD.subD, PD.modD, PD.fdivD, PD.negD, PD.keyD, PD.dgetD, PD.lenD, PD.mAdd, PD.ownL]; omega)
  have hb : B_path_by ([(⟨.dat, objD ss ts⟩ : Sl), ⟨.dat, .int (i : Int)⟩].map inS ++ List.replicate 1 none) = .ok (.rt (.dat (.tup ((pathOf ss (i : Int)).map .int)))) [some ⟨.dat, objD ss ts⟩, some ⟨.dat, .int (i : Int)⟩, some ⟨.dat, .tup ((pathOf ss (i : Int)).map .int)⟩] := by
    unfold B_path_by
    rw [seq_nx (Γ' := [some ⟨.dat, objD ss ts⟩, some ⟨.dat, .int (i : Int)⟩, some ⟨.dat, .tup ([(i : Int)].map .int)⟩]) (by simp [PD.mK, PD.mVar, PD.m1, PD.m2, PD.mFz, PD.aNil, PD.aCons, PD.looks, PD.look, PD.dats, PD.mB, PD.truth, PD.tB, PD.tT, PD.tAnd, PD.tOr, PD.tNot, PD.mIf, PD.vAnd, PD.vOr, PD.vNot, PD.mCall, PD.sNx, PD.sSeq, PD.sDrop, PD.sIf, PD.ret, PD.sRet, PD.sRetN, PD.storeR, PD.store, PD.gN, PD.gNil, PD.gCons, PD.gT, PD.mut1, PD.setL, PD.gSub, PD.sSet, PD.sAsg, PD.stores, PD.noVar, PD.sPar, PD.items, PD.wSeq, PD.tYes, PD.sFor, PD.frz, PD.mTup, PD.mLst, PD.mChain, PD.mCallR, PD.once, PD.pass, PD.pass1, PD.back, PD.back1, PD.inS, PD.outS, PD.okArg, PD.outs, PD.fnD, PD.noEx, Md.mut, Md.ow, PD.eqD, PD.neD, PD.eqB, PD.eqS, PD.isD, PD.isntD, PD.isNonD, PD.addD, PD.subD, PD.modD, PD.fdivD, PD.negD, PD.keyD, PD.dgetD, PD.lenD, PD.mAdd, PD.ownL, h1])]
    have hw' := sWhile_of hw (by intro z; cases z)
    simp only [List.nil_append] at hw'
    rw [seq_nx hw']
    simp [PD.mK, PD.mVar, PD.m1, PD.m2, PD.mFz, PD.aNil, PD.aCons, PD.looks, PD.look, PD.dats, PD.mB, PD.truth, PD.tB, PD.tT, PD.tAnd, PD.tOr, PD.tNot, PD.mIf, PD.vAnd, PD.vOr, PD.vNot, PD.mCall, PD.sNx, PD.sSeq, PD.sDrop, PD.sIf, PD.ret, PD.sRet, PD.sRetN, PD.storeR, PD.store, PD.gN, PD.gNil, PD.gCons, PD.gT, PD.mut1, PD.setL, PD.gSub, PD.sSet, PD.sAsg, PD.stores, PD.noVar, PD.sPar, PD.items, PD.wSeq, PD.tYes, PD.sFor, PD.frz, PD.mTup, PD.mLst, PD.mChain, PD.mCallR, PD.once, PD.pass, PD.pass1, PD.back, PD.back1, PD.inS, PD.outS, PD.okArg, PD.outs, PD.fnD, PD.noEx, Md.mut, Md.ow, PD.eqD, PD.neD, PD.eqB, PD.eqS, PD.isD, PD.isntD, PD.isNonD, PD.addD, PD.subD, PD.modD, PD.fdivD, PD.negD, PD.keyD, PD.dgetD, PD.lenD, PD.mAdd, PD.ownL, pathOf]
  exact of_fn (np := 2) (n := 3) (b := B_path_by) (ss := [(⟨.dat, objD ss ts⟩ : Sl), ⟨.dat, .int (i : Int)⟩]) rfl rfl hb

theorem up_in (hs : Hangs ss) : ∀ (n i : Nat), i < ss.length → ∀ k ∈ up ss n (i : Int), ∃ j : Nat, k = (j : Int) ∧ j < ss.length ∧ j ≤ i
  | 0, i, hi, k, hk => by
    unfold up at hk
    rw [List.mem_singleton] at hk
    exact ⟨i, hk, hi, Nat.le_refl _⟩
  | n + 1, i, hi, k, hk => by
    unfold up at hk
    rcases List.mem_cons.mp hk with rfl | hk
    · exact ⟨i, rfl, hi, Nat.le_refl _⟩
    · have hget : ss[i]? = some ss[i] := List.getElem?_eq_getElem hi
      rw [Int.toNat_natCast, hget] at hk
      cases ha : (ss[i]).above with
      | none =>
        simp only [Option.bind_some, ha] at hk
        cases hk
      | some j =>
        simp only [Option.bind_some, ha] at hk
        obtain ⟨h0, h1⟩ := (hs i _ hget).2 j ha
        obtain ⟨j, rfl⟩ : ∃ m : Nat, j = (m : Int) := ⟨j.toNat, by omega⟩
        obtain ⟨q, e1, e2, e3⟩ := up_in hs n j (by omega) k hk
        exact ⟨q, e1, e2, by omega⟩
theorem path_in (hs : Hangs ss) {i : Nat} (hi : i < ss.length) {k : Int} (hk : k ∈ pathOf ss (i : Int)) : ∃ j : Nat, k = (j : Int) ∧ j < ss.length := by
  obtain ⟨j, e1, e2, _⟩ := up_in hs _ i hi k hk
  exact ⟨j, e1, e2⟩
theorem up_fuel (hs : Hangs ss) : ∀ (n i : Nat), i < ss.length → i ≤ n → up ss n (i : Int) = up ss i (i : Int)
  | 0, i, hi, hn => by
    have : i = 0 := by omega
    subst this; rfl
  | n + 1, i, hi, hn => by
    have hget : ss[i]? = some ss[i] := List.getElem?_eq_getElem hi
    have hbind : (ss[(i : Int).toNat]?).bind (·.above) = (ss[i]).above := by rw [Int.toNat_natCast, hget]; rfl
    cases ha : (ss[i]).above with
    | none => rw [up_stop _ _ (by rw [hbind, ha]), up_stop _ _ (by rw [hbind, ha])]
    | some j =>
      obtain ⟨h0, h1⟩ := (hs i _ hget).2 j ha
      obtain ⟨j, rfl⟩ : ∃ m : Nat, j = (m : Int) := ⟨j.toNat, by omega⟩
      match i, hi, hn, hget, hbind, ha, h1 with
      | i + 1, hi, hn, hget, hbind, ha, h1 =>
        unfold up
        rw [hbind, ha]
        simp only
        rw [up_fuel hs n j (by omega) (by omega), up_fuel hs i j (by omega) (by omega)]
theorem path_cons (hs : Hangs ss) {i : Nat} (hi : i < ss.length) : pathOf ss (i : Int) = (i : Int) :: (match (ss[i]).above with | none => [] | some j => pathOf ss j) := by
  have hget : ss[i]? = some ss[i] := List.getElem?_eq_getElem hi
  have hbind : (ss[(i : Int).toNat]?).bind (·.above) = (ss[i]).above := by rw [Int.toNat_natCast, hget]; rfl
  unfold pathOf
  rw [Int.toNat_natCast]
  cases ha : (ss[i]).above with
  | none => rw [up_stop _ _ (by rw [hbind, ha])]
  | some j =>
    obtain ⟨h0, h1⟩ := (hs i _ hget).2 j ha
    obtain ⟨j, rfl⟩ : ∃ m : Nat, j = (m : Int) := ⟨j.toNat, by omega⟩
    match i, hi, hget, hbind, ha, h1 with
    | i + 1, hi, hget, hbind, ha, h1 =>
      rw [show up ss (i + 1) ((i + 1 : Nat) : Int) = ((i + 1 : Nat) : Int) :: (match (ss[((i + 1 : Nat) : Int).toNat]?).bind (·.above) with | none => [] | some j => up ss i j) from rfl, hbind, ha]
      simp only
      rw [up_fuel hs i j (by omega) (by omega), Int.toNat_natCast]
/-- the path goes up by what is above: all different -/
theorem up_desc (hs : Hangs ss) : ∀ (n i : Nat), i < ss.length → (up ss n (i : Int)).Pairwise (· > ·)
  | 0, i, hi => by unfold up; simp [PD.mK, PD.mVar, PD.m1, PD.m2, PD.mFz, PD.aNil, PD.aCons, PD.looks, PD.look, PD.dats, PD.mB, PD.truth, PD.tB, PD.tT, PD.tAnd, PD.tOr, PD.tNot, PD.mIf, PD.vAnd, PD.vOr, PD.vNot, PD.mCall, PD.sNx, PD.sSeq, PD.sDrop, PD.sIf, PD.ret, PD.sRet, PD.sRetN, PD.storeR, PD.store, PD.gN, PD.gNil, PD.gCons, PD.gT, PD.mut1, PD.setL, PD.gSub, PD.sSet, PD.sAsg, PD.stores, PD.noVar, PD.sPar, PD.items, PD.wSeq, PD.tYes, PD.sFor, PD.frz, PD.mTup, PD.mLst, PD.mChain, PD.mCallR, PD.once, PD.pass, PD.pass1, PD.back, PD.back1, PD.inS, PD.outS, PD.okArg, PD.outs, PD.fnD, PD.noEx, Md.mut, Md.ow, PD.eqD, PD.neD, PD.eqB, PD.eqS, PD.isD, PD.isntD, PD.isNonD, PD.addD, PD.subD, PD.modD, PD.fdivD, PD.negD, PD.keyD, PD.dgetD, PD.lenD, PD.mAdd, PD.ownL]
  | n + 1, i, hi => by
    unfold up
    have hget : ss[i]? = some ss[i] := List.getElem?_eq_getElem hi
    rw [Int.toNat_natCast, hget]
    cases ha : (ss[i]).above with
    | none => simp [PD.mK, PD.mVar, PD.m1, PD.m2, PD.mFz, PD.aNil, PD.aCons, PD.looks, PD.look, PD.dats, PD.mB, PD.truth, PD.tB, PD.tT, PD.tAnd, PD.tOr, PD.tNot, PD.mIf, PD.vAnd, PD.vOr, PD.vNot, PD.mCall, PD.sNx, PD.sSeq, PD.sDrop, PD.sIf, PD.ret, PD.sRet, PD.sRetN, PD.storeR, PD.store, PD.gN, PD.gNil, PD.gCons, PD.gT, PD.mut1, PD.setL, PD.gSub, PD.sSet, PD.sAsg, PD.stores, PD.noVar, PD.sPar, PD.items, PD.wSeq, PD.tYes, PD.sFor, PD.frz, PD.mTup, PD.mLst, PD.mChain, PD.mCallR, PD.once, PD.pass, PD.pass1, PD.back, PD.back1, PD.inS, PD.outS, PD.okArg, PD.outs, PD.fnD, PD.noEx, Md.mut, Md.ow, PD.eqD, PD.neD, PD.eqB, PD.eqS, PD.isD, PD.isntD, PD.isNonD, PD.addD, PD.subD, PD.modD, PD.fdivD, PD.negD, PD.keyD, PD.dgetD, PD.lenD, PD.mAdd, PD.ownL, ha]
    | some j =>
      simp only [Option.bind_some, ha]
      obtain ⟨h0, h1⟩ := (hs i _ hget).2 j ha
      obtain ⟨j, rfl⟩ : ∃ m : Nat, j = (m : Int) := ⟨j.toNat, by omega⟩
      refine List.pairwise_cons.mpr ⟨fun x hx => ?_, up_desc hs n j (by omega)⟩
      obtain ⟨q, rfl, _, hq⟩ := up_in hs n j (by omega) x hx
      omega
theorem path_nodup (hs : Hangs ss) {i : Nat} (hi : i < ss.length) : (pathOf ss (i : Int)).Nodup := (up_desc hs _ i hi).imp fun h z => by omega
theorem law_path_ok (hs : Hangs ss) (hl : ss.length ≤ 20) {i : Nat} (hi : i < ss.length) : F__law_path [⟨.dat, bdD ss ts⟩, ⟨.dat, .int (i : Int)⟩] = .ok (.own (.lst ((pathOf ss (i : Int)).map .int))) [none, none] := by
  have h1 : (1 : Nat) ≤ LIM := by unfold LIM; omega
  have hw := up_while (ss := ss) (c := (PD.tB (m2 isntD (m2 ixD (m2 ixD (m2 dgetD (mVar 0) (mK (.str "switches"))) (m2 ixD (mVar 2) (m1 negD (mK (.int 1))))) (mK (.int 0))) (mK .non)))) (b := (sDrop (mApp 2 (m2 ixD (m2 ixD (m2 dgetD (mVar 0) (mK (.str "switches"))) (m2 ixD (mVar 2) (m1 negD (mK (.int 1))))) (mK (.int 0))))))
    (E := fun l => [some ⟨.dat, bdD ss ts⟩, some ⟨.dat, .int (i : Int)⟩, some ⟨.own, .lst (l.map .int)⟩]) hs
    (fun l k s hk => by
      have e := ix_sw hk
      simp [PD.mK, PD.mVar, PD.m1, PD.m2, PD.mFz, PD.aNil, PD.aCons, PD.looks, PD.look, PD.dats, PD.mB, PD.truth, PD.tB, PD.tT, PD.tAnd, PD.tOr, PD.tNot, PD.mIf, PD.vAnd, PD.vOr, PD.vNot, PD.mCall, PD.sNx, PD.sSeq, PD.sDrop, PD.sIf, PD.ret, PD.sRet, PD.sRetN, PD.storeR, PD.store, PD.gN, PD.gNil, PD.gCons, PD.gT, PD.mut1, PD.setL, PD.gSub, PD.sSet, PD.sAsg, PD.stores, PD.noVar, PD.sPar, PD.items, PD.wSeq, PD.tYes, PD.sFor, PD.frz, PD.mTup, PD.mLst, PD.mChain, PD.mCallR, PD.once, PD.pass, PD.pass1, PD.back, PD.back1, PD.inS, PD.outS, PD.okArg, PD.outs, PD.fnD, PD.noEx, Md.mut, Md.ow, PD.eqD, PD.neD, PD.eqB, PD.eqS, PD.isD, PD.isNonD, PD.addD, PD.subD, PD.modD, PD.fdivD, PD.keyD, PD.lenD, PD.mAdd, PD.ownL, get_sw, ix_last, neg1, e, sw_above, isnt_oD])
    (fun l k s j hk hj hll => by
      have e := ix_sw hk
      have h2 : l.length + 1 < LIM := by unfold LIM; omega
      simp [PD.mK, PD.mVar, PD.m1, PD.m2, PD.mFz, PD.aNil, PD.aCons, PD.looks, PD.look, PD.dats, PD.mB, PD.truth, PD.tB, PD.tT, PD.tAnd, PD.tOr, PD.tNot, PD.mIf, PD.vAnd, PD.vOr, PD.vNot, PD.mCall, PD.sNx, PD.sSeq, PD.sDrop, PD.sIf, PD.ret, PD.sRet, PD.sRetN, PD.storeR, PD.store, PD.gN, PD.gNil, PD.gCons, PD.gT, PD.mut1, PD.setL, PD.gSub, PD.sSet, PD.sAsg, PD.stores, PD.noVar, PD.sPar, PD.items, PD.wSeq, PD.tYes, PD.sFor, PD.frz, PD.mTup, PD.mLst, PD.mChain, PD.mCallR, PD.once, PD.pass, PD.pass1, PD.back, PD.back1, PD.inS, PD.outS, PD.okArg, PD.outs, PD.fnD, PD.noEx, Md.mut, Md.ow, PD.eqD, PD.neD, PD.eqB, PD.eqS, PD.isD, PD.isntD, PD.isNonD, PD.addD, PD.subD, PD.modD, PD.fdivD, PD.keyD, PD.lenD, PD.mAdd, PD.ownL, get_sw, ix_last, neg1, e, sw_above, hj, oD, mApp, isL, appD, h2]) i i [] (Nat.le_refl _) hi (by simp [PD.mK, PD.mVar, PD.m1, PD.m2, PD.mFz, PD.aNil, PD.aCons, PD.looks, PD.look, PD.dats, PD.mB, PD.truth, PD.tB, PD.tT, PD.tAnd, PD.tOr, PD.tNot, PD.mIf, PD.vAnd, PD.vOr, PD.vNot, PD.mCall, PD.sNx, PD.sSeq, PD.sDrop, PD.sIf, PD.ret, PD.sRet, PD.sRetN, PD.storeR, PD.store, PD.gN, PD.gNil, PD.gCons, PD.gT, PD.mut1, PD.setL, PD.gSub, PD.sSet, PD.sAsg, PD.stores, PD.noVar, PD.sPar, PD.items, PD.wSeq, PD.tYes, PD.sFor, PD.frz, PD.mTup, PD.mLst, PD.mChain, PD.mCallR, PD.once, PD.pass, PD.pass1, PD.back, PD.back1, PD.inS, PD.outS, PD.okArg, PD.outs, PD.fnD, PD.noEx, Md.mut, Md.ow, PD.eqD, PD.neD, PD.eqB, PD.eqS, PD.isD, PD.isntD, PD.isNonD, PD.addD, PD.subD, PD.modD, PD.fdivD, PD.negD, PD.keyD, PD.dgetD, PD.lenD, PD.mAdd, PD.ownL]; omega)
  have hb : B__law_path ([(⟨.dat, bdD ss ts⟩ : Sl), ⟨.dat, .int (i : Int)⟩].map inS ++ List.replicate 1 none) = .ok (.rt (.own (.lst ((pathOf ss (i : Int)).map .int)))) [some ⟨.dat, bdD ss ts⟩, some ⟨.dat, .int (i : Int)⟩, none] := by
    unfold B__law_path
    rw [seq_nx (Γ' := [some ⟨.dat, bdD ss ts⟩, some ⟨.dat, .int (i : Int)⟩, some ⟨.own, .lst ([(i : Int)].map .int)⟩]) (by simp [PD.mK, PD.mVar, PD.m1, PD.m2, PD.mFz, PD.aNil, PD.aCons, PD.looks, PD.look, PD.dats, PD.mB, PD.truth, PD.tB, PD.tT, PD.tAnd, PD.tOr, PD.tNot, PD.mIf, PD.vAnd, PD.vOr, PD.vNot, PD.mCall, PD.sNx, PD.sSeq, PD.sDrop, PD.sIf, PD.ret, PD.sRet, PD.sRetN, PD.storeR, PD.store, PD.gN, PD.gNil, PD.gCons, PD.gT, PD.mut1, PD.setL, PD.gSub, PD.sSet, PD.sAsg, PD.stores, PD.noVar, PD.sPar, PD.items, PD.wSeq, PD.tYes, PD.sFor, PD.frz, PD.mTup, PD.mLst, PD.mChain, PD.mCallR, PD.once, PD.pass, PD.pass1, PD.back, PD.back1, PD.inS, PD.outS, PD.okArg, PD.outs, PD.fnD, PD.noEx, Md.mut, Md.ow, PD.eqD, PD.neD, PD.eqB, PD.eqS, PD.isD, PD.isntD, PD.isNonD, PD.addD, PD.subD, PD.modD, PD.fdivD, PD.negD, PD.keyD, PD.dgetD, PD.lenD, PD.mAdd, PD.ownL, h1])]
    have hw' := sWhile_of hw (by intro z; cases z)
    simp only [List.nil_append] at hw'
    rw [seq_nx hw']
    simp [PD.mK, PD.mVar, PD.m1, PD.m2, PD.mFz, PD.aNil, PD.aCons, PD.looks, PD.look, PD.dats, PD.mB, PD.truth, PD.tB, PD.tT, PD.tAnd, PD.tOr, PD.tNot, PD.mIf, PD.vAnd, PD.vOr, PD.vNot, PD.mCall, PD.sNx, PD.sSeq, PD.sDrop, PD.sIf, PD.ret, PD.sRet, PD.sRetN, PD.storeR, PD.store, PD.gN, PD.gNil, PD.gCons, PD.gT, PD.mut1, PD.setL, PD.gSub, PD.sSet, PD.sAsg, PD.stores, PD.noVar, PD.sPar, PD.items, PD.wSeq, PD.tYes, PD.sFor, PD.frz, PD.mTup, PD.mLst, PD.mChain, PD.mCallR, PD.once, PD.pass, PD.pass1, PD.back, PD.back1, PD.inS, PD.outS, PD.okArg, PD.outs, PD.fnD, PD.noEx, Md.mut, Md.ow, PD.eqD, PD.neD, PD.eqB, PD.eqS, PD.isD, PD.isntD, PD.isNonD, PD.addD, PD.subD, PD.modD, PD.fdivD, PD.negD, PD.keyD, PD.dgetD, PD.lenD, PD.mAdd, PD.ownL, pathOf]
  exact of_fn (np := 2) (n := 3) (b := B__law_path) (ss := [(⟨.dat, bdD ss ts⟩ : Sl), ⟨.dat, .int (i : Int)⟩]) rfl rfl hb
end Lk41

namespace Lk41
open PySem PySem.Spec L2 PD
/-! ### membership among ints -/
theorem pds_ints : ∀ l : List Int, pd.pds (l.map D.int) = some (l.map PyData.int)
  | [] => rfl
  | i :: l => by
    show (match pd (.int i), pd.pds (l.map D.int) with | some p, some ps => some (p :: ps) | _, _ => none) = _
    rw [pds_ints l]
    rfl
theorem lay_ints : ∀ l : List Int, PyData.canLayAll0 (l.map PyData.int) = true
  | [] => rfl
  | i :: l => by
    show (PyData.canLay0 (.int i) && PyData.canLayAll0 (l.map PyData.int)) = true
    rw [lay_ints l]
    rfl
theorem dep_ints : ∀ l : List Int, PyData.depthAll (l.map PyData.int) = 0
  | [] => rfl
  | i :: l => by
    show max (PyData.depth (.int i)) (PyData.depthAll (l.map PyData.int)) = 0
    rw [dep_ints l]
    rfl
theorem any_ints (i : Int) : ∀ l : List Int, (l.map PyData.int).any (fun z => PyData.eqv z (.int i)) = decide (i ∈ l)
  | [] => rfl
  | j :: l => by
    rw [List.map_cons, List.any_cons, any_ints i l]
    show ((j == i) || decide (i ∈ l)) = _
    by_cases h : j = i
    · subst h; simp [PD.mK, PD.mVar, PD.m1, PD.m2, PD.mFz, PD.aNil, PD.aCons, PD.looks, PD.look, PD.dats, PD.mB, PD.truth, PD.tB, PD.tT, PD.tAnd, PD.tOr, PD.tNot, PD.mIf, PD.vAnd, PD.vOr, PD.vNot, PD.mCall, PD.sNx, PD.sSeq, PD.sDrop, PD.sIf, PD.ret, PD.sRet, PD.sRetN, PD.storeR, PD.store, PD.gN, PD.gNil, PD.gCons, PD.gT, PD.mut1, PD.setL, PD.gSub, PD.sSet, PD.sAsg, PD.stores, PD.noVar, PD.sPar, PD.items, PD.wSeq, PD.tYes, PD.sFor, PD.frz, PD.mTup, PD.mLst, PD.mChain, PD.mCallR, PD.once, PD.pass, PD.pass1, PD.back, PD.back1, PD.inS, PD.outS, PD.okArg, PD.outs, PD.fnD, PD.noEx, Md.mut, Md.ow, PD.eqD, PD.neD, PD.eqB, PD.eqS, PD.isD, PD.isntD, PD.isNonD, PD.addD, PD.subD, PD.modD, PD.fdivD, PD.negD, PD.keyD, PD.dgetD, PD.lenD, PD.mAdd, PD.ownL]
    · have h' : ¬ i = j := fun z => h z.symm
      simp [PD.mK, PD.mVar, PD.m1, PD.m2, PD.mFz, PD.aNil, PD.aCons, PD.looks, PD.look, PD.dats, PD.mB, PD.truth, PD.tB, PD.tT, PD.tAnd, PD.tOr, PD.tNot, PD.mIf, PD.vAnd, PD.vOr, PD.vNot, PD.mCall, PD.sNx, PD.sSeq, PD.sDrop, PD.sIf, PD.ret, PD.sRet, PD.sRetN, PD.storeR, PD.store, PD.gN, PD.gNil, PD.gCons, PD.gT, PD.mut1, PD.setL, PD.gSub, PD.sSet, PD.sAsg, PD.stores, PD.noVar, PD.sPar, PD.items, PD.wSeq, PD.tYes, PD.sFor, PD.frz, PD.mTup, PD.mLst, PD.mChain, PD.mCallR, PD.once, PD.pass, PD.pass1, PD.back, PD.back1, PD.inS, PD.outS, PD.okArg, PD.outs, PD.fnD, PD.noEx, Md.mut, Md.ow, PD.eqD, PD.neD, PD.eqB, PD.eqS, PD.isD, PD.isntD, PD.isNonD, PD.addD, PD.subD, PD.modD, PD.fdivD, PD.negD, PD.keyD, PD.dgetD, PD.lenD, PD.mAdd, PD.ownL, h, h']
theorem inP_tup (neg : Bool) (i : Int) (l : List Int) : inP neg (.int i) (.tup (l.map .int)) = some (.dat (.bl (neg != decide (i ∈ l)))) := by
  have h1 : pd (.tup (l.map .int)) = some (.tuple (l.map .int)) := by
    show (pd.pds _).map _ = _
    rw [pds_ints]; rfl
  have h2 : SeqAt.shaped (.int i) = true := rfl
  have h3 : SeqAt.shaped (.tuple (l.map PyData.int)) = true := by
    unfold SeqAt.shaped
    show (PyData.canLayAll0 _ && decide (PyData.depthAll _ + 1 ≤ 64)) = true
    rw [lay_ints, dep_ints]; rfl
  unfold inP
  rw [h1]
  show (if _ then _ else _) = _
  rw [if_pos ⟨h2, h3⟩, any_ints]
theorem inP_lst (neg : Bool) (i : Int) (l : List Int) : inP neg (.int i) (.lst (l.map .int)) = some (.dat (.bl (neg != decide (i ∈ l)))) := by
  have h1 : pd (.lst (l.map .int)) = some (.list (l.map .int)) := by
    show (pd.pds _).map _ = _
    rw [pds_ints]; rfl
  have h2 : SeqAt.shaped (.int i) = true := rfl
  have h3 : SeqAt.shaped (.list (l.map PyData.int)) = true := by
    unfold SeqAt.shaped
    show (PyData.canLayAll0 _ && decide (PyData.depthAll _ + 1 ≤ 64)) = true
    rw [lay_ints, dep_ints]; rfl
  unfold inP
  rw [h1]
  show (if _ then _ else _) = _
  rw [if_pos ⟨h2, h3⟩, any_ints]
@[simp] theorem in_tup (i : Int) (l : List Int) : inD (.int i) (.tup (l.map .int)) = some (.dat (.bl (decide (i ∈ l)))) := by
  unfold inD; rw [inP_tup, Bool.false_bne]
@[simp] theorem in_lst (i : Int) (l : List Int) : inD (.int i) (.lst (l.map .int)) = some (.dat (.bl (decide (i ∈ l)))) := by
  unfold inD; rw [inP_lst, Bool.false_bne]
@[simp] theorem nin_tup (i : Int) (l : List Int) : ninD (.int i) (.tup (l.map .int)) = some (.dat (.bl (!decide (i ∈ l)))) := by
  unfold ninD; rw [inP_tup, Bool.true_bne]
@[simp] theorem nin_lst (i : Int) (l : List Int) : ninD (.int i) (.lst (l.map .int)) = some (.dat (.bl (!decide (i ∈ l)))) := by
  unfold ninD; rw [inP_lst, Bool.true_bne]
theorem rngD_eq (n : Nat) : rngD 0 n = ((List.range n).map fun k : Nat => (k : Int)).map D.int := by
  unfold rngD
  rw [List.map_map]
  refine List.map_congr_left fun k _ => ?_
  show D.int (0 + (k : Int)) = D.int (k : Int)
  rw [Int.zero_add]
end Lk41

namespace Lk41
open PySem PySem.Spec L2 PD
variable {A B : Int} {ss : List Sw} {ts : List Th}
/-! ### who breaks a fault (plain) -/
def tmAt (ss : List Sw) (c : Int) (j : Int) : Option Int := (ss[j.toNat]?).bind fun s => timeOf s c
theorem tm_at {n : Nat} (h : n < ss.length) (c : Int) : ∃ s : Sw, ss[n]? = some s ∧ tmAt ss c (n : Int) = timeOf s c := by
  refine ⟨ss[n], List.getElem?_eq_getElem h, ?_⟩
  unfold tmAt
  rw [Int.toNat_natCast, List.getElem?_eq_getElem h]
  rfl
def leastP (ss : List Sw) (i c : Int) : Int := minI ((pathOf ss i).filterMap (tmAt ss c))
def isL (ss : List Sw) (i c : Int) (j : Int) : Bool := match tmAt ss c j with | some t => decide (t = leastP ss i c) | none => false
def brokenP (ss : List Sw) (i c : Int) : List Int := srt ((pathOf ss i).filter (isL ss i c))
def fineP (ss : List Sw) (c : Int) (i : Int) : Bool := decide (brokenP ss i c = [] ∨ brokenP ss i c = [i])
def badP (ss : List Sw) (c : Int) : Bool := (List.range ss.length).any fun k => !fineP ss c (k : Int)
def soonP (ss : List Sw) (c : Int) (k : Int) : Bool := match (ss[k.toNat]?).bind (·.above) with
  | none => true
  | some a => match tmAt ss c a with
    | none => true
    | some o => match tmAt ss c k with
      | some t => decide (t < o)
      | none => false
theorem mem_broken {i c j : Int} : j ∈ brokenP ss i c ↔ j ∈ pathOf ss i ∧ tmAt ss c j = some (leastP ss i c) := by
  unfold brokenP isL
  rw [mem_srt, List.mem_filter]
  cases h : tmAt ss c j with
  | none => simp [PD.mK, PD.mVar, PD.m1, PD.m2, PD.mFz, PD.aNil, PD.aCons, PD.looks, PD.look, PD.dats, PD.mB, PD.truth, PD.tB, PD.tT, PD.tAnd, PD.tOr, PD.tNot, PD.mIf, PD.vAnd, PD.vOr, PD.vNot, PD.mCall, PD.sNx, PD.sSeq, PD.sDrop, PD.sIf, PD.ret, PD.sRet, PD.sRetN, PD.storeR, PD.store, PD.gN, PD.gNil, PD.gCons, PD.gT, PD.mut1, PD.setL, PD.gSub, PD.sSet, PD.sAsg, PD.stores, PD.noVar, PD.sPar, PD.items, PD.wSeq, PD.tYes, PD.sFor, PD.frz, PD.mTup, PD.mLst, PD.mChain, PD.mCallR, PD.once, PD.pass, PD.pass1, PD.back, PD.back1, PD.inS, PD.outS, PD.okArg, PD.outs, PD.fnD, PD.noEx, Md.mut, Md.ow, PD.eqD, PD.neD, PD.eqB, PD.eqS, PD.isD, PD.isntD, PD.isNonD, PD.addD, PD.subD, PD.modD, PD.fdivD, PD.negD, PD.keyD, PD.dgetD, PD.lenD, PD.mAdd, PD.ownL]
  | some t => simp [PD.mK, PD.mVar, PD.m1, PD.m2, PD.mFz, PD.aNil, PD.aCons, PD.looks, PD.look, PD.dats, PD.mB, PD.truth, PD.tB, PD.tT, PD.tAnd, PD.tOr, PD.tNot, PD.mIf, PD.vAnd, PD.vOr, PD.vNot, PD.mCall, PD.sNx, PD.sSeq, PD.sDrop, PD.sIf, PD.ret, PD.sRet, PD.sRetN, PD.storeR, PD.store, PD.gN, PD.gNil, PD.gCons, PD.gT, PD.mut1, PD.setL, PD.gSub, PD.sSet, PD.sAsg, PD.stores, PD.noVar, PD.sPar, PD.items, PD.wSeq, PD.tYes, PD.sFor, PD.frz, PD.mTup, PD.mLst, PD.mChain, PD.mCallR, PD.once, PD.pass, PD.pass1, PD.back, PD.back1, PD.inS, PD.outS, PD.okArg, PD.outs, PD.fnD, PD.noEx, Md.mut, Md.ow, PD.eqD, PD.neD, PD.eqB, PD.eqS, PD.isD, PD.isntD, PD.isNonD, PD.addD, PD.subD, PD.modD, PD.fdivD, PD.negD, PD.keyD, PD.dgetD, PD.lenD, PD.mAdd, PD.ownL]
theorem least_le {i c j t : Int} (hj : j ∈ pathOf ss i) (ht : tmAt ss c j = some t) : leastP ss i c ≤ t := min_le_of (List.mem_filterMap.mpr ⟨j, hj, ht⟩)
theorem least_in {i c j t : Int} (hj : j ∈ pathOf ss i) (ht : tmAt ss c j = some t) : ∃ k ∈ pathOf ss i, tmAt ss c k = some (leastP ss i c) := by
  have : (pathOf ss i).filterMap (tmAt ss c) ≠ [] := fun h => by
    have := List.mem_filterMap.mpr ⟨j, hj, ht⟩
    rw [h] at this; cases this
  obtain ⟨k, hk, e⟩ := List.mem_filterMap.mp (min_mem this)
  exact ⟨k, hk, e⟩
/-- where each is sooner, the lowest is the soonest of its path -/
theorem soon_path (hs : Hangs ss) {c : Int} (h : ∀ k : Nat, k < ss.length → soonP ss c (k : Int) = true) : ∀ (k : Nat), (hk : k < ss.length) → ∀ j ∈ pathOf ss (k : Int), ∀ u, tmAt ss c j = some u → ∃ t, tmAt ss c (k : Int) = some t ∧ (j = (k : Int) ∨ t < u) := by
  intro k
  induction k using Nat.strongRecOn with
  | _ k ih =>
    intro hk j hj u hu
    have e := path_cons hs hk
    have hget : ss[k]? = some ss[k] := List.getElem?_eq_getElem hk
    cases ha : (ss[k]).above with
    | none =>
      rw [ha] at e
      rw [e] at hj
      have : j = (k : Int) := by simpa using hj
      subst this
      exact ⟨u, hu, .inl rfl⟩
    | some a =>
      obtain ⟨h0, h1⟩ := (hs k _ hget).2 a ha
      obtain ⟨a, rfl⟩ : ∃ m : Nat, a = (m : Int) := ⟨a.toNat, by omega⟩
      rw [ha] at e
      simp only at e
      rw [e] at hj
      rcases List.mem_cons.mp hj with rfl | hj
      · exact ⟨u, hu, .inl rfl⟩
      · obtain ⟨o, ho, hou⟩ := ih a (by omega) (by omega) j hj u hu
        have hk' := h k hk
        unfold soonP at hk'
        rw [Int.toNat_natCast, hget] at hk'
        simp only [Option.bind_some, ha, ho] at hk'
        cases ht : tmAt ss c (k : Int) with
        | none => rw [ht] at hk'; simp [PD.mK, PD.mVar, PD.m1, PD.m2, PD.mFz, PD.aNil, PD.aCons, PD.looks, PD.look, PD.dats, PD.mB, PD.truth, PD.tB, PD.tT, PD.tAnd, PD.tOr, PD.tNot, PD.mIf, PD.vAnd, PD.vOr, PD.vNot, PD.mCall, PD.sNx, PD.sSeq, PD.sDrop, PD.sIf, PD.ret, PD.sRet, PD.sRetN, PD.storeR, PD.store, PD.gN, PD.gNil, PD.gCons, PD.gT, PD.mut1, PD.setL, PD.gSub, PD.sSet, PD.sAsg, PD.stores, PD.noVar, PD.sPar, PD.items, PD.wSeq, PD.tYes, PD.sFor, PD.frz, PD.mTup, PD.mLst, PD.mChain, PD.mCallR, PD.once, PD.pass, PD.pass1, PD.back, PD.back1, PD.inS, PD.outS, PD.okArg, PD.outs, PD.fnD, PD.noEx, Md.mut, Md.ow, PD.eqD, PD.neD, PD.eqB, PD.eqS, PD.isD, PD.isntD, PD.isNonD, PD.addD, PD.subD, PD.modD, PD.fdivD, PD.negD, PD.keyD, PD.dgetD, PD.lenD, PD.mAdd, PD.ownL] at hk'
        | some t =>
          rw [ht] at hk'
          have hto : t < o := by simpa using hk'
          refine ⟨t, rfl, .inr ?_⟩
          rcases hou with rfl | hou
          · rw [ho] at hu; cases hu; exact hto
          · omega
theorem fine_iff (hs : Hangs ss) (c : Int) : (∀ k : Nat, k < ss.length → soonP ss c (k : Int) = true) ↔ ∀ k : Nat, k < ss.length → fineP ss c (k : Int) = true := by
  constructor
  · intro h k hk
    have hp := soon_path hs h k hk
    unfold fineP
    rw [decide_eq_true_eq]
    by_cases hex : ∃ j ∈ pathOf ss (k : Int), ∃ u, tmAt ss c j = some u
    · obtain ⟨j, hj, u, hu⟩ := hex
      obtain ⟨t, ht, _⟩ := hp j hj u hu
      refine .inr ?_
      obtain ⟨r, e⟩ : ∃ r, pathOf ss (k : Int) = (k : Int) :: r := ⟨_, path_cons hs hk⟩
      have hself : (k : Int) ∈ pathOf ss (k : Int) := by rw [e]; exact List.mem_cons_self
      have hl : leastP ss (k : Int) c = t := by
        obtain ⟨q, hq, e2⟩ := least_in hj hu
        have h1 := least_le hself ht
        obtain ⟨t', ht', h2⟩ := hp q hq _ e2
        rw [ht] at ht'
        cases ht'
        rcases h2 with h2 | h2
        · rw [h2, ht] at e2; injection e2 with e2; exact e2.symm
        · omega
      have hnd := path_nodup hs hk
      rw [e] at hnd
      have hk1 : isL ss (k : Int) c (k : Int) = true := by unfold isL; rw [ht, hl]; simp [PD.mK, PD.mVar, PD.m1, PD.m2, PD.mFz, PD.aNil, PD.aCons, PD.looks, PD.look, PD.dats, PD.mB, PD.truth, PD.tB, PD.tT, PD.tAnd, PD.tOr, PD.tNot, PD.mIf, PD.vAnd, PD.vOr, PD.vNot, PD.mCall, PD.sNx, PD.sSeq, PD.sDrop, PD.sIf, PD.ret, PD.sRet, PD.sRetN, PD.storeR, PD.store, PD.gN, PD.gNil, PD.gCons, PD.gT, PD.mut1, PD.setL, PD.gSub, PD.sSet, PD.sAsg, PD.stores, PD.noVar, PD.sPar, PD.items, PD.wSeq, PD.tYes, PD.sFor, PD.frz, PD.mTup, PD.mLst, PD.mChain, PD.mCallR, PD.once, PD.pass, PD.pass1, PD.back, PD.back1, PD.inS, PD.outS, PD.okArg, PD.outs, PD.fnD, PD.noEx, Md.mut, Md.ow, PD.eqD, PD.neD, PD.eqB, PD.eqS, PD.isD, PD.isntD, PD.isNonD, PD.addD, PD.subD, PD.modD, PD.fdivD, PD.negD, PD.keyD, PD.dgetD, PD.lenD, PD.mAdd, PD.ownL]
      have hrest : ∀ j ∈ pathOf ss (k : Int), j ≠ (k : Int) → isL ss (k : Int) c j = false := fun j hj hne => by
        unfold isL
        cases hu : tmAt ss c j with
        | none => rfl
        | some u =>
          obtain ⟨t', ht', h2⟩ := hp j hj u hu
          rw [ht] at ht'
          cases ht'
          rcases h2 with h2 | h2
          · exact absurd h2 hne
          · rw [hl]; simp [PD.mK, PD.mVar, PD.m1, PD.m2, PD.mFz, PD.aNil, PD.aCons, PD.looks, PD.look, PD.dats, PD.mB, PD.truth, PD.tB, PD.tT, PD.tAnd, PD.tOr, PD.tNot, PD.mIf, PD.vAnd, PD.vOr, PD.vNot, PD.mCall, PD.sNx, PD.sSeq, PD.sDrop, PD.sIf, PD.ret, PD.sRet, PD.sRetN, PD.storeR, PD.store, PD.gN, PD.gNil, PD.gCons, PD.gT, PD.mut1, PD.setL, PD.gSub, PD.sSet, PD.sAsg, PD.stores, PD.noVar, PD.sPar, PD.items, PD.wSeq, PD.tYes, PD.sFor, PD.frz, PD.mTup, PD.mLst, PD.mChain, PD.mCallR, PD.once, PD.pass, PD.pass1, PD.back, PD.back1, PD.inS, PD.outS, PD.okArg, PD.outs, PD.fnD, PD.noEx, Md.mut, Md.ow, PD.eqD, PD.neD, PD.eqB, PD.eqS, PD.isD, PD.isntD, PD.isNonD, PD.addD, PD.subD, PD.modD, PD.fdivD, PD.negD, PD.keyD, PD.dgetD, PD.lenD, PD.mAdd, PD.ownL]; omega
      have hf : (pathOf ss (k : Int)).filter (isL ss (k : Int) c) = [(k : Int)] := by
        rw [e, List.filter_cons, if_pos hk1]
        refine congrArg ((k : Int) :: ·) (List.filter_eq_nil_iff.mpr fun j hj => ?_)
        have hne : j ≠ (k : Int) := fun z => (List.nodup_cons.mp hnd).1 (z ▸ hj)
        rw [hrest j (by rw [e]; exact List.mem_cons_of_mem _ hj) hne]
        simp [PD.mK, PD.mVar, PD.m1, PD.m2, PD.mFz, PD.aNil, PD.aCons, PD.looks, PD.look, PD.dats, PD.mB, PD.truth, PD.tB, PD.tT, PD.tAnd, PD.tOr, PD.tNot, PD.mIf, PD.vAnd, PD.vOr, PD.vNot, PD.mCall, PD.sNx, PD.sSeq, PD.sDrop, PD.sIf, PD.ret, PD.sRet, PD.sRetN, PD.storeR, PD.store, PD.gN, PD.gNil, PD.gCons, PD.gT, PD.mut1, PD.setL, PD.gSub, PD.sSet, PD.sAsg, PD.stores, PD.noVar, PD.sPar, PD.items, PD.wSeq, PD.tYes, PD.sFor, PD.frz, PD.mTup, PD.mLst, PD.mChain, PD.mCallR, PD.once, PD.pass, PD.pass1, PD.back, PD.back1, PD.inS, PD.outS, PD.okArg, PD.outs, PD.fnD, PD.noEx, Md.mut, Md.ow, PD.eqD, PD.neD, PD.eqB, PD.eqS, PD.isD, PD.isntD, PD.isNonD, PD.addD, PD.subD, PD.modD, PD.fdivD, PD.negD, PD.keyD, PD.dgetD, PD.lenD, PD.mAdd, PD.ownL]
      unfold brokenP
      rw [hf]
      rfl
    · refine .inl ?_
      unfold brokenP
      rw [show (pathOf ss (k : Int)).filter (isL ss (k : Int) c) = [] from List.filter_eq_nil_iff.mpr fun j hj => by
        unfold isL
        cases hu : tmAt ss c j with
        | none => simp [PD.mK, PD.mVar, PD.m1, PD.m2, PD.mFz, PD.aNil, PD.aCons, PD.looks, PD.look, PD.dats, PD.mB, PD.truth, PD.tB, PD.tT, PD.tAnd, PD.tOr, PD.tNot, PD.mIf, PD.vAnd, PD.vOr, PD.vNot, PD.mCall, PD.sNx, PD.sSeq, PD.sDrop, PD.sIf, PD.ret, PD.sRet, PD.sRetN, PD.storeR, PD.store, PD.gN, PD.gNil, PD.gCons, PD.gT, PD.mut1, PD.setL, PD.gSub, PD.sSet, PD.sAsg, PD.stores, PD.noVar, PD.sPar, PD.items, PD.wSeq, PD.tYes, PD.sFor, PD.frz, PD.mTup, PD.mLst, PD.mChain, PD.mCallR, PD.once, PD.pass, PD.pass1, PD.back, PD.back1, PD.inS, PD.outS, PD.okArg, PD.outs, PD.fnD, PD.noEx, Md.mut, Md.ow, PD.eqD, PD.neD, PD.eqB, PD.eqS, PD.isD, PD.isntD, PD.isNonD, PD.addD, PD.subD, PD.modD, PD.fdivD, PD.negD, PD.keyD, PD.dgetD, PD.lenD, PD.mAdd, PD.ownL]
        | some u => exact absurd ⟨j, hj, u, hu⟩ hex]
      rfl
  · intro h k hk
    have hget : ss[k]? = some ss[k] := List.getElem?_eq_getElem hk
    unfold soonP
    rw [Int.toNat_natCast, hget]
    simp only [Option.bind_some]
    cases ha : (ss[k]).above with
    | none => rfl
    | some a =>
      simp only
      cases ho : tmAt ss c a with
      | none => rfl
      | some o =>
        simp only
        obtain ⟨h0, h1⟩ := (hs k _ hget).2 a ha
        obtain ⟨a, rfl⟩ : ∃ m : Nat, a = (m : Int) := ⟨a.toNat, by omega⟩
        have e := path_cons hs hk
        rw [ha] at e
        simp only at e
        have hain : (a : Int) ∈ pathOf ss (k : Int) := by
          rw [e, path_cons hs (show a < ss.length by omega)]
          exact List.mem_cons_of_mem _ List.mem_cons_self
        obtain ⟨q, hq, e2⟩ := least_in hain ho
        have hqb : q ∈ brokenP ss (k : Int) c := mem_broken.mpr ⟨hq, e2⟩
        have hf := h k hk
        unfold fineP at hf
        rw [decide_eq_true_eq] at hf
        rcases hf with hf | hf
        · rw [hf] at hqb; cases hqb
        · have hkb : (k : Int) ∈ brokenP ss (k : Int) c := by rw [hf]; exact List.mem_cons_self
          have ek := (mem_broken.mp hkb).2
          rw [ek]
          simp only [decide_eq_true_eq]
          have hle := least_le hain ho
          have hne : leastP ss (k : Int) c ≠ o := fun z => by
            have : (a : Int) ∈ brokenP ss (k : Int) c := mem_broken.mpr ⟨hain, by rw [z]; exact ho⟩
            rw [hf] at this
            simp [PD.mK, PD.mVar, PD.m1, PD.m2, PD.mFz, PD.aNil, PD.aCons, PD.looks, PD.look, PD.dats, PD.mB, PD.truth, PD.tB, PD.tT, PD.tAnd, PD.tOr, PD.tNot, PD.mIf, PD.vAnd, PD.vOr, PD.vNot, PD.mCall, PD.sNx, PD.sSeq, PD.sDrop, PD.sIf, PD.ret, PD.sRet, PD.sRetN, PD.storeR, PD.store, PD.gN, PD.gNil, PD.gCons, PD.gT, PD.mut1, PD.setL, PD.gSub, PD.sSet, PD.sAsg, PD.stores, PD.noVar, PD.sPar, PD.items, PD.wSeq, PD.tYes, PD.sFor, PD.frz, PD.mTup, PD.mLst, PD.mChain, PD.mCallR, PD.once, PD.pass, PD.pass1, PD.back, PD.back1, PD.inS, PD.outS, PD.okArg, PD.outs, PD.fnD, PD.noEx, Md.mut, Md.ow, PD.eqD, PD.neD, PD.eqB, PD.eqS, PD.isD, PD.isntD, PD.isNonD, PD.addD, PD.subD, PD.modD, PD.fdivD, PD.negD, PD.keyD, PD.dgetD, PD.lenD, PD.mAdd, PD.ownL] at this
            omega
          omega
theorem bad_iff (hs : Hangs ss) (c : Int) : badP ss c = false ↔ ∀ k : Nat, k < ss.length → soonP ss c (k : Int) = true := by
  rw [fine_iff hs]
  unfold badP
  rw [List.any_eq_false]
  simp only [List.mem_range, Bool.not_eq_true', Bool.not_eq_false]
/-! ### currents between the sampled ones -/
theorem greatest {l : List Int} {b : Int} (h : ∃ x ∈ l, x ≤ b) : ∃ m ∈ l, m ≤ b ∧ ∀ x ∈ l, x ≤ b → x ≤ m := by
  induction l with
  | nil => obtain ⟨x, hx, _⟩ := h; cases hx
  | cons a l ih =>
    by_cases hl : ∃ x ∈ l, x ≤ b
    · obtain ⟨m, hm, hb, hx⟩ := ih hl
      by_cases ha : a ≤ b ∧ m < a
      · refine ⟨a, List.mem_cons_self, ha.1, fun x hx' hxb => ?_⟩
        rcases List.mem_cons.mp hx' with rfl | hx'
        · exact Int.le_refl _
        · have := hx x hx' hxb; omega
      · refine ⟨m, List.mem_cons_of_mem _ hm, hb, fun x hx' hxb => ?_⟩
        rcases List.mem_cons.mp hx' with rfl | hx'
        · omega
        · exact hx x hx' hxb
    · obtain ⟨x, hx, hxb⟩ := h
      rcases List.mem_cons.mp hx with rfl | hx
      · refine ⟨x, List.mem_cons_self, hxb, fun y hy hyb => ?_⟩
        rcases List.mem_cons.mp hy with rfl | hy
        · exact Int.le_refl _
        · exact absurd ⟨y, hy, hyb⟩ hl
      · exact absurd ⟨x, hx, hxb⟩ hl
theorem mem_curs {x : Int} : x ∈ curs ss ↔ x ∈ allC ss ∧ 1 ≤ x ∧ x ≤ 999 := by
  unfold curs
  rw [List.mem_filter, mem_srt, dd_mem]
  simp [PD.mK, PD.mVar, PD.m1, PD.m2, PD.mFz, PD.aNil, PD.aCons, PD.looks, PD.look, PD.dats, PD.mB, PD.truth, PD.tB, PD.tT, PD.tAnd, PD.tOr, PD.tNot, PD.mIf, PD.vAnd, PD.vOr, PD.vNot, PD.mCall, PD.sNx, PD.sSeq, PD.sDrop, PD.sIf, PD.ret, PD.sRet, PD.sRetN, PD.storeR, PD.store, PD.gN, PD.gNil, PD.gCons, PD.gT, PD.mut1, PD.setL, PD.gSub, PD.sSet, PD.sAsg, PD.stores, PD.noVar, PD.sPar, PD.items, PD.wSeq, PD.tYes, PD.sFor, PD.frz, PD.mTup, PD.mLst, PD.mChain, PD.mCallR, PD.once, PD.pass, PD.pass1, PD.back, PD.back1, PD.inS, PD.outS, PD.okArg, PD.outs, PD.fnD, PD.noEx, Md.mut, Md.ow, PD.eqD, PD.neD, PD.eqB, PD.eqS, PD.isD, PD.isntD, PD.isNonD, PD.addD, PD.subD, PD.modD, PD.fdivD, PD.negD, PD.keyD, PD.dgetD, PD.lenD, PD.mAdd, PD.ownL]
theorem same_time {s : Sw} (hs : s ∈ ss) {c m : Int} (h1 : 1 ≤ s.stop) (hst : ∀ p ∈ s.curve, 1 ≤ p.1) (hc : c ≤ 999) (hm : m ≤ c) (hg : ∀ x ∈ curs ss, x ≤ c → x ≤ m) : timeOf s c = timeOf s m := by
  have hin : ∀ x ∈ swC s, x ∈ allC ss := fun x hx => by
    unfold allC
    exact List.mem_append_right _ (List.mem_flatMap.mpr ⟨s, hs, hx⟩)
  have e1 : c ≤ s.stop ↔ m ≤ s.stop := by
    constructor
    · intro h; omega
    · intro h
      by_cases hlt : s.stop < c
      · have := hg (s.stop + 1) (mem_curs.mpr ⟨hin _ (by unfold swC; simp [PD.mK, PD.mVar, PD.m1, PD.m2, PD.mFz, PD.aNil, PD.aCons, PD.looks, PD.look, PD.dats, PD.mB, PD.truth, PD.tB, PD.tT, PD.tAnd, PD.tOr, PD.tNot, PD.mIf, PD.vAnd, PD.vOr, PD.vNot, PD.mCall, PD.sNx, PD.sSeq, PD.sDrop, PD.sIf, PD.ret, PD.sRet, PD.sRetN, PD.storeR, PD.store, PD.gN, PD.gNil, PD.gCons, PD.gT, PD.mut1, PD.setL, PD.gSub, PD.sSet, PD.sAsg, PD.stores, PD.noVar, PD.sPar, PD.items, PD.wSeq, PD.tYes, PD.sFor, PD.frz, PD.mTup, PD.mLst, PD.mChain, PD.mCallR, PD.once, PD.pass, PD.pass1, PD.back, PD.back1, PD.inS, PD.outS, PD.okArg, PD.outs, PD.fnD, PD.noEx, Md.mut, Md.ow, PD.eqD, PD.neD, PD.eqB, PD.eqS, PD.isD, PD.isntD, PD.isNonD, PD.addD, PD.subD, PD.modD, PD.fdivD, PD.negD, PD.keyD, PD.dgetD, PD.lenD, PD.mAdd, PD.ownL]), by omega, by omega⟩) (by omega)
        omega
      · omega
  have e2 : (s.curve.filter fun p => decide (p.1 ≤ c)) = s.curve.filter fun p => decide (p.1 ≤ m) := by
    refine List.filter_congr fun p hp => ?_
    rw [decide_eq_decide]
    constructor
    · intro h
      have h1 := hst p hp
      exact hg p.1 (mem_curs.mpr ⟨hin _ (by unfold swC; exact List.mem_append_left _ (List.mem_append_right _ (List.mem_map.mpr ⟨p, hp, rfl⟩))), by omega, by omega⟩) h
    · intro h; omega
  unfold timeOf lastT
  rw [e2]
  by_cases h : c ≤ s.stop
  · rw [if_pos h, if_pos (e1.mp h)]
  · rw [if_neg h, if_neg fun z => h (e1.mpr z)]
theorem same_bad (ok : BdOk A B ss ts) {c : Int} (c1 : 1 ≤ c) (c9 : c ≤ 999) : ∃ m ∈ curs ss, m ≤ c ∧ ∀ k, soonP ss c k = soonP ss m k := by
  have h1 : (1 : Int) ∈ curs ss := mem_curs.mpr ⟨by unfold allC; simp [PD.mK, PD.mVar, PD.m1, PD.m2, PD.mFz, PD.aNil, PD.aCons, PD.looks, PD.look, PD.dats, PD.mB, PD.truth, PD.tB, PD.tT, PD.tAnd, PD.tOr, PD.tNot, PD.mIf, PD.vAnd, PD.vOr, PD.vNot, PD.mCall, PD.sNx, PD.sSeq, PD.sDrop, PD.sIf, PD.ret, PD.sRet, PD.sRetN, PD.storeR, PD.store, PD.gN, PD.gNil, PD.gCons, PD.gT, PD.mut1, PD.setL, PD.gSub, PD.sSet, PD.sAsg, PD.stores, PD.noVar, PD.sPar, PD.items, PD.wSeq, PD.tYes, PD.sFor, PD.frz, PD.mTup, PD.mLst, PD.mChain, PD.mCallR, PD.once, PD.pass, PD.pass1, PD.back, PD.back1, PD.inS, PD.outS, PD.okArg, PD.outs, PD.fnD, PD.noEx, Md.mut, Md.ow, PD.eqD, PD.neD, PD.eqB, PD.eqS, PD.isD, PD.isntD, PD.isNonD, PD.addD, PD.subD, PD.modD, PD.fdivD, PD.negD, PD.keyD, PD.dgetD, PD.lenD, PD.mAdd, PD.ownL], by omega, by omega⟩
  obtain ⟨m, hm, hmc, hg⟩ := greatest ⟨1, h1, c1⟩
  have ht : ∀ j, tmAt ss c j = tmAt ss m j := fun j => by
    unfold tmAt
    cases hj : ss[j.toNat]? with
    | none => rfl
    | some s =>
      have oks := ok.sw _ s hj
      refine same_time (List.mem_of_getElem? hj) oks.s1 (fun p hp => ?_) c9 hmc hg
      have cv := oks.cv
      have r1 := oks.r1
      generalize s.curve = q at cv hp
      cases cv <;> simp [PD.mK, PD.mVar, PD.m1, PD.m2, PD.mFz, PD.aNil, PD.aCons, PD.looks, PD.look, PD.dats, PD.mB, PD.truth, PD.tB, PD.tT, PD.tAnd, PD.tOr, PD.tNot, PD.mIf, PD.vAnd, PD.vOr, PD.vNot, PD.mCall, PD.sNx, PD.sSeq, PD.sDrop, PD.sIf, PD.ret, PD.sRet, PD.sRetN, PD.storeR, PD.store, PD.gN, PD.gNil, PD.gCons, PD.gT, PD.mut1, PD.setL, PD.gSub, PD.sSet, PD.sAsg, PD.stores, PD.noVar, PD.sPar, PD.items, PD.wSeq, PD.tYes, PD.sFor, PD.frz, PD.mTup, PD.mLst, PD.mChain, PD.mCallR, PD.once, PD.pass, PD.pass1, PD.back, PD.back1, PD.inS, PD.outS, PD.okArg, PD.outs, PD.fnD, PD.noEx, Md.mut, Md.ow, PD.eqD, PD.neD, PD.eqB, PD.eqS, PD.isD, PD.isntD, PD.isNonD, PD.addD, PD.subD, PD.modD, PD.fdivD, PD.negD, PD.keyD, PD.dgetD, PD.lenD, PD.mAdd, PD.ownL] at hp
      · subst hp; simp [PD.mK, PD.mVar, PD.m1, PD.m2, PD.mFz, PD.aNil, PD.aCons, PD.looks, PD.look, PD.dats, PD.mB, PD.truth, PD.tB, PD.tT, PD.tAnd, PD.tOr, PD.tNot, PD.mIf, PD.vAnd, PD.vOr, PD.vNot, PD.mCall, PD.sNx, PD.sSeq, PD.sDrop, PD.sIf, PD.ret, PD.sRet, PD.sRetN, PD.storeR, PD.store, PD.gN, PD.gNil, PD.gCons, PD.gT, PD.mut1, PD.setL, PD.gSub, PD.sSet, PD.sAsg, PD.stores, PD.noVar, PD.sPar, PD.items, PD.wSeq, PD.tYes, PD.sFor, PD.frz, PD.mTup, PD.mLst, PD.mChain, PD.mCallR, PD.once, PD.pass, PD.pass1, PD.back, PD.back1, PD.inS, PD.outS, PD.okArg, PD.outs, PD.fnD, PD.noEx, Md.mut, Md.ow, PD.eqD, PD.neD, PD.eqB, PD.eqS, PD.isD, PD.isntD, PD.isNonD, PD.addD, PD.subD, PD.modD, PD.fdivD, PD.negD, PD.keyD, PD.dgetD, PD.lenD, PD.mAdd, PD.ownL]; omega
      · rcases hp with rfl | rfl <;> simp [PD.mK, PD.mVar, PD.m1, PD.m2, PD.mFz, PD.aNil, PD.aCons, PD.looks, PD.look, PD.dats, PD.mB, PD.truth, PD.tB, PD.tT, PD.tAnd, PD.tOr, PD.tNot, PD.mIf, PD.vAnd, PD.vOr, PD.vNot, PD.mCall, PD.sNx, PD.sSeq, PD.sDrop, PD.sIf, PD.ret, PD.sRet, PD.sRetN, PD.storeR, PD.store, PD.gN, PD.gNil, PD.gCons, PD.gT, PD.mut1, PD.setL, PD.gSub, PD.sSet, PD.sAsg, PD.stores, PD.noVar, PD.sPar, PD.items, PD.wSeq, PD.tYes, PD.sFor, PD.frz, PD.mTup, PD.mLst, PD.mChain, PD.mCallR, PD.once, PD.pass, PD.pass1, PD.back, PD.back1, PD.inS, PD.outS, PD.okArg, PD.outs, PD.fnD, PD.noEx, Md.mut, Md.ow, PD.eqD, PD.neD, PD.eqB, PD.eqS, PD.isD, PD.isntD, PD.isNonD, PD.addD, PD.subD, PD.modD, PD.fdivD, PD.negD, PD.keyD, PD.dgetD, PD.lenD, PD.mAdd, PD.ownL] <;> omega
      · rcases hp with rfl | rfl | rfl <;> simp [PD.mK, PD.mVar, PD.m1, PD.m2, PD.mFz, PD.aNil, PD.aCons, PD.looks, PD.look, PD.dats, PD.mB, PD.truth, PD.tB, PD.tT, PD.tAnd, PD.tOr, PD.tNot, PD.mIf, PD.vAnd, PD.vOr, PD.vNot, PD.mCall, PD.sNx, PD.sSeq, PD.sDrop, PD.sIf, PD.ret, PD.sRet, PD.sRetN, PD.storeR, PD.store, PD.gN, PD.gNil, PD.gCons, PD.gT, PD.mut1, PD.setL, PD.gSub, PD.sSet, PD.sAsg, PD.stores, PD.noVar, PD.sPar, PD.items, PD.wSeq, PD.tYes, PD.sFor, PD.frz, PD.mTup, PD.mLst, PD.mChain, PD.mCallR, PD.once, PD.pass, PD.pass1, PD.back, PD.back1, PD.inS, PD.outS, PD.okArg, PD.outs, PD.fnD, PD.noEx, Md.mut, Md.ow, PD.eqD, PD.neD, PD.eqB, PD.eqS, PD.isD, PD.isntD, PD.isNonD, PD.addD, PD.subD, PD.modD, PD.fdivD, PD.negD, PD.keyD, PD.dgetD, PD.lenD, PD.mAdd, PD.ownL] <;> omega
  refine ⟨m, hm, hmc, fun k => ?_⟩
  unfold soonP
  simp only [ht]
/-- the first that is so, of a list in order -/
theorem find_first {p : Int → Bool} : ∀ {l : List Int}, l.Pairwise (· < ·) → ∀ {f : Int}, l.find? p = some f → p f = true ∧ f ∈ l ∧ ∀ x ∈ l, x < f → p x = false
  | [], _, f, h => by cases h
  | a :: l, hp, f, h => by
    obtain ⟨h1, h2⟩ := List.pairwise_cons.mp hp
    rw [List.find?_cons] at h
    cases ha : p a with
    | true =>
      rw [ha] at h
      cases h
      refine ⟨ha, List.mem_cons_self, fun x hx hlt => ?_⟩
      rcases List.mem_cons.mp hx with rfl | hx
      · omega
      · have := h1 x hx; omega
    | false =>
      rw [ha] at h
      obtain ⟨i1, i2, i3⟩ := find_first h2 h
      refine ⟨i1, List.mem_cons_of_mem _ i2, fun x hx hlt => ?_⟩
      rcases List.mem_cons.mp hx with rfl | hx
      · exact ha
      · exact i3 x hx hlt
def gradP (ss : List Sw) (most : Nat) : Bool := ((List.range most).flatMap fun c => (List.range ss.length).map fun k => (c, k)).all fun p => soonP ss (1 + (p.1 : Int)) (p.2 : Int)
theorem srt_lt (l : List Int) : (srt (dd l)).Pairwise (· < ·) := by
  have h1 := sorted_srt (dd l)
  have h2 : (srt (dd l)).Nodup := (srt_perm (dd l)).nodup_iff.mpr (dd_nodup l)
  exact (h1.and h2).imp fun h => by have := h.1; have := h.2; omega
theorem grad_first (ok : BdOk A B ss ts) {most : Nat} (hm : (most : Int) ∈ curs ss) : gradP ss most = decide ((most : Int) < ((curs ss).find? (badP ss)).getD 1000) := by
  have hs := ok.hangs
  have hin := mem_curs.mp hm
  have hsort : (curs ss).Pairwise (· < ·) := (srt_lt _).filter _
  have key : gradP ss most = true ↔ ∀ x ∈ curs ss, x ≤ (most : Int) → badP ss x = false := by
    unfold gradP
    rw [List.all_eq_true]
    constructor
    · intro h x hx hle
      have hx' := mem_curs.mp hx
      rw [bad_iff hs]
      intro k hk
      have := h ((x - 1).toNat, k) (List.mem_flatMap.mpr ⟨(x - 1).toNat, List.mem_range.mpr (by omega), List.mem_map.mpr ⟨k, List.mem_range.mpr hk, rfl⟩⟩)
      simp only at this
      rw [show (1 : Int) + ((x - 1).toNat : Int) = x by omega] at this
      exact this
    · intro h p hp
      obtain ⟨c, hc, hp⟩ := List.mem_flatMap.mp hp
      obtain ⟨k, hk, rfl⟩ := List.mem_map.mp hp
      have hc := List.mem_range.mp hc
      have hk := List.mem_range.mp hk
      obtain ⟨m, hmc, hle, heq⟩ := same_bad ok (c := 1 + (c : Int)) (by omega) (by omega)
      show soonP ss (1 + (c : Int)) (k : Int) = true
      rw [heq]
      exact (bad_iff hs m).mp (h m hmc (by omega)) k hk
  rw [Bool.eq_iff_iff, key, decide_eq_true_eq]
  cases hf : (curs ss).find? (badP ss) with
  | none =>
    have hn := List.find?_eq_none.mp hf
    simp only [Option.getD_none]
    refine ⟨fun _ => by omega, fun _ x hx _ => by have := hn x hx; simpa using this⟩
  | some f =>
    obtain ⟨h1, h2, h3⟩ := find_first hsort hf
    simp only [Option.getD_some]
    constructor
    · intro h
      by_cases hlt : (most : Int) < f
      · exact hlt
      · have := h f h2 (by omega)
        rw [h1] at this; cases this
    · intro h x hx hle
      exact h3 x hx (by omega)
end Lk41

namespace Lk41
open PySem PySem.Spec L2 PD
variable {A B : Int} {ss : List Sw} {ts : List Th}
/-! ### the law's broken ones -/
def lotD (l : List Int) : D := .tup (l.map .int)
def tjD (ss : List Sw) (c : Int) (j : Int) : D := .tup [oD (tmAt ss c j), .int j]
theorem sorted_ints (l : List Int) : sortedD [.lst (l.map .int)] = some (.own (.lst ((srt l).map .int))) := by
  show (intsD _).map _ = _
  rw [intsD_map]; rfl
def isTj (d : D) : Bool := match d with | .tup [.non, _] => false | _ => true
def fstD (d : D) : D := match d with | .tup [x, _] => x | _ => .non
def sndD (d : D) : D := match d with | .tup [_, y] => y | _ => .non
theorem fm_tj (ss : List Sw) (c : Int) : ∀ l : List Int, (((l.map (tjD ss c)).filter isTj).map fstD) = (l.filterMap (tmAt ss c)).map .int
  | [] => rfl
  | j :: l => by
    rw [List.map_cons, List.filter_cons, List.filterMap_cons]
    have ih := fm_tj ss c l
    cases h : tmAt ss c j with
    | none => simp [PD.mK, PD.mVar, PD.m1, PD.m2, PD.mFz, PD.aNil, PD.aCons, PD.looks, PD.look, PD.dats, PD.mB, PD.truth, PD.tB, PD.tT, PD.tAnd, PD.tOr, PD.tNot, PD.mIf, PD.vAnd, PD.vOr, PD.vNot, PD.mCall, PD.sNx, PD.sSeq, PD.sDrop, PD.sIf, PD.ret, PD.sRet, PD.sRetN, PD.storeR, PD.store, PD.gN, PD.gNil, PD.gCons, PD.gT, PD.mut1, PD.setL, PD.gSub, PD.sSet, PD.sAsg, PD.stores, PD.noVar, PD.sPar, PD.items, PD.wSeq, PD.tYes, PD.sFor, PD.frz, PD.mTup, PD.mLst, PD.mChain, PD.mCallR, PD.once, PD.pass, PD.pass1, PD.back, PD.back1, PD.inS, PD.outS, PD.okArg, PD.outs, PD.fnD, PD.noEx, Md.mut, Md.ow, PD.eqD, PD.neD, PD.eqB, PD.eqS, PD.isD, PD.isntD, PD.isNonD, PD.addD, PD.subD, PD.modD, PD.fdivD, PD.negD, PD.keyD, PD.dgetD, PD.lenD, PD.mAdd, PD.ownL, tjD, h, oD, isTj, ih]
    | some t => simp [PD.mK, PD.mVar, PD.m1, PD.m2, PD.mFz, PD.aNil, PD.aCons, PD.looks, PD.look, PD.dats, PD.mB, PD.truth, PD.tB, PD.tT, PD.tAnd, PD.tOr, PD.tNot, PD.mIf, PD.vAnd, PD.vOr, PD.vNot, PD.mCall, PD.sNx, PD.sSeq, PD.sDrop, PD.sIf, PD.ret, PD.sRet, PD.sRetN, PD.storeR, PD.store, PD.gN, PD.gNil, PD.gCons, PD.gT, PD.mut1, PD.setL, PD.gSub, PD.sSet, PD.sAsg, PD.stores, PD.noVar, PD.sPar, PD.items, PD.wSeq, PD.tYes, PD.sFor, PD.frz, PD.mTup, PD.mLst, PD.mChain, PD.mCallR, PD.once, PD.pass, PD.pass1, PD.back, PD.back1, PD.inS, PD.outS, PD.okArg, PD.outs, PD.fnD, PD.noEx, Md.mut, Md.ow, PD.eqD, PD.neD, PD.eqB, PD.eqS, PD.isD, PD.isntD, PD.isNonD, PD.addD, PD.subD, PD.modD, PD.fdivD, PD.negD, PD.keyD, PD.dgetD, PD.lenD, PD.mAdd, PD.ownL, tjD, h, oD, isTj, ih, fstD]
def isLt (m : Int) (d : D) : Bool := match d with | .tup [.int t, _] => decide (t = m) | _ => false
theorem fl_tj (ss : List Sw) (c i : Int) : ∀ l : List Int, (((l.map (tjD ss c)).filter (isLt (leastP ss i c))).map sndD) = (l.filter (isL ss i c)).map .int
  | [] => rfl
  | j :: l => by
    rw [List.map_cons, List.filter_cons, List.filter_cons]
    have ih := fl_tj ss c i l
    cases h : tmAt ss c j with
    | none => simp [PD.mK, PD.mVar, PD.m1, PD.m2, PD.mFz, PD.aNil, PD.aCons, PD.looks, PD.look, PD.dats, PD.mB, PD.truth, PD.tB, PD.tT, PD.tAnd, PD.tOr, PD.tNot, PD.mIf, PD.vAnd, PD.vOr, PD.vNot, PD.mCall, PD.sNx, PD.sSeq, PD.sDrop, PD.sIf, PD.ret, PD.sRet, PD.sRetN, PD.storeR, PD.store, PD.gN, PD.gNil, PD.gCons, PD.gT, PD.mut1, PD.setL, PD.gSub, PD.sSet, PD.sAsg, PD.stores, PD.noVar, PD.sPar, PD.items, PD.wSeq, PD.tYes, PD.sFor, PD.frz, PD.mTup, PD.mLst, PD.mChain, PD.mCallR, PD.once, PD.pass, PD.pass1, PD.back, PD.back1, PD.inS, PD.outS, PD.okArg, PD.outs, PD.fnD, PD.noEx, Md.mut, Md.ow, PD.eqD, PD.neD, PD.eqB, PD.eqS, PD.isD, PD.isntD, PD.isNonD, PD.addD, PD.subD, PD.modD, PD.fdivD, PD.negD, PD.keyD, PD.dgetD, PD.lenD, PD.mAdd, PD.ownL, tjD, h, oD, isLt, isL, ih]
    | some t =>
      by_cases ht : t = leastP ss i c
      · simp [PD.mK, PD.mVar, PD.m1, PD.m2, PD.mFz, PD.aNil, PD.aCons, PD.looks, PD.look, PD.dats, PD.mB, PD.truth, PD.tB, PD.tT, PD.tAnd, PD.tOr, PD.tNot, PD.mIf, PD.vAnd, PD.vOr, PD.vNot, PD.mCall, PD.sNx, PD.sSeq, PD.sDrop, PD.sIf, PD.ret, PD.sRet, PD.sRetN, PD.storeR, PD.store, PD.gN, PD.gNil, PD.gCons, PD.gT, PD.mut1, PD.setL, PD.gSub, PD.sSet, PD.sAsg, PD.stores, PD.noVar, PD.sPar, PD.items, PD.wSeq, PD.tYes, PD.sFor, PD.frz, PD.mTup, PD.mLst, PD.mChain, PD.mCallR, PD.once, PD.pass, PD.pass1, PD.back, PD.back1, PD.inS, PD.outS, PD.okArg, PD.outs, PD.fnD, PD.noEx, Md.mut, Md.ow, PD.eqD, PD.neD, PD.eqB, PD.eqS, PD.isD, PD.isntD, PD.isNonD, PD.addD, PD.subD, PD.modD, PD.fdivD, PD.negD, PD.keyD, PD.dgetD, PD.lenD, PD.mAdd, PD.ownL, tjD, h, oD, isLt, isL, ih, ht, sndD]
      · simp [PD.mK, PD.mVar, PD.m1, PD.m2, PD.mFz, PD.aNil, PD.aCons, PD.looks, PD.look, PD.dats, PD.mB, PD.truth, PD.tB, PD.tT, PD.tAnd, PD.tOr, PD.tNot, PD.mIf, PD.vAnd, PD.vOr, PD.vNot, PD.mCall, PD.sNx, PD.sSeq, PD.sDrop, PD.sIf, PD.ret, PD.sRet, PD.sRetN, PD.storeR, PD.store, PD.gN, PD.gNil, PD.gCons, PD.gT, PD.mut1, PD.setL, PD.gSub, PD.sSet, PD.sAsg, PD.stores, PD.noVar, PD.sPar, PD.items, PD.wSeq, PD.tYes, PD.sFor, PD.frz, PD.mTup, PD.mLst, PD.mChain, PD.mCallR, PD.once, PD.pass, PD.pass1, PD.back, PD.back1, PD.inS, PD.outS, PD.okArg, PD.outs, PD.fnD, PD.noEx, Md.mut, Md.ow, PD.eqD, PD.neD, PD.eqB, PD.eqS, PD.isD, PD.isntD, PD.isNonD, PD.addD, PD.subD, PD.modD, PD.fdivD, PD.negD, PD.keyD, PD.dgetD, PD.lenD, PD.mAdd, PD.ownL, tjD, h, oD, isLt, isL, ih, ht]
theorem min_ints {l : List Int} (h : l ≠ []) : minD [.lst (l.map .int)] = some (.dat (.int (minI l))) := by
  show (intsD _).bind _ = _
  rw [intsD_map]
  simp [PD.mK, PD.mVar, PD.m1, PD.m2, PD.mFz, PD.aNil, PD.aCons, PD.looks, PD.look, PD.dats, PD.mB, PD.truth, PD.tB, PD.tT, PD.tAnd, PD.tOr, PD.tNot, PD.mIf, PD.vAnd, PD.vOr, PD.vNot, PD.mCall, PD.sNx, PD.sSeq, PD.sDrop, PD.sIf, PD.ret, PD.sRet, PD.sRetN, PD.storeR, PD.store, PD.gN, PD.gNil, PD.gCons, PD.gT, PD.mut1, PD.setL, PD.gSub, PD.sSet, PD.sAsg, PD.stores, PD.noVar, PD.sPar, PD.items, PD.wSeq, PD.tYes, PD.sFor, PD.frz, PD.mTup, PD.mLst, PD.mChain, PD.mCallR, PD.once, PD.pass, PD.pass1, PD.back, PD.back1, PD.inS, PD.outS, PD.okArg, PD.outs, PD.fnD, PD.noEx, Md.mut, Md.ow, PD.eqD, PD.neD, PD.eqB, PD.eqS, PD.isD, PD.isntD, PD.isNonD, PD.addD, PD.subD, PD.modD, PD.fdivD, PD.negD, PD.keyD, PD.dgetD, PD.lenD, PD.mAdd, PD.ownL, h]
theorem law_broken_ok (h : BdOk A B ss ts) (hA : A ≤ 7) {i : Nat} (hi : i < ss.length) (c : Int) : F__law_broken [⟨.dat, bdD ss ts⟩, ⟨.dat, .int (i : Int)⟩, ⟨.dat, .int c⟩] = .ok (.dat (lotD (brokenP ss (i : Int) c))) [none, none, none] := by
  have e1 := law_path_ok (ts := ts) h.hangs (by have := h.nA; omega) hi
  have h2 : 2 ≤ LIM := by unfold LIM; omega
  have c1 : compD (gN 5) tYes (mTup (aCons (mFz (mCall F__law_time [] (aCons (mVar 0) (aCons (mVar 5) (aCons (mVar 2) aNil))))) (aCons (mFz (mVar 5)) aNil))) [5] ((pathOf ss (i : Int)).map .int) [] [some ⟨.dat, bdD ss ts⟩, some ⟨.dat, .int (i : Int)⟩, some ⟨.dat, .int c⟩, none, none, none, none]
      = .ok ((pathOf ss (i : Int)).map (tjD ss c)) [some ⟨.dat, bdD ss ts⟩, some ⟨.dat, .int (i : Int)⟩, some ⟨.dat, .int c⟩, none, none, none, none] := by
    rw [compD_map (f := fun d => match d with | .int j => tjD ss c j | _ => .non) ((pathOf ss (i : Int)).map .int) [] (fun x hx => by
      obtain ⟨k, hk, rfl⟩ := List.mem_map.mp hx
      obtain ⟨j, rfl, hj⟩ := path_in h.hangs hi hk
      obtain ⟨s, hs, et⟩ := tm_at hj c
      have e3 := law_time_ok (ts := ts) c hs
      obtain ⟨Γ, hΓ⟩ : ∃ Γ : EnD, Γ = [some ⟨.dat, bdD ss ts⟩, some ⟨.dat, .int (i : Int)⟩, some ⟨.dat, .int c⟩, none, none, some ⟨.dat, .int (j : Int)⟩, none] := ⟨_, rfl⟩
      exact ⟨Γ, Γ, Γ, by rw [hΓ]; simp [PD.mK, PD.mVar, PD.m1, PD.m2, PD.mFz, PD.aNil, PD.aCons, PD.looks, PD.look, PD.dats, PD.mB, PD.truth, PD.tB, PD.tT, PD.tAnd, PD.tOr, PD.tNot, PD.mIf, PD.vAnd, PD.vOr, PD.vNot, PD.mCall, PD.sNx, PD.sSeq, PD.sDrop, PD.sIf, PD.ret, PD.sRet, PD.sRetN, PD.storeR, PD.store, PD.gN, PD.gNil, PD.gCons, PD.gT, PD.mut1, PD.setL, PD.gSub, PD.sSet, PD.sAsg, PD.stores, PD.noVar, PD.sPar, PD.items, PD.wSeq, PD.tYes, PD.sFor, PD.frz, PD.mTup, PD.mLst, PD.mChain, PD.mCallR, PD.once, PD.pass, PD.pass1, PD.back, PD.back1, PD.inS, PD.outS, PD.okArg, PD.outs, PD.fnD, PD.noEx, Md.mut, Md.ow, PD.eqD, PD.neD, PD.eqB, PD.eqS, PD.isD, PD.isntD, PD.isNonD, PD.addD, PD.subD, PD.modD, PD.fdivD, PD.negD, PD.keyD, PD.dgetD, PD.lenD, PD.mAdd, PD.ownL], by simp [PD.mK, PD.mVar, PD.m1, PD.m2, PD.mFz, PD.aNil, PD.aCons, PD.looks, PD.look, PD.dats, PD.mB, PD.truth, PD.tB, PD.tT, PD.tAnd, PD.tOr, PD.tNot, PD.mIf, PD.vAnd, PD.vOr, PD.vNot, PD.mCall, PD.sNx, PD.sSeq, PD.sDrop, PD.sIf, PD.ret, PD.sRet, PD.sRetN, PD.storeR, PD.store, PD.gN, PD.gNil, PD.gCons, PD.gT, PD.mut1, PD.setL, PD.gSub, PD.sSet, PD.sAsg, PD.stores, PD.noVar, PD.sPar, PD.items, PD.wSeq, PD.tYes, PD.sFor, PD.frz, PD.mTup, PD.mLst, PD.mChain, PD.mCallR, PD.once, PD.pass, PD.pass1, PD.back, PD.back1, PD.inS, PD.outS, PD.okArg, PD.outs, PD.fnD, PD.noEx, Md.mut, Md.ow, PD.eqD, PD.neD, PD.eqB, PD.eqS, PD.isD, PD.isntD, PD.isNonD, PD.addD, PD.subD, PD.modD, PD.fdivD, PD.negD, PD.keyD, PD.dgetD, PD.lenD, PD.mAdd, PD.ownL], by rw [hΓ]; simp [PD.mK, PD.mVar, PD.m1, PD.m2, PD.mFz, PD.aNil, PD.aCons, PD.looks, PD.look, PD.dats, PD.mB, PD.truth, PD.tB, PD.tT, PD.tAnd, PD.tOr, PD.tNot, PD.mIf, PD.vAnd, PD.vOr, PD.vNot, PD.mCall, PD.sNx, PD.sSeq, PD.sDrop, PD.sIf, PD.ret, PD.sRet, PD.sRetN, PD.storeR, PD.store, PD.gN, PD.gNil, PD.gCons, PD.gT, PD.mut1, PD.setL, PD.gSub, PD.sSet, PD.sAsg, PD.stores, PD.noVar, PD.sPar, PD.items, PD.wSeq, PD.tYes, PD.sFor, PD.frz, PD.mTup, PD.mLst, PD.mChain, PD.mCallR, PD.once, PD.pass, PD.pass1, PD.back, PD.back1, PD.inS, PD.outS, PD.okArg, PD.outs, PD.fnD, PD.noEx, Md.mut, Md.ow, PD.eqD, PD.neD, PD.eqB, PD.eqS, PD.isD, PD.isntD, PD.isNonD, PD.addD, PD.subD, PD.modD, PD.fdivD, PD.negD, PD.keyD, PD.dgetD, PD.lenD, PD.mAdd, PD.ownL, e3, tjD, et, h2], by rw [hΓ]; simp [PD.mK, PD.mVar, PD.m1, PD.m2, PD.mFz, PD.aNil, PD.aCons, PD.looks, PD.look, PD.dats, PD.mB, PD.truth, PD.tB, PD.tT, PD.tAnd, PD.tOr, PD.tNot, PD.mIf, PD.vAnd, PD.vOr, PD.vNot, PD.mCall, PD.sNx, PD.sSeq, PD.sDrop, PD.sIf, PD.ret, PD.sRet, PD.sRetN, PD.storeR, PD.store, PD.gN, PD.gNil, PD.gCons, PD.gT, PD.mut1, PD.setL, PD.gSub, PD.sSet, PD.sAsg, PD.stores, PD.noVar, PD.sPar, PD.items, PD.wSeq, PD.tYes, PD.sFor, PD.frz, PD.mTup, PD.mLst, PD.mChain, PD.mCallR, PD.once, PD.pass, PD.pass1, PD.back, PD.back1, PD.inS, PD.outS, PD.okArg, PD.outs, PD.fnD, PD.noEx, Md.mut, Md.ow, PD.eqD, PD.neD, PD.eqB, PD.eqS, PD.isD, PD.isntD, PD.isNonD, PD.addD, PD.subD, PD.modD, PD.fdivD, PD.negD, PD.keyD, PD.dgetD, PD.lenD, PD.mAdd, PD.ownL, wipeE]⟩)]
    rw [List.nil_append, List.map_map]
    rfl
  obtain ⟨P, hP⟩ : ∃ P, P = pathOf ss (i : Int) := ⟨_, rfl⟩
  obtain ⟨Γ2, hΓ2⟩ : ∃ Γ2 : EnD, Γ2 = [some ⟨.dat, bdD ss ts⟩, some ⟨.dat, .int (i : Int)⟩, some ⟨.dat, .int c⟩, some ⟨.dat, .lst (P.map (tjD ss c))⟩, none, none, none] := ⟨_, rfl⟩
  have c2 : compD (gT 2 (PD.gCons (gN 6) (PD.gCons (gN 5) PD.gNil))) (PD.tB (m2 isntD (mVar 6) (mK .non))) (mVar 6) [6, 5] (P.map (tjD ss c)) [] Γ2 = .ok ((P.filterMap (tmAt ss c)).map .int) Γ2 := by
    rw [compD_filter (f := fstD) (p := isTj) (P.map (tjD ss c)) [] (fun x hx => by
      obtain ⟨j, hj, rfl⟩ := List.mem_map.mp hx
      obtain ⟨Γ, hΓ⟩ : ∃ Γ : EnD, Γ = [some ⟨.dat, bdD ss ts⟩, some ⟨.dat, .int (i : Int)⟩, some ⟨.dat, .int c⟩, some ⟨.dat, .lst (P.map (tjD ss c))⟩, none, some ⟨.dat, .int j⟩, some ⟨.dat, oD (tmAt ss c j)⟩] := ⟨_, rfl⟩
      refine ⟨Γ, Γ, by rw [hΓ, hΓ2]; simp [PD.mK, PD.mVar, PD.m1, PD.m2, PD.mFz, PD.aNil, PD.aCons, PD.looks, PD.look, PD.dats, PD.mB, PD.truth, PD.tB, PD.tT, PD.tAnd, PD.tOr, PD.tNot, PD.mIf, PD.vAnd, PD.vOr, PD.vNot, PD.mCall, PD.sNx, PD.sSeq, PD.sDrop, PD.sIf, PD.ret, PD.sRet, PD.sRetN, PD.storeR, PD.store, PD.gN, PD.gNil, PD.gCons, PD.gT, PD.mut1, PD.setL, PD.gSub, PD.sSet, PD.sAsg, PD.stores, PD.noVar, PD.sPar, PD.items, PD.wSeq, PD.tYes, PD.sFor, PD.frz, PD.mTup, PD.mLst, PD.mChain, PD.mCallR, PD.once, PD.pass, PD.pass1, PD.back, PD.back1, PD.inS, PD.outS, PD.okArg, PD.outs, PD.fnD, PD.noEx, Md.mut, Md.ow, PD.eqD, PD.neD, PD.eqB, PD.eqS, PD.isD, PD.isntD, PD.isNonD, PD.addD, PD.subD, PD.modD, PD.fdivD, PD.negD, PD.keyD, PD.dgetD, PD.lenD, PD.mAdd, PD.ownL, tjD], ?_, fun _ => ⟨Γ, by rw [hΓ]; simp [PD.mK, PD.mVar, PD.m1, PD.m2, PD.mFz, PD.aNil, PD.aCons, PD.looks, PD.look, PD.dats, PD.mB, PD.truth, PD.tB, PD.tT, PD.tAnd, PD.tOr, PD.tNot, PD.mIf, PD.vAnd, PD.vOr, PD.vNot, PD.mCall, PD.sNx, PD.sSeq, PD.sDrop, PD.sIf, PD.ret, PD.sRet, PD.sRetN, PD.storeR, PD.store, PD.gN, PD.gNil, PD.gCons, PD.gT, PD.mut1, PD.setL, PD.gSub, PD.sSet, PD.sAsg, PD.stores, PD.noVar, PD.sPar, PD.items, PD.wSeq, PD.tYes, PD.sFor, PD.frz, PD.mTup, PD.mLst, PD.mChain, PD.mCallR, PD.once, PD.pass, PD.pass1, PD.back, PD.back1, PD.inS, PD.outS, PD.okArg, PD.outs, PD.fnD, PD.noEx, Md.mut, Md.ow, PD.eqD, PD.neD, PD.eqB, PD.eqS, PD.isD, PD.isntD, PD.isNonD, PD.addD, PD.subD, PD.modD, PD.fdivD, PD.negD, PD.keyD, PD.dgetD, PD.lenD, PD.mAdd, PD.ownL, tjD, fstD], by rw [hΓ, hΓ2]; simp [PD.mK, PD.mVar, PD.m1, PD.m2, PD.mFz, PD.aNil, PD.aCons, PD.looks, PD.look, PD.dats, PD.mB, PD.truth, PD.tB, PD.tT, PD.tAnd, PD.tOr, PD.tNot, PD.mIf, PD.vAnd, PD.vOr, PD.vNot, PD.mCall, PD.sNx, PD.sSeq, PD.sDrop, PD.sIf, PD.ret, PD.sRet, PD.sRetN, PD.storeR, PD.store, PD.gN, PD.gNil, PD.gCons, PD.gT, PD.mut1, PD.setL, PD.gSub, PD.sSet, PD.sAsg, PD.stores, PD.noVar, PD.sPar, PD.items, PD.wSeq, PD.tYes, PD.sFor, PD.frz, PD.mTup, PD.mLst, PD.mChain, PD.mCallR, PD.once, PD.pass, PD.pass1, PD.back, PD.back1, PD.inS, PD.outS, PD.okArg, PD.outs, PD.fnD, PD.noEx, Md.mut, Md.ow, PD.eqD, PD.neD, PD.eqB, PD.eqS, PD.isD, PD.isntD, PD.isNonD, PD.addD, PD.subD, PD.modD, PD.fdivD, PD.negD, PD.keyD, PD.dgetD, PD.lenD, PD.mAdd, PD.ownL, wipeE]⟩, fun _ => by rw [hΓ, hΓ2]; simp [PD.mK, PD.mVar, PD.m1, PD.m2, PD.mFz, PD.aNil, PD.aCons, PD.looks, PD.look, PD.dats, PD.mB, PD.truth, PD.tB, PD.tT, PD.tAnd, PD.tOr, PD.tNot, PD.mIf, PD.vAnd, PD.vOr, PD.vNot, PD.mCall, PD.sNx, PD.sSeq, PD.sDrop, PD.sIf, PD.ret, PD.sRet, PD.sRetN, PD.storeR, PD.store, PD.gN, PD.gNil, PD.gCons, PD.gT, PD.mut1, PD.setL, PD.gSub, PD.sSet, PD.sAsg, PD.stores, PD.noVar, PD.sPar, PD.items, PD.wSeq, PD.tYes, PD.sFor, PD.frz, PD.mTup, PD.mLst, PD.mChain, PD.mCallR, PD.once, PD.pass, PD.pass1, PD.back, PD.back1, PD.inS, PD.outS, PD.okArg, PD.outs, PD.fnD, PD.noEx, Md.mut, Md.ow, PD.eqD, PD.neD, PD.eqB, PD.eqS, PD.isD, PD.isntD, PD.isNonD, PD.addD, PD.subD, PD.modD, PD.fdivD, PD.negD, PD.keyD, PD.dgetD, PD.lenD, PD.mAdd, PD.ownL, wipeE]⟩
      rw [hΓ]
      have := isnt_oD (tmAt ss c j)
      simp [PD.mK, PD.mVar, PD.m1, PD.m2, PD.mFz, PD.aNil, PD.aCons, PD.looks, PD.look, PD.dats, PD.mB, PD.truth, PD.tB, PD.tT, PD.tAnd, PD.tOr, PD.tNot, PD.mIf, PD.vAnd, PD.vOr, PD.vNot, PD.mCall, PD.sNx, PD.sSeq, PD.sDrop, PD.sIf, PD.ret, PD.sRet, PD.sRetN, PD.storeR, PD.store, PD.gN, PD.gNil, PD.gCons, PD.gT, PD.mut1, PD.setL, PD.gSub, PD.sSet, PD.sAsg, PD.stores, PD.noVar, PD.sPar, PD.items, PD.wSeq, PD.tYes, PD.sFor, PD.frz, PD.mTup, PD.mLst, PD.mChain, PD.mCallR, PD.once, PD.pass, PD.pass1, PD.back, PD.back1, PD.inS, PD.outS, PD.okArg, PD.outs, PD.fnD, PD.noEx, Md.mut, Md.ow, PD.eqD, PD.neD, PD.eqB, PD.eqS, PD.isD, PD.isNonD, PD.addD, PD.subD, PD.modD, PD.fdivD, PD.negD, PD.keyD, PD.dgetD, PD.lenD, PD.mAdd, PD.ownL, this]
      cases ht : tmAt ss c j <;> simp [PD.mK, PD.mVar, PD.m1, PD.m2, PD.mFz, PD.aNil, PD.aCons, PD.looks, PD.look, PD.dats, PD.mB, PD.truth, PD.tB, PD.tT, PD.tAnd, PD.tOr, PD.tNot, PD.mIf, PD.vAnd, PD.vOr, PD.vNot, PD.mCall, PD.sNx, PD.sSeq, PD.sDrop, PD.sIf, PD.ret, PD.sRet, PD.sRetN, PD.storeR, PD.store, PD.gN, PD.gNil, PD.gCons, PD.gT, PD.mut1, PD.setL, PD.gSub, PD.sSet, PD.sAsg, PD.stores, PD.noVar, PD.sPar, PD.items, PD.wSeq, PD.tYes, PD.sFor, PD.frz, PD.mTup, PD.mLst, PD.mChain, PD.mCallR, PD.once, PD.pass, PD.pass1, PD.back, PD.back1, PD.inS, PD.outS, PD.okArg, PD.outs, PD.fnD, PD.noEx, Md.mut, Md.ow, PD.eqD, PD.neD, PD.eqB, PD.eqS, PD.isD, PD.isntD, PD.isNonD, PD.addD, PD.subD, PD.modD, PD.fdivD, PD.negD, PD.keyD, PD.dgetD, PD.lenD, PD.mAdd, PD.ownL, tjD, ht, oD, isTj])]
    rw [List.nil_append, fm_tj]
  obtain ⟨S, hS⟩ : ∃ S, S = P.filterMap (tmAt ss c) := ⟨_, rfl⟩
  obtain ⟨Γ3, hΓ3⟩ : ∃ Γ3 : EnD, Γ3 = [some ⟨.dat, bdD ss ts⟩, some ⟨.dat, .int (i : Int)⟩, some ⟨.dat, .int c⟩, some ⟨.dat, .lst (P.map (tjD ss c))⟩, some ⟨.own, .lst (S.map .int)⟩, none, none] := ⟨_, rfl⟩
  have c3 : compD (gT 2 (PD.gCons (gN 6) (PD.gCons (gN 5) PD.gNil))) (PD.tAnd (PD.tB (m2 isntD (mVar 6) (mK .non))) (PD.tB (m2 eqD (mVar 6) (mB minD (aCons (mVar 4) aNil))))) (mVar 5) [6, 5] (P.map (tjD ss c)) [] Γ3 = .ok ((P.filter (isL ss (i : Int) c)).map .int) Γ3 := by
    rw [compD_filter (f := sndD) (p := isLt (leastP ss (i : Int) c)) (P.map (tjD ss c)) [] (fun x hx => by
      obtain ⟨j, hj, rfl⟩ := List.mem_map.mp hx
      obtain ⟨Γ, hΓ⟩ : ∃ Γ : EnD, Γ = [some ⟨.dat, bdD ss ts⟩, some ⟨.dat, .int (i : Int)⟩, some ⟨.dat, .int c⟩, some ⟨.dat, .lst (P.map (tjD ss c))⟩, some ⟨.own, .lst (S.map .int)⟩, some ⟨.dat, .int j⟩, some ⟨.dat, oD (tmAt ss c j)⟩] := ⟨_, rfl⟩
      refine ⟨Γ, Γ, by rw [hΓ, hΓ3]; simp [PD.mK, PD.mVar, PD.m1, PD.m2, PD.mFz, PD.aNil, PD.aCons, PD.looks, PD.look, PD.dats, PD.mB, PD.truth, PD.tB, PD.tT, PD.tAnd, PD.tOr, PD.tNot, PD.mIf, PD.vAnd, PD.vOr, PD.vNot, PD.mCall, PD.sNx, PD.sSeq, PD.sDrop, PD.sIf, PD.ret, PD.sRet, PD.sRetN, PD.storeR, PD.store, PD.gN, PD.gNil, PD.gCons, PD.gT, PD.mut1, PD.setL, PD.gSub, PD.sSet, PD.sAsg, PD.stores, PD.noVar, PD.sPar, PD.items, PD.wSeq, PD.tYes, PD.sFor, PD.frz, PD.mTup, PD.mLst, PD.mChain, PD.mCallR, PD.once, PD.pass, PD.pass1, PD.back, PD.back1, PD.inS, PD.outS, PD.okArg, PD.outs, PD.fnD, PD.noEx, Md.mut, Md.ow, PD.eqD, PD.neD, PD.eqB, PD.eqS, PD.isD, PD.isntD, PD.isNonD, PD.addD, PD.subD, PD.modD, PD.fdivD, PD.negD, PD.keyD, PD.dgetD, PD.lenD, PD.mAdd, PD.ownL, tjD], ?_, fun _ => ⟨Γ, by rw [hΓ]; simp [PD.mK, PD.mVar, PD.m1, PD.m2, PD.mFz, PD.aNil, PD.aCons, PD.looks, PD.look, PD.dats, PD.mB, PD.truth, PD.tB, PD.tT, PD.tAnd, PD.tOr, PD.tNot, PD.mIf, PD.vAnd, PD.vOr, PD.vNot, PD.mCall, PD.sNx, PD.sSeq, PD.sDrop, PD.sIf, PD.ret, PD.sRet, PD.sRetN, PD.storeR, PD.store, PD.gN, PD.gNil, PD.gCons, PD.gT, PD.mut1, PD.setL, PD.gSub, PD.sSet, PD.sAsg, PD.stores, PD.noVar, PD.sPar, PD.items, PD.wSeq, PD.tYes, PD.sFor, PD.frz, PD.mTup, PD.mLst, PD.mChain, PD.mCallR, PD.once, PD.pass, PD.pass1, PD.back, PD.back1, PD.inS, PD.outS, PD.okArg, PD.outs, PD.fnD, PD.noEx, Md.mut, Md.ow, PD.eqD, PD.neD, PD.eqB, PD.eqS, PD.isD, PD.isntD, PD.isNonD, PD.addD, PD.subD, PD.modD, PD.fdivD, PD.negD, PD.keyD, PD.dgetD, PD.lenD, PD.mAdd, PD.ownL, tjD, sndD], by rw [hΓ, hΓ3]; simp [PD.mK, PD.mVar, PD.m1, PD.m2, PD.mFz, PD.aNil, PD.aCons, PD.looks, PD.look, PD.dats, PD.mB, PD.truth, PD.tB, PD.tT, PD.tAnd, PD.tOr, PD.tNot, PD.mIf, PD.vAnd, PD.vOr, PD.vNot, PD.mCall, PD.sNx, PD.sSeq, PD.sDrop, PD.sIf, PD.ret, PD.sRet, PD.sRetN, PD.storeR, PD.store, PD.gN, PD.gNil, PD.gCons, PD.gT, PD.mut1, PD.setL, PD.gSub, PD.sSet, PD.sAsg, PD.stores, PD.noVar, PD.sPar, PD.items, PD.wSeq, PD.tYes, PD.sFor, PD.frz, PD.mTup, PD.mLst, PD.mChain, PD.mCallR, PD.once, PD.pass, PD.pass1, PD.back, PD.back1, PD.inS, PD.outS, PD.okArg, PD.outs, PD.fnD, PD.noEx, Md.mut, Md.ow, PD.eqD, PD.neD, PD.eqB, PD.eqS, PD.isD, PD.isntD, PD.isNonD, PD.addD, PD.subD, PD.modD, PD.fdivD, PD.negD, PD.keyD, PD.dgetD, PD.lenD, PD.mAdd, PD.ownL, wipeE]⟩, fun _ => by rw [hΓ, hΓ3]; simp [PD.mK, PD.mVar, PD.m1, PD.m2, PD.mFz, PD.aNil, PD.aCons, PD.looks, PD.look, PD.dats, PD.mB, PD.truth, PD.tB, PD.tT, PD.tAnd, PD.tOr, PD.tNot, PD.mIf, PD.vAnd, PD.vOr, PD.vNot, PD.mCall, PD.sNx, PD.sSeq, PD.sDrop, PD.sIf, PD.ret, PD.sRet, PD.sRetN, PD.storeR, PD.store, PD.gN, PD.gNil, PD.gCons, PD.gT, PD.mut1, PD.setL, PD.gSub, PD.sSet, PD.sAsg, PD.stores, PD.noVar, PD.sPar, PD.items, PD.wSeq, PD.tYes, PD.sFor, PD.frz, PD.mTup, PD.mLst, PD.mChain, PD.mCallR, PD.once, PD.pass, PD.pass1, PD.back, PD.back1, PD.inS, PD.outS, PD.okArg, PD.outs, PD.fnD, PD.noEx, Md.mut, Md.ow, PD.eqD, PD.neD, PD.eqB, PD.eqS, PD.isD, PD.isntD, PD.isNonD, PD.addD, PD.subD, PD.modD, PD.fdivD, PD.negD, PD.keyD, PD.dgetD, PD.lenD, PD.mAdd, PD.ownL, wipeE]⟩
      rw [hΓ]
      cases ht : tmAt ss c j with
      | none => simp [PD.mK, PD.mVar, PD.m1, PD.m2, PD.mFz, PD.aNil, PD.aCons, PD.looks, PD.look, PD.dats, PD.mB, PD.truth, PD.tB, PD.tT, PD.tAnd, PD.tOr, PD.tNot, PD.mIf, PD.vAnd, PD.vOr, PD.vNot, PD.mCall, PD.sNx, PD.sSeq, PD.sDrop, PD.sIf, PD.ret, PD.sRet, PD.sRetN, PD.storeR, PD.store, PD.gN, PD.gNil, PD.gCons, PD.gT, PD.mut1, PD.setL, PD.gSub, PD.sSet, PD.sAsg, PD.stores, PD.noVar, PD.sPar, PD.items, PD.wSeq, PD.tYes, PD.sFor, PD.frz, PD.mTup, PD.mLst, PD.mChain, PD.mCallR, PD.once, PD.pass, PD.pass1, PD.back, PD.back1, PD.inS, PD.outS, PD.okArg, PD.outs, PD.fnD, PD.noEx, Md.mut, Md.ow, PD.eqD, PD.neD, PD.eqB, PD.eqS, PD.isD, PD.isntD, PD.isNonD, PD.addD, PD.subD, PD.modD, PD.fdivD, PD.negD, PD.keyD, PD.dgetD, PD.lenD, PD.mAdd, PD.ownL, oD, tjD, ht, isLt]
      | some t =>
        have hne : S ≠ [] := fun z => by
          have : t ∈ S := by rw [hS]; exact List.mem_filterMap.mpr ⟨j, hj, ht⟩
          rw [z] at this; cases this
        have em := min_ints hne
        have el : minI S = leastP ss (i : Int) c := by unfold leastP; rw [hS, hP]
        rw [el] at em
        by_cases htl : t = leastP ss (i : Int) c
        · simp [PD.mK, PD.mVar, PD.m1, PD.m2, PD.mFz, PD.aNil, PD.aCons, PD.looks, PD.look, PD.dats, PD.mB, PD.truth, PD.tB, PD.tT, PD.tAnd, PD.tOr, PD.tNot, PD.mIf, PD.vAnd, PD.vOr, PD.vNot, PD.mCall, PD.sNx, PD.sSeq, PD.sDrop, PD.sIf, PD.ret, PD.sRet, PD.sRetN, PD.storeR, PD.store, PD.gN, PD.gNil, PD.gCons, PD.gT, PD.mut1, PD.setL, PD.gSub, PD.sSet, PD.sAsg, PD.stores, PD.noVar, PD.sPar, PD.items, PD.wSeq, PD.tYes, PD.sFor, PD.frz, PD.mTup, PD.mLst, PD.mChain, PD.mCallR, PD.once, PD.pass, PD.pass1, PD.back, PD.back1, PD.inS, PD.outS, PD.okArg, PD.outs, PD.fnD, PD.noEx, Md.mut, Md.ow, PD.eqD, PD.neD, PD.eqB, PD.eqS, PD.isD, PD.isntD, PD.isNonD, PD.addD, PD.subD, PD.modD, PD.fdivD, PD.negD, PD.keyD, PD.dgetD, PD.lenD, PD.mAdd, PD.ownL, oD, tjD, ht, isLt, em, htl]
        · simp [PD.mK, PD.mVar, PD.m1, PD.m2, PD.mFz, PD.aNil, PD.aCons, PD.looks, PD.look, PD.dats, PD.mB, PD.truth, PD.tB, PD.tT, PD.tAnd, PD.tOr, PD.tNot, PD.mIf, PD.vAnd, PD.vOr, PD.vNot, PD.mCall, PD.sNx, PD.sSeq, PD.sDrop, PD.sIf, PD.ret, PD.sRet, PD.sRetN, PD.storeR, PD.store, PD.gN, PD.gNil, PD.gCons, PD.gT, PD.mut1, PD.setL, PD.gSub, PD.sSet, PD.sAsg, PD.stores, PD.noVar, PD.sPar, PD.items, PD.wSeq, PD.tYes, PD.sFor, PD.frz, PD.mTup, PD.mLst, PD.mChain, PD.mCallR, PD.once, PD.pass, PD.pass1, PD.back, PD.back1, PD.inS, PD.outS, PD.okArg, PD.outs, PD.fnD, PD.noEx, Md.mut, Md.ow, PD.eqD, PD.neD, PD.eqB, PD.eqS, PD.isD, PD.isntD, PD.isNonD, PD.addD, PD.subD, PD.modD, PD.fdivD, PD.negD, PD.keyD, PD.dgetD, PD.lenD, PD.mAdd, PD.ownL, oD, tjD, ht, isLt, em, htl])]
    rw [List.nil_append, fl_tj]
  have e5 := sorted_ints (P.filter (isL ss (i : Int) c))
  rw [← hP] at c1 e1
  rw [← hS] at c2
  have hb : B__law_broken ([(⟨.dat, bdD ss ts⟩ : Sl), ⟨.dat, .int (i : Int)⟩, ⟨.dat, .int c⟩].map inS ++ List.replicate 4 none) = .ok (.rt (.dat (lotD (brokenP ss (i : Int) c)))) Γ3 := by
    unfold B__law_broken
    rw [seq_nx (Γ' := [some ⟨.dat, bdD ss ts⟩, some ⟨.dat, .int (i : Int)⟩, some ⟨.dat, .int c⟩, some ⟨.own, .lst (P.map (tjD ss c))⟩, none, none, none]) (by
      simp [PD.mK, PD.mVar, PD.m1, PD.m2, PD.mFz, PD.aNil, PD.aCons, PD.looks, PD.look, PD.dats, PD.mB, PD.truth, PD.tB, PD.tT, PD.tAnd, PD.tOr, PD.tNot, PD.mIf, PD.vAnd, PD.vOr, PD.vNot, PD.mCall, PD.sNx, PD.sSeq, PD.sDrop, PD.sIf, PD.ret, PD.sRet, PD.sRetN, PD.storeR, PD.store, PD.gN, PD.gNil, PD.gCons, PD.gT, PD.mut1, PD.setL, PD.gSub, PD.sSet, PD.sAsg, PD.stores, PD.noVar, PD.sPar, PD.items, PD.wSeq, PD.tYes, PD.sFor, PD.frz, PD.mTup, PD.mLst, PD.mChain, PD.mCallR, PD.once, PD.pass, PD.pass1, PD.back, PD.back1, PD.inS, PD.outS, PD.okArg, PD.outs, PD.fnD, PD.noEx, Md.mut, Md.ow, PD.eqD, PD.neD, PD.eqB, PD.eqS, PD.isD, PD.isntD, PD.isNonD, PD.addD, PD.subD, PD.modD, PD.fdivD, PD.negD, PD.keyD, PD.dgetD, PD.lenD, PD.mAdd, PD.ownL, e1, mLc, plainAt, wipeE, backE, c1])]
    rw [hΓ2] at c2
    rw [hΓ3] at c3
    rw [seq_nx (Γ' := Γ3) (by rw [hΓ3]; simp [PD.mK, PD.mVar, PD.m1, PD.m2, PD.mFz, PD.aNil, PD.aCons, PD.looks, PD.look, PD.dats, PD.mB, PD.truth, PD.tB, PD.tT, PD.tAnd, PD.tOr, PD.tNot, PD.mIf, PD.vAnd, PD.vOr, PD.vNot, PD.mCall, PD.sNx, PD.sSeq, PD.sDrop, PD.sIf, PD.ret, PD.sRet, PD.sRetN, PD.storeR, PD.store, PD.gN, PD.gNil, PD.gCons, PD.gT, PD.mut1, PD.setL, PD.gSub, PD.sSet, PD.sAsg, PD.stores, PD.noVar, PD.sPar, PD.items, PD.wSeq, PD.tYes, PD.sFor, PD.frz, PD.mTup, PD.mLst, PD.mChain, PD.mCallR, PD.once, PD.pass, PD.pass1, PD.back, PD.back1, PD.inS, PD.outS, PD.okArg, PD.outs, PD.fnD, PD.noEx, Md.mut, Md.ow, PD.eqD, PD.neD, PD.eqB, PD.eqS, PD.isD, PD.isntD, PD.isNonD, PD.addD, PD.subD, PD.modD, PD.fdivD, PD.negD, PD.keyD, PD.dgetD, PD.lenD, PD.mAdd, PD.ownL, mLc, plainAt, wipeE, backE, c2])]
    rw [hΓ3]
    have eb : brokenP ss (i : Int) c = srt (P.filter (isL ss (i : Int) c)) := by unfold brokenP; rw [hP]
    rw [eb]
    generalize srt (P.filter (isL ss (i : Int) c)) = out at e5 ⊢
    generalize (P.filter (isL ss (i : Int) c)).map D.int = fl at c3 e5
    simp [PD.mK, PD.mVar, PD.m1, PD.m2, PD.mFz, PD.aNil, PD.aCons, PD.looks, PD.look, PD.dats, PD.mB, PD.truth, PD.tB, PD.tT, PD.tAnd, PD.tOr, PD.tNot, PD.mIf, PD.vAnd, PD.vOr, PD.vNot, PD.mCall, PD.sNx, PD.sSeq, PD.sDrop, PD.sIf, PD.ret, PD.sRet, PD.sRetN, PD.storeR, PD.store, PD.gN, PD.gNil, PD.gCons, PD.gT, PD.mut1, PD.setL, PD.gSub, PD.sSet, PD.sAsg, PD.stores, PD.noVar, PD.sPar, PD.items, PD.wSeq, PD.tYes, PD.sFor, PD.frz, PD.mTup, PD.mLst, PD.mChain, PD.mCallR, PD.once, PD.pass, PD.pass1, PD.back, PD.back1, PD.inS, PD.outS, PD.okArg, PD.outs, PD.fnD, PD.noEx, Md.mut, Md.ow, PD.eqD, PD.neD, PD.eqB, PD.eqS, PD.isD, PD.isntD, PD.isNonD, PD.addD, PD.subD, PD.modD, PD.fdivD, PD.negD, PD.keyD, PD.dgetD, PD.lenD, PD.mAdd, PD.ownL, mLc, plainAt, wipeE, backE, c3, e5, tupD, lotD]
  rw [hΓ3] at hb
  exact of_fn (np := 3) (n := 7) (b := B__law_broken) (ss := [(⟨.dat, bdD ss ts⟩ : Sl), ⟨.dat, .int (i : Int)⟩, ⟨.dat, .int c⟩]) rfl rfl hb
end Lk41

namespace Lk41
open PySem PySem.Spec L2 PD
variable {A B : Int} {ss : List Sw} {ts : List Th}
/-! ### the program's broken ones -/
theorem compDD_put {g : G} {t : M Bool} {ek ev : M Rv} {vs : List Nat} {Γ : EnD} {kf : D → Key} {vf : D → D} {p : D → Bool} : ∀ (ds : List D) (acc : List (Key × D)), acc.length + ds.length ≤ LIM → (acc.map (·.1) ++ (ds.filter p).map kf).Nodup →
    (∀ x ∈ ds, ∃ Γ1 Γ2, g x Γ = .ok () Γ1 ∧ t Γ1 = .ok (p x) Γ2 ∧ (p x = true → ∃ Γ3 Γ4 dk, mFz ek Γ2 = .ok (.dat dk) Γ3 ∧ keyD dk = some (kf x) ∧ mFz ev Γ3 = .ok (.dat (vf x)) Γ4 ∧ wipeE Γ4 vs = Γ) ∧ (p x = false → wipeE Γ2 vs = Γ)) →
    compDD g t ek ev vs ds acc Γ = .ok (acc ++ (ds.filter p).map fun x => (kf x, vf x)) Γ
  | [], acc, _, _, _ => by simp [PD.mK, PD.mVar, PD.m1, PD.m2, PD.mFz, PD.aNil, PD.aCons, PD.looks, PD.look, PD.dats, PD.mB, PD.truth, PD.tB, PD.tT, PD.tAnd, PD.tOr, PD.tNot, PD.mIf, PD.vAnd, PD.vOr, PD.vNot, PD.mCall, PD.sNx, PD.sSeq, PD.sDrop, PD.sIf, PD.ret, PD.sRet, PD.sRetN, PD.storeR, PD.store, PD.gN, PD.gNil, PD.gCons, PD.gT, PD.mut1, PD.setL, PD.gSub, PD.sSet, PD.sAsg, PD.stores, PD.noVar, PD.sPar, PD.items, PD.wSeq, PD.tYes, PD.sFor, PD.frz, PD.mTup, PD.mLst, PD.mChain, PD.mCallR, PD.once, PD.pass, PD.pass1, PD.back, PD.back1, PD.inS, PD.outS, PD.okArg, PD.outs, PD.fnD, PD.noEx, Md.mut, Md.ow, PD.eqD, PD.neD, PD.eqB, PD.eqS, PD.isD, PD.isntD, PD.isNonD, PD.addD, PD.subD, PD.modD, PD.fdivD, PD.negD, PD.keyD, PD.dgetD, PD.lenD, PD.mAdd, PD.ownL, compDD]
  | x :: xs, acc, hl, hn, h => by
    obtain ⟨Γ1, Γ2, e1, e2, h1, h2⟩ := h x List.mem_cons_self
    rw [List.length_cons] at hl
    simp only [compDD, e1, e2, R.bind_ok]
    cases hp : p x with
    | true =>
      obtain ⟨Γ3, Γ4, dk, e3, ek', e4, e5⟩ := h1 hp
      rw [List.filter_cons, if_pos hp, List.map_cons] at hn
      have hnew : (acc.any fun kv => decide (kv.1 = kf x)) = false := by
        rw [List.any_eq_false]
        intro kv hkv hk
        have hk : kv.1 = kf x := by simpa using hk
        have := (List.nodup_append.mp hn).2.2 kv.1 (List.mem_map.mpr ⟨kv, hkv, rfl⟩) (kf x) List.mem_cons_self
        exact this hk
      have eput : putKD acc (kf x) (vf x) = acc ++ [(kf x, vf x)] := by
        unfold putKD
        rw [hnew]
        simp [PD.mK, PD.mVar, PD.m1, PD.m2, PD.mFz, PD.aNil, PD.aCons, PD.looks, PD.look, PD.dats, PD.mB, PD.truth, PD.tB, PD.tT, PD.tAnd, PD.tOr, PD.tNot, PD.mIf, PD.vAnd, PD.vOr, PD.vNot, PD.mCall, PD.sNx, PD.sSeq, PD.sDrop, PD.sIf, PD.ret, PD.sRet, PD.sRetN, PD.storeR, PD.store, PD.gN, PD.gNil, PD.gCons, PD.gT, PD.mut1, PD.setL, PD.gSub, PD.sSet, PD.sAsg, PD.stores, PD.noVar, PD.sPar, PD.items, PD.wSeq, PD.tYes, PD.sFor, PD.frz, PD.mTup, PD.mLst, PD.mChain, PD.mCallR, PD.once, PD.pass, PD.pass1, PD.back, PD.back1, PD.inS, PD.outS, PD.okArg, PD.outs, PD.fnD, PD.noEx, Md.mut, Md.ow, PD.eqD, PD.neD, PD.eqB, PD.eqS, PD.isD, PD.isntD, PD.isNonD, PD.addD, PD.subD, PD.modD, PD.fdivD, PD.negD, PD.keyD, PD.dgetD, PD.lenD, PD.mAdd, PD.ownL]
      simp only [if_pos]
      rw [e3]
      simp only [R.bind_ok]
      rw [e4]
      simp only [R.bind_ok, ek']
      rw [if_pos (by omega), e5, eput, compDD_put (kf := kf) (vf := vf) (p := p) xs _ (by rw [List.length_append]; simp [PD.mK, PD.mVar, PD.m1, PD.m2, PD.mFz, PD.aNil, PD.aCons, PD.looks, PD.look, PD.dats, PD.mB, PD.truth, PD.tB, PD.tT, PD.tAnd, PD.tOr, PD.tNot, PD.mIf, PD.vAnd, PD.vOr, PD.vNot, PD.mCall, PD.sNx, PD.sSeq, PD.sDrop, PD.sIf, PD.ret, PD.sRet, PD.sRetN, PD.storeR, PD.store, PD.gN, PD.gNil, PD.gCons, PD.gT, PD.mut1, PD.setL, PD.gSub, PD.sSet, PD.sAsg, PD.stores, PD.noVar, PD.sPar, PD.items, PD.wSeq, PD.tYes, PD.sFor, PD.frz, PD.mTup, PD.mLst, PD.mChain, PD.mCallR, PD.once, PD.pass, PD.pass1, PD.back, PD.back1, PD.inS, PD.outS, PD.okArg, PD.outs, PD.fnD, PD.noEx, Md.mut, Md.ow, PD.eqD, PD.neD, PD.eqB, PD.eqS, PD.isD, PD.isntD, PD.isNonD, PD.addD, PD.subD, PD.modD, PD.fdivD, PD.negD, PD.keyD, PD.dgetD, PD.lenD, PD.mAdd, PD.ownL]; omega) (by rw [List.map_append]; simpa using hn) fun y hy => h y (List.mem_cons_of_mem _ hy)]
      rw [List.filter_cons, if_pos hp]
      simp [PD.mK, PD.mVar, PD.m1, PD.m2, PD.mFz, PD.aNil, PD.aCons, PD.looks, PD.look, PD.dats, PD.mB, PD.truth, PD.tB, PD.tT, PD.tAnd, PD.tOr, PD.tNot, PD.mIf, PD.vAnd, PD.vOr, PD.vNot, PD.mCall, PD.sNx, PD.sSeq, PD.sDrop, PD.sIf, PD.ret, PD.sRet, PD.sRetN, PD.storeR, PD.store, PD.gN, PD.gNil, PD.gCons, PD.gT, PD.mut1, PD.setL, PD.gSub, PD.sSet, PD.sAsg, PD.stores, PD.noVar, PD.sPar, PD.items, PD.wSeq, PD.tYes, PD.sFor, PD.frz, PD.mTup, PD.mLst, PD.mChain, PD.mCallR, PD.once, PD.pass, PD.pass1, PD.back, PD.back1, PD.inS, PD.outS, PD.okArg, PD.outs, PD.fnD, PD.noEx, Md.mut, Md.ow, PD.eqD, PD.neD, PD.eqB, PD.eqS, PD.isD, PD.isntD, PD.isNonD, PD.addD, PD.subD, PD.modD, PD.fdivD, PD.negD, PD.keyD, PD.dgetD, PD.lenD, PD.mAdd, PD.ownL]
    | false =>
      simp only [Bool.false_eq_true, if_false]
      rw [h2 hp, compDD_put (kf := kf) (vf := vf) (p := p) xs _ (by omega) (by rw [List.filter_cons, hp] at hn; simpa using hn) fun y hy => h y (List.mem_cons_of_mem _ hy)]
      rw [List.filter_cons, hp]
      simp [PD.mK, PD.mVar, PD.m1, PD.m2, PD.mFz, PD.aNil, PD.aCons, PD.looks, PD.look, PD.dats, PD.mB, PD.truth, PD.tB, PD.tT, PD.tAnd, PD.tOr, PD.tNot, PD.mIf, PD.vAnd, PD.vOr, PD.vNot, PD.mCall, PD.sNx, PD.sSeq, PD.sDrop, PD.sIf, PD.ret, PD.sRet, PD.sRetN, PD.storeR, PD.store, PD.gN, PD.gNil, PD.gCons, PD.gT, PD.mut1, PD.setL, PD.gSub, PD.sSet, PD.sAsg, PD.stores, PD.noVar, PD.sPar, PD.items, PD.wSeq, PD.tYes, PD.sFor, PD.frz, PD.mTup, PD.mLst, PD.mChain, PD.mCallR, PD.once, PD.pass, PD.pass1, PD.back, PD.back1, PD.inS, PD.outS, PD.okArg, PD.outs, PD.fnD, PD.noEx, Md.mut, Md.ow, PD.eqD, PD.neD, PD.eqB, PD.eqS, PD.isD, PD.isntD, PD.isNonD, PD.addD, PD.subD, PD.modD, PD.fdivD, PD.negD, PD.keyD, PD.dgetD, PD.lenD, PD.mAdd, PD.ownL]
def hasT (ss : List Sw) (c : Int) (j : Int) : Bool := (tmAt ss c j).isSome
def tk (ss : List Sw) (c : Int) (j : Int) : Key × D := (.inl j, oD (tmAt ss c j))
def keyOf (d : D) : Key := match d with | .int j => .inl j | .tup [.int j, _] => .inl j | _ => .inl 0
def valOf (d : D) : D := match d with | .tup [_, x] => x | _ => .non
def hasV (d : D) : Bool := match d with | .tup [_, .non] => false | _ => true
theorem prs_tk (ss : List Sw) (c : Int) (l : List Int) : prs (l.map (tk ss c)) = l.map fun j => D.tup [.int j, oD (tmAt ss c j)] := by
  unfold prs
  rw [List.map_map]
  rfl
theorem inl_nodup {l : List Int} (h : l.Nodup) : (l.map fun j => (Sum.inl j : Key)).Nodup := by
  rw [List.nodup_iff_pairwise_ne] at h ⊢
  rw [List.pairwise_map]
  exact h.imp fun hab e => hab (by injection e)
theorem filt_map (l : List Int) : ((l.map fun j => D.tup [.int j, oD (tmAt ss c j)]).filter hasV).map (fun x => (keyOf x, valOf x)) = (l.filter (hasT ss c)).map (tk ss c) := by
  rw [List.filter_map, List.map_map]
  have e : (hasV ∘ fun j => D.tup [.int j, oD (tmAt ss c j)]) = hasT ss c := funext fun j => by
    show hasV (D.tup [.int j, oD (tmAt ss c j)]) = hasT ss c j
    unfold hasT
    cases tmAt ss c j <;> rfl
  rw [e]
  rfl
theorem filt_key (l : List Int) : ((l.map fun j => D.tup [.int j, oD (tmAt ss c j)]).filter hasV).map keyOf = (l.filter (hasT ss c)).map fun j => (Sum.inl j : Key) := by
  have := congrArg (List.map (·.1)) (filt_map (ss := ss) (c := c) l)
  rw [List.map_map, List.map_map] at this
  exact this
theorem scal_oD (x : Option Int) : scal (oD x) = true := by cases x <;> rfl
theorem scal_tk (l : List Int) : ((l.map (tk ss c)).all fun p => scal p.2) = true := by
  rw [List.all_map, List.all_eq_true]
  intro j _
  exact scal_oD _
theorem filter_true' {α : Type} (l : List α) : l.filter (fun _ => true) = l := List.filter_eq_self.mpr fun _ _ => rfl
theorem up_len : ∀ (m : Nat) (i : Int), (up ss m i).length ≤ m + 1
  | 0, i => by simp [PD.mK, PD.mVar, PD.m1, PD.m2, PD.mFz, PD.aNil, PD.aCons, PD.looks, PD.look, PD.dats, PD.mB, PD.truth, PD.tB, PD.tT, PD.tAnd, PD.tOr, PD.tNot, PD.mIf, PD.vAnd, PD.vOr, PD.vNot, PD.mCall, PD.sNx, PD.sSeq, PD.sDrop, PD.sIf, PD.ret, PD.sRet, PD.sRetN, PD.storeR, PD.store, PD.gN, PD.gNil, PD.gCons, PD.gT, PD.mut1, PD.setL, PD.gSub, PD.sSet, PD.sAsg, PD.stores, PD.noVar, PD.sPar, PD.items, PD.wSeq, PD.tYes, PD.sFor, PD.frz, PD.mTup, PD.mLst, PD.mChain, PD.mCallR, PD.once, PD.pass, PD.pass1, PD.back, PD.back1, PD.inS, PD.outS, PD.okArg, PD.outs, PD.fnD, PD.noEx, Md.mut, Md.ow, PD.eqD, PD.neD, PD.eqB, PD.eqS, PD.isD, PD.isntD, PD.isNonD, PD.addD, PD.subD, PD.modD, PD.fdivD, PD.negD, PD.keyD, PD.dgetD, PD.lenD, PD.mAdd, PD.ownL, up]
  | m + 1, i => by
    unfold up
    cases (ss[i.toNat]?).bind (·.above) with
    | none => simp [PD.mK, PD.mVar, PD.m1, PD.m2, PD.mFz, PD.aNil, PD.aCons, PD.looks, PD.look, PD.dats, PD.mB, PD.truth, PD.tB, PD.tT, PD.tAnd, PD.tOr, PD.tNot, PD.mIf, PD.vAnd, PD.vOr, PD.vNot, PD.mCall, PD.sNx, PD.sSeq, PD.sDrop, PD.sIf, PD.ret, PD.sRet, PD.sRetN, PD.storeR, PD.store, PD.gN, PD.gNil, PD.gCons, PD.gT, PD.mut1, PD.setL, PD.gSub, PD.sSet, PD.sAsg, PD.stores, PD.noVar, PD.sPar, PD.items, PD.wSeq, PD.tYes, PD.sFor, PD.frz, PD.mTup, PD.mLst, PD.mChain, PD.mCallR, PD.once, PD.pass, PD.pass1, PD.back, PD.back1, PD.inS, PD.outS, PD.okArg, PD.outs, PD.fnD, PD.noEx, Md.mut, Md.ow, PD.eqD, PD.neD, PD.eqB, PD.eqS, PD.isD, PD.isntD, PD.isNonD, PD.addD, PD.subD, PD.modD, PD.fdivD, PD.negD, PD.keyD, PD.dgetD, PD.lenD, PD.mAdd, PD.ownL]
    | some j => have := up_len m j; simp only [List.length_cons]; omega
theorem times_by_ok (h : BdOk A B ss ts) (hA : A ≤ 7) {i : Nat} (hi : i < ss.length) (c : Int) : F_times_by [⟨.dat, objD ss ts⟩, ⟨.dat, .int (i : Int)⟩, ⟨.dat, .int c⟩] = .ok (.own (.dct (((pathOf ss (i : Int)).filter (hasT ss c)).map (tk ss c)))) [none, none, none] := by
  have e1 := path_by_ok (ts := ts) h.hangs (by have := h.nA; omega) hi
  have hnd := path_nodup h.hangs hi
  have hlen : (pathOf ss (i : Int)).length ≤ 8 := by
    have h1 := up_len (ss := ss) ((i : Int).toNat) (i : Int)
    have := h.nA
    have h2 : (pathOf ss (i : Int)).length ≤ (i : Int).toNat + 1 := h1
    omega
  have hL : 8 ≤ LIM := by unfold LIM; omega
  obtain ⟨Γ0, hΓ0⟩ : ∃ Γ0 : EnD, Γ0 = [some ⟨.dat, objD ss ts⟩, some ⟨.dat, .int (i : Int)⟩, some ⟨.dat, .int c⟩, none, none, none] := ⟨_, rfl⟩
  have c1 : compDD (gN 4) tYes (mVar 4) (mCall F_time_by [] (aCons (mVar 0) (aCons (mVar 4) (aCons (mVar 2) aNil)))) [4] ((pathOf ss (i : Int)).map .int) [] Γ0 = .ok ((pathOf ss (i : Int)).map (tk ss c)) Γ0 := by
    rw [compDD_put (kf := keyOf) (vf := fun d => match d with | .int j => oD (tmAt ss c j) | _ => .non) (p := fun _ => true) ((pathOf ss (i : Int)).map .int) [] (by
        simp only [List.length_nil, List.length_map]; omega) (by
        have := inl_nodup hnd
        rw [List.map_nil, List.nil_append, filter_true', List.map_map]
        exact this) (fun x hx => by
      obtain ⟨k, hk, rfl⟩ := List.mem_map.mp hx
      obtain ⟨j, rfl, hj⟩ := path_in h.hangs hi hk
      obtain ⟨s, hs, et⟩ := tm_at hj c
      have e3 := time_by_ok (ts := ts) c hs (h.sw _ _ hs).cv
      obtain ⟨Γ, hΓ⟩ : ∃ Γ : EnD, Γ = [some ⟨.dat, objD ss ts⟩, some ⟨.dat, .int (i : Int)⟩, some ⟨.dat, .int c⟩, none, some ⟨.dat, .int (j : Int)⟩, none] := ⟨_, rfl⟩
      exact ⟨Γ, Γ, by rw [hΓ, hΓ0]; simp [PD.mK, PD.mVar, PD.m1, PD.m2, PD.mFz, PD.aNil, PD.aCons, PD.looks, PD.look, PD.dats, PD.mB, PD.truth, PD.tB, PD.tT, PD.tAnd, PD.tOr, PD.tNot, PD.mIf, PD.vAnd, PD.vOr, PD.vNot, PD.mCall, PD.sNx, PD.sSeq, PD.sDrop, PD.sIf, PD.ret, PD.sRet, PD.sRetN, PD.storeR, PD.store, PD.gN, PD.gNil, PD.gCons, PD.gT, PD.mut1, PD.setL, PD.gSub, PD.sSet, PD.sAsg, PD.stores, PD.noVar, PD.sPar, PD.items, PD.wSeq, PD.tYes, PD.sFor, PD.frz, PD.mTup, PD.mLst, PD.mChain, PD.mCallR, PD.once, PD.pass, PD.pass1, PD.back, PD.back1, PD.inS, PD.outS, PD.okArg, PD.outs, PD.fnD, PD.noEx, Md.mut, Md.ow, PD.eqD, PD.neD, PD.eqB, PD.eqS, PD.isD, PD.isntD, PD.isNonD, PD.addD, PD.subD, PD.modD, PD.fdivD, PD.negD, PD.keyD, PD.dgetD, PD.lenD, PD.mAdd, PD.ownL], by simp [PD.mK, PD.mVar, PD.m1, PD.m2, PD.mFz, PD.aNil, PD.aCons, PD.looks, PD.look, PD.dats, PD.mB, PD.truth, PD.tB, PD.tT, PD.tAnd, PD.tOr, PD.tNot, PD.mIf, PD.vAnd, PD.vOr, PD.vNot, PD.mCall, PD.sNx, PD.sSeq, PD.sDrop, PD.sIf, PD.ret, PD.sRet, PD.sRetN, PD.storeR, PD.store, PD.gN, PD.gNil, PD.gCons, PD.gT, PD.mut1, PD.setL, PD.gSub, PD.sSet, PD.sAsg, PD.stores, PD.noVar, PD.sPar, PD.items, PD.wSeq, PD.tYes, PD.sFor, PD.frz, PD.mTup, PD.mLst, PD.mChain, PD.mCallR, PD.once, PD.pass, PD.pass1, PD.back, PD.back1, PD.inS, PD.outS, PD.okArg, PD.outs, PD.fnD, PD.noEx, Md.mut, Md.ow, PD.eqD, PD.neD, PD.eqB, PD.eqS, PD.isD, PD.isntD, PD.isNonD, PD.addD, PD.subD, PD.modD, PD.fdivD, PD.negD, PD.keyD, PD.dgetD, PD.lenD, PD.mAdd, PD.ownL], fun _ => ⟨Γ, Γ, .int (j : Int), by rw [hΓ]; simp [PD.mK, PD.mVar, PD.m1, PD.m2, PD.mFz, PD.aNil, PD.aCons, PD.looks, PD.look, PD.dats, PD.mB, PD.truth, PD.tB, PD.tT, PD.tAnd, PD.tOr, PD.tNot, PD.mIf, PD.vAnd, PD.vOr, PD.vNot, PD.mCall, PD.sNx, PD.sSeq, PD.sDrop, PD.sIf, PD.ret, PD.sRet, PD.sRetN, PD.storeR, PD.store, PD.gN, PD.gNil, PD.gCons, PD.gT, PD.mut1, PD.setL, PD.gSub, PD.sSet, PD.sAsg, PD.stores, PD.noVar, PD.sPar, PD.items, PD.wSeq, PD.tYes, PD.sFor, PD.frz, PD.mTup, PD.mLst, PD.mChain, PD.mCallR, PD.once, PD.pass, PD.pass1, PD.back, PD.back1, PD.inS, PD.outS, PD.okArg, PD.outs, PD.fnD, PD.noEx, Md.mut, Md.ow, PD.eqD, PD.neD, PD.eqB, PD.eqS, PD.isD, PD.isntD, PD.isNonD, PD.addD, PD.subD, PD.modD, PD.fdivD, PD.negD, PD.keyD, PD.dgetD, PD.lenD, PD.mAdd, PD.ownL], rfl, by rw [hΓ]; simp [PD.mK, PD.mVar, PD.m1, PD.m2, PD.mFz, PD.aNil, PD.aCons, PD.looks, PD.look, PD.dats, PD.mB, PD.truth, PD.tB, PD.tT, PD.tAnd, PD.tOr, PD.tNot, PD.mIf, PD.vAnd, PD.vOr, PD.vNot, PD.mCall, PD.sNx, PD.sSeq, PD.sDrop, PD.sIf, PD.ret, PD.sRet, PD.sRetN, PD.storeR, PD.store, PD.gN, PD.gNil, PD.gCons, PD.gT, PD.mut1, PD.setL, PD.gSub, PD.sSet, PD.sAsg, PD.stores, PD.noVar, PD.sPar, PD.items, PD.wSeq, PD.tYes, PD.sFor, PD.frz, PD.mTup, PD.mLst, PD.mChain, PD.mCallR, PD.once, PD.pass, PD.pass1, PD.back, PD.back1, PD.inS, PD.outS, PD.okArg, PD.outs, PD.fnD, PD.noEx, Md.mut, Md.ow, PD.eqD, PD.neD, PD.eqB, PD.eqS, PD.isD, PD.isntD, PD.isNonD, PD.addD, PD.subD, PD.modD, PD.fdivD, PD.negD, PD.keyD, PD.dgetD, PD.lenD, PD.mAdd, PD.ownL, e3, et], by rw [hΓ, hΓ0]; simp [PD.mK, PD.mVar, PD.m1, PD.m2, PD.mFz, PD.aNil, PD.aCons, PD.looks, PD.look, PD.dats, PD.mB, PD.truth, PD.tB, PD.tT, PD.tAnd, PD.tOr, PD.tNot, PD.mIf, PD.vAnd, PD.vOr, PD.vNot, PD.mCall, PD.sNx, PD.sSeq, PD.sDrop, PD.sIf, PD.ret, PD.sRet, PD.sRetN, PD.storeR, PD.store, PD.gN, PD.gNil, PD.gCons, PD.gT, PD.mut1, PD.setL, PD.gSub, PD.sSet, PD.sAsg, PD.stores, PD.noVar, PD.sPar, PD.items, PD.wSeq, PD.tYes, PD.sFor, PD.frz, PD.mTup, PD.mLst, PD.mChain, PD.mCallR, PD.once, PD.pass, PD.pass1, PD.back, PD.back1, PD.inS, PD.outS, PD.okArg, PD.outs, PD.fnD, PD.noEx, Md.mut, Md.ow, PD.eqD, PD.neD, PD.eqB, PD.eqS, PD.isD, PD.isntD, PD.isNonD, PD.addD, PD.subD, PD.modD, PD.fdivD, PD.negD, PD.keyD, PD.dgetD, PD.lenD, PD.mAdd, PD.ownL, wipeE]⟩, fun z => by cases z⟩)]
    rw [List.nil_append, filter_true', List.map_map]
    rfl
  obtain ⟨P, hP⟩ : ∃ P, P = pathOf ss (i : Int) := ⟨_, rfl⟩
  rw [← hP] at c1 e1 hlen hnd ⊢
  obtain ⟨Γ1, hΓ1⟩ : ∃ Γ1 : EnD, Γ1 = [none, some ⟨.dat, .int (i : Int)⟩, some ⟨.dat, .int c⟩, none, none, none] := ⟨_, rfl⟩
  have c2 : compDD (gT 2 (PD.gCons (gN 4) (PD.gCons (gN 5) PD.gNil))) (PD.tB (m2 isntD (mVar 5) (mK .non))) (mVar 4) (mVar 5) [4, 5] (prs (P.map (tk ss c))) [] Γ1 = .ok ((P.filter (hasT ss c)).map (tk ss c)) Γ1 := by
    rw [prs_tk, compDD_put (kf := keyOf) (vf := valOf) (p := hasV) _ [] (by
        simp only [List.length_nil, List.length_map]; omega) (by
        rw [List.map_nil, List.nil_append, filt_key]
        exact inl_nodup (hnd.filter _)) (fun x hx => by
      obtain ⟨j, hj, rfl⟩ := List.mem_map.mp hx
      obtain ⟨Γ, hΓ⟩ : ∃ Γ : EnD, Γ = [none, some ⟨.dat, .int (i : Int)⟩, some ⟨.dat, .int c⟩, none, some ⟨.dat, .int j⟩, some ⟨.dat, oD (tmAt ss c j)⟩] := ⟨_, rfl⟩
      have hw : wipeE Γ [4, 5] = Γ1 := by rw [hΓ, hΓ1]; simp [PD.mK, PD.mVar, PD.m1, PD.m2, PD.mFz, PD.aNil, PD.aCons, PD.looks, PD.look, PD.dats, PD.mB, PD.truth, PD.tB, PD.tT, PD.tAnd, PD.tOr, PD.tNot, PD.mIf, PD.vAnd, PD.vOr, PD.vNot, PD.mCall, PD.sNx, PD.sSeq, PD.sDrop, PD.sIf, PD.ret, PD.sRet, PD.sRetN, PD.storeR, PD.store, PD.gN, PD.gNil, PD.gCons, PD.gT, PD.mut1, PD.setL, PD.gSub, PD.sSet, PD.sAsg, PD.stores, PD.noVar, PD.sPar, PD.items, PD.wSeq, PD.tYes, PD.sFor, PD.frz, PD.mTup, PD.mLst, PD.mChain, PD.mCallR, PD.once, PD.pass, PD.pass1, PD.back, PD.back1, PD.inS, PD.outS, PD.okArg, PD.outs, PD.fnD, PD.noEx, Md.mut, Md.ow, PD.eqD, PD.neD, PD.eqB, PD.eqS, PD.isD, PD.isntD, PD.isNonD, PD.addD, PD.subD, PD.modD, PD.fdivD, PD.negD, PD.keyD, PD.dgetD, PD.lenD, PD.mAdd, PD.ownL, wipeE]
      refine ⟨Γ, Γ, by rw [hΓ, hΓ1]; simp [PD.mK, PD.mVar, PD.m1, PD.m2, PD.mFz, PD.aNil, PD.aCons, PD.looks, PD.look, PD.dats, PD.mB, PD.truth, PD.tB, PD.tT, PD.tAnd, PD.tOr, PD.tNot, PD.mIf, PD.vAnd, PD.vOr, PD.vNot, PD.mCall, PD.sNx, PD.sSeq, PD.sDrop, PD.sIf, PD.ret, PD.sRet, PD.sRetN, PD.storeR, PD.store, PD.gN, PD.gNil, PD.gCons, PD.gT, PD.mut1, PD.setL, PD.gSub, PD.sSet, PD.sAsg, PD.stores, PD.noVar, PD.sPar, PD.items, PD.wSeq, PD.tYes, PD.sFor, PD.frz, PD.mTup, PD.mLst, PD.mChain, PD.mCallR, PD.once, PD.pass, PD.pass1, PD.back, PD.back1, PD.inS, PD.outS, PD.okArg, PD.outs, PD.fnD, PD.noEx, Md.mut, Md.ow, PD.eqD, PD.neD, PD.eqB, PD.eqS, PD.isD, PD.isntD, PD.isNonD, PD.addD, PD.subD, PD.modD, PD.fdivD, PD.negD, PD.keyD, PD.dgetD, PD.lenD, PD.mAdd, PD.ownL], ?_, fun _ => ⟨Γ, Γ, .int j, by rw [hΓ]; simp [PD.mK, PD.mVar, PD.m1, PD.m2, PD.mFz, PD.aNil, PD.aCons, PD.looks, PD.look, PD.dats, PD.mB, PD.truth, PD.tB, PD.tT, PD.tAnd, PD.tOr, PD.tNot, PD.mIf, PD.vAnd, PD.vOr, PD.vNot, PD.mCall, PD.sNx, PD.sSeq, PD.sDrop, PD.sIf, PD.ret, PD.sRet, PD.sRetN, PD.storeR, PD.store, PD.gN, PD.gNil, PD.gCons, PD.gT, PD.mut1, PD.setL, PD.gSub, PD.sSet, PD.sAsg, PD.stores, PD.noVar, PD.sPar, PD.items, PD.wSeq, PD.tYes, PD.sFor, PD.frz, PD.mTup, PD.mLst, PD.mChain, PD.mCallR, PD.once, PD.pass, PD.pass1, PD.back, PD.back1, PD.inS, PD.outS, PD.okArg, PD.outs, PD.fnD, PD.noEx, Md.mut, Md.ow, PD.eqD, PD.neD, PD.eqB, PD.eqS, PD.isD, PD.isntD, PD.isNonD, PD.addD, PD.subD, PD.modD, PD.fdivD, PD.negD, PD.keyD, PD.dgetD, PD.lenD, PD.mAdd, PD.ownL], rfl, by rw [hΓ]; simp [PD.mK, PD.mVar, PD.m1, PD.m2, PD.mFz, PD.aNil, PD.aCons, PD.looks, PD.look, PD.dats, PD.mB, PD.truth, PD.tB, PD.tT, PD.tAnd, PD.tOr, PD.tNot, PD.mIf, PD.vAnd, PD.vOr, PD.vNot, PD.mCall, PD.sNx, PD.sSeq, PD.sDrop, PD.sIf, PD.ret, PD.sRet, PD.sRetN, PD.storeR, PD.store, PD.gN, PD.gNil, PD.gCons, PD.gT, PD.mut1, PD.setL, PD.gSub, PD.sSet, PD.sAsg, PD.stores, PD.noVar, PD.sPar, PD.items, PD.wSeq, PD.tYes, PD.sFor, PD.frz, PD.mTup, PD.mLst, PD.mChain, PD.mCallR, PD.once, PD.pass, PD.pass1, PD.back, PD.back1, PD.inS, PD.outS, PD.okArg, PD.outs, PD.fnD, PD.noEx, Md.mut, Md.ow, PD.eqD, PD.neD, PD.eqB, PD.eqS, PD.isD, PD.isntD, PD.isNonD, PD.addD, PD.subD, PD.modD, PD.fdivD, PD.negD, PD.keyD, PD.dgetD, PD.lenD, PD.mAdd, PD.ownL, valOf], hw⟩, fun _ => hw⟩
      rw [hΓ]
      have := isnt_oD (tmAt ss c j)
      simp [PD.mK, PD.mVar, PD.m1, PD.m2, PD.mFz, PD.aNil, PD.aCons, PD.looks, PD.look, PD.dats, PD.mB, PD.truth, PD.tB, PD.tT, PD.tAnd, PD.tOr, PD.tNot, PD.mIf, PD.vAnd, PD.vOr, PD.vNot, PD.mCall, PD.sNx, PD.sSeq, PD.sDrop, PD.sIf, PD.ret, PD.sRet, PD.sRetN, PD.storeR, PD.store, PD.gN, PD.gNil, PD.gCons, PD.gT, PD.mut1, PD.setL, PD.gSub, PD.sSet, PD.sAsg, PD.stores, PD.noVar, PD.sPar, PD.items, PD.wSeq, PD.tYes, PD.sFor, PD.frz, PD.mTup, PD.mLst, PD.mChain, PD.mCallR, PD.once, PD.pass, PD.pass1, PD.back, PD.back1, PD.inS, PD.outS, PD.okArg, PD.outs, PD.fnD, PD.noEx, Md.mut, Md.ow, PD.eqD, PD.neD, PD.eqB, PD.eqS, PD.isD, PD.isNonD, PD.addD, PD.subD, PD.modD, PD.fdivD, PD.negD, PD.keyD, PD.dgetD, PD.lenD, PD.mAdd, PD.ownL, this]
      cases ht : tmAt ss c j <;> simp [PD.mK, PD.mVar, PD.m1, PD.m2, PD.mFz, PD.aNil, PD.aCons, PD.looks, PD.look, PD.dats, PD.mB, PD.truth, PD.tB, PD.tT, PD.tAnd, PD.tOr, PD.tNot, PD.mIf, PD.vAnd, PD.vOr, PD.vNot, PD.mCall, PD.sNx, PD.sSeq, PD.sDrop, PD.sIf, PD.ret, PD.sRet, PD.sRetN, PD.storeR, PD.store, PD.gN, PD.gNil, PD.gCons, PD.gT, PD.mut1, PD.setL, PD.gSub, PD.sSet, PD.sAsg, PD.stores, PD.noVar, PD.sPar, PD.items, PD.wSeq, PD.tYes, PD.sFor, PD.frz, PD.mTup, PD.mLst, PD.mChain, PD.mCallR, PD.once, PD.pass, PD.pass1, PD.back, PD.back1, PD.inS, PD.outS, PD.okArg, PD.outs, PD.fnD, PD.noEx, Md.mut, Md.ow, PD.eqD, PD.neD, PD.eqB, PD.eqS, PD.isD, PD.isntD, PD.isNonD, PD.addD, PD.subD, PD.modD, PD.fdivD, PD.negD, PD.keyD, PD.dgetD, PD.lenD, PD.mAdd, PD.ownL, oD, hasV])]
    rw [List.nil_append, filt_map]
  have s1 := scal_tk (ss := ss) (c := c) P
  have s2 := scal_tk (ss := ss) (c := c) (P.filter (hasT ss c))
  have l1 : (P.map (tk ss c)).length ≤ LIM := by rw [List.length_map]; omega
  generalize P.map (tk ss c) = kvs at c1 c2 s1 l1
  generalize (P.filter (hasT ss c)).map (tk ss c) = out at c2 s2 ⊢
  have hb : B_times_by ([(⟨.dat, objD ss ts⟩ : Sl), ⟨.dat, .int (i : Int)⟩, ⟨.dat, .int c⟩].map inS ++ List.replicate 3 none) = .ok (.rt (.own (.dct out))) [some ⟨.dat, objD ss ts⟩, some ⟨.dat, .int (i : Int)⟩, some ⟨.dat, .int c⟩, some ⟨.own, .dct kvs⟩, none, none] := by
    unfold B_times_by
    rw [hΓ0] at c1
    rw [hΓ1] at c2
    rw [seq_nx (Γ' := [some ⟨.dat, objD ss ts⟩, some ⟨.dat, .int (i : Int)⟩, some ⟨.dat, .int c⟩, some ⟨.own, .dct kvs⟩, none, none]) (by
      simp [PD.mK, PD.mVar, PD.m1, PD.m2, PD.mFz, PD.aNil, PD.aCons, PD.looks, PD.look, PD.dats, PD.mB, PD.truth, PD.tB, PD.tT, PD.tAnd, PD.tOr, PD.tNot, PD.mIf, PD.vAnd, PD.vOr, PD.vNot, PD.mCall, PD.sNx, PD.sSeq, PD.sDrop, PD.sIf, PD.ret, PD.sRet, PD.sRetN, PD.storeR, PD.store, PD.gN, PD.gNil, PD.gCons, PD.gT, PD.mut1, PD.setL, PD.gSub, PD.sSet, PD.sAsg, PD.stores, PD.noVar, PD.sPar, PD.items, PD.wSeq, PD.tYes, PD.sFor, PD.frz, PD.mTup, PD.mLst, PD.mChain, PD.mCallR, PD.once, PD.pass, PD.pass1, PD.back, PD.back1, PD.inS, PD.outS, PD.okArg, PD.outs, PD.fnD, PD.noEx, Md.mut, Md.ow, PD.eqD, PD.neD, PD.eqB, PD.eqS, PD.isD, PD.isntD, PD.isNonD, PD.addD, PD.subD, PD.modD, PD.fdivD, PD.negD, PD.keyD, PD.dgetD, PD.lenD, PD.mAdd, PD.ownL, e1, mDc, plainAt, wipeE, backE, c1])]
    have ep : plainAt [some ⟨.dat, objD ss ts⟩, some ⟨.dat, .int (i : Int)⟩, some ⟨.dat, .int c⟩, some ⟨.own, .dct kvs⟩, none, none] [4, 5] = true := by rfl
    have ew : wipeE (scE [some ⟨.dat, objD ss ts⟩, some ⟨.dat, .int (i : Int)⟩, some ⟨.dat, .int c⟩, some ⟨.own, .dct kvs⟩, none, none]) [4, 5] = [none, some ⟨.dat, .int (i : Int)⟩, some ⟨.dat, .int c⟩, none, none, none] := by rfl
    have em : mItD 3 (gT 2 (PD.gCons (gN 4) (PD.gCons (gN 5) PD.gNil))) (PD.tB (m2 isntD (mVar 5) (mK .non))) (mVar 4) (mVar 5) [4, 5] [some ⟨.dat, objD ss ts⟩, some ⟨.dat, .int (i : Int)⟩, some ⟨.dat, .int c⟩, some ⟨.own, .dct kvs⟩, none, none] = .ok (.own (.dct out)) [some ⟨.dat, objD ss ts⟩, some ⟨.dat, .int (i : Int)⟩, some ⟨.dat, .int c⟩, some ⟨.own, .dct kvs⟩, none, none] := by
      unfold mItD
      show (if plainAt _ _ = true ∧ _ ∧ _ then _ else _) = _
      rw [if_pos ⟨ep, s1, l1⟩, ew, c2]
      show (if _ then _ else _) = _
      rw [if_pos s2]
    show PD.sRet (mItD 3 _ _ _ _ [4, 5]) _ = _
    simp [PD.mK, PD.mVar, PD.m1, PD.m2, PD.mFz, PD.aNil, PD.aCons, PD.looks, PD.look, PD.dats, PD.mB, PD.truth, PD.tB, PD.tT, PD.tAnd, PD.tOr, PD.tNot, PD.mIf, PD.vAnd, PD.vOr, PD.vNot, PD.mCall, PD.sNx, PD.sSeq, PD.sDrop, PD.sIf, PD.ret, PD.sRet, PD.sRetN, PD.storeR, PD.store, PD.gN, PD.gNil, PD.gCons, PD.gT, PD.mut1, PD.setL, PD.gSub, PD.sSet, PD.sAsg, PD.stores, PD.noVar, PD.sPar, PD.items, PD.wSeq, PD.tYes, PD.sFor, PD.frz, PD.mTup, PD.mLst, PD.mChain, PD.mCallR, PD.once, PD.pass, PD.pass1, PD.back, PD.back1, PD.inS, PD.outS, PD.okArg, PD.outs, PD.fnD, PD.noEx, Md.mut, Md.ow, PD.eqD, PD.neD, PD.eqB, PD.eqS, PD.isD, PD.isntD, PD.isNonD, PD.addD, PD.subD, PD.modD, PD.fdivD, PD.negD, PD.keyD, PD.dgetD, PD.lenD, PD.mAdd, PD.ownL, em]
  exact of_fn (np := 3) (n := 6) (b := B_times_by) (ss := [(⟨.dat, objD ss ts⟩ : Sl), ⟨.dat, .int (i : Int)⟩, ⟨.dat, .int c⟩]) rfl rfl hb
theorem vals_tk (l : List Int) : ((l.filter (hasT ss c)).map (tk ss c)).map (·.2) = (l.filterMap (tmAt ss c)).map .int := by
  induction l with
  | nil => rfl
  | cons j l ih =>
    rw [List.filter_cons, List.filterMap_cons]
    cases h : tmAt ss c j with
    | none => simp [PD.mK, PD.mVar, PD.m1, PD.m2, PD.mFz, PD.aNil, PD.aCons, PD.looks, PD.look, PD.dats, PD.mB, PD.truth, PD.tB, PD.tT, PD.tAnd, PD.tOr, PD.tNot, PD.mIf, PD.vAnd, PD.vOr, PD.vNot, PD.mCall, PD.sNx, PD.sSeq, PD.sDrop, PD.sIf, PD.ret, PD.sRet, PD.sRetN, PD.storeR, PD.store, PD.gN, PD.gNil, PD.gCons, PD.gT, PD.mut1, PD.setL, PD.gSub, PD.sSet, PD.sAsg, PD.stores, PD.noVar, PD.sPar, PD.items, PD.wSeq, PD.tYes, PD.sFor, PD.frz, PD.mTup, PD.mLst, PD.mChain, PD.mCallR, PD.once, PD.pass, PD.pass1, PD.back, PD.back1, PD.inS, PD.outS, PD.okArg, PD.outs, PD.fnD, PD.noEx, Md.mut, Md.ow, PD.eqD, PD.neD, PD.eqB, PD.eqS, PD.isD, PD.isntD, PD.isNonD, PD.addD, PD.subD, PD.modD, PD.fdivD, PD.negD, PD.keyD, PD.dgetD, PD.lenD, PD.mAdd, PD.ownL, hasT, h]; simpa using ih
    | some t => simp [PD.mK, PD.mVar, PD.m1, PD.m2, PD.mFz, PD.aNil, PD.aCons, PD.looks, PD.look, PD.dats, PD.mB, PD.truth, PD.tB, PD.tT, PD.tAnd, PD.tOr, PD.tNot, PD.mIf, PD.vAnd, PD.vOr, PD.vNot, PD.mCall, PD.sNx, PD.sSeq, PD.sDrop, PD.sIf, PD.ret, PD.sRet, PD.sRetN, PD.storeR, PD.store, PD.gN, PD.gNil, PD.gCons, PD.gT, PD.mut1, PD.setL, PD.gSub, PD.sSet, PD.sAsg, PD.stores, PD.noVar, PD.sPar, PD.items, PD.wSeq, PD.tYes, PD.sFor, PD.frz, PD.mTup, PD.mLst, PD.mChain, PD.mCallR, PD.once, PD.pass, PD.pass1, PD.back, PD.back1, PD.inS, PD.outS, PD.okArg, PD.outs, PD.fnD, PD.noEx, Md.mut, Md.ow, PD.eqD, PD.neD, PD.eqB, PD.eqS, PD.isD, PD.isntD, PD.isNonD, PD.addD, PD.subD, PD.modD, PD.fdivD, PD.negD, PD.keyD, PD.dgetD, PD.lenD, PD.mAdd, PD.ownL, hasT, h, tk, oD]; simpa using ih
def leastD (is : List Int) : D := if is = [] then .non else .int (minI is)
def isM (m : D) (d : D) : Bool := match d, m with | .tup [_, .int t], .int m => decide (t = m) | _, _ => false
def fstI (d : D) : D := match d with | .tup [x, _] => x | _ => .non
theorem filt_least (i : Int) (l : List Int) : (((l.map fun j => D.tup [.int j, oD (tmAt ss c j)]).filter (isM (.int (leastP ss i c)))).map fstI) = (l.filter (isL ss i c)).map .int := by
  rw [List.filter_map, List.map_map]
  have e : (isM (.int (leastP ss i c)) ∘ fun j => D.tup [.int j, oD (tmAt ss c j)]) = isL ss i c := funext fun j => by
    show isM (.int (leastP ss i c)) (D.tup [.int j, oD (tmAt ss c j)]) = isL ss i c j
    unfold isL
    cases tmAt ss c j <;> rfl
  rw [e]
  rfl
theorem filter_has (i : Int) (l : List Int) : (l.filter (hasT ss c)).filter (isL ss i c) = l.filter (isL ss i c) := by
  rw [List.filter_filter]
  refine List.filter_congr fun j _ => ?_
  unfold isL hasT
  cases tmAt ss c j <;> simp [PD.mK, PD.mVar, PD.m1, PD.m2, PD.mFz, PD.aNil, PD.aCons, PD.looks, PD.look, PD.dats, PD.mB, PD.truth, PD.tB, PD.tT, PD.tAnd, PD.tOr, PD.tNot, PD.mIf, PD.vAnd, PD.vOr, PD.vNot, PD.mCall, PD.sNx, PD.sSeq, PD.sDrop, PD.sIf, PD.ret, PD.sRet, PD.sRetN, PD.storeR, PD.store, PD.gN, PD.gNil, PD.gCons, PD.gT, PD.mut1, PD.setL, PD.gSub, PD.sSet, PD.sAsg, PD.stores, PD.noVar, PD.sPar, PD.items, PD.wSeq, PD.tYes, PD.sFor, PD.frz, PD.mTup, PD.mLst, PD.mChain, PD.mCallR, PD.once, PD.pass, PD.pass1, PD.back, PD.back1, PD.inS, PD.outS, PD.okArg, PD.outs, PD.fnD, PD.noEx, Md.mut, Md.ow, PD.eqD, PD.neD, PD.eqB, PD.eqS, PD.isD, PD.isntD, PD.isNonD, PD.addD, PD.subD, PD.modD, PD.fdivD, PD.negD, PD.keyD, PD.dgetD, PD.lenD, PD.mAdd, PD.ownL]
theorem breaking_ok (h : BdOk A B ss ts) (hA : A ≤ 7) {i : Nat} (hi : i < ss.length) (c : Int) : F_breaking [⟨.own, .dct (((pathOf ss (i : Int)).filter (hasT ss c)).map (tk ss c))⟩] = .ok (.dat (lotD (brokenP ss (i : Int) c))) [some ⟨.own, .dct (((pathOf ss (i : Int)).filter (hasT ss c)).map (tk ss c))⟩] := by
  have hlen : (pathOf ss (i : Int)).length ≤ 8 := by
    have h1 := up_len (ss := ss) ((i : Int).toNat) (i : Int)
    have := h.nA
    have h2 : (pathOf ss (i : Int)).length ≤ (i : Int).toNat + 1 := h1
    omega
  have hL : 8 ≤ LIM := by unfold LIM; omega
  have ev := vals_tk (ss := ss) (c := c) (pathOf ss (i : Int))
  obtain ⟨P, hP⟩ : ∃ P, P = pathOf ss (i : Int) := ⟨_, rfl⟩
  obtain ⟨S, hS⟩ : ∃ S, S = P.filterMap (tmAt ss c) := ⟨_, rfl⟩
  obtain ⟨L, hLd⟩ : ∃ L, L = P.filter (hasT ss c) := ⟨_, rfl⟩
  have hl8 : L.length ≤ 8 := by rw [hLd]; exact Nat.le_trans (List.length_filter_le _ _) (hP ▸ hlen)
  have hin : ∀ j ∈ L, ∃ t, tmAt ss c j = some t := fun j hj => by
    rw [hLd] at hj
    exact Option.isSome_iff_exists.mp (List.mem_filter.mp hj).2
  rw [← hP] at ev ⊢
  rw [← hLd, ← hS] at ev
  rw [← hLd]
  obtain ⟨m, hm⟩ : ∃ m, m = leastD S := ⟨_, rfl⟩
  have hml : ∀ j ∈ L, m = .int (leastP ss (i : Int) c) := fun j hj => by
    obtain ⟨t, ht⟩ := hin j hj
    have hjP : j ∈ P := by rw [hLd] at hj; exact (List.mem_filter.mp hj).1
    have hne : S ≠ [] := fun z => by
      have : t ∈ S := by rw [hS]; exact List.mem_filterMap.mpr ⟨j, hjP, ht⟩
      rw [z] at this; cases this
    rw [hm]
    unfold leastD leastP
    rw [if_neg hne, hS, hP]
  have hms : scal m = true := by rw [hm]; unfold leastD; split <;> rfl
  have e0 : intsD ((L.map (tk ss c)).map (·.2)) = some S := by rw [ev, intsD_map]
  obtain ⟨Γ1, hΓ1⟩ : ∃ Γ1 : EnD, Γ1 = [none, some ⟨.dat, m⟩, none, none] := ⟨_, rfl⟩
  have c2 : compD (gT 2 (PD.gCons (gN 2) (PD.gCons (gN 3) PD.gNil))) (PD.tB (m2 eqD (mVar 3) (mVar 1))) (mVar 2) [2, 3] (prs (L.map (tk ss c))) [] Γ1 = .ok ((L.filter (isL ss (i : Int) c)).map .int) Γ1 := by
    rw [prs_tk, compD_filter (f := fstI) (p := isM (.int (leastP ss (i : Int) c))) _ [] (fun x hx => by
      obtain ⟨j, hj, rfl⟩ := List.mem_map.mp hx
      obtain ⟨t, ht⟩ := hin j hj
      have hmj := hml j hj
      obtain ⟨Γ, hΓ⟩ : ∃ Γ : EnD, Γ = [none, some ⟨.dat, m⟩, some ⟨.dat, .int j⟩, some ⟨.dat, .int t⟩] := ⟨_, rfl⟩
      have hw : wipeE Γ [2, 3] = Γ1 := by rw [hΓ, hΓ1]; simp [PD.mK, PD.mVar, PD.m1, PD.m2, PD.mFz, PD.aNil, PD.aCons, PD.looks, PD.look, PD.dats, PD.mB, PD.truth, PD.tB, PD.tT, PD.tAnd, PD.tOr, PD.tNot, PD.mIf, PD.vAnd, PD.vOr, PD.vNot, PD.mCall, PD.sNx, PD.sSeq, PD.sDrop, PD.sIf, PD.ret, PD.sRet, PD.sRetN, PD.storeR, PD.store, PD.gN, PD.gNil, PD.gCons, PD.gT, PD.mut1, PD.setL, PD.gSub, PD.sSet, PD.sAsg, PD.stores, PD.noVar, PD.sPar, PD.items, PD.wSeq, PD.tYes, PD.sFor, PD.frz, PD.mTup, PD.mLst, PD.mChain, PD.mCallR, PD.once, PD.pass, PD.pass1, PD.back, PD.back1, PD.inS, PD.outS, PD.okArg, PD.outs, PD.fnD, PD.noEx, Md.mut, Md.ow, PD.eqD, PD.neD, PD.eqB, PD.eqS, PD.isD, PD.isntD, PD.isNonD, PD.addD, PD.subD, PD.modD, PD.fdivD, PD.negD, PD.keyD, PD.dgetD, PD.lenD, PD.mAdd, PD.ownL, wipeE]
      refine ⟨Γ, Γ, by rw [hΓ, hΓ1, ht]; simp [PD.mK, PD.mVar, PD.m1, PD.m2, PD.mFz, PD.aNil, PD.aCons, PD.looks, PD.look, PD.dats, PD.mB, PD.truth, PD.tB, PD.tT, PD.tAnd, PD.tOr, PD.tNot, PD.mIf, PD.vAnd, PD.vOr, PD.vNot, PD.mCall, PD.sNx, PD.sSeq, PD.sDrop, PD.sIf, PD.ret, PD.sRet, PD.sRetN, PD.storeR, PD.store, PD.gN, PD.gNil, PD.gCons, PD.gT, PD.mut1, PD.setL, PD.gSub, PD.sSet, PD.sAsg, PD.stores, PD.noVar, PD.sPar, PD.items, PD.wSeq, PD.tYes, PD.sFor, PD.frz, PD.mTup, PD.mLst, PD.mChain, PD.mCallR, PD.once, PD.pass, PD.pass1, PD.back, PD.back1, PD.inS, PD.outS, PD.okArg, PD.outs, PD.fnD, PD.noEx, Md.mut, Md.ow, PD.eqD, PD.neD, PD.eqB, PD.eqS, PD.isD, PD.isntD, PD.isNonD, PD.addD, PD.subD, PD.modD, PD.fdivD, PD.negD, PD.keyD, PD.dgetD, PD.lenD, PD.mAdd, PD.ownL, oD], ?_, fun _ => ⟨Γ, by rw [hΓ]; simp [PD.mK, PD.mVar, PD.m1, PD.m2, PD.mFz, PD.aNil, PD.aCons, PD.looks, PD.look, PD.dats, PD.mB, PD.truth, PD.tB, PD.tT, PD.tAnd, PD.tOr, PD.tNot, PD.mIf, PD.vAnd, PD.vOr, PD.vNot, PD.mCall, PD.sNx, PD.sSeq, PD.sDrop, PD.sIf, PD.ret, PD.sRet, PD.sRetN, PD.storeR, PD.store, PD.gN, PD.gNil, PD.gCons, PD.gT, PD.mut1, PD.setL, PD.gSub, PD.sSet, PD.sAsg, PD.stores, PD.noVar, PD.sPar, PD.items, PD.wSeq, PD.tYes, PD.sFor, PD.frz, PD.mTup, PD.mLst, PD.mChain, PD.mCallR, PD.once, PD.pass, PD.pass1, PD.back, PD.back1, PD.inS, PD.outS, PD.okArg, PD.outs, PD.fnD, PD.noEx, Md.mut, Md.ow, PD.eqD, PD.neD, PD.eqB, PD.eqS, PD.isD, PD.isntD, PD.isNonD, PD.addD, PD.subD, PD.modD, PD.fdivD, PD.negD, PD.keyD, PD.dgetD, PD.lenD, PD.mAdd, PD.ownL, fstI], hw⟩, fun _ => hw⟩
      rw [hΓ, hmj, ht]
      by_cases he : t = leastP ss (i : Int) c
      · simp [PD.mK, PD.mVar, PD.m1, PD.m2, PD.mFz, PD.aNil, PD.aCons, PD.looks, PD.look, PD.dats, PD.mB, PD.truth, PD.tB, PD.tT, PD.tAnd, PD.tOr, PD.tNot, PD.mIf, PD.vAnd, PD.vOr, PD.vNot, PD.mCall, PD.sNx, PD.sSeq, PD.sDrop, PD.sIf, PD.ret, PD.sRet, PD.sRetN, PD.storeR, PD.store, PD.gN, PD.gNil, PD.gCons, PD.gT, PD.mut1, PD.setL, PD.gSub, PD.sSet, PD.sAsg, PD.stores, PD.noVar, PD.sPar, PD.items, PD.wSeq, PD.tYes, PD.sFor, PD.frz, PD.mTup, PD.mLst, PD.mChain, PD.mCallR, PD.once, PD.pass, PD.pass1, PD.back, PD.back1, PD.inS, PD.outS, PD.okArg, PD.outs, PD.fnD, PD.noEx, Md.mut, Md.ow, PD.eqD, PD.neD, PD.eqB, PD.eqS, PD.isD, PD.isntD, PD.isNonD, PD.addD, PD.subD, PD.modD, PD.fdivD, PD.negD, PD.keyD, PD.dgetD, PD.lenD, PD.mAdd, PD.ownL, oD, isM, he]
      · simp [PD.mK, PD.mVar, PD.m1, PD.m2, PD.mFz, PD.aNil, PD.aCons, PD.looks, PD.look, PD.dats, PD.mB, PD.truth, PD.tB, PD.tT, PD.tAnd, PD.tOr, PD.tNot, PD.mIf, PD.vAnd, PD.vOr, PD.vNot, PD.mCall, PD.sNx, PD.sSeq, PD.sDrop, PD.sIf, PD.ret, PD.sRet, PD.sRetN, PD.storeR, PD.store, PD.gN, PD.gNil, PD.gCons, PD.gT, PD.mut1, PD.setL, PD.gSub, PD.sSet, PD.sAsg, PD.stores, PD.noVar, PD.sPar, PD.items, PD.wSeq, PD.tYes, PD.sFor, PD.frz, PD.mTup, PD.mLst, PD.mChain, PD.mCallR, PD.once, PD.pass, PD.pass1, PD.back, PD.back1, PD.inS, PD.outS, PD.okArg, PD.outs, PD.fnD, PD.noEx, Md.mut, Md.ow, PD.eqD, PD.neD, PD.eqB, PD.eqS, PD.isD, PD.isntD, PD.isNonD, PD.addD, PD.subD, PD.modD, PD.fdivD, PD.negD, PD.keyD, PD.dgetD, PD.lenD, PD.mAdd, PD.ownL, oD, isM, he])]
    rw [List.nil_append, filt_least]
  have s1 := scal_tk (ss := ss) (c := c) L
  have l1 : (L.map (tk ss c)).length ≤ LIM := by rw [List.length_map]; omega
  have eb : brokenP ss (i : Int) c = srt (L.filter (isL ss (i : Int) c)) := by
    unfold brokenP
    rw [← hP, hLd, filter_has]
  have e5 := sorted_ints (L.filter (isL ss (i : Int) c))
  have s2 : ((L.filter (isL ss (i : Int) c)).map D.int).all scal = true := by
    rw [List.all_map, List.all_eq_true]
    intro j _
    rfl
  rw [eb]
  generalize L.map (tk ss c) = kvs at c2 s1 l1 e0 ⊢
  generalize srt (L.filter (isL ss (i : Int) c)) = out at e5 ⊢
  generalize (L.filter (isL ss (i : Int) c)).map D.int = fl at c2 e5 s2
  have hb : B_breaking ([(⟨.own, .dct kvs⟩ : Sl)].map inS ++ List.replicate 3 none) = .ok (.rt (.dat (lotD out))) [some ⟨.par, .dct kvs⟩, some ⟨.dat, m⟩, none, none] := by
    unfold B_breaking
    rw [hΓ1] at c2
    rw [seq_nx (Γ' := [some ⟨.par, .dct kvs⟩, some ⟨.dat, m⟩, none, none]) (by
      have : mLeastV 0 [some ⟨.par, .dct kvs⟩, none, none, none] = .ok (.dat m) [some ⟨.par, .dct kvs⟩, none, none, none] := by
        unfold mLeastV
        show (match intsD (kvs.map (·.2)) with | some is => _ | none => _) = _
        rw [e0, hm]
        rfl
      simp [PD.mK, PD.mVar, PD.m1, PD.m2, PD.mFz, PD.aNil, PD.aCons, PD.looks, PD.look, PD.dats, PD.mB, PD.truth, PD.tB, PD.tT, PD.tAnd, PD.tOr, PD.tNot, PD.mIf, PD.vAnd, PD.vOr, PD.vNot, PD.mCall, PD.sNx, PD.sSeq, PD.sDrop, PD.sIf, PD.ret, PD.sRet, PD.sRetN, PD.storeR, PD.store, PD.gN, PD.gNil, PD.gCons, PD.gT, PD.mut1, PD.setL, PD.gSub, PD.sSet, PD.sAsg, PD.stores, PD.noVar, PD.sPar, PD.items, PD.wSeq, PD.tYes, PD.sFor, PD.frz, PD.mTup, PD.mLst, PD.mChain, PD.mCallR, PD.once, PD.pass, PD.pass1, PD.back, PD.back1, PD.inS, PD.outS, PD.okArg, PD.outs, PD.fnD, PD.noEx, Md.mut, Md.ow, PD.eqD, PD.neD, PD.eqB, PD.eqS, PD.isD, PD.isntD, PD.isNonD, PD.addD, PD.subD, PD.modD, PD.fdivD, PD.negD, PD.keyD, PD.dgetD, PD.lenD, PD.mAdd, PD.ownL, this])]
    have ep : plainAt [some ⟨.par, .dct kvs⟩, some ⟨.dat, m⟩, none, none] [2, 3] = true := by rfl
    have ew : wipeE (scE [some ⟨.par, .dct kvs⟩, some ⟨.dat, m⟩, none, none]) [2, 3] = [none, some ⟨.dat, m⟩, none, none] := by
      simp [PD.mK, PD.mVar, PD.m1, PD.m2, PD.mFz, PD.aNil, PD.aCons, PD.looks, PD.look, PD.dats, PD.mB, PD.truth, PD.tB, PD.tT, PD.tAnd, PD.tOr, PD.tNot, PD.mIf, PD.vAnd, PD.vOr, PD.vNot, PD.mCall, PD.sNx, PD.sSeq, PD.sDrop, PD.sIf, PD.ret, PD.sRet, PD.sRetN, PD.storeR, PD.store, PD.gN, PD.gNil, PD.gCons, PD.gT, PD.mut1, PD.setL, PD.gSub, PD.sSet, PD.sAsg, PD.stores, PD.noVar, PD.sPar, PD.items, PD.wSeq, PD.tYes, PD.sFor, PD.frz, PD.mTup, PD.mLst, PD.mChain, PD.mCallR, PD.once, PD.pass, PD.pass1, PD.back, PD.back1, PD.inS, PD.outS, PD.okArg, PD.outs, PD.fnD, PD.noEx, Md.mut, Md.ow, PD.eqD, PD.neD, PD.eqB, PD.eqS, PD.isD, PD.isntD, PD.isNonD, PD.addD, PD.subD, PD.modD, PD.fdivD, PD.negD, PD.keyD, PD.dgetD, PD.lenD, PD.mAdd, PD.ownL, scE, scS, hms, wipeE]
    have em : mItL 0 (gT 2 (PD.gCons (gN 2) (PD.gCons (gN 3) PD.gNil))) (PD.tB (m2 eqD (mVar 3) (mVar 1))) (mVar 2) [2, 3] [some ⟨.par, .dct kvs⟩, some ⟨.dat, m⟩, none, none] = .ok (.own (.lst fl)) [some ⟨.par, .dct kvs⟩, some ⟨.dat, m⟩, none, none] := by
      unfold mItL
      show (if plainAt _ _ = true ∧ _ ∧ _ then _ else _) = _
      rw [if_pos ⟨ep, s1, l1⟩, ew, c2]
      show (if _ then _ else _) = _
      rw [if_pos s2]
    show PD.sRet (mB tupD (aCons (mB sortedD (aCons (mItL 0 _ _ _ [2, 3]) aNil)) aNil)) _ = _
    simp [PD.mK, PD.mVar, PD.m1, PD.m2, PD.mFz, PD.aNil, PD.aCons, PD.looks, PD.look, PD.dats, PD.mB, PD.truth, PD.tB, PD.tT, PD.tAnd, PD.tOr, PD.tNot, PD.mIf, PD.vAnd, PD.vOr, PD.vNot, PD.mCall, PD.sNx, PD.sSeq, PD.sDrop, PD.sIf, PD.ret, PD.sRet, PD.sRetN, PD.storeR, PD.store, PD.gN, PD.gNil, PD.gCons, PD.gT, PD.mut1, PD.setL, PD.gSub, PD.sSet, PD.sAsg, PD.stores, PD.noVar, PD.sPar, PD.items, PD.wSeq, PD.tYes, PD.sFor, PD.frz, PD.mTup, PD.mLst, PD.mChain, PD.mCallR, PD.once, PD.pass, PD.pass1, PD.back, PD.back1, PD.inS, PD.outS, PD.okArg, PD.outs, PD.fnD, PD.noEx, Md.mut, Md.ow, PD.eqD, PD.neD, PD.eqB, PD.eqS, PD.isD, PD.isntD, PD.isNonD, PD.addD, PD.subD, PD.modD, PD.fdivD, PD.negD, PD.keyD, PD.dgetD, PD.lenD, PD.mAdd, PD.ownL, em, e5, tupD, lotD]
  exact of_fn (np := 1) (n := 4) (b := B_breaking) (ss := [(⟨.own, .dct kvs⟩ : Sl)]) rfl rfl hb
theorem broken_of_ok (h : BdOk A B ss ts) (hA : A ≤ 7) {i : Nat} (hi : i < ss.length) (c : Int) : F_broken_by_of [⟨.dat, objD ss ts⟩, ⟨.dat, .int (i : Int)⟩, ⟨.dat, .int c⟩] = .ok (.dat (lotD (brokenP ss (i : Int) c))) [none, none, none] := by
  have e1 := times_by_ok h hA hi c
  have e2 := breaking_ok (ts := ts) h hA hi c
  generalize D.dct (((pathOf ss (i : Int)).filter (hasT ss c)).map (tk ss c)) = kv at e1 e2
  generalize brokenP ss (i : Int) c = out at e2 ⊢
  simp [PD.mK, PD.mVar, PD.m1, PD.m2, PD.mFz, PD.aNil, PD.aCons, PD.looks, PD.look, PD.dats, PD.mB, PD.truth, PD.tB, PD.tT, PD.tAnd, PD.tOr, PD.tNot, PD.mIf, PD.vAnd, PD.vOr, PD.vNot, PD.mCall, PD.sNx, PD.sSeq, PD.sDrop, PD.sIf, PD.ret, PD.sRet, PD.sRetN, PD.storeR, PD.store, PD.gN, PD.gNil, PD.gCons, PD.gT, PD.mut1, PD.setL, PD.gSub, PD.sSet, PD.sAsg, PD.stores, PD.noVar, PD.sPar, PD.items, PD.wSeq, PD.tYes, PD.sFor, PD.frz, PD.mTup, PD.mLst, PD.mChain, PD.mCallR, PD.once, PD.pass, PD.pass1, PD.back, PD.back1, PD.inS, PD.outS, PD.okArg, PD.outs, PD.fnD, PD.noEx, Md.mut, Md.ow, PD.eqD, PD.neD, PD.eqB, PD.eqS, PD.isD, PD.isntD, PD.isNonD, PD.addD, PD.subD, PD.modD, PD.fdivD, PD.negD, PD.keyD, PD.dgetD, PD.lenD, PD.mAdd, PD.ownL, F_broken_by_of, B_broken_by_of, e1, e2]
end Lk41

namespace Lk41
open PySem PySem.Spec L2 PD
variable {A B : Int} {ss : List Sw} {ts : List Th}
/-! ### what is told, as a text -/
def few (b0 b1 b2 b3 b4 b5 b6 : Bool) : List Int := (if b0 then [0] else []) ++ (if b1 then [1] else []) ++ (if b2 then [2] else []) ++ (if b3 then [3] else []) ++ (if b4 then [4] else []) ++ (if b5 then [5] else []) ++ (if b6 then [6] else [])
theorem same_asc : ∀ (l m : List Int), l.Pairwise (· < ·) → m.Pairwise (· < ·) → (∀ x, x ∈ l ↔ x ∈ m) → l = m
  | [], [], _, _, _ => rfl
  | [], y :: m, _, _, h => by have := (h y).mpr List.mem_cons_self; cases this
  | x :: l, [], _, _, h => by have := (h x).mp List.mem_cons_self; cases this
  | x :: l, y :: m, hl, hm, h => by
    obtain ⟨l1, l2⟩ := List.pairwise_cons.mp hl
    obtain ⟨m1, m2⟩ := List.pairwise_cons.mp hm
    have exy : x = y := by
      have h1 := (h x).mp List.mem_cons_self
      have h2 := (h y).mpr List.mem_cons_self
      rcases List.mem_cons.mp h1 with e | e
      · exact e
      · rcases List.mem_cons.mp h2 with e2 | e2
        · exact e2.symm
        · have := m1 x e; have := l1 y e2; omega
    subst exy
    rw [same_asc l m l2 m2 fun z => ?_]
    constructor
    · intro hz
      rcases List.mem_cons.mp ((h z).mp (List.mem_cons_of_mem _ hz)) with e | e
      · subst e; have := l1 z hz; omega
      · exact e
    · intro hz
      rcases List.mem_cons.mp ((h z).mpr (List.mem_cons_of_mem _ hz)) with e | e
      · subst e; have := m1 z hz; omega
      · exact e
theorem mem_one {b : Bool} {x i : Int} : x ∈ (if b = true then [i] else []) ↔ b = true ∧ x = i := by cases b <;> simp [PD.mK, PD.mVar, PD.m1, PD.m2, PD.mFz, PD.aNil, PD.aCons, PD.looks, PD.look, PD.dats, PD.mB, PD.truth, PD.tB, PD.tT, PD.tAnd, PD.tOr, PD.tNot, PD.mIf, PD.vAnd, PD.vOr, PD.vNot, PD.mCall, PD.sNx, PD.sSeq, PD.sDrop, PD.sIf, PD.ret, PD.sRet, PD.sRetN, PD.storeR, PD.store, PD.gN, PD.gNil, PD.gCons, PD.gT, PD.mut1, PD.setL, PD.gSub, PD.sSet, PD.sAsg, PD.stores, PD.noVar, PD.sPar, PD.items, PD.wSeq, PD.tYes, PD.sFor, PD.frz, PD.mTup, PD.mLst, PD.mChain, PD.mCallR, PD.once, PD.pass, PD.pass1, PD.back, PD.back1, PD.inS, PD.outS, PD.okArg, PD.outs, PD.fnD, PD.noEx, Md.mut, Md.ow, PD.eqD, PD.neD, PD.eqB, PD.eqS, PD.isD, PD.isntD, PD.isNonD, PD.addD, PD.subD, PD.modD, PD.fdivD, PD.negD, PD.keyD, PD.dgetD, PD.lenD, PD.mAdd, PD.ownL]
theorem mem_few {b0 b1 b2 b3 b4 b5 b6 : Bool} {x : Int} : x ∈ few b0 b1 b2 b3 b4 b5 b6 ↔ (b0 = true ∧ x = 0) ∨ (b1 = true ∧ x = 1) ∨ (b2 = true ∧ x = 2) ∨ (b3 = true ∧ x = 3) ∨ (b4 = true ∧ x = 4) ∨ (b5 = true ∧ x = 5) ∨ (b6 = true ∧ x = 6) := by
  unfold few
  simp only [List.mem_append, mem_one, or_assoc]
theorem asc_few : ∀ b0 b1 b2 b3 b4 b5 b6 : Bool, (few b0 b1 b2 b3 b4 b5 b6).Pairwise (· < ·) := by decide +kernel
theorem is_few {l : List Int} (h : l.Pairwise (· < ·)) (hb : ∀ x ∈ l, 0 ≤ x ∧ x < 7) : ∃ b0 b1 b2 b3 b4 b5 b6, l = few b0 b1 b2 b3 b4 b5 b6 := by
  refine ⟨decide (0 ∈ l), decide (1 ∈ l), decide (2 ∈ l), decide (3 ∈ l), decide (4 ∈ l), decide (5 ∈ l), decide (6 ∈ l), same_asc _ _ h (asc_few ..) fun x => ?_⟩
  rw [mem_few]
  simp only [decide_eq_true_eq]
  constructor
  · intro hx
    have := hb x hx
    have : x = 0 ∨ x = 1 ∨ x = 2 ∨ x = 3 ∨ x = 4 ∨ x = 5 ∨ x = 6 := by omega
    rcases this with rfl | rfl | rfl | rfl | rfl | rfl | rfl <;> simp [PD.mK, PD.mVar, PD.m1, PD.m2, PD.mFz, PD.aNil, PD.aCons, PD.looks, PD.look, PD.dats, PD.mB, PD.truth, PD.tB, PD.tT, PD.tAnd, PD.tOr, PD.tNot, PD.mIf, PD.vAnd, PD.vOr, PD.vNot, PD.mCall, PD.sNx, PD.sSeq, PD.sDrop, PD.sIf, PD.ret, PD.sRet, PD.sRetN, PD.storeR, PD.store, PD.gN, PD.gNil, PD.gCons, PD.gT, PD.mut1, PD.setL, PD.gSub, PD.sSet, PD.sAsg, PD.stores, PD.noVar, PD.sPar, PD.items, PD.wSeq, PD.tYes, PD.sFor, PD.frz, PD.mTup, PD.mLst, PD.mChain, PD.mCallR, PD.once, PD.pass, PD.pass1, PD.back, PD.back1, PD.inS, PD.outS, PD.okArg, PD.outs, PD.fnD, PD.noEx, Md.mut, Md.ow, PD.eqD, PD.neD, PD.eqB, PD.eqS, PD.isD, PD.isntD, PD.isNonD, PD.addD, PD.subD, PD.modD, PD.fdivD, PD.negD, PD.keyD, PD.dgetD, PD.lenD, PD.mAdd, PD.ownL, hx]
  · rintro (⟨h, rfl⟩ | ⟨h, rfl⟩ | ⟨h, rfl⟩ | ⟨h, rfl⟩ | ⟨h, rfl⟩ | ⟨h, rfl⟩ | ⟨h, rfl⟩) <;> exact h
theorem broken_asc (hs : Hangs ss) {i : Nat} (hi : i < ss.length) (c : Int) : (brokenP ss (i : Int) c).Pairwise (· < ·) := by
  have h1 := sorted_srt ((pathOf ss (i : Int)).filter (isL ss (i : Int) c))
  have h2 : (srt ((pathOf ss (i : Int)).filter (isL ss (i : Int) c))).Nodup := (srt_perm _).nodup_iff.mpr ((path_nodup hs hi).filter _)
  exact (h1.and h2).imp fun h => by have := h.1; have := h.2; omega
theorem broken_few (h : BdOk A B ss ts) (hA : A ≤ 7) {i : Nat} (hi : i < ss.length) (c : Int) : ∃ b0 b1 b2 b3 b4 b5 b6, brokenP ss (i : Int) c = few b0 b1 b2 b3 b4 b5 b6 := by
  refine is_few (broken_asc h.hangs hi c) fun x hx => ?_
  obtain ⟨j, rfl, hj⟩ := path_in h.hangs hi (mem_broken.mp hx).1
  have := h.nA
  omega
end Lk41

namespace Lk41
open PySem PySem.Spec L2 PD
variable {A B C : Int}
theorem few_repr : ∀ b0 b1 b2 b3 b4 b5 b6 : Bool, (reprB (.tup ((few b0 b1 b2 b3 b4 b5 b6).map .int))).isSome = true := by decide +kernel
theorem repr_ok {ss : List Sw} {ts : List Th} (h : BdOk A B ss ts) (hA : A ≤ 7) {i : Nat} (hi : i < ss.length) (c : Int) : ∃ t, reprD [lotD (brokenP ss (i : Int) c)] = some (.dat (.str t)) := by
  obtain ⟨b0, b1, b2, b3, b4, b5, b6, e⟩ := broken_few h hA hi c
  obtain ⟨x, hx⟩ := Option.isSome_iff_exists.mp (few_repr b0 b1 b2 b3 b4 b5 b6)
  refine ⟨x, ?_⟩
  rw [e]
  unfold lotD
  show (reprB _).map _ = _
  rw [hx]
  rfl
theorem broken_ok {ss : List Sw} {ts : List Th} (h : BdOk A B ss ts) (hA : A ≤ 7) {i : Nat} (hi : i < ss.length) {c : Int} (h1 : 1 ≤ c) (h2 : c ≤ 999) : F_broken_by [⟨.dat, objD ss ts⟩, ⟨.dat, .int (i : Int)⟩, ⟨.dat, .int c⟩] = .ok (.dat (lotD (brokenP ss (i : Int) c))) [none, none, none] := by
  have e1 : F_check_board [⟨.dat, objD ss ts⟩] = .ok (.dat .non) [none] := by
    simp [PD.mK, PD.mVar, PD.m1, PD.m2, PD.mFz, PD.aNil, PD.aCons, PD.looks, PD.look, PD.dats, PD.mB, PD.truth, PD.tB, PD.tT, PD.tAnd, PD.tOr, PD.tNot, PD.mIf, PD.vAnd, PD.vOr, PD.vNot, PD.mCall, PD.sNx, PD.sSeq, PD.sDrop, PD.sIf, PD.ret, PD.sRet, PD.sRetN, PD.storeR, PD.store, PD.gN, PD.gNil, PD.gCons, PD.gT, PD.mut1, PD.setL, PD.gSub, PD.sSet, PD.sAsg, PD.stores, PD.noVar, PD.sPar, PD.items, PD.wSeq, PD.tYes, PD.sFor, PD.frz, PD.mTup, PD.mLst, PD.mChain, PD.mCallR, PD.once, PD.pass, PD.pass1, PD.back, PD.back1, PD.inS, PD.outS, PD.okArg, PD.outs, PD.fnD, PD.noEx, Md.mut, Md.ow, PD.eqD, PD.neD, PD.eqB, PD.eqS, PD.isD, PD.isntD, PD.isNonD, PD.addD, PD.subD, PD.modD, PD.fdivD, PD.negD, PD.keyD, PD.dgetD, PD.lenD, PD.mAdd, PD.ownL, F_check_board, B_check_board, objD, isi_b]
  have g0 : (0 : Int) ≤ (i : Int) := by omega
  have g1 : (i : Int) ≤ (ss.length : Int) - 1 := by omega
  have e2 : F_check_switch [⟨.dat, objD ss ts⟩, ⟨.dat, .int (i : Int)⟩] = .ok (.dat .non) [none, none] := by
    simp [PD.mK, PD.mVar, PD.m1, PD.m2, PD.mFz, PD.aNil, PD.aCons, PD.looks, PD.look, PD.dats, PD.mB, PD.truth, PD.tB, PD.tT, PD.tAnd, PD.tOr, PD.tNot, PD.mIf, PD.vAnd, PD.vOr, PD.vNot, PD.mCall, PD.sNx, PD.sSeq, PD.sDrop, PD.sIf, PD.ret, PD.sRet, PD.sRetN, PD.storeR, PD.store, PD.gN, PD.gNil, PD.gCons, PD.gT, PD.mut1, PD.setL, PD.gSub, PD.sSet, PD.sAsg, PD.stores, PD.noVar, PD.sPar, PD.items, PD.wSeq, PD.tYes, PD.sFor, PD.frz, PD.mTup, PD.mLst, PD.mChain, PD.mCallR, PD.once, PD.pass, PD.pass1, PD.back, PD.back1, PD.inS, PD.outS, PD.okArg, PD.outs, PD.fnD, PD.noEx, Md.mut, Md.ow, PD.eqD, PD.neD, PD.eqB, PD.eqS, PD.isD, PD.isntD, PD.isNonD, PD.addD, PD.subD, PD.modD, PD.fdivD, PD.negD, PD.keyD, PD.dgetD, PD.lenD, PD.mAdd, PD.ownL, F_check_switch, B_check_switch, F_is_switch, B_is_switch, fld_sw, g0, g1]
  have e3 : F_check_current [⟨.dat, .int c⟩] = .ok (.dat .non) [none] := by
    simp [PD.mK, PD.mVar, PD.m1, PD.m2, PD.mFz, PD.aNil, PD.aCons, PD.looks, PD.look, PD.dats, PD.mB, PD.truth, PD.tB, PD.tT, PD.tAnd, PD.tOr, PD.tNot, PD.mIf, PD.vAnd, PD.vOr, PD.vNot, PD.mCall, PD.sNx, PD.sSeq, PD.sDrop, PD.sIf, PD.ret, PD.sRet, PD.sRetN, PD.storeR, PD.store, PD.gN, PD.gNil, PD.gCons, PD.gT, PD.mut1, PD.setL, PD.gSub, PD.sSet, PD.sAsg, PD.stores, PD.noVar, PD.sPar, PD.items, PD.wSeq, PD.tYes, PD.sFor, PD.frz, PD.mTup, PD.mLst, PD.mChain, PD.mCallR, PD.once, PD.pass, PD.pass1, PD.back, PD.back1, PD.inS, PD.outS, PD.okArg, PD.outs, PD.fnD, PD.noEx, Md.mut, Md.ow, PD.eqD, PD.neD, PD.eqB, PD.eqS, PD.isD, PD.isntD, PD.isNonD, PD.addD, PD.subD, PD.modD, PD.fdivD, PD.negD, PD.keyD, PD.dgetD, PD.lenD, PD.mAdd, PD.ownL, F_check_current, B_check_current, F_is_current, B_is_current, h1, h2]
  have e4 := broken_of_ok (ts := ts) h hA hi c
  generalize brokenP ss (i : Int) c = out at e4 ⊢
  simp [PD.mK, PD.mVar, PD.m1, PD.m2, PD.mFz, PD.aNil, PD.aCons, PD.looks, PD.look, PD.dats, PD.mB, PD.truth, PD.tB, PD.tT, PD.tAnd, PD.tOr, PD.tNot, PD.mIf, PD.vAnd, PD.vOr, PD.vNot, PD.mCall, PD.sNx, PD.sSeq, PD.sDrop, PD.sIf, PD.ret, PD.sRet, PD.sRetN, PD.storeR, PD.store, PD.gN, PD.gNil, PD.gCons, PD.gT, PD.mut1, PD.setL, PD.gSub, PD.sSet, PD.sAsg, PD.stores, PD.noVar, PD.sPar, PD.items, PD.wSeq, PD.tYes, PD.sFor, PD.frz, PD.mTup, PD.mLst, PD.mChain, PD.mCallR, PD.once, PD.pass, PD.pass1, PD.back, PD.back1, PD.inS, PD.outS, PD.okArg, PD.outs, PD.fnD, PD.noEx, Md.mut, Md.ow, PD.eqD, PD.neD, PD.eqB, PD.eqS, PD.isD, PD.isntD, PD.isNonD, PD.addD, PD.subD, PD.modD, PD.fdivD, PD.negD, PD.keyD, PD.dgetD, PD.lenD, PD.mAdd, PD.ownL, F_broken_by, B_broken_by, F_check_fault, B_check_fault, e1, e2, e3, e4]
noncomputable def rB : M Fl := (sSeq (PD.sSet 6 (mCall F__law_broken [] (aCons (mVar 2) (aCons (mVar 4) (aCons (mVar 5) aNil)))))
  (sSeq (PD.sSet 7 (mCall F_broken_by [] (aCons (mVar 3) (aCons (mVar 4) (aCons (mVar 5) aNil)))))
  (sSeq (PD.sIf (PD.tB (m2 eqD (m2 modD (mVar 5) (mK (.int 2))) (mK (.int 1)))) (PD.sSet 7 (mCallK [2, 1, 0] 0 (List.length (["current", "switch", "board"] : List Str)) F_broken_by [] aNil (aCons (mVar 5) (aCons (mVar 4) (aCons (mVar 3) aNil))))) sNx)
  (PD.sIf (PD.tB (m2 neD (mB reprD (aCons (mVar 7) aNil)) (mB reprD (aCons (mVar 6) aNil)))) (PD.sRet (mK (.bl false))) sNx))))
noncomputable def rO : M Fl := PD.sFor (wSeq (mCall F__law_currents [] (aCons (mVar 2) aNil))) (gN 5) rB
abbrev rE (A B C a b c : Int) (ss : List Sw) (ts : List Th) (k cu du to : Option D) : EnD := [some ⟨.par, pl a b c⟩, some ⟨.dat, mD A B C⟩, some ⟨.dat, bdD ss ts⟩, some ⟨.dat, objD ss ts⟩, od k, od cu, od du, od to]
theorem rB_ok {ss : List Sw} {ts : List Th} (h : BdOk A B ss ts) (hA : A ≤ 7) {i : Nat} (hi : i < ss.length) {cu : Int} (h1 : 1 ≤ cu) (h2 : cu ≤ 999) (a b c : Int) (du to : Option D) : ∃ du' to', rB (rE A B C a b c ss ts (some (.int (i : Int))) (some (.int cu)) du to) = .ok .nx (rE A B C a b c ss ts (some (.int (i : Int))) (some (.int cu)) du' to') := by
  have e1 := law_broken_ok (ts := ts) h hA hi cu
  have e2 := broken_ok (ts := ts) h hA hi h1 h2
  obtain ⟨t, e3⟩ := repr_ok (ts := ts) h hA hi cu
  generalize lotD (brokenP ss (i : Int) cu) = x at e1 e2 e3
  refine ⟨some x, some x, ?_⟩
  unfold rB
  rw [seq_nx (Γ' := rE A B C a b c ss ts (some (.int (i : Int))) (some (.int cu)) (some x) to) (by cases du <;> simp [PD.mK, PD.mVar, PD.m1, PD.m2, PD.mFz, PD.aNil, PD.aCons, PD.looks, PD.look, PD.dats, PD.mB, PD.truth, PD.tB, PD.tT, PD.tAnd, PD.tOr, PD.tNot, PD.mIf, PD.vAnd, PD.vOr, PD.vNot, PD.mCall, PD.sNx, PD.sSeq, PD.sDrop, PD.sIf, PD.ret, PD.sRet, PD.sRetN, PD.storeR, PD.store, PD.gN, PD.gNil, PD.gCons, PD.gT, PD.mut1, PD.setL, PD.gSub, PD.sSet, PD.sAsg, PD.stores, PD.noVar, PD.sPar, PD.items, PD.wSeq, PD.tYes, PD.sFor, PD.frz, PD.mTup, PD.mLst, PD.mChain, PD.mCallR, PD.once, PD.pass, PD.pass1, PD.back, PD.back1, PD.inS, PD.outS, PD.okArg, PD.outs, PD.fnD, PD.noEx, Md.mut, Md.ow, PD.eqD, PD.neD, PD.eqB, PD.eqS, PD.isD, PD.isntD, PD.isNonD, PD.addD, PD.subD, PD.modD, PD.fdivD, PD.negD, PD.keyD, PD.dgetD, PD.lenD, PD.mAdd, PD.ownL, od, e1])]
  rw [seq_nx (Γ' := rE A B C a b c ss ts (some (.int (i : Int))) (some (.int cu)) (some x) (some x)) (by cases to <;> simp [PD.mK, PD.mVar, PD.m1, PD.m2, PD.mFz, PD.aNil, PD.aCons, PD.looks, PD.look, PD.dats, PD.mB, PD.truth, PD.tB, PD.tT, PD.tAnd, PD.tOr, PD.tNot, PD.mIf, PD.vAnd, PD.vOr, PD.vNot, PD.mCall, PD.sNx, PD.sSeq, PD.sDrop, PD.sIf, PD.ret, PD.sRet, PD.sRetN, PD.storeR, PD.store, PD.gN, PD.gNil, PD.gCons, PD.gT, PD.mut1, PD.setL, PD.gSub, PD.sSet, PD.sAsg, PD.stores, PD.noVar, PD.sPar, PD.items, PD.wSeq, PD.tYes, PD.sFor, PD.frz, PD.mTup, PD.mLst, PD.mChain, PD.mCallR, PD.once, PD.pass, PD.pass1, PD.back, PD.back1, PD.inS, PD.outS, PD.okArg, PD.outs, PD.fnD, PD.noEx, Md.mut, Md.ow, PD.eqD, PD.neD, PD.eqB, PD.eqS, PD.isD, PD.isntD, PD.isNonD, PD.addD, PD.subD, PD.modD, PD.fdivD, PD.negD, PD.keyD, PD.dgetD, PD.lenD, PD.mAdd, PD.ownL, od, e2])]
  rw [seq_nx (Γ' := rE A B C a b c ss ts (some (.int (i : Int))) (some (.int cu)) (some x) (some x)) (by
    by_cases hm : cu % 2 = 1 <;> simp [PD.mK, PD.mVar, PD.m1, PD.m2, PD.mFz, PD.aNil, PD.aCons, PD.looks, PD.look, PD.dats, PD.mB, PD.truth, PD.tB, PD.tT, PD.tAnd, PD.tOr, PD.tNot, PD.mIf, PD.vAnd, PD.vOr, PD.vNot, PD.mCall, PD.sNx, PD.sSeq, PD.sDrop, PD.sIf, PD.ret, PD.sRet, PD.sRetN, PD.storeR, PD.store, PD.gN, PD.gNil, PD.gCons, PD.gT, PD.mut1, PD.setL, PD.gSub, PD.sSet, PD.sAsg, PD.stores, PD.noVar, PD.sPar, PD.items, PD.wSeq, PD.tYes, PD.sFor, PD.frz, PD.mTup, PD.mLst, PD.mChain, PD.mCallR, PD.once, PD.pass, PD.pass1, PD.back, PD.back1, PD.inS, PD.outS, PD.okArg, PD.outs, PD.fnD, PD.noEx, Md.mut, Md.ow, PD.eqD, PD.neD, PD.eqB, PD.eqS, PD.isD, PD.isntD, PD.isNonD, PD.addD, PD.subD, PD.modD, PD.fdivD, PD.negD, PD.keyD, PD.dgetD, PD.lenD, PD.mAdd, PD.ownL, od, e2, hm, mCallK, permL])]
  simp [PD.mK, PD.mVar, PD.m1, PD.m2, PD.mFz, PD.aNil, PD.aCons, PD.looks, PD.look, PD.dats, PD.mB, PD.truth, PD.tB, PD.tT, PD.tAnd, PD.tOr, PD.tNot, PD.mIf, PD.vAnd, PD.vOr, PD.vNot, PD.mCall, PD.sNx, PD.sSeq, PD.sDrop, PD.sIf, PD.ret, PD.sRet, PD.sRetN, PD.storeR, PD.store, PD.gN, PD.gNil, PD.gCons, PD.gT, PD.mut1, PD.setL, PD.gSub, PD.sSet, PD.sAsg, PD.stores, PD.noVar, PD.sPar, PD.items, PD.wSeq, PD.tYes, PD.sFor, PD.frz, PD.mTup, PD.mLst, PD.mChain, PD.mCallR, PD.once, PD.pass, PD.pass1, PD.back, PD.back1, PD.inS, PD.outS, PD.okArg, PD.outs, PD.fnD, PD.noEx, Md.mut, Md.ow, PD.eqD, PD.neD, PD.eqB, PD.eqS, PD.isD, PD.isntD, PD.isNonD, PD.addD, PD.subD, PD.modD, PD.fdivD, PD.negD, PD.keyD, PD.dgetD, PD.lenD, PD.mAdd, PD.ownL, od, e3]
theorem right_ok (hA : 1 ≤ A) (hA' : A ≤ 7) (hB1 : 1 ≤ B) (hB2 : B ≤ 20) (hC : 0 ≤ C) (hC' : C ≤ 5) (hAB : A ≤ 5 ∨ B ≤ 9) (a b c : Int) : ∃ a' b' c', F__law_right [⟨.own, pl a b c⟩, ⟨.dat, mD A B C⟩] = .ok (.dat (.bl true)) [some ⟨.own, pl a' b' c'⟩, none] := by
  obtain ⟨a1, b1, c1, ss, ts, ok, e1⟩ := board_ok hA hA' hB1 hB2 hC hC' a b c
  have e2 := made_ok ok hB2 hA'
  have hcv : ∀ s ∈ ss, s.curve.length ≤ 3 := fun s hs => by
    obtain ⟨i, hi⟩ := List.mem_iff_getElem?.mp hs
    have cv := (ok.sw i s hi).cv
    generalize s.curve = q at cv
    cases cv <;> simp [PD.mK, PD.mVar, PD.m1, PD.m2, PD.mFz, PD.aNil, PD.aCons, PD.looks, PD.look, PD.dats, PD.mB, PD.truth, PD.tB, PD.tT, PD.tAnd, PD.tOr, PD.tNot, PD.mIf, PD.vAnd, PD.vOr, PD.vNot, PD.mCall, PD.sNx, PD.sSeq, PD.sDrop, PD.sIf, PD.ret, PD.sRet, PD.sRetN, PD.storeR, PD.store, PD.gN, PD.gNil, PD.gCons, PD.gT, PD.mut1, PD.setL, PD.gSub, PD.sSet, PD.sAsg, PD.stores, PD.noVar, PD.sPar, PD.items, PD.wSeq, PD.tYes, PD.sFor, PD.frz, PD.mTup, PD.mLst, PD.mChain, PD.mCallR, PD.once, PD.pass, PD.pass1, PD.back, PD.back1, PD.inS, PD.outS, PD.okArg, PD.outs, PD.fnD, PD.noEx, Md.mut, Md.ow, PD.eqD, PD.neD, PD.eqB, PD.eqS, PD.isD, PD.isntD, PD.isNonD, PD.addD, PD.subD, PD.modD, PD.fdivD, PD.negD, PD.keyD, PD.dgetD, PD.lenD, PD.mAdd, PD.ownL]
  have e3 := currents_ok (ts := ts) (dd_ok ok hB2 hAB) hcv (by have := ok.nA; omega)
  obtain ⟨Γ', f1, k, cu, du, to, rfl⟩ := forD_inv (g := gN 4) (b := rO) (fun _ Γ => ∃ k cu du to, Γ = rE A B C a1 b1 c1 ss ts k cu du to) (rngD 0 ss.length) 0 (rE A B C a1 b1 c1 ss ts none none none none) (fun i d Γ hi ⟨k, cu, du, to, e⟩ => by
    obtain ⟨rfl, hi'⟩ := rngD_get hi
    obtain ⟨s, hs⟩ : ∃ s, ss[i]? = some s := ⟨ss[i], List.getElem?_eq_getElem hi'⟩
    have cv := (ok.sw i s hs).cv
    obtain ⟨Γ2, f2, cu2, du2, to2, rfl⟩ := forD_inv (g := gN 5) (b := rB) (fun _ Γ => ∃ cu du to, Γ = rE A B C a1 b1 c1 ss ts (some (.int (i : Int))) cu du to) ((curs ss).map .int) 0 (rE A B C a1 b1 c1 ss ts (some (.int (i : Int))) cu du to) (fun j d Γ hj ⟨cu, du, to, e⟩ => by
      rw [List.getElem?_map] at hj
      obtain ⟨z, hz, rfl⟩ := Option.map_eq_some_iff.mp hj
      have hz' := List.mem_of_getElem? hz
      unfold curs at hz'
      have hz2 := (List.mem_filter.mp hz').2
      simp [PD.mK, PD.mVar, PD.m1, PD.m2, PD.mFz, PD.aNil, PD.aCons, PD.looks, PD.look, PD.dats, PD.mB, PD.truth, PD.tB, PD.tT, PD.tAnd, PD.tOr, PD.tNot, PD.mIf, PD.vAnd, PD.vOr, PD.vNot, PD.mCall, PD.sNx, PD.sSeq, PD.sDrop, PD.sIf, PD.ret, PD.sRet, PD.sRetN, PD.storeR, PD.store, PD.gN, PD.gNil, PD.gCons, PD.gT, PD.mut1, PD.setL, PD.gSub, PD.sSet, PD.sAsg, PD.stores, PD.noVar, PD.sPar, PD.items, PD.wSeq, PD.tYes, PD.sFor, PD.frz, PD.mTup, PD.mLst, PD.mChain, PD.mCallR, PD.once, PD.pass, PD.pass1, PD.back, PD.back1, PD.inS, PD.outS, PD.okArg, PD.outs, PD.fnD, PD.noEx, Md.mut, Md.ow, PD.eqD, PD.neD, PD.eqB, PD.eqS, PD.isD, PD.isntD, PD.isNonD, PD.addD, PD.subD, PD.modD, PD.fdivD, PD.negD, PD.keyD, PD.dgetD, PD.lenD, PD.mAdd, PD.ownL] at hz2
      obtain ⟨du', to', e'⟩ := rB_ok (C := C) ok hA' hi' hz2.1 hz2.2 a1 b1 c1 du to
      refine ⟨rE A B C a1 b1 c1 ss ts (some (.int (i : Int))) (some (.int z)) du to, _, ?_, e', _, _, _, rfl⟩
      subst e
      cases cu <;> simp [PD.mK, PD.mVar, PD.m1, PD.m2, PD.mFz, PD.aNil, PD.aCons, PD.looks, PD.look, PD.dats, PD.mB, PD.truth, PD.tB, PD.tT, PD.tAnd, PD.tOr, PD.tNot, PD.mIf, PD.vAnd, PD.vOr, PD.vNot, PD.mCall, PD.sNx, PD.sSeq, PD.sDrop, PD.sIf, PD.ret, PD.sRet, PD.sRetN, PD.storeR, PD.store, PD.gN, PD.gNil, PD.gCons, PD.gT, PD.mut1, PD.setL, PD.gSub, PD.sSet, PD.sAsg, PD.stores, PD.noVar, PD.sPar, PD.items, PD.wSeq, PD.tYes, PD.sFor, PD.frz, PD.mTup, PD.mLst, PD.mChain, PD.mCallR, PD.once, PD.pass, PD.pass1, PD.back, PD.back1, PD.inS, PD.outS, PD.okArg, PD.outs, PD.fnD, PD.noEx, Md.mut, Md.ow, PD.eqD, PD.neD, PD.eqB, PD.eqS, PD.isD, PD.isntD, PD.isNonD, PD.addD, PD.subD, PD.modD, PD.fdivD, PD.negD, PD.keyD, PD.dgetD, PD.lenD, PD.mAdd, PD.ownL, od]) ⟨cu, du, to, rfl⟩
    refine ⟨rE A B C a1 b1 c1 ss ts (some (.int (i : Int))) cu du to, rE A B C a1 b1 c1 ss ts (some (.int (i : Int))) cu2 du2 to2, ?_, ?_, _, _, _, _, rfl⟩
    · subst e
      cases k <;> simp [PD.mK, PD.mVar, PD.m1, PD.m2, PD.mFz, PD.aNil, PD.aCons, PD.looks, PD.look, PD.dats, PD.mB, PD.truth, PD.tB, PD.tT, PD.tAnd, PD.tOr, PD.tNot, PD.mIf, PD.vAnd, PD.vOr, PD.vNot, PD.mCall, PD.sNx, PD.sSeq, PD.sDrop, PD.sIf, PD.ret, PD.sRet, PD.sRetN, PD.storeR, PD.store, PD.gN, PD.gNil, PD.gCons, PD.gT, PD.mut1, PD.setL, PD.gSub, PD.sSet, PD.sAsg, PD.stores, PD.noVar, PD.sPar, PD.items, PD.wSeq, PD.tYes, PD.sFor, PD.frz, PD.mTup, PD.mLst, PD.mChain, PD.mCallR, PD.once, PD.pass, PD.pass1, PD.back, PD.back1, PD.inS, PD.outS, PD.okArg, PD.outs, PD.fnD, PD.noEx, Md.mut, Md.ow, PD.eqD, PD.neD, PD.eqB, PD.eqS, PD.isD, PD.isntD, PD.isNonD, PD.addD, PD.subD, PD.modD, PD.fdivD, PD.negD, PD.keyD, PD.dgetD, PD.lenD, PD.mAdd, PD.ownL, od]
    · unfold rO PD.sFor
      rw [show wSeq (mCall F__law_currents [] (aCons (mVar 2) aNil)) (rE A B C a1 b1 c1 ss ts (some (.int (i : Int))) cu du to) = .ok ((curs ss).map .int) (rE A B C a1 b1 c1 ss ts (some (.int (i : Int))) cu du to) by
        simp [PD.mK, PD.mVar, PD.m1, PD.m2, PD.mFz, PD.aNil, PD.aCons, PD.looks, PD.look, PD.dats, PD.mB, PD.truth, PD.tB, PD.tT, PD.tAnd, PD.tOr, PD.tNot, PD.mIf, PD.vAnd, PD.vOr, PD.vNot, PD.mCall, PD.sNx, PD.sSeq, PD.sDrop, PD.sIf, PD.ret, PD.sRet, PD.sRetN, PD.storeR, PD.store, PD.gN, PD.gNil, PD.gCons, PD.gT, PD.mut1, PD.setL, PD.gSub, PD.sSet, PD.sAsg, PD.stores, PD.noVar, PD.sPar, PD.items, PD.wSeq, PD.tYes, PD.sFor, PD.frz, PD.mTup, PD.mLst, PD.mChain, PD.mCallR, PD.once, PD.pass, PD.pass1, PD.back, PD.back1, PD.inS, PD.outS, PD.okArg, PD.outs, PD.fnD, PD.noEx, Md.mut, Md.ow, PD.eqD, PD.neD, PD.eqB, PD.eqS, PD.isD, PD.isntD, PD.isNonD, PD.addD, PD.subD, PD.modD, PD.fdivD, PD.negD, PD.keyD, PD.dgetD, PD.lenD, PD.mAdd, PD.ownL, od, e3]]
      exact f2) ⟨none, none, none, none, rfl⟩
  refine ⟨a1, b1, c1, ?_⟩
  have hb : B__law_right ([(⟨.own, pl a b c⟩ : Sl), ⟨.dat, mD A B C⟩].map inS ++ List.replicate 6 none) = .ok (.rt (.dat (.bl true))) (rE A B C a1 b1 c1 ss ts k cu du to) := by
    have k1 : okR (ss.length : Int) = true := by unfold okR; have := ok.nA; simp [PD.mK, PD.mVar, PD.m1, PD.m2, PD.mFz, PD.aNil, PD.aCons, PD.looks, PD.look, PD.dats, PD.mB, PD.truth, PD.tB, PD.tT, PD.tAnd, PD.tOr, PD.tNot, PD.mIf, PD.vAnd, PD.vOr, PD.vNot, PD.mCall, PD.sNx, PD.sSeq, PD.sDrop, PD.sIf, PD.ret, PD.sRet, PD.sRetN, PD.storeR, PD.store, PD.gN, PD.gNil, PD.gCons, PD.gT, PD.mut1, PD.setL, PD.gSub, PD.sSet, PD.sAsg, PD.stores, PD.noVar, PD.sPar, PD.items, PD.wSeq, PD.tYes, PD.sFor, PD.frz, PD.mTup, PD.mLst, PD.mChain, PD.mCallR, PD.once, PD.pass, PD.pass1, PD.back, PD.back1, PD.inS, PD.outS, PD.okArg, PD.outs, PD.fnD, PD.noEx, Md.mut, Md.ow, PD.eqD, PD.neD, PD.eqB, PD.eqS, PD.isD, PD.isntD, PD.isNonD, PD.addD, PD.subD, PD.modD, PD.fdivD, PD.negD, PD.keyD, PD.dgetD, PD.lenD, PD.mAdd, PD.ownL]; omega
    unfold B__law_right
    rw [seq_nx (Γ' := [some ⟨.par, pl a1 b1 c1⟩, some ⟨.dat, mD A B C⟩, some ⟨.dat, bdD ss ts⟩, none, none, none, none, none]) (by simp [PD.mK, PD.mVar, PD.m1, PD.m2, PD.mFz, PD.aNil, PD.aCons, PD.looks, PD.look, PD.dats, PD.mB, PD.truth, PD.tB, PD.tT, PD.tAnd, PD.tOr, PD.tNot, PD.mIf, PD.vAnd, PD.vOr, PD.vNot, PD.mCall, PD.sNx, PD.sSeq, PD.sDrop, PD.sIf, PD.ret, PD.sRet, PD.sRetN, PD.storeR, PD.store, PD.gN, PD.gNil, PD.gCons, PD.gT, PD.mut1, PD.setL, PD.gSub, PD.sSet, PD.sAsg, PD.stores, PD.noVar, PD.sPar, PD.items, PD.wSeq, PD.tYes, PD.sFor, PD.frz, PD.mTup, PD.mLst, PD.mChain, PD.mCallR, PD.once, PD.pass, PD.pass1, PD.back, PD.back1, PD.inS, PD.outS, PD.okArg, PD.outs, PD.fnD, PD.noEx, Md.mut, Md.ow, PD.eqD, PD.neD, PD.eqB, PD.eqS, PD.isD, PD.isntD, PD.isNonD, PD.addD, PD.subD, PD.modD, PD.fdivD, PD.negD, PD.keyD, PD.dgetD, PD.lenD, PD.mAdd, PD.ownL, e1])]
    rw [seq_nx (Γ' := rE A B C a1 b1 c1 ss ts none none none none) (by simp [PD.mK, PD.mVar, PD.m1, PD.m2, PD.mFz, PD.aNil, PD.aCons, PD.looks, PD.look, PD.dats, PD.mB, PD.truth, PD.tB, PD.tT, PD.tAnd, PD.tOr, PD.tNot, PD.mIf, PD.vAnd, PD.vOr, PD.vNot, PD.mCall, PD.sNx, PD.sSeq, PD.sDrop, PD.sIf, PD.ret, PD.sRet, PD.sRetN, PD.storeR, PD.store, PD.gN, PD.gNil, PD.gCons, PD.gT, PD.mut1, PD.setL, PD.gSub, PD.sSet, PD.sAsg, PD.stores, PD.noVar, PD.sPar, PD.items, PD.wSeq, PD.tYes, PD.sFor, PD.frz, PD.mTup, PD.mLst, PD.mChain, PD.mCallR, PD.once, PD.pass, PD.pass1, PD.back, PD.back1, PD.inS, PD.outS, PD.okArg, PD.outs, PD.fnD, PD.noEx, Md.mut, Md.ow, PD.eqD, PD.neD, PD.eqB, PD.eqS, PD.isD, PD.isntD, PD.isNonD, PD.addD, PD.subD, PD.modD, PD.fdivD, PD.negD, PD.keyD, PD.dgetD, PD.lenD, PD.mAdd, PD.ownL, e2, od])]
    rw [seq_nx (Γ' := _) (by
      show PD.sFor _ _ rO _ = _
      unfold PD.sFor
      rw [show wRng1 (aCons (mB lenD (aCons (m2 dgetD (mVar 2) (mK (.str "switches"))) aNil)) aNil) (rE A B C a1 b1 c1 ss ts none none none none) = .ok (rngD 0 ss.length) (rE A B C a1 b1 c1 ss ts none none none none) by
        simp [PD.mK, PD.mVar, PD.m1, PD.m2, PD.mFz, PD.aNil, PD.aCons, PD.looks, PD.look, PD.dats, PD.mB, PD.truth, PD.tB, PD.tT, PD.tAnd, PD.tOr, PD.tNot, PD.mIf, PD.vAnd, PD.vOr, PD.vNot, PD.mCall, PD.sNx, PD.sSeq, PD.sDrop, PD.sIf, PD.ret, PD.sRet, PD.sRetN, PD.storeR, PD.store, PD.gN, PD.gNil, PD.gCons, PD.gT, PD.mut1, PD.setL, PD.gSub, PD.sSet, PD.sAsg, PD.stores, PD.noVar, PD.sPar, PD.items, PD.wSeq, PD.tYes, PD.sFor, PD.frz, PD.mTup, PD.mLst, PD.mChain, PD.mCallR, PD.once, PD.pass, PD.pass1, PD.back, PD.back1, PD.inS, PD.outS, PD.okArg, PD.outs, PD.fnD, PD.noEx, Md.mut, Md.ow, PD.eqD, PD.neD, PD.eqB, PD.eqS, PD.isD, PD.isntD, PD.isNonD, PD.addD, PD.subD, PD.modD, PD.fdivD, PD.negD, PD.keyD, PD.lenD, PD.mAdd, PD.ownL, wRng1, get_sw, k1, od]]
      exact f1)]
    simp [PD.mK, PD.mVar, PD.m1, PD.m2, PD.mFz, PD.aNil, PD.aCons, PD.looks, PD.look, PD.dats, PD.mB, PD.truth, PD.tB, PD.tT, PD.tAnd, PD.tOr, PD.tNot, PD.mIf, PD.vAnd, PD.vOr, PD.vNot, PD.mCall, PD.sNx, PD.sSeq, PD.sDrop, PD.sIf, PD.ret, PD.sRet, PD.sRetN, PD.storeR, PD.store, PD.gN, PD.gNil, PD.gCons, PD.gT, PD.mut1, PD.setL, PD.gSub, PD.sSet, PD.sAsg, PD.stores, PD.noVar, PD.sPar, PD.items, PD.wSeq, PD.tYes, PD.sFor, PD.frz, PD.mTup, PD.mLst, PD.mChain, PD.mCallR, PD.once, PD.pass, PD.pass1, PD.back, PD.back1, PD.inS, PD.outS, PD.okArg, PD.outs, PD.fnD, PD.noEx, Md.mut, Md.ow, PD.eqD, PD.neD, PD.eqB, PD.eqS, PD.isD, PD.isntD, PD.isNonD, PD.addD, PD.subD, PD.modD, PD.fdivD, PD.negD, PD.keyD, PD.dgetD, PD.lenD, PD.mAdd, PD.ownL]
  exact of_fn (np := 2) (n := 8) (b := B__law_right) (ss := [(⟨.own, pl a b c⟩ : Sl), ⟨.dat, mD A B C⟩]) rfl rfl hb
noncomputable def lI : M Fl := PD.sIf (PD.tNot (tT (mCall F__law_right [] (aCons (mVar 2) (aCons (mVar 3) aNil))))) (PD.sRet (mK (.bl false))) sNx
noncomputable def lO : M Fl := (sSeq (PD.sSet 2 (mCall F__law_pool [] (aCons (mVar 0) (aCons (mVar 1) aNil))))
  (PD.sFor (wSeq (mLst (aCons (mFz (mLst (aCons (mK (.int 7)) (aCons (mK (.int 9)) (aCons (mK (.int 3)) aNil))))) (aCons (mFz (mLst (aCons (mK (.int 4)) (aCons (mK (.int 5)) (aCons (mK (.int 2)) aNil))))) (aCons (mFz (mLst (aCons (mK (.int 3)) (aCons (mK (.int 20)) (aCons (mK (.int 2)) aNil))))) (aCons (mFz (mLst (aCons (mK (.int 2)) (aCons (mK (.int 4)) (aCons (mK (.int 1)) aNil))))) (aCons (mFz (mLst (aCons (mK (.int 5)) (aCons (mK (.int 12)) (aCons (mK (.int 0)) aNil))))) aNil))))))) (gN 3) lI))
def mosts : List D := [mD 7 9 3, mD 4 5 2, mD 3 20 2, mD 2 4 1, mD 5 12 0]
theorem lI_ok (sc k : D) (a b c : Int) (m : D) (hm : m ∈ mosts) : ∃ a' b' c', lI [some ⟨.dat, sc⟩, some ⟨.dat, k⟩, some ⟨.own, pl a b c⟩, some ⟨.dat, m⟩] = .ok .nx [some ⟨.dat, sc⟩, some ⟨.dat, k⟩, some ⟨.own, pl a' b' c'⟩, some ⟨.dat, m⟩] := by
  have h : ∃ a' b' c', F__law_right [⟨.own, pl a b c⟩, ⟨.dat, m⟩] = .ok (.dat (.bl true)) [some ⟨.own, pl a' b' c'⟩, none] := by
    simp [PD.mK, PD.mVar, PD.m1, PD.m2, PD.mFz, PD.aNil, PD.aCons, PD.looks, PD.look, PD.dats, PD.mB, PD.truth, PD.tB, PD.tT, PD.tAnd, PD.tOr, PD.tNot, PD.mIf, PD.vAnd, PD.vOr, PD.vNot, PD.mCall, PD.sNx, PD.sSeq, PD.sDrop, PD.sIf, PD.ret, PD.sRet, PD.sRetN, PD.storeR, PD.store, PD.gN, PD.gNil, PD.gCons, PD.gT, PD.mut1, PD.setL, PD.gSub, PD.sSet, PD.sAsg, PD.stores, PD.noVar, PD.sPar, PD.items, PD.wSeq, PD.tYes, PD.sFor, PD.frz, PD.mTup, PD.mLst, PD.mChain, PD.mCallR, PD.once, PD.pass, PD.pass1, PD.back, PD.back1, PD.inS, PD.outS, PD.okArg, PD.outs, PD.fnD, PD.noEx, Md.mut, Md.ow, PD.eqD, PD.neD, PD.eqB, PD.eqS, PD.isD, PD.isntD, PD.isNonD, PD.addD, PD.subD, PD.modD, PD.fdivD, PD.negD, PD.keyD, PD.dgetD, PD.lenD, PD.mAdd, PD.ownL, mosts] at hm
    rcases hm with rfl | rfl | rfl | rfl | rfl <;> exact right_ok (by omega) (by omega) (by omega) (by omega) (by omega) (by omega) (by omega) a b c
  obtain ⟨a', b', c', e⟩ := h
  exact ⟨a', b', c', by simp [PD.mK, PD.mVar, PD.m1, PD.m2, PD.mFz, PD.aNil, PD.aCons, PD.looks, PD.look, PD.dats, PD.mB, PD.truth, PD.tB, PD.tT, PD.tAnd, PD.tOr, PD.tNot, PD.mIf, PD.vAnd, PD.vOr, PD.vNot, PD.mCall, PD.sNx, PD.sSeq, PD.sDrop, PD.sIf, PD.ret, PD.sRet, PD.sRetN, PD.storeR, PD.store, PD.gN, PD.gNil, PD.gCons, PD.gT, PD.mut1, PD.setL, PD.gSub, PD.sSet, PD.sAsg, PD.stores, PD.noVar, PD.sPar, PD.items, PD.wSeq, PD.tYes, PD.sFor, PD.frz, PD.mTup, PD.mLst, PD.mChain, PD.mCallR, PD.once, PD.pass, PD.pass1, PD.back, PD.back1, PD.inS, PD.outS, PD.okArg, PD.outs, PD.fnD, PD.noEx, Md.mut, Md.ow, PD.eqD, PD.neD, PD.eqB, PD.eqS, PD.isD, PD.isntD, PD.isNonD, PD.addD, PD.subD, PD.modD, PD.fdivD, PD.negD, PD.keyD, PD.dgetD, PD.lenD, PD.mAdd, PD.ownL, lI, e]⟩
def pw (x : Option (Int × Int × Int)) : Option Sl := x.map fun p => ⟨.own, pl p.1 p.2.1 p.2.2⟩
theorem lO_ok (ns : List Int) (k : Nat) (po : Option (Int × Int × Int)) (mo : Option D) : ∃ po' mo', lO [some ⟨.dat, .lst (ns.map .int)⟩, some ⟨.dat, .int (k : Int)⟩, pw po, od mo] = .ok .nx [some ⟨.dat, .lst (ns.map .int)⟩, some ⟨.dat, .int (k : Int)⟩, pw po', od mo'] := by
  obtain ⟨a, b, c, os, e1⟩ := pool_ok ns k
  obtain ⟨Γ', f1, a', b', c', mo', rfl⟩ := forD_inv (g := gN 3) (b := lI) (fun _ Γ => ∃ a b c mo, Γ = [some ⟨.dat, .lst (ns.map .int)⟩, some ⟨.dat, .int (k : Int)⟩, some ⟨.own, pl a b c⟩, od mo]) mosts 0 [some ⟨.dat, .lst (ns.map .int)⟩, some ⟨.dat, .int (k : Int)⟩, some ⟨.own, pl a b c⟩, od mo] (fun i d Γ hi ⟨a, b, c, mo, e⟩ => by
    obtain ⟨a', b', c', e'⟩ := lI_ok (.lst (ns.map .int)) (.int (k : Int)) a b c d (List.mem_of_getElem? hi)
    refine ⟨_, _, ?_, e', a', b', c', some d, rfl⟩
    subst e
    cases mo <;> simp [PD.mK, PD.mVar, PD.m1, PD.m2, PD.mFz, PD.aNil, PD.aCons, PD.looks, PD.look, PD.dats, PD.mB, PD.truth, PD.tB, PD.tT, PD.tAnd, PD.tOr, PD.tNot, PD.mIf, PD.vAnd, PD.vOr, PD.vNot, PD.mCall, PD.sNx, PD.sSeq, PD.sDrop, PD.sIf, PD.ret, PD.sRet, PD.sRetN, PD.storeR, PD.store, PD.gN, PD.gNil, PD.gCons, PD.gT, PD.mut1, PD.setL, PD.gSub, PD.sSet, PD.sAsg, PD.stores, PD.noVar, PD.sPar, PD.items, PD.wSeq, PD.tYes, PD.sFor, PD.frz, PD.mTup, PD.mLst, PD.mChain, PD.mCallR, PD.once, PD.pass, PD.pass1, PD.back, PD.back1, PD.inS, PD.outS, PD.okArg, PD.outs, PD.fnD, PD.noEx, Md.mut, Md.ow, PD.eqD, PD.neD, PD.eqB, PD.eqS, PD.isD, PD.isntD, PD.isNonD, PD.addD, PD.subD, PD.modD, PD.fdivD, PD.negD, PD.keyD, PD.dgetD, PD.lenD, PD.mAdd, PD.ownL, od]) ⟨a, b, c, mo, rfl⟩
  refine ⟨some (a', b', c'), mo', ?_⟩
  have h3 : 3 ≤ LIM := by unfold LIM; omega
  have h5 : 5 ≤ LIM := by unfold LIM; omega
  have hbk : ∀ Γ : EnD, back Γ [.dat (.lst (ns.map .int)), .dat (.int (k : Int))] os = Γ := fun Γ => back_dat Γ _ _ os
  unfold lO
  rw [seq_nx (Γ' := [some ⟨.dat, .lst (ns.map .int)⟩, some ⟨.dat, .int (k : Int)⟩, some ⟨.own, pl a b c⟩, od mo]) (by
    cases po <;> simp [PD.mK, PD.mVar, PD.m1, PD.m2, PD.mFz, PD.aNil, PD.aCons, PD.looks, PD.look, PD.dats, PD.mB, PD.truth, PD.tB, PD.tT, PD.tAnd, PD.tOr, PD.tNot, PD.mIf, PD.vAnd, PD.vOr, PD.vNot, PD.mCall, PD.sNx, PD.sSeq, PD.sDrop, PD.sIf, PD.ret, PD.sRet, PD.sRetN, PD.storeR, PD.store, PD.gN, PD.gNil, PD.gCons, PD.gT, PD.mut1, PD.setL, PD.gSub, PD.sSet, PD.sAsg, PD.stores, PD.noVar, PD.sPar, PD.items, PD.wSeq, PD.tYes, PD.sFor, PD.frz, PD.mTup, PD.mLst, PD.mChain, PD.mCallR, PD.once, PD.pass, PD.pass1, PD.back, PD.back1, PD.inS, PD.outS, PD.okArg, PD.outs, PD.fnD, PD.noEx, Md.mut, Md.ow, PD.eqD, PD.neD, PD.eqB, PD.eqS, PD.isD, PD.isntD, PD.isNonD, PD.addD, PD.subD, PD.modD, PD.fdivD, PD.negD, PD.keyD, PD.dgetD, PD.lenD, PD.mAdd, PD.ownL, pw, e1, hbk])]
  unfold PD.sFor
  rw [show wSeq _ [some ⟨.dat, .lst (ns.map .int)⟩, some ⟨.dat, .int (k : Int)⟩, some ⟨.own, pl a b c⟩, od mo] = .ok mosts [some ⟨.dat, .lst (ns.map .int)⟩, some ⟨.dat, .int (k : Int)⟩, some ⟨.own, pl a b c⟩, od mo] by
    simp [PD.mK, PD.mVar, PD.m1, PD.m2, PD.mFz, PD.aNil, PD.aCons, PD.looks, PD.look, PD.dats, PD.mB, PD.truth, PD.tB, PD.tT, PD.tAnd, PD.tOr, PD.tNot, PD.mIf, PD.vAnd, PD.vOr, PD.vNot, PD.mCall, PD.sNx, PD.sSeq, PD.sDrop, PD.sIf, PD.ret, PD.sRet, PD.sRetN, PD.storeR, PD.store, PD.gN, PD.gNil, PD.gCons, PD.gT, PD.mut1, PD.setL, PD.gSub, PD.sSet, PD.sAsg, PD.stores, PD.noVar, PD.sPar, PD.items, PD.wSeq, PD.tYes, PD.sFor, PD.frz, PD.mTup, PD.mLst, PD.mChain, PD.mCallR, PD.once, PD.pass, PD.pass1, PD.back, PD.back1, PD.inS, PD.outS, PD.okArg, PD.outs, PD.fnD, PD.noEx, Md.mut, Md.ow, PD.eqD, PD.neD, PD.eqB, PD.eqS, PD.isD, PD.isntD, PD.isNonD, PD.addD, PD.subD, PD.modD, PD.fdivD, PD.negD, PD.keyD, PD.dgetD, PD.lenD, PD.mAdd, PD.ownL, h3, h5, mosts]]
  exact f1
theorem pure_law (ns : List Int) (hl : ns.length ≤ 63) : ∃ outs, F_law [⟨.dat, .lst (ns.map D.int)⟩] = .ok (.dat (.bl true)) outs := by
  obtain ⟨n, hn⟩ : ∃ n : Int, (if (2 : Int) < (if (3 : Int) < ns.length then 3 else (ns.length : Int)) then (if (3 : Int) < ns.length then 3 else (ns.length : Int)) else 2) = n := ⟨_, rfl⟩
  have hn3 : 0 ≤ n ∧ n ≤ 3 := by rw [← hn]; split <;> split <;> omega
  obtain ⟨Γ', f1, k, po, mo, rfl⟩ := forD_inv (g := gN 1) (b := lO) (fun _ Γ => ∃ k po mo, Γ = [some ⟨.dat, .lst (ns.map .int)⟩, od k, pw po, od mo]) (rngD 0 n.toNat) 0 [some ⟨.dat, .lst (ns.map .int)⟩, none, none, none] (fun i d Γ hi ⟨k, po, mo, e⟩ => by
    obtain ⟨rfl, _⟩ := rngD_get hi
    obtain ⟨po', mo', e'⟩ := lO_ok ns i po mo
    refine ⟨_, _, ?_, e', some (.int (i : Int)), po', mo', rfl⟩
    subst e
    cases k <;> simp [PD.mK, PD.mVar, PD.m1, PD.m2, PD.mFz, PD.aNil, PD.aCons, PD.looks, PD.look, PD.dats, PD.mB, PD.truth, PD.tB, PD.tT, PD.tAnd, PD.tOr, PD.tNot, PD.mIf, PD.vAnd, PD.vOr, PD.vNot, PD.mCall, PD.sNx, PD.sSeq, PD.sDrop, PD.sIf, PD.ret, PD.sRet, PD.sRetN, PD.storeR, PD.store, PD.gN, PD.gNil, PD.gCons, PD.gT, PD.mut1, PD.setL, PD.gSub, PD.sSet, PD.sAsg, PD.stores, PD.noVar, PD.sPar, PD.items, PD.wSeq, PD.tYes, PD.sFor, PD.frz, PD.mTup, PD.mLst, PD.mChain, PD.mCallR, PD.once, PD.pass, PD.pass1, PD.back, PD.back1, PD.inS, PD.outS, PD.okArg, PD.outs, PD.fnD, PD.noEx, Md.mut, Md.ow, PD.eqD, PD.neD, PD.eqB, PD.eqS, PD.isD, PD.isntD, PD.isNonD, PD.addD, PD.subD, PD.modD, PD.fdivD, PD.negD, PD.keyD, PD.dgetD, PD.lenD, PD.mAdd, PD.ownL, od]) ⟨none, none, none, rfl⟩
  refine ⟨_, of_fn (np := 1) (n := 4) (b := B_law) (ss := [(⟨.dat, .lst (ns.map .int)⟩ : Sl)]) rfl rfl (r := .dat (.bl true)) (Γ' := [some ⟨.dat, .lst (ns.map .int)⟩, od k, pw po, od mo]) ?_⟩
  unfold B_law
  rw [seq_nx (Γ' := _) (by
    show PD.sFor _ _ lO _ = _
    unfold PD.sFor
    have k1 : okR n = true := by unfold okR; simp [PD.mK, PD.mVar, PD.m1, PD.m2, PD.mFz, PD.aNil, PD.aCons, PD.looks, PD.look, PD.dats, PD.mB, PD.truth, PD.tB, PD.tT, PD.tAnd, PD.tOr, PD.tNot, PD.mIf, PD.vAnd, PD.vOr, PD.vNot, PD.mCall, PD.sNx, PD.sSeq, PD.sDrop, PD.sIf, PD.ret, PD.sRet, PD.sRetN, PD.storeR, PD.store, PD.gN, PD.gNil, PD.gCons, PD.gT, PD.mut1, PD.setL, PD.gSub, PD.sSet, PD.sAsg, PD.stores, PD.noVar, PD.sPar, PD.items, PD.wSeq, PD.tYes, PD.sFor, PD.frz, PD.mTup, PD.mLst, PD.mChain, PD.mCallR, PD.once, PD.pass, PD.pass1, PD.back, PD.back1, PD.inS, PD.outS, PD.okArg, PD.outs, PD.fnD, PD.noEx, Md.mut, Md.ow, PD.eqD, PD.neD, PD.eqB, PD.eqS, PD.isD, PD.isntD, PD.isNonD, PD.addD, PD.subD, PD.modD, PD.fdivD, PD.negD, PD.keyD, PD.dgetD, PD.lenD, PD.mAdd, PD.ownL]; omega
    rw [show wRng1 _ ([(⟨.dat, .lst (ns.map .int)⟩ : Sl)].map inS ++ List.replicate (4 - 1) none) = .ok (rngD 0 n.toNat) [some ⟨.dat, .lst (ns.map .int)⟩, none, none, none] by
      simp [PD.mK, PD.mVar, PD.m1, PD.m2, PD.mFz, PD.aNil, PD.aCons, PD.looks, PD.look, PD.dats, PD.mB, PD.truth, PD.tB, PD.tT, PD.tAnd, PD.tOr, PD.tNot, PD.mIf, PD.vAnd, PD.vOr, PD.vNot, PD.mCall, PD.sNx, PD.sSeq, PD.sDrop, PD.sIf, PD.ret, PD.sRet, PD.sRetN, PD.storeR, PD.store, PD.gN, PD.gNil, PD.gCons, PD.gT, PD.mut1, PD.setL, PD.gSub, PD.sSet, PD.sAsg, PD.stores, PD.noVar, PD.sPar, PD.items, PD.wSeq, PD.tYes, PD.sFor, PD.frz, PD.mTup, PD.mLst, PD.mChain, PD.mCallR, PD.once, PD.pass, PD.pass1, PD.back, PD.back1, PD.inS, PD.outS, PD.okArg, PD.outs, PD.fnD, PD.noEx, Md.mut, Md.ow, PD.eqD, PD.neD, PD.eqB, PD.eqS, PD.isD, PD.isntD, PD.isNonD, PD.addD, PD.subD, PD.modD, PD.fdivD, PD.negD, PD.keyD, PD.dgetD, PD.lenD, PD.mAdd, PD.ownL, wRng1, maxD, minD, hn, k1]]
    exact f1)]
  simp [PD.mK, PD.mVar, PD.m1, PD.m2, PD.mFz, PD.aNil, PD.aCons, PD.looks, PD.look, PD.dats, PD.mB, PD.truth, PD.tB, PD.tT, PD.tAnd, PD.tOr, PD.tNot, PD.mIf, PD.vAnd, PD.vOr, PD.vNot, PD.mCall, PD.sNx, PD.sSeq, PD.sDrop, PD.sIf, PD.ret, PD.sRet, PD.sRetN, PD.storeR, PD.store, PD.gN, PD.gNil, PD.gCons, PD.gT, PD.mut1, PD.setL, PD.gSub, PD.sSet, PD.sAsg, PD.stores, PD.noVar, PD.sPar, PD.items, PD.wSeq, PD.tYes, PD.sFor, PD.frz, PD.mTup, PD.mLst, PD.mChain, PD.mCallR, PD.once, PD.pass, PD.pass1, PD.back, PD.back1, PD.inS, PD.outS, PD.okArg, PD.outs, PD.fnD, PD.noEx, Md.mut, Md.ow, PD.eqD, PD.neD, PD.eqB, PD.eqS, PD.isD, PD.isntD, PD.isNonD, PD.addD, PD.subD, PD.modD, PD.fdivD, PD.negD, PD.keyD, PD.dgetD, PD.lenD, PD.mAdd, PD.ownL]
end Lk41

namespace Lk41
open PySem PySem.Spec L2 PD
theorem all_mk {l : PySem.W.OpenLaw} {q : Program} {w : World} {K : PySem.W.Frag} {h : Heap} {mg : Str → Option Value} {fa : Addr} (X : K.In h) (G : h.Ns mainGlobals mg) (hfa : mg "law" = some (.ref fa)) (TA : TabAll q mg K h)
    {f0 : Addr} {oc0 kV0 dc0 pm0 ct0 : Value} {od0 an0 : Option Addr} {sl0 : Array (Option Value)} {cd0 : Value} {f1 : Addr} {oc1 kV1 dc1 pm1 ct1 : Value} {od1 an1 : Option Addr} {sl1 : Array (Option Value)} {cd1 : Value} {f2 : Addr} {oc2 kV2 dc2 pm2 ct2 : Value} {od2 an2 : Option Addr} {sl2 : Array (Option Value)} {cd2 : Value} {f3 : Addr} {oc3 kV3 dc3 pm3 ct3 : Value} {od3 an3 : Option Addr} {sl3 : Array (Option Value)} {cd3 : Value} {f4 : Addr} {oc4 kV4 dc4 pm4 ct4 : Value} {od4 an4 : Option Addr} {sl4 : Array (Option Value)} {cd4 : Value} {f5 : Addr} {oc5 kV5 dc5 pm5 ct5 : Value} {od5 an5 : Option Addr} {sl5 : Array (Option Value)} {cd5 : Value} {f6 : Addr} {oc6 kV6 dc6 pm6 ct6 : Value} {od6 an6 : Option Addr} {sl6 : Array (Option Value)} {cd6 : Value} {f7 : Addr} {oc7 kV7 dc7 pm7 ct7 : Value} {od7 an7 : Option Addr} {sl7 : Array (Option Value)} {cd7 : Value} {f8 : Addr} {oc8 kV8 dc8 pm8 ct8 : Value} {od8 an8 : Option Addr} {sl8 : Array (Option Value)} {cd8 : Value} {f9 : Addr} {oc9 kV9 dc9 pm9 ct9 : Value} {od9 an9 : Option Addr} {sl9 : Array (Option Value)} {cd9 : Value} {f10 : Addr} {oc10 kV10 dc10 pm10 ct10 : Value} {od10 an10 : Option Addr} {sl10 : Array (Option Value)} {cd10 : Value} {f11 : Addr} {oc11 kV11 dc11 pm11 ct11 : Value} {od11 an11 : Option Addr} {sl11 : Array (Option Value)} {cd11 : Value} {f12 : Addr} {oc12 kV12 dc12 pm12 ct12 : Value} {od12 an12 : Option Addr} {sl12 : Array (Option Value)} {cd12 : Value} {f13 : Addr} {oc13 kV13 dc13 pm13 ct13 : Value} {od13 an13 : Option Addr} {sl13 : Array (Option Value)} {cc13 PP13 : Addr} {eC13 : Value} {dC13 : Option Addr} {vC13 : Array Value} {sC13 : Array (Option Value)} {f14 : Addr} {oc14 kV14 dc14 pm14 ct14 : Value} {od14 an14 : Option Addr} {sl14 : Array (Option Value)} {cd14 : Value} {f15 : Addr} {oc15 kV15 dc15 pm15 ct15 : Value} {od15 an15 : Option Addr} {sl15 : Array (Option Value)} {cd15 : Value} {f16 : Addr} {oc16 kV16 dc16 pm16 ct16 : Value} {od16 an16 : Option Addr} {sl16 : Array (Option Value)} {cc16 PP16 : Addr} {eC16 : Value} {dC16 : Option Addr} {vC16 : Array Value} {sC16 : Array (Option Value)} {f17 : Addr} {oc17 kV17 dc17 pm17 ct17 : Value} {od17 an17 : Option Addr} {sl17 : Array (Option Value)} {cd17 : Value} {f18 : Addr} {oc18 kV18 dc18 pm18 ct18 : Value} {od18 an18 : Option Addr} {sl18 : Array (Option Value)} {cd18 : Value} {f19 : Addr} {oc19 kV19 dc19 pm19 ct19 : Value} {od19 an19 : Option Addr} {sl19 : Array (Option Value)} {cd19 : Value} {f20 : Addr} {oc20 kV20 dc20 pm20 ct20 : Value} {od20 an20 : Option Addr} {sl20 : Array (Option Value)} {cd20 : Value} {f21 : Addr} {oc21 kV21 dc21 pm21 ct21 : Value} {od21 an21 : Option Addr} {sl21 : Array (Option Value)} {cd21 : Value} {f22 : Addr} {oc22 kV22 dc22 pm22 ct22 : Value} {od22 an22 : Option Addr} {sl22 : Array (Option Value)} {cd22 : Value} {f23 : Addr} {oc23 kV23 dc23 pm23 ct23 : Value} {od23 an23 : Option Addr} {sl23 : Array (Option Value)} {cd23 : Value} {f24 : Addr} {oc24 kV24 dc24 pm24 ct24 : Value} {od24 an24 : Option Addr} {sl24 : Array (Option Value)} {cd24 : Value} {f25 : Addr} {oc25 kV25 dc25 pm25 ct25 : Value} {od25 an25 : Option Addr} {sl25 : Array (Option Value)} {cd25 : Value} {f26 : Addr} {oc26 kV26 dc26 pm26 ct26 : Value} {od26 an26 : Option Addr} {sl26 : Array (Option Value)} {cd26 : Value} {f27 : Addr} {oc27 kV27 dc27 pm27 ct27 : Value} {od27 an27 : Option Addr} {sl27 : Array (Option Value)} {cd27 : Value} {f28 : Addr} {oc28 kV28 dc28 pm28 ct28 : Value} {od28 an28 : Option Addr} {sl28 : Array (Option Value)} {cd28 : Value} {f29 : Addr} {oc29 kV29 dc29 pm29 ct29 : Value} {od29 an29 : Option Addr} {sl29 : Array (Option Value)} {cd29 : Value} {f30 : Addr} {oc30 kV30 dc30 pm30 ct30 : Value} {od30 an30 : Option Addr} {sl30 : Array (Option Value)} {cd30 : Value} {f31 : Addr} {oc31 kV31 dc31 pm31 ct31 : Value} {od31 an31 : Option Addr} {sl31 : Array (Option Value)} {cd31 : Value} {f32 : Addr} {oc32 kV32 dc32 pm32 ct32 : Value} {od32 an32 : Option Addr} {sl32 : Array (Option Value)} {cd32 : Value} {f33 : Addr} {oc33 kV33 dc33 pm33 ct33 : Value} {od33 an33 : Option Addr} {sl33 : Array (Option Value)} {cd33 : Value} {f34 : Addr} {oc34 kV34 dc34 pm34 ct34 : Value} {od34 an34 : Option Addr} {sl34 : Array (Option Value)} {cd34 : Value} {f35 : Addr} {oc35 kV35 dc35 pm35 ct35 : Value} {od35 an35 : Option Addr} {sl35 : Array (Option Value)} {cd35 : Value} {f36 : Addr} {oc36 kV36 dc36 pm36 ct36 : Value} {od36 an36 : Option Addr} {sl36 : Array (Option Value)} {cd36 : Value} {f37 : Addr} {oc37 kV37 dc37 pm37 ct37 : Value} {od37 an37 : Option Addr} {sl37 : Array (Option Value)} {cd37 : Value} {t_MOST_AMPS : Tok} {t_MOST_CURRENT : Tok} {t_MOST_LONG : Tok} {t_MOST_STEPS : Tok} {t_MOST_SWITCHES : Tok} {t_MOST_THINGS : Tok} {t_MOST_TICKS : Tok} {t_STOP : Tok} {C : Addr} {fI tI eI : Addr} {ocI kVI dcI pmI cdI ctI : Value} {odI anI : Option Addr} {slI : Array (Option Value)} {oI : Obj} {nI : Nat}
    (a0 : PySem.W.nsIn K mainGlobals "_law_pool" = some (some (.ref f0)))
    (l0 : K.lookup f0 = some ⟨oc0, od0, .func (PySem.W.fnOf "_law_pool" "_law_pool" (defArgs s__law_pool) (defBody s__law_pool) (defScope s__law_pool) .none kV0 dc0 pm0 an0 cd0 ct0), sl0⟩)
    (c0 : PySem.W.codeIn K cd0 "_law_pool" = true)
    (k0 : PySem.W.keepIn K (.ref f0) = true)
    (a1 : PySem.W.nsIn K mainGlobals "_law_take" = some (some (.ref f1)))
    (l1 : K.lookup f1 = some ⟨oc1, od1, .func (PySem.W.fnOf "_law_take" "_law_take" (defArgs s__law_take) (defBody s__law_take) (defScope s__law_take) .none kV1 dc1 pm1 an1 cd1 ct1), sl1⟩)
    (c1 : PySem.W.codeIn K cd1 "_law_take" = true)
    (k1 : PySem.W.keepIn K (.ref f1) = true)
    (a2 : PySem.W.nsIn K mainGlobals "_law_of" = some (some (.ref f2)))
    (l2 : K.lookup f2 = some ⟨oc2, od2, .func (PySem.W.fnOf "_law_of" "_law_of" (defArgs s__law_of) (defBody s__law_of) (defScope s__law_of) .none kV2 dc2 pm2 an2 cd2 ct2), sl2⟩)
    (c2 : PySem.W.codeIn K cd2 "_law_of" = true)
    (k2 : PySem.W.keepIn K (.ref f2) = true)
    (a3 : PySem.W.nsIn K mainGlobals "_law_board" = some (some (.ref f3)))
    (l3 : K.lookup f3 = some ⟨oc3, od3, .func (PySem.W.fnOf "_law_board" "_law_board" (defArgs s__law_board) (defBody s__law_board) (defScope s__law_board) .none kV3 dc3 pm3 an3 cd3 ct3), sl3⟩)
    (c3 : PySem.W.codeIn K cd3 "_law_board" = true)
    (k3 : PySem.W.keepIn K (.ref f3) = true)
    (a4 : PySem.W.nsIn K mainGlobals "is_row" = some (some (.ref f4)))
    (l4 : K.lookup f4 = some ⟨oc4, od4, .func (PySem.W.fnOf "is_row" "is_row" (defArgs s_is_row) (defBody s_is_row) (defScope s_is_row) .none kV4 dc4 pm4 an4 cd4 ct4), sl4⟩)
    (c4 : PySem.W.codeIn K cd4 "is_row" = true)
    (k4 : PySem.W.keepIn K (.ref f4) = true)
    (a5 : PySem.W.nsIn K mainGlobals "first_wrong" = some (some (.ref f5)))
    (l5 : K.lookup f5 = some ⟨oc5, od5, .func (PySem.W.fnOf "first_wrong" "first_wrong" (defArgs s_first_wrong) (defBody s_first_wrong) (defScope s_first_wrong) .none kV5 dc5 pm5 an5 cd5 ct5), sl5⟩)
    (c5 : PySem.W.codeIn K cd5 "first_wrong" = true)
    (k5 : PySem.W.keepIn K (.ref f5) = true)
    (a6 : PySem.W.nsIn K mainGlobals "is_tuple_of" = some (some (.ref f6)))
    (l6 : K.lookup f6 = some ⟨oc6, od6, .func (PySem.W.fnOf "is_tuple_of" "is_tuple_of" (defArgs s_is_tuple_of) (defBody s_is_tuple_of) (defScope s_is_tuple_of) .none kV6 dc6 pm6 an6 cd6 ct6), sl6⟩)
    (c6 : PySem.W.codeIn K cd6 "is_tuple_of" = true)
    (k6 : PySem.W.keepIn K (.ref f6) = true)
    (a7 : PySem.W.nsIn K mainGlobals "is_whole" = some (some (.ref f7)))
    (l7 : K.lookup f7 = some ⟨oc7, od7, .func (PySem.W.fnOf "is_whole" "is_whole" (defArgs s_is_whole) (defBody s_is_whole) (defScope s_is_whole) .none kV7 dc7 pm7 an7 cd7 ct7), sl7⟩)
    (c7 : PySem.W.codeIn K cd7 "is_whole" = true)
    (k7 : PySem.W.keepIn K (.ref f7) = true)
    (a8 : PySem.W.nsIn K mainGlobals "is_between" = some (some (.ref f8)))
    (l8 : K.lookup f8 = some ⟨oc8, od8, .func (PySem.W.fnOf "is_between" "is_between" (defArgs s_is_between) (defBody s_is_between) (defScope s_is_between) .none kV8 dc8 pm8 an8 cd8 ct8), sl8⟩)
    (c8 : PySem.W.codeIn K cd8 "is_between" = true)
    (k8 : PySem.W.keepIn K (.ref f8) = true)
    (a9 : PySem.W.nsIn K mainGlobals "is_step" = some (some (.ref f9)))
    (l9 : K.lookup f9 = some ⟨oc9, od9, .func (PySem.W.fnOf "is_step" "is_step" (defArgs s_is_step) (defBody s_is_step) (defScope s_is_step) .none kV9 dc9 pm9 an9 cd9 ct9), sl9⟩)
    (c9 : PySem.W.codeIn K cd9 "is_step" = true)
    (k9 : PySem.W.keepIn K (.ref f9) = true)
    (a10 : PySem.W.nsIn K mainGlobals "is_curve" = some (some (.ref f10)))
    (l10 : K.lookup f10 = some ⟨oc10, od10, .func (PySem.W.fnOf "is_curve" "is_curve" (defArgs s_is_curve) (defBody s_is_curve) (defScope s_is_curve) .none kV10 dc10 pm10 an10 cd10 ct10), sl10⟩)
    (c10 : PySem.W.codeIn K cd10 "is_curve" = true)
    (k10 : PySem.W.keepIn K (.ref f10) = true)
    (a11 : PySem.W.nsIn K mainGlobals "is_above" = some (some (.ref f11)))
    (l11 : K.lookup f11 = some ⟨oc11, od11, .func (PySem.W.fnOf "is_above" "is_above" (defArgs s_is_above) (defBody s_is_above) (defScope s_is_above) .none kV11 dc11 pm11 an11 cd11 ct11), sl11⟩)
    (c11 : PySem.W.codeIn K cd11 "is_above" = true)
    (k11 : PySem.W.keepIn K (.ref f11) = true)
    (a12 : PySem.W.nsIn K mainGlobals "is_switch_row" = some (some (.ref f12)))
    (l12 : K.lookup f12 = some ⟨oc12, od12, .func (PySem.W.fnOf "is_switch_row" "is_switch_row" (defArgs s_is_switch_row) (defBody s_is_switch_row) (defScope s_is_switch_row) .none kV12 dc12 pm12 an12 cd12 ct12), sl12⟩)
    (c12 : PySem.W.codeIn K cd12 "is_switch_row" = true)
    (k12 : PySem.W.keepIn K (.ref f12) = true)
    (a13 : PySem.W.nsIn K mainGlobals "wrong_switch" = some (some (.ref f13)))
    (l13 : K.lookup f13 = some ⟨oc13, od13, .func (PySem.W.fnOf "wrong_switch" "wrong_switch" (defArgs s_wrong_switch) (defBody s_wrong_switch) (defScope s_wrong_switch) .none kV13 dc13 pm13 an13 (.ref cc13) ct13), sl13⟩)
    (c13 : PySem.W.codeIn K (.ref cc13) "wrong_switch" = true)
    (k13 : PySem.W.keepIn K (.ref f13) = true)
    (x13 : K.lookup cc13 = some ⟨eC13, dC13, .fields vC13, sC13⟩)
    (y13 : vC13[11]? = some (.ref PP13))
    (z13 : K.lookup PP13 = none)
    (r13 : ((PyProof.Rows.recsOf q).any fun e => e.name == ("wrong_switch" : Str)) = true)
    (a14 : PySem.W.nsIn K mainGlobals "check_switches" = some (some (.ref f14)))
    (l14 : K.lookup f14 = some ⟨oc14, od14, .func (PySem.W.fnOf "check_switches" "check_switches" (defArgs s_check_switches) (defBody s_check_switches) (defScope s_check_switches) .none kV14 dc14 pm14 an14 cd14 ct14), sl14⟩)
    (c14 : PySem.W.codeIn K cd14 "check_switches" = true)
    (k14 : PySem.W.keepIn K (.ref f14) = true)
    (a15 : PySem.W.nsIn K mainGlobals "is_thing_row" = some (some (.ref f15)))
    (l15 : K.lookup f15 = some ⟨oc15, od15, .func (PySem.W.fnOf "is_thing_row" "is_thing_row" (defArgs s_is_thing_row) (defBody s_is_thing_row) (defScope s_is_thing_row) .none kV15 dc15 pm15 an15 cd15 ct15), sl15⟩)
    (c15 : PySem.W.codeIn K cd15 "is_thing_row" = true)
    (k15 : PySem.W.keepIn K (.ref f15) = true)
    (a16 : PySem.W.nsIn K mainGlobals "wrong_thing" = some (some (.ref f16)))
    (l16 : K.lookup f16 = some ⟨oc16, od16, .func (PySem.W.fnOf "wrong_thing" "wrong_thing" (defArgs s_wrong_thing) (defBody s_wrong_thing) (defScope s_wrong_thing) .none kV16 dc16 pm16 an16 (.ref cc16) ct16), sl16⟩)
    (c16 : PySem.W.codeIn K (.ref cc16) "wrong_thing" = true)
    (k16 : PySem.W.keepIn K (.ref f16) = true)
    (x16 : K.lookup cc16 = some ⟨eC16, dC16, .fields vC16, sC16⟩)
    (y16 : vC16[11]? = some (.ref PP16))
    (z16 : K.lookup PP16 = none)
    (r16 : ((PyProof.Rows.recsOf q).any fun e => e.name == ("wrong_thing" : Str)) = true)
    (a17 : PySem.W.nsIn K mainGlobals "check_things" = some (some (.ref f17)))
    (l17 : K.lookup f17 = some ⟨oc17, od17, .func (PySem.W.fnOf "check_things" "check_things" (defArgs s_check_things) (defBody s_check_things) (defScope s_check_things) .none kV17 dc17 pm17 an17 cd17 ct17), sl17⟩)
    (c17 : PySem.W.codeIn K cd17 "check_things" = true)
    (k17 : PySem.W.keepIn K (.ref f17) = true)
    (a18 : PySem.W.nsIn K mainGlobals "_law_made" = some (some (.ref f18)))
    (l18 : K.lookup f18 = some ⟨oc18, od18, .func (PySem.W.fnOf "_law_made" "_law_made" (defArgs s__law_made) (defBody s__law_made) (defScope s__law_made) .none kV18 dc18 pm18 an18 cd18 ct18), sl18⟩)
    (c18 : PySem.W.codeIn K cd18 "_law_made" = true)
    (k18 : PySem.W.keepIn K (.ref f18) = true)
    (a19 : PySem.W.nsIn K mainGlobals "_law_currents" = some (some (.ref f19)))
    (l19 : K.lookup f19 = some ⟨oc19, od19, .func (PySem.W.fnOf "_law_currents" "_law_currents" (defArgs s__law_currents) (defBody s__law_currents) (defScope s__law_currents) .none kV19 dc19 pm19 an19 cd19 ct19), sl19⟩)
    (c19 : PySem.W.codeIn K cd19 "_law_currents" = true)
    (k19 : PySem.W.keepIn K (.ref f19) = true)
    (a20 : PySem.W.nsIn K mainGlobals "_law_time" = some (some (.ref f20)))
    (l20 : K.lookup f20 = some ⟨oc20, od20, .func (PySem.W.fnOf "_law_time" "_law_time" (defArgs s__law_time) (defBody s__law_time) (defScope s__law_time) .none kV20 dc20 pm20 an20 cd20 ct20), sl20⟩)
    (c20 : PySem.W.codeIn K cd20 "_law_time" = true)
    (k20 : PySem.W.keepIn K (.ref f20) = true)
    (a21 : PySem.W.nsIn K mainGlobals "_law_path" = some (some (.ref f21)))
    (l21 : K.lookup f21 = some ⟨oc21, od21, .func (PySem.W.fnOf "_law_path" "_law_path" (defArgs s__law_path) (defBody s__law_path) (defScope s__law_path) .none kV21 dc21 pm21 an21 cd21 ct21), sl21⟩)
    (c21 : PySem.W.codeIn K cd21 "_law_path" = true)
    (k21 : PySem.W.keepIn K (.ref f21) = true)
    (a22 : PySem.W.nsIn K mainGlobals "_law_broken" = some (some (.ref f22)))
    (l22 : K.lookup f22 = some ⟨oc22, od22, .func (PySem.W.fnOf "_law_broken" "_law_broken" (defArgs s__law_broken) (defBody s__law_broken) (defScope s__law_broken) .none kV22 dc22 pm22 an22 cd22 ct22), sl22⟩)
    (c22 : PySem.W.codeIn K cd22 "_law_broken" = true)
    (k22 : PySem.W.keepIn K (.ref f22) = true)
    (a23 : PySem.W.nsIn K mainGlobals "check_board" = some (some (.ref f23)))
    (l23 : K.lookup f23 = some ⟨oc23, od23, .func (PySem.W.fnOf "check_board" "check_board" (defArgs s_check_board) (defBody s_check_board) (defScope s_check_board) .none kV23 dc23 pm23 an23 cd23 ct23), sl23⟩)
    (c23 : PySem.W.codeIn K cd23 "check_board" = true)
    (k23 : PySem.W.keepIn K (.ref f23) = true)
    (a24 : PySem.W.nsIn K mainGlobals "is_switch" = some (some (.ref f24)))
    (l24 : K.lookup f24 = some ⟨oc24, od24, .func (PySem.W.fnOf "is_switch" "is_switch" (defArgs s_is_switch) (defBody s_is_switch) (defScope s_is_switch) .none kV24 dc24 pm24 an24 cd24 ct24), sl24⟩)
    (c24 : PySem.W.codeIn K cd24 "is_switch" = true)
    (k24 : PySem.W.keepIn K (.ref f24) = true)
    (a25 : PySem.W.nsIn K mainGlobals "check_switch" = some (some (.ref f25)))
    (l25 : K.lookup f25 = some ⟨oc25, od25, .func (PySem.W.fnOf "check_switch" "check_switch" (defArgs s_check_switch) (defBody s_check_switch) (defScope s_check_switch) .none kV25 dc25 pm25 an25 cd25 ct25), sl25⟩)
    (c25 : PySem.W.codeIn K cd25 "check_switch" = true)
    (k25 : PySem.W.keepIn K (.ref f25) = true)
    (a26 : PySem.W.nsIn K mainGlobals "is_current" = some (some (.ref f26)))
    (l26 : K.lookup f26 = some ⟨oc26, od26, .func (PySem.W.fnOf "is_current" "is_current" (defArgs s_is_current) (defBody s_is_current) (defScope s_is_current) .none kV26 dc26 pm26 an26 cd26 ct26), sl26⟩)
    (c26 : PySem.W.codeIn K cd26 "is_current" = true)
    (k26 : PySem.W.keepIn K (.ref f26) = true)
    (a27 : PySem.W.nsIn K mainGlobals "check_current" = some (some (.ref f27)))
    (l27 : K.lookup f27 = some ⟨oc27, od27, .func (PySem.W.fnOf "check_current" "check_current" (defArgs s_check_current) (defBody s_check_current) (defScope s_check_current) .none kV27 dc27 pm27 an27 cd27 ct27), sl27⟩)
    (c27 : PySem.W.codeIn K cd27 "check_current" = true)
    (k27 : PySem.W.keepIn K (.ref f27) = true)
    (a28 : PySem.W.nsIn K mainGlobals "check_fault" = some (some (.ref f28)))
    (l28 : K.lookup f28 = some ⟨oc28, od28, .func (PySem.W.fnOf "check_fault" "check_fault" (defArgs s_check_fault) (defBody s_check_fault) (defScope s_check_fault) .none kV28 dc28 pm28 an28 cd28 ct28), sl28⟩)
    (c28 : PySem.W.codeIn K cd28 "check_fault" = true)
    (k28 : PySem.W.keepIn K (.ref f28) = true)
    (a29 : PySem.W.nsIn K mainGlobals "breaking" = some (some (.ref f29)))
    (l29 : K.lookup f29 = some ⟨oc29, od29, .func (PySem.W.fnOf "breaking" "breaking" (defArgs s_breaking) (defBody s_breaking) (defScope s_breaking) .none kV29 dc29 pm29 an29 cd29 ct29), sl29⟩)
    (c29 : PySem.W.codeIn K cd29 "breaking" = true)
    (k29 : PySem.W.keepIn K (.ref f29) = true)
    (a30 : PySem.W.nsIn K mainGlobals "steps_of" = some (some (.ref f30)))
    (l30 : K.lookup f30 = some ⟨oc30, od30, .func (PySem.W.fnOf "steps_of" "steps_of" (defArgs s_steps_of) (defBody s_steps_of) (defScope s_steps_of) .none kV30 dc30 pm30 an30 cd30 ct30), sl30⟩)
    (c30 : PySem.W.codeIn K cd30 "steps_of" = true)
    (k30 : PySem.W.keepIn K (.ref f30) = true)
    (a31 : PySem.W.nsIn K mainGlobals "time_by" = some (some (.ref f31)))
    (l31 : K.lookup f31 = some ⟨oc31, od31, .func (PySem.W.fnOf "time_by" "time_by" (defArgs s_time_by) (defBody s_time_by) (defScope s_time_by) .none kV31 dc31 pm31 an31 cd31 ct31), sl31⟩)
    (c31 : PySem.W.codeIn K cd31 "time_by" = true)
    (k31 : PySem.W.keepIn K (.ref f31) = true)
    (a32 : PySem.W.nsIn K mainGlobals "path_by" = some (some (.ref f32)))
    (l32 : K.lookup f32 = some ⟨oc32, od32, .func (PySem.W.fnOf "path_by" "path_by" (defArgs s_path_by) (defBody s_path_by) (defScope s_path_by) .none kV32 dc32 pm32 an32 cd32 ct32), sl32⟩)
    (c32 : PySem.W.codeIn K cd32 "path_by" = true)
    (k32 : PySem.W.keepIn K (.ref f32) = true)
    (a33 : PySem.W.nsIn K mainGlobals "times_by" = some (some (.ref f33)))
    (l33 : K.lookup f33 = some ⟨oc33, od33, .func (PySem.W.fnOf "times_by" "times_by" (defArgs s_times_by) (defBody s_times_by) (defScope s_times_by) .none kV33 dc33 pm33 an33 cd33 ct33), sl33⟩)
    (c33 : PySem.W.codeIn K cd33 "times_by" = true)
    (k33 : PySem.W.keepIn K (.ref f33) = true)
    (a34 : PySem.W.nsIn K mainGlobals "broken_by_of" = some (some (.ref f34)))
    (l34 : K.lookup f34 = some ⟨oc34, od34, .func (PySem.W.fnOf "broken_by_of" "broken_by_of" (defArgs s_broken_by_of) (defBody s_broken_by_of) (defScope s_broken_by_of) .none kV34 dc34 pm34 an34 cd34 ct34), sl34⟩)
    (c34 : PySem.W.codeIn K cd34 "broken_by_of" = true)
    (k34 : PySem.W.keepIn K (.ref f34) = true)
    (a35 : PySem.W.nsIn K mainGlobals "broken_by" = some (some (.ref f35)))
    (l35 : K.lookup f35 = some ⟨oc35, od35, .func (PySem.W.fnOf "broken_by" "broken_by" (defArgs s_broken_by) (defBody s_broken_by) (defScope s_broken_by) .none kV35 dc35 pm35 an35 cd35 ct35), sl35⟩)
    (c35 : PySem.W.codeIn K cd35 "broken_by" = true)
    (k35 : PySem.W.keepIn K (.ref f35) = true)
    (a36 : PySem.W.nsIn K mainGlobals "_law_right" = some (some (.ref f36)))
    (l36 : K.lookup f36 = some ⟨oc36, od36, .func (PySem.W.fnOf "_law_right" "_law_right" (defArgs s__law_right) (defBody s__law_right) (defScope s__law_right) .none kV36 dc36 pm36 an36 cd36 ct36), sl36⟩)
    (c36 : PySem.W.codeIn K cd36 "_law_right" = true)
    (k36 : PySem.W.keepIn K (.ref f36) = true)
    (a37 : PySem.W.nsIn K mainGlobals "law" = some (some (.ref f37)))
    (l37 : K.lookup f37 = some ⟨oc37, od37, .func (PySem.W.fnOf "law" "law" (defArgs s_law) (defBody s_law) (defScope s_law) .none kV37 dc37 pm37 an37 cd37 ct37), sl37⟩)
    (c37 : PySem.W.codeIn K cd37 "law" = true)
    (k37 : PySem.W.keepIn K (.ref f37) = true)
    (d13_16 : PP13 ≠ PP16)
    (n_abs : PySem.W.nsIn K mainGlobals "abs" = some none)
    (n_all : PySem.W.nsIn K mainGlobals "all" = some none)
    (n_bool : PySem.W.nsIn K mainGlobals "bool" = some none)
    (n_divmod : PySem.W.nsIn K mainGlobals "divmod" = some none)
    (n_enumerate : PySem.W.nsIn K mainGlobals "enumerate" = some none)
    (n_int : PySem.W.nsIn K mainGlobals "int" = some none)
    (n_isinstance : PySem.W.nsIn K mainGlobals "isinstance" = some none)
    (n_len : PySem.W.nsIn K mainGlobals "len" = some none)
    (n_max : PySem.W.nsIn K mainGlobals "max" = some none)
    (n_min : PySem.W.nsIn K mainGlobals "min" = some none)
    (n_range : PySem.W.nsIn K mainGlobals "range" = some none)
    (n_repr : PySem.W.nsIn K mainGlobals "repr" = some none)
    (n_set : PySem.W.nsIn K mainGlobals "set" = some none)
    (n_sorted : PySem.W.nsIn K mainGlobals "sorted" = some none)
    (n_sum : PySem.W.nsIn K mainGlobals "sum" = some none)
    (n_tuple : PySem.W.nsIn K mainGlobals "tuple" = some none)
    (n_zip : PySem.W.nsIn K mainGlobals "zip" = some none)
    (g_MOST_AMPS : PySem.W.nsIn K mainGlobals "MOST_AMPS" = some (some (.int 99 t_MOST_AMPS)))
    (g_MOST_CURRENT : PySem.W.nsIn K mainGlobals "MOST_CURRENT" = some (some (.int 999 t_MOST_CURRENT)))
    (g_MOST_LONG : PySem.W.nsIn K mainGlobals "MOST_LONG" = some (some (.int 2 t_MOST_LONG)))
    (g_MOST_STEPS : PySem.W.nsIn K mainGlobals "MOST_STEPS" = some (some (.int 3 t_MOST_STEPS)))
    (g_MOST_SWITCHES : PySem.W.nsIn K mainGlobals "MOST_SWITCHES" = some (some (.int 7 t_MOST_SWITCHES)))
    (g_MOST_THINGS : PySem.W.nsIn K mainGlobals "MOST_THINGS" = some (some (.int 5 t_MOST_THINGS)))
    (g_MOST_TICKS : PySem.W.nsIn K mainGlobals "MOST_TICKS" = some (some (.int 5 t_MOST_TICKS)))
    (g_STOP : PySem.W.nsIn K mainGlobals "STOP" = some (some (.int 3 t_STOP)))
    (aC : PySem.W.nsIn K mainGlobals "Board" = some (some (.ref C)))
    (pg : PySem.W.plainGet K C Str.empty = true)
    (hd : PySem.W.hasDictIn K C = true)
    (po : PySem.W.plainOver K C = true)
    (sa : PySem.W.findIn K (.ref C) "__setattr__" = some (some (.builtin "object.__setattr__")))
    (mk : PySem.W.makesIn K C = true)
    (kc : PySem.W.keepIn K (.ref C) = true)
    (ha : PySem.W.findIn K (.ref C) "__class__" = some (some (.builtin "object.__class__")))
    (hn : PySem.W.specialIn K (.builtin "object.__class__") "__get__" = some (some (.builtin "getset_descriptor.__get__")))
    (htk : PySem.W.takesIn K (.builtin "object.__class__") = some true)
    (hm : PySem.W.mroIn K C (.type "object") = some true)
    (nS : PySem.W.findIn K (.ref C) "switches" = some none)
    (nT : PySem.W.findIn K (.ref C) "things" = some none)
    (aI : PySem.W.findIn K (.ref C) "__init__" = some (some (.ref fI)))
    (iI : PySem.W.isFn K (.ref fI) = true)
    (lI : K.lookup fI = some ⟨ocI, odI, .func (PySem.W.fnOf "__init__" "Board.__init__" (defArgs s_Board) (defBody s_Board) (defScope s_Board) (.ref tI) kVI dcI pmI anI cdI ctI), slI⟩)
    (cI : PySem.W.codeIn K cdI "Board.__init__" = true)
    (kI : PySem.W.keepIn K (.ref fI) = true)
    (tD : K.lookup tI = some oI)
    (tO : oI.data = .seq [Value.ref eI].toArray nI)
    : LawG l w K 14 63 "script" mg fa h := by
  have e := hfa.symm.trans (PySem.W.mg_of X G a37)
  cases e
  let w0 : Wd := { K := K, adr := fun _ => C, T := [(PP13, ("wrong_switch.<locals>.<lambda>" : Str)), (PP16, ("wrong_thing.<locals>.<lambda>" : Str))], lam := fun _ _ _ _ => False }
  have T : Tx K mg w0 := { hK := rfl, n_abs := PySem.W.mg_none_of X G n_abs, n_all := PySem.W.mg_none_of X G n_all, n_bool := PySem.W.mg_none_of X G n_bool, n_divmod := PySem.W.mg_none_of X G n_divmod, n_enumerate := PySem.W.mg_none_of X G n_enumerate, n_int := PySem.W.mg_none_of X G n_int, n_isinstance := PySem.W.mg_none_of X G n_isinstance, n_len := PySem.W.mg_none_of X G n_len, n_max := PySem.W.mg_none_of X G n_max, n_min := PySem.W.mg_none_of X G n_min, n_range := PySem.W.mg_none_of X G n_range, n_repr := PySem.W.mg_none_of X G n_repr, n_set := PySem.W.mg_none_of X G n_set, n_sorted := PySem.W.mg_none_of X G n_sorted, n_sum := PySem.W.mg_none_of X G n_sum, n_tuple := PySem.W.mg_none_of X G n_tuple, n_zip := PySem.W.mg_none_of X G n_zip, g_MOST_AMPS := ⟨_, PySem.W.mg_of X G g_MOST_AMPS⟩, g_MOST_CURRENT := ⟨_, PySem.W.mg_of X G g_MOST_CURRENT⟩, g_MOST_LONG := ⟨_, PySem.W.mg_of X G g_MOST_LONG⟩, g_MOST_STEPS := ⟨_, PySem.W.mg_of X G g_MOST_STEPS⟩, g_MOST_SWITCHES := ⟨_, PySem.W.mg_of X G g_MOST_SWITCHES⟩, g_MOST_THINGS := ⟨_, PySem.W.mg_of X G g_MOST_THINGS⟩, g_MOST_TICKS := ⟨_, PySem.W.mg_of X G g_MOST_TICKS⟩, g_STOP := ⟨_, PySem.W.mg_of X G g_STOP⟩, c_Board := PySem.W.mg_of X G aC, k_Board := ⟨pg, hd, po, sa⟩, isi := fun _ _ => ⟨⟨pg, hd, po, sa⟩, ha, hn, htk, hm, by unfold PySem.W.kitOne; simp⟩, a_switches := nS, a_things := nT }
  have F0 := fun_mk (st := s__law_pool) l0 c0 k0
  have F1 := fun_mk (st := s__law_take) l1 c1 k1
  have F2 := fun_mk (st := s__law_of) l2 c2 k2
  have F3 := fun_mk (st := s__law_board) l3 c3 k3
  have F4 := fun_mk (st := s_is_row) l4 c4 k4
  have F5 := fun_mk (st := s_first_wrong) l5 c5 k5
  have F6 := fun_mk (st := s_is_tuple_of) l6 c6 k6
  have F7 := fun_mk (st := s_is_whole) l7 c7 k7
  have F8 := fun_mk (st := s_is_between) l8 c8 k8
  have F9 := fun_mk (st := s_is_step) l9 c9 k9
  have F10 := fun_mk (st := s_is_curve) l10 c10 k10
  have F11 := fun_mk (st := s_is_above) l11 c11 k11
  have F12 := fun_mk (st := s_is_switch_row) l12 c12 k12
  have F13 := fun_mk (st := s_wrong_switch) l13 c13 k13
  have F14 := fun_mk (st := s_check_switches) l14 c14 k14
  have F15 := fun_mk (st := s_is_thing_row) l15 c15 k15
  have F16 := fun_mk (st := s_wrong_thing) l16 c16 k16
  have F17 := fun_mk (st := s_check_things) l17 c17 k17
  have F18 := fun_mk (st := s__law_made) l18 c18 k18
  have F19 := fun_mk (st := s__law_currents) l19 c19 k19
  have F20 := fun_mk (st := s__law_time) l20 c20 k20
  have F21 := fun_mk (st := s__law_path) l21 c21 k21
  have F22 := fun_mk (st := s__law_broken) l22 c22 k22
  have F23 := fun_mk (st := s_check_board) l23 c23 k23
  have F24 := fun_mk (st := s_is_switch) l24 c24 k24
  have F25 := fun_mk (st := s_check_switch) l25 c25 k25
  have F26 := fun_mk (st := s_is_current) l26 c26 k26
  have F27 := fun_mk (st := s_check_current) l27 c27 k27
  have F28 := fun_mk (st := s_check_fault) l28 c28 k28
  have F29 := fun_mk (st := s_breaking) l29 c29 k29
  have F30 := fun_mk (st := s_steps_of) l30 c30 k30
  have F31 := fun_mk (st := s_time_by) l31 c31 k31
  have F32 := fun_mk (st := s_path_by) l32 c32 k32
  have F33 := fun_mk (st := s_times_by) l33 c33 k33
  have F34 := fun_mk (st := s_broken_by_of) l34 c34 k34
  have F35 := fun_mk (st := s_broken_by) l35 c35 k35
  have F36 := fun_mk (st := s__law_right) l36 c36 k36
  have F37 := fun_mk (st := s_law) l37 c37 k37
  have FI : FunD K "__init__" "Board.__init__" (defArgs s_Board) (defBody s_Board) (defScope s_Board) [V.ref eI] [] fI _ := ⟨⟨ocI, odI, .ref tI, kVI, dcI, pmI, anI, cdI, ctI, slI, rfl, lI, cI, .inr ⟨by simp, tI, oI, [.ref eI], nI, rfl, tD, tO, .cons rfl .nil⟩, .inl rfl⟩, kI⟩
  obtain ⟨dsI, vI, bI⟩ := FI.binds1 (ps := ["self", "switches", "things"]) 3 1 (by simp) rfl fun _ _ _ _ _ _ _ us its hu hi => match us, its, hu, hi with | [_, _, _], [_], _, _ => ⟨_, rfl, rfl⟩
  cases vI
  have J13 := TA _ _ _ _ _ _ _ _ _ _ r13 (PySem.W.mg_of X G a13) l13 rfl rfl x13 y13
  have J16 := TA _ _ _ _ _ _ _ _ _ _ r16 (PySem.W.mg_of X G a16) l16 rfl rfl x16 y16
  refine ⟨PySem.W.fnOf "law" "law" (defArgs s_law) (defBody s_law) (defScope s_law) .none kV37 dc37 pm37 an37 cd37 ct37, [(cc13, PP13), (cc16, PP16)], spF w0 1 F_law, (fun p hp => by
    simp only [List.mem_cons, List.not_mem_nil, or_false] at hp
    rcases hp with rfl | rfl
    · exact J13
    · exact J16), (fun p hp => by
    simp only [List.mem_cons, List.not_mem_nil, or_false] at hp
    rcases hp with rfl | rfl
    · exact z13
    · exact z16), fun s v => .of_eq rfl, fun H a ns hl hb hH hS => ?_, fun base hKb hnb hTB => ?_⟩
  · obtain ⟨outs, ho⟩ := pure_law ns hl
    exact law_sp rfl hl ho (fun p hp => by
      have hp : p ∈ [(PP13, ("wrong_switch.<locals>.<lambda>" : Str)), (PP16, ("wrong_thing.<locals>.<lambda>" : Str))] := hp
      simp only [List.mem_cons, List.not_mem_nil, or_false] at hp
      rcases hp with rfl | rfl
      · exact hH (cc13, PP13) (by simp)
      · exact hH (cc16, PP16) (by simp)) (fun p hp => by
      have hp : p ∈ [(PP13, ("wrong_switch.<locals>.<lambda>" : Str)), (PP16, ("wrong_thing.<locals>.<lambda>" : Str))] := hp
      simp only [List.mem_cons, List.not_mem_nil, or_false] at hp
      rcases hp with rfl | rfl
      · exact z13
      · exact z16) hS
  · have O__law_pool := ok__law_pool (P := l.prog) (wd := w) (base := base) T F0 (PySem.W.mg_of X G a0)
    have O__law_take := ok__law_take (P := l.prog) (wd := w) (base := base) T F1 (PySem.W.mg_of X G a1)
    have O__law_of := ok__law_of (P := l.prog) (wd := w) (base := base) T { c__law_take := O__law_take } F2 (PySem.W.mg_of X G a2)
    have O__law_board := ok__law_board (P := l.prog) (wd := w) (base := base) T { c__law_take := O__law_take, c__law_of := O__law_of } F3 (PySem.W.mg_of X G a3)
    have O_is_row := ok_is_row (P := l.prog) (wd := w) (base := base) T F4 (PySem.W.mg_of X G a4)
    have Dg : ∃ gg fdg, mg "first_wrong" = some (.ref gg) ∧ Fun K "first_wrong" "first_wrong" s_first_wrong gg fdg ∧ Binds K fdg ["value", "is_right"] [] := ⟨_, _, PySem.W.mg_of X G a5, F5, F5.binds fun _ _ _ _ _ _ us hl => match us, hl with | [_, _], _ => rfl⟩
    have O_is_tuple_of := ok_is_tuple_of (P := l.prog) (wd := w) (base := base) T F6 (PySem.W.mg_of X G a6)
    have O_is_whole := ok_is_whole (P := l.prog) (wd := w) (base := base) T F7 (PySem.W.mg_of X G a7)
    have O_is_between := ok_is_between (P := l.prog) (wd := w) (base := base) T { c_is_whole := O_is_whole } F8 (PySem.W.mg_of X G a8)
    have O_is_step := ok_is_step (P := l.prog) (wd := w) (base := base) T { c_is_between := O_is_between, c_is_tuple_of := O_is_tuple_of } F9 (PySem.W.mg_of X G a9)
    have O_is_curve := ok_is_curve (P := l.prog) (wd := w) (base := base) T { c_is_row := O_is_row, c_is_step := O_is_step } F10 (PySem.W.mg_of X G a10)
    have O_is_above := ok_is_above (P := l.prog) (wd := w) (base := base) T { c_is_between := O_is_between } F11 (PySem.W.mg_of X G a11)
    have O_is_switch_row := ok_is_switch_row (P := l.prog) (wd := w) (base := base) T { c_is_between := O_is_between, c_is_tuple_of := O_is_tuple_of, c_is_curve := O_is_curve, c_is_above := O_is_above } F12 (PySem.W.mg_of X G a12)
    have O_wrong_switch := ok_wrong_switch (P := l.prog) (wd := w) (base := base) T { c_is_switch_row := O_is_switch_row } Dg ⟨cc13, PP13, rfl, hTB (cc13, PP13) (by simp), by simp [w0], (by
      intro p hp hz
      have hp : p ∈ [(PP13, ("wrong_switch.<locals>.<lambda>" : Str)), (PP16, ("wrong_thing.<locals>.<lambda>" : Str))] := hp
      simp only [List.mem_cons, List.not_mem_nil, or_false] at hp
      rcases hp with rfl | rfl
      · rfl
      · exact absurd hz.symm d13_16)⟩ F13 (PySem.W.mg_of X G a13)
    have O_check_switches := ok_check_switches (P := l.prog) (wd := w) (base := base) T { c_is_row := O_is_row, c_wrong_switch := O_wrong_switch } F14 (PySem.W.mg_of X G a14)
    have O_is_thing_row := ok_is_thing_row (P := l.prog) (wd := w) (base := base) T { c_is_between := O_is_between, c_is_tuple_of := O_is_tuple_of } F15 (PySem.W.mg_of X G a15)
    have O_wrong_thing := ok_wrong_thing (P := l.prog) (wd := w) (base := base) T { c_is_thing_row := O_is_thing_row } Dg ⟨cc16, PP16, rfl, hTB (cc16, PP16) (by simp), by simp [w0], (by
      intro p hp hz
      have hp : p ∈ [(PP13, ("wrong_switch.<locals>.<lambda>" : Str)), (PP16, ("wrong_thing.<locals>.<lambda>" : Str))] := hp
      simp only [List.mem_cons, List.not_mem_nil, or_false] at hp
      rcases hp with rfl | rfl
      · exact absurd hz d13_16
      · rfl)⟩ F16 (PySem.W.mg_of X G a16)
    have O_check_things := ok_check_things (P := l.prog) (wd := w) (base := base) T { c_is_row := O_is_row, c_wrong_thing := O_wrong_thing } F17 (PySem.W.mg_of X G a17)
    have G_Board := g_Board (P := l.prog) (wd := w) (base := base) T { c_check_switches := O_check_switches, c_check_things := O_check_things } (FunR.ofD FI)
    have O__law_made := ok__law_made (P := l.prog) (wd := w) (base := base) T G_Board bI ⟨mk, aI, iI, kc⟩ F18 (PySem.W.mg_of X G a18)
    have O__law_currents := ok__law_currents (P := l.prog) (wd := w) (base := base) T F19 (PySem.W.mg_of X G a19)
    have O__law_time := ok__law_time (P := l.prog) (wd := w) (base := base) T F20 (PySem.W.mg_of X G a20)
    have O__law_path := ok__law_path (P := l.prog) (wd := w) (base := base) T F21 (PySem.W.mg_of X G a21)
    have O__law_broken := ok__law_broken (P := l.prog) (wd := w) (base := base) T { c__law_time := O__law_time, c__law_path := O__law_path } F22 (PySem.W.mg_of X G a22)
    have O_check_board := ok_check_board (P := l.prog) (wd := w) (base := base) T F23 (PySem.W.mg_of X G a23)
    have O_is_switch := ok_is_switch (P := l.prog) (wd := w) (base := base) T { c_is_between := O_is_between } F24 (PySem.W.mg_of X G a24)
    have O_check_switch := ok_check_switch (P := l.prog) (wd := w) (base := base) T { c_is_switch := O_is_switch } F25 (PySem.W.mg_of X G a25)
    have O_is_current := ok_is_current (P := l.prog) (wd := w) (base := base) T { c_is_between := O_is_between } F26 (PySem.W.mg_of X G a26)
    have O_check_current := ok_check_current (P := l.prog) (wd := w) (base := base) T { c_is_current := O_is_current } F27 (PySem.W.mg_of X G a27)
    have O_check_fault := ok_check_fault (P := l.prog) (wd := w) (base := base) T { c_check_board := O_check_board, c_check_switch := O_check_switch, c_check_current := O_check_current } F28 (PySem.W.mg_of X G a28)
    have O_breaking := ok_breaking (P := l.prog) (wd := w) (base := base) T F29 (PySem.W.mg_of X G a29)
    have O_steps_of := ok_steps_of (P := l.prog) (wd := w) (base := base) T F30 (PySem.W.mg_of X G a30)
    have O_time_by := ok_time_by (P := l.prog) (wd := w) (base := base) T { c_steps_of := O_steps_of } F31 (PySem.W.mg_of X G a31)
    have O_path_by := ok_path_by (P := l.prog) (wd := w) (base := base) T F32 (PySem.W.mg_of X G a32)
    have O_times_by := ok_times_by (P := l.prog) (wd := w) (base := base) T { c_path_by := O_path_by, c_time_by := O_time_by } F33 (PySem.W.mg_of X G a33)
    have O_broken_by_of := ok_broken_by_of (P := l.prog) (wd := w) (base := base) T { c_times_by := O_times_by, c_breaking := O_breaking } F34 (PySem.W.mg_of X G a34)
    have O_broken_by := ok_broken_by (P := l.prog) (wd := w) (base := base) T { c_broken_by_of := O_broken_by_of, c_check_fault := O_check_fault } F35 (PySem.W.mg_of X G a35)
    have O__law_right := ok__law_right (P := l.prog) (wd := w) (base := base) T { c_broken_by := O_broken_by, c__law_board := O__law_board, c__law_made := O__law_made, c__law_broken := O__law_broken, c__law_currents := O__law_currents } F36 (PySem.W.mg_of X G a36)
    exact g_law (P := l.prog) (wd := w) (base := base) T { c__law_pool := O__law_pool, c__law_right := O__law_right } (FunR.of F37)
end Lk41
open PySem PySem.W PyProof.Rows
set_option maxRecDepth 100000 in
set_option maxHeartbeats 0 in
theorem PySem.Challenge.cw_fuseboards_k41_by_whom_faults_are_broken_holds : PySem.Challenge.rw_fuseboards_k41_by_whom_faults_are_broken.Holds := by
  w_on; o_law; k_head; (case hw => w_witness2)
  k_fill
  refine PD.walk_g (l := PySem.Challenge.rw_fuseboards_k41_by_whom_faults_are_broken) (n := 63) (k := 14) (x := "script") rfl (by decide) rfl ⟨rfl, by decide, by decide⟩ (fun w h Y => by first | exact PySem.W.km_in_of Y | exact PySem.W.kIn_of Y) ?F
  case F =>
    intro w mg fa h KX G hmg TA
    refine' Lk41.all_mk KX G hmg TA ?a0 ?l0 ?c0 ?k0 ?a1 ?l1 ?c1 ?k1 ?a2 ?l2 ?c2 ?k2 ?a3 ?l3 ?c3 ?k3 ?a4 ?l4 ?c4 ?k4 ?a5 ?l5 ?c5 ?k5 ?a6 ?l6 ?c6 ?k6 ?a7 ?l7 ?c7 ?k7 ?a8 ?l8 ?c8 ?k8 ?a9 ?l9 ?c9 ?k9 ?a10 ?l10 ?c10 ?k10 ?a11 ?l11 ?c11 ?k11 ?a12 ?l12 ?c12 ?k12 ?a13 ?l13 ?c13 ?k13 ?x13 ?y13 ?z13 ?r13 ?a14 ?l14 ?c14 ?k14 ?a15 ?l15 ?c15 ?k15 ?a16 ?l16 ?c16 ?k16 ?x16 ?y16 ?z16 ?r16 ?a17 ?l17 ?c17 ?k17 ?a18 ?l18 ?c18 ?k18 ?a19 ?l19 ?c19 ?k19 ?a20 ?l20 ?c20 ?k20 ?a21 ?l21 ?c21 ?k21 ?a22 ?l22 ?c22 ?k22 ?a23 ?l23 ?c23 ?k23 ?a24 ?l24 ?c24 ?k24 ?a25 ?l25 ?c25 ?k25 ?a26 ?l26 ?c26 ?k26 ?a27 ?l27 ?c27 ?k27 ?a28 ?l28 ?c28 ?k28 ?a29 ?l29 ?c29 ?k29 ?a30 ?l30 ?c30 ?k30 ?a31 ?l31 ?c31 ?k31 ?a32 ?l32 ?c32 ?k32 ?a33 ?l33 ?c33 ?k33 ?a34 ?l34 ?c34 ?k34 ?a35 ?l35 ?c35 ?k35 ?a36 ?l36 ?c36 ?k36 ?a37 ?l37 ?c37 ?k37 ?d13_16 ?n_abs ?n_all ?n_bool ?n_divmod ?n_enumerate ?n_int ?n_isinstance ?n_len ?n_max ?n_min ?n_range ?n_repr ?n_set ?n_sorted ?n_sum ?n_tuple ?n_zip ?g_MOST_AMPS ?g_MOST_CURRENT ?g_MOST_LONG ?g_MOST_STEPS ?g_MOST_SWITCHES ?g_MOST_THINGS ?g_MOST_TICKS ?g_STOP ?aC ?pg ?hd ?po ?sa ?mk ?kc ?ha ?hn ?htk ?hm ?nS ?nT ?aI ?iI ?lI ?cI ?kI ?tD ?tO
    (case a0 => k_is)
    (case l0 => k_is)
    (case c0 => k_is)
    (case k0 => k_is)
    (case a1 => k_is)
    (case l1 => k_is)
    (case c1 => k_is)
    (case k1 => k_is)
    (case a2 => k_is)
    (case l2 => k_is)
    (case c2 => k_is)
    (case k2 => k_is)
    (case a3 => k_is)
    (case l3 => k_is)
    (case c3 => k_is)
    (case k3 => k_is)
    (case a4 => k_is)
    (case l4 => k_is)
    (case c4 => k_is)
    (case k4 => k_is)
    (case a5 => k_is)
    (case l5 => k_is)
    (case c5 => k_is)
    (case k5 => k_is)
    (case a6 => k_is)
    (case l6 => k_is)
    (case c6 => k_is)
    (case k6 => k_is)
    (case a7 => k_is)
    (case l7 => k_is)
    (case c7 => k_is)
    (case k7 => k_is)
    (case a8 => k_is)
    (case l8 => k_is)
    (case c8 => k_is)
    (case k8 => k_is)
    (case a9 => k_is)
    (case l9 => k_is)
    (case c9 => k_is)
    (case k9 => k_is)
    (case a10 => k_is)
    (case l10 => k_is)
    (case c10 => k_is)
    (case k10 => k_is)
    (case a11 => k_is)
    (case l11 => k_is)
    (case c11 => k_is)
    (case k11 => k_is)
    (case a12 => k_is)
    (case l12 => k_is)
    (case c12 => k_is)
    (case k12 => k_is)
    (case a13 => k_is)
    (case l13 => k_is)
    (case c13 => k_is)
    (case k13 => k_is)
    (case x13 => k_is)
    (case y13 => first | rfl | k_is)
    (case z13 => first | kernel_rfl | rfl | (with_unfolding_all rfl) | trace_state)
    (case r13 => first | rfl | decide +kernel)
    (case a14 => k_is)
    (case l14 => k_is)
    (case c14 => k_is)
    (case k14 => k_is)
    (case a15 => k_is)
    (case l15 => k_is)
    (case c15 => k_is)
    (case k15 => k_is)
    (case a16 => k_is)
    (case l16 => k_is)
    (case c16 => k_is)
    (case k16 => k_is)
    (case x16 => k_is)
    (case y16 => first | rfl | k_is)
    (case z16 => first | kernel_rfl | rfl | (with_unfolding_all rfl) | trace_state)
    (case r16 => first | rfl | decide +kernel)
    (case a17 => k_is)
    (case l17 => k_is)
    (case c17 => k_is)
    (case k17 => k_is)
    (case a18 => k_is)
    (case l18 => k_is)
    (case c18 => k_is)
    (case k18 => k_is)
    (case a19 => k_is)
    (case l19 => k_is)
    (case c19 => k_is)
    (case k19 => k_is)
    (case a20 => k_is)
    (case l20 => k_is)
    (case c20 => k_is)
    (case k20 => k_is)
    (case a21 => k_is)
    (case l21 => k_is)
    (case c21 => k_is)
    (case k21 => k_is)
    (case a22 => k_is)
    (case l22 => k_is)
    (case c22 => k_is)
    (case k22 => k_is)
    (case a23 => k_is)
    (case l23 => k_is)
    (case c23 => k_is)
    (case k23 => k_is)
    (case a24 => k_is)
    (case l24 => k_is)
    (case c24 => k_is)
    (case k24 => k_is)
    (case a25 => k_is)
    (case l25 => k_is)
    (case c25 => k_is)
    (case k25 => k_is)
    (case a26 => k_is)
    (case l26 => k_is)
    (case c26 => k_is)
    (case k26 => k_is)
    (case a27 => k_is)
    (case l27 => k_is)
    (case c27 => k_is)
    (case k27 => k_is)
    (case a28 => k_is)
    (case l28 => k_is)
    (case c28 => k_is)
    (case k28 => k_is)
    (case a29 => k_is)
    (case l29 => k_is)
    (case c29 => k_is)
    (case k29 => k_is)
    (case a30 => k_is)
    (case l30 => k_is)
    (case c30 => k_is)
    (case k30 => k_is)
    (case a31 => k_is)
    (case l31 => k_is)
    (case c31 => k_is)
    (case k31 => k_is)
    (case a32 => k_is)
    (case l32 => k_is)
    (case c32 => k_is)
    (case k32 => k_is)
    (case a33 => k_is)
    (case l33 => k_is)
    (case c33 => k_is)
    (case k33 => k_is)
    (case a34 => k_is)
    (case l34 => k_is)
    (case c34 => k_is)
    (case k34 => k_is)
    (case a35 => k_is)
    (case l35 => k_is)
    (case c35 => k_is)
    (case k35 => k_is)
    (case a36 => k_is)
    (case l36 => k_is)
    (case c36 => k_is)
    (case k36 => k_is)
    (case a37 => k_is)
    (case l37 => k_is)
    (case c37 => k_is)
    (case k37 => k_is)
    (case d13_16 => decide)
    (case n_abs => k_is)
    (case n_all => k_is)
    (case n_bool => k_is)
    (case n_divmod => k_is)
    (case n_enumerate => k_is)
    (case n_int => k_is)
    (case n_isinstance => k_is)
    (case n_len => k_is)
    (case n_max => k_is)
    (case n_min => k_is)
    (case n_range => k_is)
    (case n_repr => k_is)
    (case n_set => k_is)
    (case n_sorted => k_is)
    (case n_sum => k_is)
    (case n_tuple => k_is)
    (case n_zip => k_is)
    (case g_MOST_AMPS => k_is)
    (case g_MOST_CURRENT => k_is)
    (case g_MOST_LONG => k_is)
    (case g_MOST_STEPS => k_is)
    (case g_MOST_SWITCHES => k_is)
    (case g_MOST_THINGS => k_is)
    (case g_MOST_TICKS => k_is)
    (case g_STOP => k_is)
    (case aC => k_is)
    (case pg => k_is)
    (case hd => k_is)
    (case po => k_is)
    (case sa => k_is)
    (case mk => k_is)
    (case kc => k_is)
    (case ha => k_is)
    (case hn => k_is)
    (case htk => k_is)
    (case hm => k_is)
    (case nS => k_is)
    (case nT => k_is)
    (case aI => k_is)
    (case iI => k_is)
    (case lI => k_is)
    (case cI => k_is)
    (case kI => k_is)
    (case tD => k_is)
    (case tO => first | rfl | k_is)

