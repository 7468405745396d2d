import PyProof.Rows.All
import Wide.All
import OpenK.AllK
import Wide.FinOn
import HandS.ForMost
import HandS.TupAny
import HandS.TupMul
import HandS.Conv
import HandS.Style
import KE.DataFind
import KE.DataEq
import HandS.More
import HandS.Small
import PySem.Challenge.RW_yieldseats_k09_whole_how_many_rows_seat
set_option Elab.async false
set_option linter.all false
set_option maxRecDepth 100000
/-! Y1: abstract values, the store, the monad: what the program's text means, executable, without heap or addresses -/
namespace Y
open PySem

inductive AV where
  | non | bl (b : Bool) | int (i : Int) | str (s : Str) | tup (xs : List AV) | loc (n : Nat)
  /-- a list that is known to stand as it is -/
  | frl (xs : List AV)
  /-- a tuple that an iterator hands out -/
  | tmp (xs : List AV)
deriving Inhabited

mutual
def AV.beq : AV → AV → Bool
  | .non, .non => true
  | .bl a, .bl b => a == b
  | .int a, .int b => a == b
  | .str a, .str b => decide (a = b)
  | .tup xs, .tup ys => AV.beqL xs ys
  | .loc a, .loc b => a == b
  | .frl xs, .frl ys => AV.beqL xs ys
  | .tmp xs, .tmp ys => AV.beqL xs ys
  | _, _ => false
def AV.beqL : List AV → List AV → Bool
  | [], [] => true
  | x :: xs, y :: ys => AV.beq x y && AV.beqL xs ys
  | _, _ => false
end
mutual
theorem AV.beq_refl : ∀ v : AV, AV.beq v v = true
  | .non => rfl
  | .bl b => by simp [AV.beq]
  | .int i => by simp [AV.beq]
  | .str s => by simp [AV.beq]
  | .tup xs => by rw [AV.beq]; exact AV.beqL_refl xs
  | .loc n => by simp [AV.beq]
  | .frl xs => by rw [AV.beq]; exact AV.beqL_refl xs
  | .tmp xs => by rw [AV.beq]; exact AV.beqL_refl xs
theorem AV.beqL_refl : ∀ v : List AV, AV.beqL v v = true
  | [] => rfl
  | x :: xs => by rw [AV.beqL, AV.beq_refl x, AV.beqL_refl xs]; rfl
end
mutual
theorem AV.beq_eq : ∀ v w : AV, AV.beq v w = true → v = w
  | .non, .non, _ => rfl
  | .bl a, .bl b, h => by simp [AV.beq] at h; rw [h]
  | .int a, .int b, h => by simp [AV.beq] at h; rw [h]
  | .str a, .str b, h => by simp [AV.beq] at h; rw [h]
  | .tup xs, .tup ys, h => by rw [AV.beq] at h; rw [AV.beqL_eq xs ys h]
  | .frl xs, .frl ys, h => by rw [AV.beq] at h; rw [AV.beqL_eq xs ys h]
  | .loc a, .loc b, h => by simp [AV.beq] at h; rw [h]
  | .tmp xs, .tmp ys, h => by rw [AV.beq] at h; rw [AV.beqL_eq xs ys h]
  | .non, .bl _, h | .non, .int _, h | .non, .str _, h | .non, .tup _, h | .non, .loc _, h | .non, .frl _, h | .non, .tmp _, h => by simp [AV.beq] at h
  | .bl _, .non, h | .bl _, .int _, h | .bl _, .str _, h | .bl _, .tup _, h | .bl _, .loc _, h | .bl _, .frl _, h | .bl _, .tmp _, h => by simp [AV.beq] at h
  | .int _, .non, h | .int _, .bl _, h | .int _, .str _, h | .int _, .tup _, h | .int _, .loc _, h | .int _, .frl _, h | .int _, .tmp _, h => by simp [AV.beq] at h
  | .str _, .non, h | .str _, .bl _, h | .str _, .int _, h | .str _, .tup _, h | .str _, .loc _, h | .str _, .frl _, h | .str _, .tmp _, h => by simp [AV.beq] at h
  | .tup _, .non, h | .tup _, .bl _, h | .tup _, .int _, h | .tup _, .str _, h | .tup _, .loc _, h | .tup _, .frl _, h | .tup _, .tmp _, h => by simp [AV.beq] at h
  | .loc _, .non, h | .loc _, .bl _, h | .loc _, .int _, h | .loc _, .str _, h | .loc _, .tup _, h | .loc _, .frl _, h | .loc _, .tmp _, h => by simp [AV.beq] at h
  | .frl _, .non, h | .frl _, .bl _, h | .frl _, .int _, h | .frl _, .str _, h | .frl _, .tup _, h | .frl _, .loc _, h | .frl _, .tmp _, h => by simp [AV.beq] at h
  | .tmp _, .non, h | .tmp _, .bl _, h | .tmp _, .int _, h | .tmp _, .str _, h | .tmp _, .tup _, h | .tmp _, .loc _, h | .tmp _, .frl _, h => by simp [AV.beq] at h
theorem AV.beqL_eq : ∀ v w : List AV, AV.beqL v w = true → v = w
  | [], [], _ => rfl
  | x :: xs, y :: ys, h => by
    rw [AV.beqL, Bool.and_eq_true] at h
    rw [AV.beq_eq x y h.1, AV.beqL_eq xs ys h.2]
  | [], _ :: _, h => by simp [AV.beqL] at h
  | _ :: _, [], h => by simp [AV.beqL] at h
end
instance : BEq AV := ⟨AV.beq⟩
instance : LawfulBEq AV where
  eq_of_beq := fun {a b} h => AV.beq_eq a b h
  rfl := fun {a} => AV.beq_refl a
instance : DecidableEq AV := fun a b => if h : AV.beq a b = true then .isTrue (AV.beq_eq a b h) else .isFalse fun e => h (by rw [e]; exact AV.beq_refl b)

/-! ### the objects that a value points at -/
mutual
/-- all below n -/
def AV.under (n : Nat) : AV → Bool
  | .loc k => decide (k < n)
  | .tup xs => AV.underL n xs
  | .frl xs => AV.underL n xs
  | .tmp xs => AV.underL n xs
  | _ => true
def AV.underL (n : Nat) : List AV → Bool
  | [] => true
  | x :: xs => AV.under n x && AV.underL n xs
end
mutual
def AV.locs : AV → List Nat
  | .loc k => [k]
  | .tup xs => AV.locsL xs
  | .frl xs => AV.locsL xs
  | .tmp xs => AV.locsL xs
  | _ => []
def AV.locsL : List AV → List Nat
  | [] => []
  | x :: xs => AV.locs x ++ AV.locsL xs
end
mutual
/-- pointing elsewhere -/
def AV.ren (f : Nat → Option Nat) : AV → Option AV
  | .loc k => (f k).map AV.loc
  | .tup xs => (AV.renL f xs).map AV.tup
  | .frl xs => (AV.renL f xs).map AV.frl
  | .tmp xs => (AV.renL f xs).map AV.tmp
  | .non => some .non
  | .bl b => some (.bl b)
  | .int i => some (.int i)
  | .str s => some (.str s)
def AV.renL (f : Nat → Option Nat) : List AV → Option (List AV)
  | [] => some []
  | x :: xs => match AV.ren f x, AV.renL f xs with
    | some y, some ys => some (y :: ys)
    | _, _ => none
end

/-- what stands in the store -/
inductive Ob where
  | lst (xs : List AV)
  /-- a dict; one that is read alone (a loop walks it) -/
  | dct (kvs : List (AV × AV)) | fdc (kvs : List (AV × AV))
  /-- an instance of the class of that number -/
  | ins (c : Nat) (fs : List (Str × AV))
deriving Inhabited
abbrev Sto := List Ob
def Ob.vals : Ob → List AV
  | .lst xs => xs
  | .dct kvs => kvs.map (·.2)
  | .fdc kvs => kvs.map (·.2)
  | .ins _ fs => fs.map (·.2)
def Ob.under (n : Nat) (o : Ob) : Bool := AV.underL n o.vals
def Ob.beq : Ob → Ob → Bool
  | .lst xs, .lst ys => xs == ys
  | .dct xs, .dct ys => xs == ys
  | .fdc xs, .fdc ys => xs == ys
  | .ins c xs, .ins d ys => c == d && decide (xs = ys)
  | _, _ => false
theorem Ob.beq_refl : ∀ o : Ob, Ob.beq o o = true
  | .lst xs => by simp [Ob.beq]
  | .dct xs => by simp [Ob.beq]
  | .fdc xs => by simp [Ob.beq]
  | .ins c fs => by simp [Ob.beq]
theorem Ob.beq_eq : ∀ o u : Ob, Ob.beq o u = true → o = u
  | .lst xs, .lst ys, h => by simp [Ob.beq] at h; rw [h]
  | .dct xs, .dct ys, h => by simp [Ob.beq] at h; rw [h]
  | .fdc xs, .fdc ys, h => by simp [Ob.beq] at h; rw [h]
  | .ins c xs, .ins d ys, h => by simp [Ob.beq] at h; rw [h.1, h.2]
  | .lst _, .dct _, h | .lst _, .fdc _, h | .lst _, .ins _ _, h => by simp [Ob.beq] at h
  | .dct _, .lst _, h | .dct _, .fdc _, h | .dct _, .ins _ _, h => by simp [Ob.beq] at h
  | .fdc _, .lst _, h | .fdc _, .dct _, h | .fdc _, .ins _ _, h => by simp [Ob.beq] at h
  | .ins _ _, .lst _, h | .ins _ _, .dct _, h | .ins _ _, .fdc _, h => by simp [Ob.beq] at h
instance : BEq Ob := ⟨Ob.beq⟩
instance : LawfulBEq Ob where
  eq_of_beq := fun {a b} h => Ob.beq_eq a b h
  rfl := fun {a} => Ob.beq_refl a

/-! ### the monad -/
/-- an exception: its class's name, its fields -/
structure Xn where
  cls : Str
  fs : List AV
inductive R (α : Type) where
  | ok (a : α) (st : Sto)
  | ex (e : Xn) (st : Sto)
  | bad
abbrev Ev := List (Option AV)
inductive Fl where
  | nx (env : Ev) (st : Sto)
  | rt (v : AV) (st : Sto)
  | bk (env : Ev) (st : Sto)
  | ct (env : Ev) (st : Sto)
  | ex (e : Xn) (st : Sto)
  | bad
abbrev ME := Ev → Sto → R AV
abbrev MT := Ev → Sto → R Bool
abbrev MA := Ev → Sto → R (List AV)
abbrev MS := Ev → Sto → Fl
abbrev MG := AV → Ev → Sto → R Ev
def R.bind {α β : Type} (r : R α) (f : α → Sto → R β) : R β := match r with
  | .ok a st => f a st
  | .ex e st => .ex e st
  | .bad => .bad
def R.toFl {α : Type} (r : R α) (f : α → Sto → Fl) : Fl := match r with
  | .ok a st => f a st
  | .ex e st => .ex e st
  | .bad => .bad
@[simp] theorem R.bind_ok {α β : Type} (a : α) (st : Sto) (f : α → Sto → R β) : (R.ok a st).bind f = f a st := rfl
@[simp] theorem R.bind_ex {α β : Type} (e : Xn) (st : Sto) (f : α → Sto → R β) : (R.ex e st).bind f = .ex e st := rfl
@[simp] theorem R.bind_bad {α β : Type} (f : α → Sto → R β) : (R.bad : R α).bind f = .bad := rfl
@[simp] theorem R.toFl_ok {α : Type} (a : α) (st : Sto) (f : α → Sto → Fl) : (R.ok a st).toFl f = f a st := rfl
@[simp] theorem R.toFl_ex {α : Type} (e : Xn) (st : Sto) (f : α → Sto → Fl) : (R.ex e st).toFl f = .ex e st := rfl
@[simp] theorem R.toFl_bad {α : Type} (f : α → Sto → Fl) : (R.bad : R α).toFl f = .bad := rfl

/-! ### cleaning up: what an expression made and nobody holds is forgotten -/
/-- what stood below stands, or points below -/
def oldOk (n : Nat) : Sto → Sto → Bool
  | [], _ => true
  | o :: r, o' :: r' => (Ob.beq o o' || o'.under n) && oldOk n r r'
  | _ :: _, [] => false
def addNew (n : Nat) (ks : List Nat) : List Nat → List Nat
  | [] => ks
  | k :: r => if n ≤ k && !ks.contains k then addNew n (ks ++ [k]) r else addNew n ks r
def reach (n : Nat) (st : Sto) : Nat → List Nat → List Nat
  | 0, ks => ks
  | f + 1, ks => reach n st f (addNew n ks (ks.flatMap fun k => match st[k]? with | some o => AV.locsL o.vals | none => []))
def place (n : Nat) (ks : List Nat) (k : Nat) : Option Nat := if k < n then some k else (ks.idxOf? k).map (n + ·)
def Ob.ren (f : Nat → Option Nat) : Ob → Option Ob
  | .lst xs => (AV.renL f xs).map Ob.lst
  | .dct kvs => (AV.renL f (kvs.map (·.2))).map fun vs => .dct ((kvs.map (·.1)).zip vs)
  | .fdc _ => none
  | .ins c fs => (AV.renL f (fs.map (·.2))).map fun vs => .ins c ((fs.map (·.1)).zip vs)
def nodupB : List Nat → Bool
  | [] => true
  | k :: r => !r.contains k && nodupB r
def mapO {α β : Type} (f : α → Option β) : List α → Option (List β)
  | [] => some []
  | x :: xs => match f x, mapO f xs with
    | some y, some ys => some (y :: ys)
    | _, _ => none
def gc (st0 : Sto) (r : R AV) : R AV := match r with
  | .ok v st =>
    let n := st0.length
    if st.length = n then .ok v st else
    let ks := reach n st 3 (addNew n [] v.locs)
    if oldOk n st0 st && nodupB ks && ks.all (fun k => decide (n ≤ k)) then
      match AV.ren (place n ks) v, mapO (fun k => st[k]?.bind (Ob.ren (place n ks))) ks with
      | some v', some os => .ok v' (st.take n ++ os)
      | _, _ => .bad
    else .bad
  | .ex e st => .ex e st
  | .bad => .bad
def mGc (m : ME) : ME := fun env st => gc st (m env st)

/-! ### expressions -/
def mVar (i : Nat) : ME := fun env st => match env[i]? with
  | some (some v) => .ok v st
  | _ => .bad
def mC (v : AV) : ME := fun _ st => .ok v st
abbrev O2 := AV → AV → Sto → R AV
abbrev O1 := AV → Sto → R AV
abbrev ON := List AV → Sto → R AV
def mOp (o : O2) (a b : ME) : ME := fun env st => (a env st).bind fun x st => (b env st).bind fun y st => o x y st
def mUn (o : O1) (a : ME) : ME := fun env st => (a env st).bind fun x st => o x st
def mIf (c : MT) (a b : ME) : ME := fun env st => (c env st).bind fun k st => if k then a env st else b env st
def maNil : MA := fun _ st => .ok [] st
def maCons (a : ME) (b : MA) : MA := fun env st => (a env st).bind fun x st => (b env st).bind fun xs st => .ok (x :: xs) st
def mN (f : ON) (a : MA) : ME := fun env st => (a env st).bind fun xs st => f xs st
def LIM : Nat := 16777216
def oTup : ON := fun xs st => if xs.length ≤ LIM then .ok (.tup xs) st else .bad
def oLst : ON := fun xs st => if xs.length ≤ LIM then .ok (.loc st.length) (st ++ [.lst xs]) else .bad

/-! ### tests -/
def mtV (a : ME) : MT := fun env st => (a env st).bind fun x st => match x with
  | .bl b => .ok b st
  | _ => .bad
def mtAnd (a b : MT) : MT := fun env st => (a env st).bind fun k st => if k then b env st else .ok false st
def mtOr (a b : MT) : MT := fun env st => (a env st).bind fun k st => if k then .ok true st else b env st
def mtNot (a : MT) : MT := fun env st => (a env st).bind fun k st => .ok (!k) st
/-- .. as values -/
def mAndV (a b : ME) : ME := fun env st => (a env st).bind fun x st => match x with
  | .bl k => if k then b env st else .ok (.bl false) st
  | _ => .bad
def mOrV (a b : ME) : ME := fun env st => (a env st).bind fun x st => match x with
  | .bl k => if k then .ok (.bl true) st else b env st
  | _ => .bad
def mNotV (a : ME) : ME := fun env st => (a env st).bind fun x st => match x with
  | .bl k => .ok (.bl (!k)) st
  | _ => .bad
def mChain (r r' : O2) (a b c : ME) : ME := fun env st => (a env st).bind fun x st => (b env st).bind fun y st => (r x y st).bind fun z st => match z with
  | .bl k => if k then (c env st).bind fun w st => r' y w st else .ok (.bl false) st
  | _ => .bad

/-! ### statements -/
def msSeq (a b : MS) : MS := fun env st => match a env st with
  | .nx env st => b env st
  | f => f
def msNext : MS := fun env st => .nx env st
def msExpr (a : ME) : MS := fun env st => (a env st).toFl fun _ st => .nx env st
def msRet (a : ME) : MS := fun env st => (a env st).toFl fun v st => .rt v st
def msRetN : MS := fun _ st => .rt .non st
def msIf (c : MT) (a b : MS) : MS := fun env st => (c env st).toFl fun k st => if k then a env st else b env st
def msAsg (a : ME) (g : MG) : MS := fun env st => (a env st).toFl fun v st => (g v env st).toFl fun env st => .nx env st
def msAug (i : Nat) (o : O2) (a : ME) : MS := fun env st => match env[i]? with
  | some (some x) => (a env st).toFl fun y st => (o x y st).toFl fun z st => .nx (env.set i (some z)) st
  | _ => .bad
def setAll : List Nat → List AV → Ev → Option Ev
  | [], [], env => some env
  | i :: is, v :: vs, env => setAll is vs (env.set i (some v))
  | _, _, _ => none
/-- a, b = e1, e2: no tuple is made -/
def msPar (is : List Nat) (a : MA) : MS := fun env st => (a env st).toFl fun vs st => match setAll is vs env with
  | some env => .nx env st
  | none => .bad
def msBreak : MS := fun env st => .bk env st
def msCont : MS := fun env st => .ct env st
def msRaise (c : Str) : MS := fun _ st => .ex ⟨c, []⟩ st
def msRaise1 (c : Str) (v : AV) : MS := fun _ st => .ex ⟨c, [v]⟩ st

/-! ### targets -/
def mgName (i : Nat) : MG := fun v env st => .ok (env.set i (some v)) st
def mgs : List MG → List AV → Ev → Sto → R Ev
  | [], [], env, st => .ok env st
  | g :: gs, v :: vs, env, st => (g v env st).bind fun env st => mgs gs vs env st
  | _, _, _, _ => .bad
def mgTup (gs : List MG) : MG := fun v env st => match v with
  | .tup xs => if xs.length = gs.length then mgs gs xs env st else .bad
  | .tmp xs => if xs.length = gs.length then mgs gs xs env st else .bad
  | _ => .bad
abbrev O3 := AV → AV → AV → Sto → R Unit
/-- o[i] = v -/
def mgSub (o i : ME) (f : O3) : MG := fun v env st => (o env st).bind fun x st => (i env st).bind fun y st => (f x y v st).bind fun _ st => .ok env st

/-! ### what a loop walks -/
inductive Sq where
  | list (k : Nat) | tup (xs : List AV) | rng (lo : Int) (n : Nat) | rngC (lo c : Int) (n : Nat)
  | enumL (k : Nat) | enumT (xs : List AV) | zipL (j k : Nat) | zipT (xs ys : List AV) | str (s : Str)
  | keys (k : Nat) | items (k : Nat)
abbrev MI := Ev → Sto → R Sq
def rdL (st : Sto) (k : Nat) : Option (List AV) := match st[k]? with
  | some (.lst xs) => some xs
  | _ => none
def rdD (st : Sto) (k : Nat) : Option (List (AV × AV)) := match st[k]? with
  | some (.fdc kvs) => some kvs
  | _ => none
/-- how many at most -/
def Sq.len (st : Sto) : Sq → Nat
  | .list k => (rdL st k).elim 0 List.length
  | .tup xs => xs.length
  | .rng _ n => n
  | .rngC _ _ n => n
  | .enumL k => (rdL st k).elim 0 List.length
  | .enumT xs => xs.length
  | .zipL j _ => (rdL st j).elim 0 List.length
  | .zipT xs _ => xs.length
  | .str s => s.cps.size
  | .keys k => (rdD st k).elim 0 List.length
  | .items k => (rdD st k).elim 0 List.length
def atO {α : Type} (xs : List α) (i : Nat) : Option (Option α) := some xs[i]?
/-- the i-th turn: some (some x), its item; some none: it stops; none: it can't be told -/
def Sq.at (st : Sto) (i : Nat) : Sq → Option (Option AV)
  | .list k => (rdL st k).bind fun xs => atO xs i
  | .tup xs => atO xs i
  | .rng lo n => some (if i < n then some (.int (lo + i)) else none)
  | .rngC lo c n => some (if i < n then some (.int (lo + i * c)) else none)
  | .enumL k => (rdL st k).bind fun xs => some (xs[i]?.map fun x => .tmp [.int i, x])
  | .enumT xs => some (xs[i]?.map fun x => .tmp [.int i, x])
  | .zipL j k => (rdL st j).bind fun xs => (rdL st k).bind fun ys => match xs[i]?, ys[i]? with
    | some x, some y => some (some (.tmp [x, y]))
    | _, _ => some none
  | .zipT xs ys => match xs[i]?, ys[i]? with
    | some x, some y => some (some (.tmp [x, y]))
    | _, _ => some none
  | .str s => some (s.cps[i]?.map fun c => .str ⟨#[c]⟩)
  | .keys k => (rdD st k).bind fun kvs => some (kvs[i]?.map fun p => p.1)
  | .items k => (rdD st k).bind fun kvs => some (kvs[i]?.map fun p => .tmp [p.1, p.2])
/-- behind a turn's body: on, out, or away -/
def step (f : Fl) (k : Ev → Sto → Fl) : Fl := match f with
  | .nx env st => k env st
  | .ct env st => k env st
  | .bk env st => .nx env st
  | .rt v st => .rt v st
  | .ex e st => .ex e st
  | .bad => .bad
/-- the turns from the i-th on -/
def turns (q : Sq) (g : MG) (b : MS) : Nat → Nat → Ev → Sto → Fl
  | 0, _, _, _ => .bad
  | f + 1, i, env, st => match q.at st i with
    | none => .bad
    | some none => .nx env st
    | some (some x) => (g x env st).toFl fun env st => step (b env st) (turns q g b f (i + 1))
def msFor (it : MI) (g : MG) (b : MS) : MS := fun env st => (it env st).toFl fun q st => turns q g b (q.len st + 1) 0 env st
def whileN (c : MT) (b : MS) : Nat → Ev → Sto → Fl
  | 0, _, _ => .bad
  | f + 1, env, st => (c env st).toFl fun k st => if k then step (b env st) (whileN c b f) else .nx env st
def FUEL : Nat := 1000
def msWhile (c : MT) (b : MS) : MS := whileN c b FUEL
def wipeE (env : Ev) : List Nat → Ev
  | [] => env
  | i :: r => wipeE (env.set i none) r
/-- a comprehension's turns: acc what is made so far -/
def lcTurns (q : Sq) (g : MG) (t : MT) (e : ME) (env : Ev) : Nat → Nat → List AV → Sto → R (List AV)
  | 0, _, _, _ => .bad
  | f + 1, i, acc, st => match q.at st i with
    | none => .bad
    | some none => .ok acc st
    | some (some x) => (g x env st).bind fun env' st => (t env' st).bind fun k st =>
      if k then (e env' st).bind fun y st => if acc.length < LIM then lcTurns q g t e env f (i + 1) (acc ++ [y]) st else .bad
      else lcTurns q g t e env f (i + 1) acc st
def mLc (it : MI) (g : MG) (t : MT) (e : ME) (own : List Nat) : ME := fun env st => (it env st).bind fun q st =>
  (lcTurns q g t e (wipeE env own) (q.len st + 1) 0 [] st).bind fun acc st => oLst acc st
def mtYes : MT := fun _ st => .ok true st

/-! ### defs -/
def startE (n : Nat) (vs : List AV) : Ev := vs.map some ++ List.replicate (n - vs.length) none
def fin (f : Fl) : R AV := match f with
  | .nx _ st => .ok .non st
  | .rt v st => .ok v st
  | .ex e st => .ex e st
  | _ => .bad
/-- a def of n names, k of them parameters -/
def fn (n k : Nat) (b : MS) : ON := fun vs st => if vs.length = k then gc st (fin (b (startE n vs) st)) else .bad
end Y
set_option Elab.async false
set_option linter.all false
set_option maxRecDepth 100000
/-! Y2: how abstract values and the store lie in the heap; what is wanted behind a run -/
namespace Y
open PySem PySem.Spec L2
open PyProof.Rows hiding St

/-- the written part, and where the classes stand -/
structure GK where
  K : PySem.W.Frag
  cm : Nat → Addr

/-- no tuple, no list that stands as it is -/
def NotT (o : HO) : Prop := (∀ xs, o ≠ .tup xs) ∧ (∀ ob xs, o ≠ .frz ob (.tup xs)) ∧ ∀ ob xs, o ≠ .frz ob (.lst xs)
theorem NotT.lst {xs : List V} : NotT (.lst xs) := ⟨(fun _ h => nomatch h), (fun _ _ h => nomatch h), (fun _ _ h => nomatch h)⟩
theorem NotT.frzK {o : Obj} {xs} : NotT (.frz o (.dK xs)) := ⟨(fun _ h => nomatch h), (fun _ _ h => nomatch h), (fun _ _ h => nomatch h)⟩
/-- a list that stands as it is -/
def SqF (K : PySem.W.Frag) (H : Hp) (a : Addr) (xs : List V) : Prop := (∃ o, H a = some (.frz o (.lst xs))) ∨
    ∃ (o : Obj) (its : Array Value) (n : Nat), K.lookup a = some o ∧ o.cls = .type "list" ∧ o.dict = none ∧ o.data = .seq its n ∧ its.size ≤ sizeLine ∧ Vals xs its.toList
theorem SqF.seq {K : PySem.W.Frag} {H : Hp} {a : Addr} {xs : List V} (h : SqF K H a xs) : SqL K H a xs := h.elim (fun h => .inl (.inr h)) .inr
theorem NotT.dK {xs} : NotT (.dK xs) := ⟨(fun _ h => nomatch h), (fun _ _ h => nomatch h), (fun _ _ h => nomatch h)⟩
theorem NotT.ins {C dx fs} : NotT (.ins C dx fs) := ⟨(fun _ h => nomatch h), (fun _ _ h => nomatch h), (fun _ _ h => nomatch h)⟩

/-- a plain tuple that stands as it is -/
def SqP (K : PySem.W.Frag) (H : Hp) (a : Addr) (xs : List V) : Prop := (∃ o, H a = some (.frz o (.tup xs)) ∧ o.cls = .type "tuple" ∧ o.dict = none) ∨
    ∃ (o : Obj) (its : Array Value) (n : Nat), K.lookup a = some o ∧ o.cls = .type "tuple" ∧ o.dict = none ∧ o.data = .seq its n ∧ its.size ≤ sizeLine ∧ Vals xs its.toList
theorem SqP.seq {K : PySem.W.Frag} {H : Hp} {a : Addr} {xs : List V} (h : SqP K H a xs) : SqT K H a xs :=
  h.elim (fun ⟨o, h, _⟩ => .inl (.inr ⟨o, h⟩)) fun ⟨o, its, n, h1, h2, _, h3⟩ => .inr ⟨o, its, n, h1, h2, h3⟩
mutual
inductive Rep (K : PySem.W.Frag) (H : Hp) (ρ : Nat → Addr) (n : Nat) : AV → V → Prop
  | non : Rep K H ρ n .non .non
  | bl (b : Bool) : Rep K H ρ n (.bl b) (.bl b)
  | int (i : Int) : Rep K H ρ n (.int i) (.int i)
  | str (s : Str) : Rep K H ρ n (.str s) (.str s)
  | loc {k : Nat} : k < n → Rep K H ρ n (.loc k) (.ref (ρ k))
  | tup {a : Addr} {ys : List V} {xs : List AV} : SqP K H a ys → RepL K H ρ n xs ys → Rep K H ρ n (.tup xs) (.ref a)
  | tmp {a : Addr} {ys : List V} {xs : List AV} : SqT K H a ys → RepL K H ρ n xs ys → Rep K H ρ n (.tmp xs) (.ref a)
  | frl {a : Addr} {ys : List V} {xs : List AV} : SqF K H a ys → RepL K H ρ n xs ys → Rep K H ρ n (.frl xs) (.ref a)
inductive RepL (K : PySem.W.Frag) (H : Hp) (ρ : Nat → Addr) (n : Nat) : List AV → List V → Prop
  | nil : RepL K H ρ n [] []
  | cons {v : AV} {x : V} {vs : List AV} {xs : List V} : Rep K H ρ n v x → RepL K H ρ n vs xs → RepL K H ρ n (v :: vs) (x :: xs)
end

def keyAV : Key → AV
  | .inl i => .int i
  | .inr s => .str s
/-- the object at a lies there with the values ys -/
def Shape (G : GK) (H : Hp) (a : Addr) (ys : List V) : Ob → Prop
  | .lst _ => H a = some (.lst ys)
  | .dct kvs => ∃ ks : List (Key × V), H a = some (.dK ks) ∧ kvs.map (·.1) = ks.map (fun p => keyAV p.1) ∧ ys = ks.map (·.2)
  | .fdc kvs => ∃ (o : Obj) (ks : List (Key × V)), H a = some (.frz o (.dK ks)) ∧ kvs.map (·.1) = ks.map (fun p => keyAV p.1) ∧ ys = ks.map (·.2)
  | .ins c fs => ∃ (dx : Addr) (gs : List (Str × V)), H a = some (.ins (G.cm c) dx gs) ∧ fs.map (·.1) = gs.map (·.1) ∧ ys = gs.map (·.2)
theorem Shape.notT {G : GK} {H : Hp} {a : Addr} {ys : List V} : ∀ {o : Ob}, Shape G H a ys o → ∃ u, H a = some u ∧ NotT u
  | .lst _, h => ⟨_, h, .lst⟩
  | .dct _, ⟨_, h, _⟩ => ⟨_, h, .dK⟩
  | .fdc _, ⟨_, _, h, _⟩ => ⟨_, h, .frzK⟩
  | .ins _ _, ⟨_, _, h, _⟩ => ⟨_, h, .ins⟩

structure RepS (G : GK) (H : Hp) (ρ : Nat → Addr) (st : Sto) : Prop where
  ob : ∀ k o, st[k]? = some o → ∃ ys, Shape G H (ρ k) ys o ∧ RepL G.K H ρ st.length o.vals ys
  inj : ∀ j k, j < st.length → k < st.length → ρ j = ρ k → j = k

structure Ext (H : Hp) (ρ : Nat → Addr) (n : Nat) (H' : Hp) (ρ' : Nat → Addr) (n' : Nat) : Prop where
  le : n ≤ n'
  ag : ∀ k, k < n → ρ' k = ρ k
  fr : ∀ a o, H a = some o → (∀ k, k < n → ρ k ≠ a) → H' a = some o
  nw : ∀ k, n ≤ k → k < n' → H (ρ' k) = none
  kp : ∀ a o, H a = some o → ∃ o', H' a = some o'
  fz : ∀ a ob u, H a = some (.frz ob u) → H' a = some (.frz ob u)

section
variable {G : GK} {K : PySem.W.Frag} {H H1 H2 : Hp} {ρ ρ1 ρ2 : Nat → Addr} {n n1 n2 : Nat} {st st1 : Sto}
theorem Ext.refl : Ext H ρ n H ρ n := ⟨Nat.le_refl _, fun _ _ => rfl, fun _ _ h _ => h, fun _ h1 h2 => absurd h1 (Nat.not_le.mpr h2), fun _ o h => ⟨o, h⟩, fun _ _ _ h => h⟩
theorem Ext.trans (a : Ext H ρ n H1 ρ1 n1) (b : Ext H1 ρ1 n1 H2 ρ2 n2) : Ext H ρ n H2 ρ2 n2 where
  le := Nat.le_trans a.le b.le
  ag := fun k h => (b.ag k (Nat.lt_of_lt_of_le h a.le)).trans (a.ag k h)
  fr := fun c o h hk => b.fr c o (a.fr c o h hk) fun k h1 e => by
    by_cases hkn : k < n
    · exact hk k hkn (by rw [← a.ag k hkn]; exact e)
    · have := a.nw k (Nat.le_of_not_lt hkn) h1
      rw [e, h] at this
      cases this
  nw := fun k h1 h2 => by
    by_cases hk : k < n1
    · rw [b.ag k hk]; exact a.nw k h1 hk
    · have z := b.nw k (Nat.le_of_not_lt hk) h2
      cases e : H (ρ2 k) with
      | none => rfl
      | some o =>
        obtain ⟨o', h'⟩ := a.kp _ _ e
        rw [z] at h'
        cases h'
  kp := fun c o h => let ⟨o1, h1⟩ := a.kp c o h; b.kp c o1 h1
  fz := fun c ob u h => b.fz c ob u (a.fz c ob u h)

theorem RepS.notT (s : RepS G H ρ st) {k : Nat} (hk : k < st.length) : ∃ u, H (ρ k) = some u ∧ NotT u := by
  obtain ⟨ys, sh, _⟩ := s.ob k st[k] (List.getElem?_eq_getElem hk)
  exact sh.notT
theorem RepS.ne (s : RepS G H ρ st) {a : Addr} {o : HO} (h : H a = some o) (n : ¬ NotT o) : ∀ k, k < st.length → ρ k ≠ a := fun k hk z => by
  obtain ⟨u, e, q⟩ := s.notT hk
  rw [z, h] at e
  cases e
  exact n q
/-- what never changes stands -/
structure Tups (K : PySem.W.Frag) (H H1 : Hp) : Prop where
  p : ∀ a ys, SqP K H a ys → SqP K H1 a ys
  t : ∀ a ys, SqT K H a ys → SqT K H1 a ys
  f : ∀ a ys, SqF K H a ys → SqF K H1 a ys
theorem tups_of (h : ∀ a o, H a = some o → ¬ NotT o → H1 a = some o) : Tups K H H1 := by
  refine ⟨fun a ys q => ?_, fun a ys q => ?_, fun a ys q => ?_⟩
  · rcases q with ⟨o, q, r⟩ | q
    · exact .inl ⟨o, h _ _ q fun z => z.2.1 _ _ rfl, r⟩
    · exact .inr q
  · rcases q with (q | ⟨o, q⟩) | q
    · exact .inl (.inl (h _ _ q fun z => z.1 _ rfl))
    · exact .inl (.inr ⟨o, h _ _ q fun z => z.2.1 _ _ rfl⟩)
    · exact .inr q
  · rcases q with ⟨o, q⟩ | q
    · exact .inl ⟨o, h _ _ q fun z => z.2.2 _ _ rfl⟩
    · exact .inr q
theorem Ext.tups (s : RepS G H ρ st) (e : Ext H ρ st.length H1 ρ1 n1) : Tups K H H1 := tups_of fun a o h n => e.fr a o h (s.ne h n)
mutual
theorem rep_mv (t : Tups K H H1) (hl : n ≤ n1) (ag : ∀ k, k < n → ρ1 k = ρ k) : ∀ (v : AV) (x : V), Rep K H ρ n v x → Rep K H1 ρ1 n1 v x
  | .non, _, h => by cases h; exact .non
  | .bl b, _, h => by cases h; exact .bl b
  | .int i, _, h => by cases h; exact .int i
  | .str s, _, h => by cases h; exact .str s
  | .loc k, _, h => by
    cases h with
    | loc hk =>
      rw [← ag k hk]
      exact .loc (Nat.lt_of_lt_of_le hk hl)
  | .tup xs, _, h => by
    cases h with
    | tup hs hr => exact .tup (t.p _ _ hs) (repL_mv t hl ag _ _ hr)
  | .tmp xs, _, h => by
    cases h with
    | tmp hs hr => exact .tmp (t.t _ _ hs) (repL_mv t hl ag _ _ hr)
  | .frl xs, _, h => by
    cases h with
    | frl hs hr => exact .frl (t.f _ _ hs) (repL_mv t hl ag _ _ hr)
theorem repL_mv (t : Tups K H H1) (hl : n ≤ n1) (ag : ∀ k, k < n → ρ1 k = ρ k) : ∀ (v : List AV) (x : List V), RepL K H ρ n v x → RepL K H1 ρ1 n1 v x
  | [], _, h => by cases h; exact .nil
  | v :: vs, _, h => by
    cases h with
    | cons h1 h2 => exact .cons (rep_mv t hl ag _ _ h1) (repL_mv t hl ag _ _ h2)
end
theorem Rep.ext (s : RepS G H ρ st) (e : Ext H ρ st.length H1 ρ1 n1) {v : AV} {x : V} (h : Rep G.K H ρ st.length v x) : Rep G.K H1 ρ1 n1 v x := rep_mv (e.tups s) e.le e.ag v x h
theorem RepL.ext (s : RepS G H ρ st) (e : Ext H ρ st.length H1 ρ1 n1) {v : List AV} {x : List V} (h : RepL G.K H ρ st.length v x) : RepL G.K H1 ρ1 n1 v x := repL_mv (e.tups s) e.le e.ag v x h
theorem RepL.length : ∀ {v : List AV} {x : List V}, RepL K H ρ n v x → v.length = x.length
  | [], _, h => by cases h; rfl
  | v :: vs, _, h => by
    cases h with
    | cons h1 h2 => rw [List.length_cons, List.length_cons, RepL.length h2]
theorem RepL.get : ∀ {vs : List AV} {xs : List V} {i : Nat} {v : AV}, RepL K H ρ n vs xs → vs[i]? = some v → ∃ x, xs[i]? = some x ∧ Rep K H ρ n v x
  | [], _, i, _, h, e => by simp at e
  | w :: vs, _, i, v, h, e => by
    cases h with
    | cons h1 h2 =>
      cases i with
      | zero => exact ⟨_, rfl, by simp at e; rw [← e]; exact h1⟩
      | succ i =>
        obtain ⟨x, e1, r⟩ := RepL.get (i := i) h2 (by simpa using e)
        exact ⟨x, by simpa using e1, r⟩
theorem RepL.append : ∀ {vs ws : List AV} {xs ys : List V}, RepL K H ρ n vs xs → RepL K H ρ n ws ys → RepL K H ρ n (vs ++ ws) (xs ++ ys)
  | [], _, _, _, h, q => by cases h; exact q
  | v :: vs, _, _, _, h, q => by
    cases h with
    | cons h1 h2 => exact .cons h1 (RepL.append h2 q)
theorem RepL.set {v : AV} {x : V} (r : Rep K H ρ n v x) : ∀ {vs : List AV} {xs : List V} (i : Nat), RepL K H ρ n vs xs → RepL K H ρ n (vs.set i v) (xs.set i x)
  | [], _, i, h => by cases h; exact .nil
  | w :: vs, _, i, h => by
    cases h with
    | cons h1 h2 =>
      cases i with
      | zero => exact .cons r h2
      | succ i => exact .cons h1 (RepL.set r i h2)
theorem RepL.drop : ∀ {vs : List AV} {xs : List V} (i : Nat), RepL K H ρ n vs xs → RepL K H ρ n (vs.drop i) (xs.drop i)
  | _, _, 0, h => h
  | [], _, i + 1, h => by cases h; exact .nil
  | w :: vs, _, i + 1, h => by
    cases h with
    | cons h1 h2 => exact RepL.drop i h2
theorem RepL.take : ∀ {vs : List AV} {xs : List V} (i : Nat), RepL K H ρ n vs xs → RepL K H ρ n (vs.take i) (xs.take i)
  | _, _, 0, h => .nil
  | [], _, i + 1, h => by cases h; exact .nil
  | w :: vs, _, i + 1, h => by
    cases h with
    | cons h1 h2 => exact .cons h1 (RepL.take i h2)
theorem RepL.rev : ∀ {vs : List AV} {xs : List V}, RepL K H ρ n vs xs → RepL K H ρ n vs.reverse xs.reverse
  | [], _, h => by cases h; exact .nil
  | w :: vs, _, h => by
    cases h with
    | cons h1 h2 =>
      rw [List.reverse_cons, List.reverse_cons]
      exact RepL.append (RepL.rev h2) (.cons h1 .nil)
theorem RepL.erase : ∀ {vs : List AV} {xs : List V} (i : Nat), RepL K H ρ n vs xs → RepL K H ρ n (vs.eraseIdx i) (xs.eraseIdx i)
  | [], _, i, h => by cases h; exact .nil
  | w :: vs, _, i, h => by
    cases h with
    | cons h1 h2 =>
      cases i with
      | zero => exact h2
      | succ i => exact .cons h1 (RepL.erase i h2)
theorem RepL.one {v : AV} {xs : List V} (h : RepL K H ρ n [v] xs) : ∃ x, xs = [x] ∧ Rep K H ρ n v x := by
  cases h with
  | cons h1 h2 => cases h2; exact ⟨_, rfl, h1⟩
theorem RepL.two {v w : AV} {xs : List V} (h : RepL K H ρ n [v, w] xs) : ∃ x y, xs = [x, y] ∧ Rep K H ρ n v x ∧ Rep K H ρ n w y := by
  cases h with
  | cons h1 h2 =>
    obtain ⟨y, rfl, r⟩ := h2.one
    exact ⟨_, _, rfl, h1, r⟩
theorem RepL.three {v w u : AV} {xs : List V} (h : RepL K H ρ n [v, w, u] xs) : ∃ x y z, xs = [x, y, z] ∧ Rep K H ρ n v x ∧ Rep K H ρ n w y ∧ Rep K H ρ n u z := by
  cases h with
  | cons h1 h2 =>
    obtain ⟨y, z, rfl, r, r2⟩ := h2.two
    exact ⟨_, _, _, rfl, h1, r, r2⟩

/-! ### the names -/
def RepE (K : PySem.W.Frag) (H : Hp) (ρ : Nat → Addr) (n : Nat) (env : Ev) (σ : St) : Prop :=
  env.length = σ.length ∧ ∀ (i : Nat) (v : AV), env[i]? = some (some v) → ∃ x, σ[i]? = some (some x) ∧ Rep K H ρ n v x
theorem RepE.ext {env : Ev} {σ : St} (s : RepS G H ρ st) (e : Ext H ρ st.length H1 ρ1 n1) (h : RepE G.K H ρ st.length env σ) : RepE G.K H1 ρ1 n1 env σ :=
  ⟨h.1, fun i v hv => let ⟨x, e1, r⟩ := h.2 i v hv; ⟨x, e1, r.ext s e⟩⟩
theorem RepE.set {env : Ev} {σ : St} {v : AV} {x : V} (h : RepE K H ρ n env σ) (i : Nat) (r : Rep K H ρ n v x) : RepE K H ρ n (env.set i (some v)) (σ.set i (some x)) := by
  refine ⟨by rw [List.length_set, List.length_set]; exact h.1, fun j w hw => ?_⟩
  by_cases e : i = j
  · subst e
    by_cases hi : i < env.length
    · rw [List.getElem?_set_self hi] at hw
      cases hw
      exact ⟨x, List.getElem?_set_self (h.1 ▸ hi), r⟩
    · have z : (env.set i (some v))[i]? = none := List.getElem?_eq_none (by rw [List.length_set]; exact Nat.le_of_not_lt hi)
      rw [z] at hw; cases hw
  · rw [List.getElem?_set_ne e] at hw ⊢
    exact h.2 j w hw
theorem RepE.forget {env : Ev} {σ : St} (h : RepE K H ρ n env σ) (i : Nat) : RepE K H ρ n (env.set i none) (σ.set i none) := by
  refine ⟨by rw [List.length_set, List.length_set]; exact h.1, fun j w hw => ?_⟩
  by_cases e : i = j
  · subst e
    by_cases hi : i < env.length
    · rw [List.getElem?_set_self hi] at hw
      cases hw
    · have z : (env.set i none)[i]? = none := List.getElem?_eq_none (by rw [List.length_set]; exact Nat.le_of_not_lt hi)
      rw [z] at hw; cases hw
  · rw [List.getElem?_set_ne e] at hw ⊢
    exact h.2 j w hw

/-! ### making and changing objects -/
theorem shape_mv {a : Addr} {ys : List V} (e : H1 a = H a) : ∀ {o : Ob}, Shape G H a ys o → Shape G H1 a ys o
  | .lst _, h => e.trans h
  | .dct _, ⟨ks, h, r⟩ => ⟨ks, e.trans h, r⟩
  | .fdc _, ⟨o, ks, h, r⟩ => ⟨o, ks, e.trans h, r⟩
  | .ins _ _, ⟨dx, gs, h, r⟩ => ⟨dx, gs, e.trans h, r⟩
/-- our objects lie as they lay, what never changes stands -/
theorem RepS.mv (s : RepS G H ρ st) (e : ∀ k, k < st.length → H1 (ρ k) = H (ρ k)) (t : Tups G.K H H1) : RepS G H1 ρ st := by
  refine ⟨fun k ob hk => ?_, s.inj⟩
  obtain ⟨ys, sh, r⟩ := s.ob k ob hk
  exact ⟨ys, shape_mv (e k (List.getElem?_eq_some_iff.mp hk).1) sh, repL_mv t (Nat.le_refl _) (fun _ _ => rfl) _ _ r⟩
theorem tups_new {p : Addr} {o : HO} (h : H p = none) : Tups K H (upd H p o) := tups_of fun a u q _ => by rw [upd_ne (ne_of_none q h)]; exact q
theorem tups_at {p : Addr} {o u : HO} (h : H p = some u) (n : NotT u) : Tups K H (upd H p o) := tups_of fun a w q nw => by
  rw [upd_ne]
  · exact q
  · intro z
    rw [z, h] at q
    cases q
    exact nw n
theorem RepS.ne_new (s : RepS G H ρ st) {p : Addr} (hp : H p = none) : ∀ k, k < st.length → ρ k ≠ p := fun k hk z => by
  obtain ⟨u, e, _⟩ := s.notT hk
  rw [z, hp] at e
  cases e
/-- something that is no object of ours is laid -/
theorem RepS.lay {p : Addr} {o : HO} (s : RepS G H ρ st) (hp : H p = none) : RepS G (upd H p o) ρ st :=
  s.mv (fun k hk => upd_ne (s.ne_new hp k hk)) (tups_new hp)
theorem Ext.lay {p : Addr} {o : HO} (hp : H p = none) : Ext H ρ n (upd H p o) ρ n :=
  ⟨Nat.le_refl _, fun _ _ => rfl, fun a u h _ => by rw [upd_ne (ne_of_none h hp)]; exact h, fun _ h1 h2 => absurd h1 (Nat.not_le.mpr h2), fun a u h => ⟨u, by rw [upd_ne (ne_of_none h hp)]; exact h⟩, fun a ob u h => by rw [upd_ne (ne_of_none h hp)]; exact h⟩
/-- the addresses with one more -/
def more (ρ : Nat → Addr) (n : Nat) (p : Addr) : Nat → Addr := fun k => if k = n then p else ρ k
theorem more_at {p : Addr} : more ρ n p n = p := by unfold more; rw [if_pos rfl]
theorem more_lt {p : Addr} {k : Nat} (h : k < n) : more ρ n p k = ρ k := by unfold more; rw [if_neg (Nat.ne_of_lt h)]
/-- what stands at p is taken in as a new object of ours -/
theorem RepS.take_in {p : Addr} {ob : Ob} {ys : List V} (s : RepS G H ρ st) (hp : ∀ k, k < st.length → ρ k ≠ p) (sh : Shape G H p ys ob) (r : RepL G.K H ρ st.length ob.vals ys) : RepS G H (more ρ st.length p) (st ++ [ob]) := by
  have up : ∀ (vs : List AV) (xs : List V), RepL G.K H ρ st.length vs xs → RepL G.K H (more ρ st.length p) (st ++ [ob]).length vs xs := fun vs xs q =>
    repL_mv ⟨fun _ _ h => h, fun _ _ h => h, fun _ _ h => h⟩ (by simp) (fun k h => more_lt h) _ _ q
  refine ⟨fun k o hk => ?_, fun j k hj hk e => ?_⟩
  · rcases Nat.lt_or_ge k st.length with h | h
    · rw [List.getElem?_append_left h] at hk
      obtain ⟨zs, sh', r'⟩ := s.ob k o hk
      exact ⟨zs, by rw [more_lt h]; exact sh', up _ _ r'⟩
    · rw [List.getElem?_append_right h] at hk
      have e0 : k - st.length = 0 := by
        have := (List.getElem?_eq_some_iff.mp hk).1
        simp at this
        exact this
      have ek : k = st.length := by omega
      rw [e0] at hk
      have eo : ob = o := by simpa using hk
      subst eo
      rw [ek, more_at]
      exact ⟨ys, sh, up _ _ r⟩
  · rw [List.length_append] at hj hk
    have hj : j < st.length + 1 := hj
    have hk : k < st.length + 1 := hk
    rcases Nat.lt_or_ge j st.length with h1 | h1 <;> rcases Nat.lt_or_ge k st.length with h2 | h2
    · rw [more_lt h1, more_lt h2] at e
      exact s.inj j k h1 h2 e
    · have : k = st.length := by omega
      rw [more_lt h1, this, more_at] at e
      exact absurd e (hp j h1)
    · have : j = st.length := by omega
      rw [more_lt h2, this, more_at] at e
      exact absurd e.symm (hp k h2)
    · omega
theorem Ext.take_in {p : Addr} (e : Ext H ρ n H1 ρ1 n1) (hp : H p = none) : Ext H ρ n H1 (more ρ1 n1 p) (n1 + 1) where
  le := Nat.le_succ_of_le e.le
  ag := fun k h => by rw [more_lt (Nat.lt_of_lt_of_le h e.le)]; exact e.ag k h
  fr := e.fr
  nw := fun k h1 h2 => by
    rcases Nat.lt_or_ge k n1 with h | h
    · rw [more_lt h]; exact e.nw k h1 h
    · rw [show k = n1 by omega, more_at]; exact hp
  kp := e.kp
  fz := e.fz
/-- a new object is laid -/
theorem RepS.new {p : Addr} {o : HO} {ob : Ob} {ys : List V} (s : RepS G H ρ st) (hp : H p = none) (sh : Shape G (upd H p o) p ys ob) (r : RepL G.K H ρ st.length ob.vals ys) : RepS G (upd H p o) (more ρ st.length p) (st ++ [ob]) :=
  (s.lay hp).take_in (s.ne_new hp) sh (repL_mv (tups_new hp) (Nat.le_refl _) (fun _ _ => rfl) _ _ r)
theorem Ext.new {p : Addr} {o : HO} (hp : H p = none) : Ext H ρ n (upd H p o) (more ρ n p) (n + 1) := (Ext.lay hp).take_in hp
/-- an object of ours is changed -/
theorem RepS.put {k : Nat} {o u : HO} {ob : Ob} {ys : List V} (s : RepS G H ρ st) (hk : k < st.length) (h : H (ρ k) = some u) (sh : Shape G (upd H (ρ k) o) (ρ k) ys ob) (r : RepL G.K H ρ st.length ob.vals ys) : RepS G (upd H (ρ k) o) ρ (st.set k ob) := by
  have nt : NotT u := by
    obtain ⟨w, e, q⟩ := s.notT hk
    rw [h] at e; cases e; exact q
  have t : Tups G.K H (upd H (ρ k) o) := tups_at h nt
  have up : ∀ (vs : List AV) (xs : List V), RepL G.K H ρ st.length vs xs → RepL G.K (upd H (ρ k) o) ρ (st.set k ob).length vs xs := fun vs xs q =>
    repL_mv t (by rw [List.length_set]; exact Nat.le_refl _) (fun _ _ => rfl) _ _ q
  refine ⟨fun j w hj => ?_, fun i j hi hj e => s.inj i j (by simpa using hi) (by simpa using hj) e⟩
  by_cases e : k = j
  · subst e
    rw [List.getElem?_set_self hk] at hj
    cases hj
    exact ⟨ys, sh, up _ _ r⟩
  · rw [List.getElem?_set_ne e] at hj
    obtain ⟨zs, sh', r'⟩ := s.ob j w hj
    exact ⟨zs, shape_mv (upd_ne fun z => e (s.inj j k (List.getElem?_eq_some_iff.mp hj).1 hk z).symm) sh', up _ _ r'⟩
theorem Ext.put {k : Nat} {o u : HO} (hk : k < n) (h : H (ρ k) = some u) (hf : ∀ ob w, u ≠ .frz ob w) : Ext H ρ n (upd H (ρ k) o) ρ n where
  le := Nat.le_refl _
  ag := fun _ _ => rfl
  fr := fun a w q ha => by rw [upd_ne fun z => ha k hk z.symm]; exact q
  nw := fun _ h1 h2 => absurd h1 (Nat.not_le.mpr h2)
  kp := fun a w q => by
    by_cases z : a = ρ k
    · exact ⟨o, by rw [z, upd_same]⟩
    · exact ⟨w, by rw [upd_ne z]; exact q⟩
  fz := fun a ob w q => by
    rw [upd_ne]
    · exact q
    · intro z
      rw [z, h] at q
      cases q
      exact hf _ _ rfl

/-! ### what is wanted behind a run -/
abbrev EX := Xn → (Nat → Addr) → Sto → Hp → Prop
def E00 : EX := fun _ _ _ _ => False
abbrev Rl (α χ : Type) := Hp → (Nat → Addr) → Nat → α → χ → Prop
def Post {α χ : Type} (G : GK) (E : EX) (H : Hp) (ρ : Nat → Addr) (n : Nat) (Rel : Rl α χ) (r : R α) (Q : χ → Hp → Prop) : Prop := match r with
  | .ok v st => ∀ H' ρ' x, Ext H ρ n H' ρ' st.length → RepS G H' ρ' st → Rel H' ρ' st.length v x → Q x H'
  | .ex e st => ∀ H' ρ', Ext H ρ n H' ρ' st.length → RepS G H' ρ' st → E e ρ' st H'
  | .bad => False
def PostS (G : GK) (E : EX) (H : Hp) (ρ : Nat → Addr) (n : Nat) (f : Fl) (D : Ends) : Prop := match f with
  | .nx env st => ∀ H' ρ' σ', Ext H ρ n H' ρ' st.length → RepS G H' ρ' st → RepE G.K H' ρ' st.length env σ' → D.nx σ' H'
  | .bk env st => ∀ H' ρ' σ', Ext H ρ n H' ρ' st.length → RepS G H' ρ' st → RepE G.K H' ρ' st.length env σ' → D.bk σ' H'
  | .ct env st => ∀ H' ρ' σ', Ext H ρ n H' ρ' st.length → RepS G H' ρ' st → RepE G.K H' ρ' st.length env σ' → D.ct σ' H'
  | .rt v st => ∀ H' ρ' x, Ext H ρ n H' ρ' st.length → RepS G H' ρ' st → Rep G.K H' ρ' st.length v x → D.rt x H'
  | .ex e st => ∀ H' ρ', Ext H ρ n H' ρ' st.length → RepS G H' ρ' st → E e ρ' st H'
  | .bad => False
variable {E : EX} {α β χ ψ : Type}
theorem Post.lift {Rel : Rl α χ} {r : R α} {Q : χ → Hp → Prop} (e : Ext H ρ n H1 ρ1 n1) (h : Post G E H ρ n Rel r Q) : Post G E H1 ρ1 n1 Rel r Q := by
  cases r with
  | ok v st => exact fun H' ρ' x e' s q => h H' ρ' x (e.trans e') s q
  | ex u st => exact fun H' ρ' e' s => h H' ρ' (e.trans e') s
  | bad => exact h
theorem PostS.lift {f : Fl} {D : Ends} (e : Ext H ρ n H1 ρ1 n1) (h : PostS G E H ρ n f D) : PostS G E H1 ρ1 n1 f D := by
  cases f with
  | nx v st => exact fun H' ρ' x e' s q => h H' ρ' x (e.trans e') s q
  | bk v st => exact fun H' ρ' x e' s q => h H' ρ' x (e.trans e') s q
  | ct v st => exact fun H' ρ' x e' s q => h H' ρ' x (e.trans e') s q
  | rt v st => exact fun H' ρ' x e' s q => h H' ρ' x (e.trans e') s q
  | ex u st => exact fun H' ρ' e' s => h H' ρ' (e.trans e') s
  | bad => exact h
theorem Post.at {Rel : Rl α χ} {v : α} {x : χ} {Q : χ → Hp → Prop} (h : Post G E H ρ st.length Rel (.ok v st) Q) (s : RepS G H ρ st) (q : Rel H ρ st.length v x) : Q x H := h H ρ x .refl s q
/-- first r, then f -/
theorem Post.bindI {RelA : Rl α χ} {RelB : Rl β ψ} {r : R α} {f : α → Sto → R β} {QB : ψ → Hp → Prop} {QA : χ → Hp → Prop} (h : Post G E H ρ n RelB (r.bind f) QB)
    (k : ∀ v st' H' ρ' x, Ext H ρ n H' ρ' st'.length → RepS G H' ρ' st' → RelA H' ρ' st'.length v x → Post G E H' ρ' st'.length RelB (f v st') QB → QA x H') : Post G E H ρ n RelA r QA := by
  cases r with
  | ok v st => exact fun H' ρ' x e s q => k v st H' ρ' x e s q (Post.lift e h)
  | ex u st => exact h
  | bad => exact h
theorem PostS.toI {RelA : Rl α χ} {r : R α} {f : α → Sto → Fl} {D : Ends} {QA : χ → Hp → Prop} (h : PostS G E H ρ n (r.toFl f) D)
    (k : ∀ v st' H' ρ' x, Ext H ρ n H' ρ' st'.length → RepS G H' ρ' st' → RelA H' ρ' st'.length v x → PostS G E H' ρ' st'.length (f v st') D → QA x H') : Post G E H ρ n RelA r QA := by
  cases r with
  | ok v st => exact fun H' ρ' x e s q => k v st H' ρ' x e s q (PostS.lift e h)
  | ex u st => exact h
  | bad => exact h
theorem Post.imp {RelA : Rl α χ} {r : R α} {Q Q' : χ → Hp → Prop} (h : Post G E H ρ n RelA r Q) (k : ∀ v st' H' ρ' x, Ext H ρ n H' ρ' st'.length → RepS G H' ρ' st' → RelA H' ρ' st'.length v x → Q x H' → Q' x H') : Post G E H ρ n RelA r Q' := by
  cases r with
  | ok v st => exact fun H' ρ' x e s q => k v st H' ρ' x e s q (h H' ρ' x e s q)
  | ex u st => exact h
  | bad => exact h
/-- a value, a test, arguments -/
def rV (K : PySem.W.Frag) : Rl AV V := fun H ρ n v x => Rep K H ρ n v x
def rB : Rl Bool Bool := fun _ _ _ b c => c = b
def rVs (K : PySem.W.Frag) : Rl (List AV) (List V) := fun H ρ n v x => RepL K H ρ n v x
def rUn : Rl Unit Unit := fun _ _ _ _ _ => True

/-! ### the readings -/
def tE (G : GK) (E : EX) (m : ME) : TE := fun σ H Q => ∃ ρ st env, RepS G H ρ st ∧ RepE G.K H ρ st.length env σ ∧ Post G E H ρ st.length (rV G.K) (m env st) Q
def tT (G : GK) (E : EX) (m : MT) : TT := fun σ H Q => ∃ ρ st env, RepS G H ρ st ∧ RepE G.K H ρ st.length env σ ∧ Post G E H ρ st.length rB (m env st) Q
def tA (G : GK) (E : EX) (m : MA) : TA := fun σ H Q => ∃ ρ st env, RepS G H ρ st ∧ RepE G.K H ρ st.length env σ ∧ Post G E H ρ st.length (rVs G.K) (m env st) Q
def tS (G : GK) (E : EX) (m : MS) : TS := fun D σ H => ∃ ρ st env, RepS G H ρ st ∧ RepE G.K H ρ st.length env σ ∧ PostS G E H ρ st.length (m env st) D
/-- names stored: what else there is stays -/
def rG (K : PySem.W.Frag) (sl : List Nat) (σ : St) : Rl Ev St := fun H ρ n env σ' => RepE K H ρ n env σ' ∧ σ'.length = σ.length ∧ ∀ (i : Nat), i ∉ sl → σ'[i]? = σ[i]?
def tG (G : GK) (E : EX) (sl : List Nat) (m : MG) : TG := fun x σ H Q => ∃ ρ st env v, RepS G H ρ st ∧ RepE G.K H ρ st.length env σ ∧ Rep G.K H ρ st.length v x ∧ Post G E H ρ st.length (rG G.K sl σ) (m v env st) Q
def tGs (G : GK) (E : EX) (sl : List Nat) (gs : List MG) : TGs := fun xs σ H Q => ∃ ρ st env vs, RepS G H ρ st ∧ RepE G.K H ρ st.length env σ ∧ RepL G.K H ρ st.length vs xs ∧ Post G E H ρ st.length (rG G.K sl σ) (mgs gs vs env st) Q

theorem PE.weak {X : Cx} {e : Expr} {t u : TE} (h : PE X e t) (w : ∀ σ H Q, u σ H Q → t σ H Q) : PE X e u := ⟨fun pins s σ H Q I q => h.run pins s σ H Q I (w _ _ _ q)⟩
theorem PT.weak {X : Cx} {e : Expr} {t u : TT} (h : PT X e t) (w : ∀ σ H Q, u σ H Q → t σ H Q) : PT X e u := ⟨fun pins s σ H Q I q => h.run pins s σ H Q I (w _ _ _ q)⟩
theorem PW.weak {X : Cx} {e : Expr} {t u : TT} (h : PW X e t) (w : ∀ σ H Q, u σ H Q → t σ H Q) : PW X e u := ⟨fun wh pins s σ H Q I q => h.run wh pins s σ H Q I (w _ _ _ q)⟩
theorem PA.weak {X : Cx} {e : List Expr} {t u : TA} (h : PA X e t) (w : ∀ σ H Q, u σ H Q → t σ H Q) : PA X e u := ⟨fun p pins s σ H Q I q => h.run p pins s σ H Q I (w _ _ _ q)⟩
theorem PS.weak {X : Cx} {e : Stmt} {t u : TS} (h : PS X e t) (w : ∀ D σ H, u D σ H → t D σ H) : PS X e u := ⟨fun pins s σ H D I q => h.run pins s σ H D I (w _ _ _ q)⟩
theorem PSs.weak {X : Cx} {e : List Stmt} {t u : TS} (h : PSs X e t) (w : ∀ D σ H, u D σ H → t D σ H) : PSs X e u := ⟨fun pins s σ H D I q => h.run pins s σ H D I (w _ _ _ q)⟩
theorem PG.weak {X : Cx} {e : Expr} {t u : TG} (h : PG X e t) (w : ∀ x σ H Q, u x σ H Q → t x σ H Q) : PG X e u := ⟨fun pins s σ H v z Q I r q => h.run pins s σ H v z Q I r (w _ _ _ _ q)⟩
theorem PGs.weak {X : Cx} {e : List Expr} {t u : TGs} (h : PGs X e t) (w : ∀ x σ H Q, u x σ H Q → t x σ H Q) : PGs X e u := ⟨fun pins s σ H v z Q I r q => h.run pins s σ H v z Q I r (w _ _ _ _ q)⟩
theorem PI.weak {X : Cx} {tg e : Expr} {t u : TI} (h : PI X tg e t) (w : ∀ σ H Q, u σ H Q → t σ H Q) : PI X tg e u := ⟨fun pins s σ H Q I q => h.run pins s σ H Q I (w _ _ _ q)⟩
end
end Y
set_option Elab.async false
set_option linter.all false
set_option maxRecDepth 100000
/-! Y3: cleaning up is sound; the core rules -/
namespace Y
open PySem PySem.Spec L2
open PyProof.Rows hiding St
section
variable {G : GK} {K : PySem.W.Frag} {H H1 H2 : Hp} {ρ ρ1 ρ2 : Nat → Addr} {n n1 n2 : Nat} {st st1 : Sto} {E : EX}
/-! ### gc -/
theorem oldOk_at : ∀ {st0 st : Sto} {k : Nat} {o o' : Ob}, oldOk n st0 st = true → st0[k]? = some o → st[k]? = some o' → o = o' ∨ o'.under n = true
  | [], _, k, o, o', _, h1, _ => by simp at h1
  | a :: r, [], k, o, o', h, _, _ => by simp [oldOk] at h
  | a :: r, b :: q, k, o, o', h, h1, h2 => by
    rw [oldOk, Bool.and_eq_true, Bool.or_eq_true] at h
    cases k with
    | zero =>
      simp at h1 h2
      subst h1 h2
      exact h.1.imp (fun z => Ob.beq_eq _ _ z) id
    | succ k => exact oldOk_at (k := k) h.2 (by simpa using h1) (by simpa using h2)
theorem nodupB_iff : ∀ {l : List Nat}, nodupB l = true → l.Nodup
  | [], _ => List.nodup_nil
  | k :: r, h => by
    rw [nodupB, Bool.and_eq_true] at h
    refine List.nodup_cons.mpr ⟨fun m => ?_, nodupB_iff h.2⟩
    have := h.1
    simp [m] at this
mutual
theorem under_of : ∀ (v : AV) (x : V), Rep K H ρ n v x → AV.under n v = true
  | .non, _, _ => rfl
  | .bl b, _, _ => rfl
  | .int i, _, _ => rfl
  | .str s, _, _ => rfl
  | .loc k, _, h => by
    cases h with
    | loc hk => exact decide_eq_true hk
  | .tup xs, _, h => by
    cases h with
    | tup hs hr => rw [AV.under]; exact underL_of _ _ hr
  | .frl xs, _, h => by
    cases h with
    | frl hs hr => rw [AV.under]; exact underL_of _ _ hr
  | .tmp xs, _, h => by
    cases h with
    | tmp hs hr => rw [AV.under]; exact underL_of _ _ hr
theorem underL_of : ∀ (v : List AV) (x : List V), RepL K H ρ n v x → AV.underL n v = true
  | [], _, _ => rfl
  | v :: vs, _, h => by
    cases h with
    | cons h1 h2 => rw [AV.underL, under_of _ _ h1, underL_of _ _ h2]; rfl
end
mutual
theorem rep_under (hl : n ≤ n2) (ag : ∀ k, k < n → ρ2 k = ρ k) : ∀ (v : AV) (x : V), AV.under n v = true → Rep K H ρ n1 v x → Rep K H ρ2 n2 v x
  | .non, _, _, h => by cases h; exact .non
  | .bl b, _, _, h => by cases h; exact .bl b
  | .int i, _, _, h => by cases h; exact .int i
  | .str s, _, _, h => by cases h; exact .str s
  | .loc k, _, u, h => by
    have hk : k < n := of_decide_eq_true u
    cases h with
    | loc _ =>
      rw [← ag k hk]
      exact .loc (Nat.lt_of_lt_of_le hk hl)
  | .tup xs, _, u, h => by
    rw [AV.under] at u
    cases h with
    | tup hs hr => exact .tup hs (repL_under hl ag _ _ u hr)
  | .frl xs, _, u, h => by
    rw [AV.under] at u
    cases h with
    | frl hs hr => exact .frl hs (repL_under hl ag _ _ u hr)
  | .tmp xs, _, u, h => by
    rw [AV.under] at u
    cases h with
    | tmp hs hr => exact .tmp hs (repL_under hl ag _ _ u hr)
theorem repL_under (hl : n ≤ n2) (ag : ∀ k, k < n → ρ2 k = ρ k) : ∀ (v : List AV) (x : List V), AV.underL n v = true → RepL K H ρ n1 v x → RepL K H ρ2 n2 v x
  | [], _, _, h => by cases h; exact .nil
  | v :: vs, _, u, h => by
    rw [AV.underL, Bool.and_eq_true] at u
    cases h with
    | cons h1 h2 => exact .cons (rep_under hl ag _ _ u.1 h1) (repL_under hl ag _ _ u.2 h2)
end
mutual
theorem ren_rep {f : Nat → Option Nat} (hf : ∀ k j, k < n → f k = some j → j < n2 ∧ ρ2 j = ρ k) : ∀ (v w : AV) (x : V), AV.ren f v = some w → Rep K H ρ n v x → Rep K H ρ2 n2 w x
  | .non, w, _, e, h => by cases h; simp [AV.ren] at e; rw [← e]; exact .non
  | .bl b, w, _, e, h => by cases h; simp [AV.ren] at e; rw [← e]; exact .bl b
  | .int i, w, _, e, h => by cases h; simp [AV.ren] at e; rw [← e]; exact .int i
  | .str s, w, _, e, h => by cases h; simp [AV.ren] at e; rw [← e]; exact .str s
  | .loc k, w, _, e, h => by
    cases h with
    | loc hk =>
      simp only [AV.ren] at e
      cases hfk : f k with
      | none => rw [hfk] at e; cases e
      | some j =>
        rw [hfk] at e
        obtain ⟨h1, h2⟩ := hf k j hk hfk
        cases e
        rw [← h2]
        exact .loc h1
  | .tup xs, w, _, e, h => by
    cases h with
    | tup hs hr =>
      simp only [AV.ren] at e
      cases hx : AV.renL f xs with
      | none => rw [hx] at e; cases e
      | some ws =>
        rw [hx] at e
        cases e
        exact .tup hs (renL_rep hf xs ws _ hx hr)
  | .frl xs, w, _, e, h => by
    cases h with
    | frl hs hr =>
      simp only [AV.ren] at e
      cases hx : AV.renL f xs with
      | none => rw [hx] at e; cases e
      | some ws =>
        rw [hx] at e
        cases e
        exact .frl hs (renL_rep hf xs ws _ hx hr)
  | .tmp xs, w, _, e, h => by
    cases h with
    | tmp hs hr =>
      simp only [AV.ren] at e
      cases hx : AV.renL f xs with
      | none => rw [hx] at e; cases e
      | some ws =>
        rw [hx] at e
        cases e
        exact .tmp hs (renL_rep hf xs ws _ hx hr)
theorem renL_rep {f : Nat → Option Nat} (hf : ∀ k j, k < n → f k = some j → j < n2 ∧ ρ2 j = ρ k) : ∀ (v w : List AV) (x : List V), AV.renL f v = some w → RepL K H ρ n v x → RepL K H ρ2 n2 w x
  | [], w, _, e, h => by cases h; simp [AV.renL] at e; subst e; exact .nil
  | v :: vs, w, _, e, h => by
    cases h with
    | cons h1 h2 =>
      simp only [AV.renL] at e
      cases e1 : AV.ren f v with
      | none => rw [e1] at e; simp at e
      | some y =>
        cases e2 : AV.renL f vs with
        | none => rw [e1, e2] at e; simp at e
        | some ys =>
          rw [e1, e2] at e
          cases e
          exact .cons (ren_rep hf v y _ e1 h1) (renL_rep hf vs ys _ e2 h2)
end
theorem mapO_len {α β : Type} {f : α → Option β} : ∀ {l : List α} {r : List β}, mapO f l = some r → r.length = l.length
  | [], r, h => by simp [mapO] at h; subst h; rfl
  | x :: xs, r, h => by
    simp only [mapO] at h
    split at h
    · rename_i y ys h1 h2
      cases h
      rw [List.length_cons, List.length_cons, mapO_len h2]
    · cases h
theorem mapO_at {α β : Type} {f : α → Option β} : ∀ {l : List α} {r : List β} {i : Nat} {x : α}, mapO f l = some r → l[i]? = some x → ∃ y, r[i]? = some y ∧ f x = some y
  | [], r, i, x, h, e => by simp at e
  | a :: xs, r, i, x, h, e => by
    simp only [mapO] at h
    split at h
    · rename_i y ys h1 h2
      cases h
      cases i with
      | zero => simp at e; subst e; exact ⟨y, rfl, h1⟩
      | succ i =>
        obtain ⟨z, e1, e2⟩ := mapO_at (i := i) h2 (by simpa using e)
        exact ⟨z, by simpa using e1, e2⟩
    · cases h
theorem renL_len {f : Nat → Option Nat} : ∀ {v w : List AV}, AV.renL f v = some w → w.length = v.length
  | [], w, e => by simp [AV.renL] at e; subst e; rfl
  | v :: vs, w, e => by
    simp only [AV.renL] at e
    split at e
    · rename_i y ys h1 h2
      cases e
      rw [List.length_cons, List.length_cons, renL_len h2]
    · cases e
theorem zip_fst {α β : Type} : ∀ {l : List α} {r : List β}, r.length = l.length → (l.zip r).map (·.1) = l
  | [], _, _ => by simp
  | a :: l, [], h => by simp at h
  | a :: l, b :: r, h => by simp; exact zip_fst (by simpa using h)
theorem zip_snd {α β : Type} : ∀ {l : List α} {r : List β}, r.length = l.length → (l.zip r).map (·.2) = r
  | [], [], _ => rfl
  | [], _ :: _, h => by simp at h
  | a :: l, [], h => by simp at h
  | a :: l, b :: r, h => by simp; exact zip_snd (by simpa using h)
/-- an object pointing elsewhere lies as it lay -/
theorem obRen {f : Nat → Option Nat} {a : Addr} {ys : List V} : ∀ {o w : Ob}, Ob.ren f o = some w → Shape G H a ys o → AV.renL f o.vals = some w.vals ∧ Shape G H a ys w
  | .lst xs, w, e, h => by
    simp only [Ob.ren] at e
    cases hx : AV.renL f xs with
    | none => rw [hx] at e; cases e
    | some ws => rw [hx] at e; cases e; exact ⟨hx, h⟩
  | .dct kvs, w, e, h => by
    simp only [Ob.ren] at e
    cases hx : AV.renL f (kvs.map (·.2)) with
    | none => rw [hx] at e; cases e
    | some ws =>
      rw [hx] at e; cases e
      have hl : ws.length = (kvs.map (·.1)).length := by rw [renL_len hx, List.length_map, List.length_map]
      obtain ⟨ks, h1, h2, h3⟩ := h
      refine ⟨?_, ks, h1, ?_, h3⟩
      · show AV.renL f (kvs.map (·.2)) = some (((kvs.map (·.1)).zip ws).map (·.2))
        rw [zip_snd hl]; exact hx
      · rw [zip_fst hl]; exact h2
  | .fdc kvs, w, e, h => by simp [Ob.ren] at e
  | .ins c fs, w, e, h => by
    simp only [Ob.ren] at e
    cases hx : AV.renL f (fs.map (·.2)) with
    | none => rw [hx] at e; cases e
    | some ws =>
      rw [hx] at e; cases e
      have hl : ws.length = (fs.map (·.1)).length := by rw [renL_len hx, List.length_map, List.length_map]
      obtain ⟨dx, gs, h1, h2, h3⟩ := h
      refine ⟨?_, dx, gs, h1, ?_, h3⟩
      · show AV.renL f (fs.map (·.2)) = some (((fs.map (·.1)).zip ws).map (·.2))
        rw [zip_snd hl]; exact hx
      · rw [zip_fst hl]; exact h2
theorem idxOf_at : ∀ {l : List Nat} {k j : Nat}, l.idxOf? k = some j → l[j]? = some k
  | [], k, j, h => by simp at h
  | a :: l, k, j, h => by
    rw [List.idxOf?_cons] at h
    split at h
    · rename_i e
      cases h
      simp at e
      rw [e]; rfl
    · cases hj : l.idxOf? k with
      | none => rw [hj] at h; cases h
      | some i =>
        rw [hj] at h
        cases h
        simpa using idxOf_at hj
theorem gc_sound {st0 : Sto} {r : R AV} {Q : VK} (s0 : RepS G H ρ st0) (h : Post G E H ρ st0.length (rV G.K) (gc st0 r) Q) : Post G E H ρ st0.length (rV G.K) r Q := by
  cases r with
  | bad => exact h
  | ex u st => exact h
  | ok v st =>
    intro H' ρ' x e s q
    simp only [gc] at h
    by_cases hl : st.length = st0.length
    · rw [if_pos hl] at h
      exact h H' ρ' x e s q
    rw [if_neg hl] at h
    split at h
    · rename_i hc
      rw [Bool.and_eq_true, Bool.and_eq_true] at hc
      obtain ⟨⟨hold, hnd⟩, hall⟩ := hc
      generalize reach st0.length st 3 (addNew st0.length [] v.locs) = ks at h hnd hall
      have hnd := nodupB_iff hnd
      have hge : ∀ k ∈ ks, st0.length ≤ k := fun k hk => by
        have := List.all_eq_true.mp hall k hk
        exact of_decide_eq_true this
      split at h
      · rename_i v' os hv hos
        have hol : os.length = ks.length := mapO_len hos
        have hlt : ∀ (j k : Nat), ks[j]? = some k → k < st.length := fun j k hk => by
          obtain ⟨y, _, e2⟩ := mapO_at hos hk
          cases hz : st[k]? with
          | none => rw [hz] at e2; cases e2
          | some o => exact (List.getElem?_eq_some_iff.mp hz).1
        have htk : (st.take st0.length).length = st0.length := by rw [List.length_take]; exact Nat.min_eq_left e.le
        -- the new addresses
        let ρ2 : Nat → Addr := fun k => if k < st0.length then ρ' k else ρ' (ks.getD (k - st0.length) 0)
        have r2lt : ∀ k, k < st0.length → ρ2 k = ρ' k := fun k hk => if_pos hk
        have r2ge : ∀ (j k : Nat), ks[j]? = some k → ρ2 (st0.length + j) = ρ' k := fun j k hk => by
          show (if st0.length + j < st0.length then _ else _) = _
          rw [if_neg (by omega), Nat.add_sub_cancel_left, List.getD_eq_getElem?_getD, hk]
          rfl
        have hf : ∀ k j, k < st.length → place st0.length ks k = some j → j < (st.take st0.length ++ os).length ∧ ρ2 j = ρ' k := fun k j hk hp => by
          unfold place at hp
          rw [List.length_append, htk, hol]
          split at hp
          · rename_i hkn
            cases hp
            exact ⟨by omega, r2lt _ hkn⟩
          · cases hi : ks.idxOf? k with
            | none => rw [hi] at hp; cases hp
            | some i =>
              rw [hi] at hp
              cases hp
              have hki := idxOf_at hi
              have := (List.getElem?_eq_some_iff.mp hki).1
              exact ⟨show st0.length + i < st0.length + ks.length by omega, r2ge i k hki⟩
        have eLen : (st.take st0.length ++ os).length = st0.length + ks.length := by rw [List.length_append, htk, hol]
        -- indices: where the object of index i stood
        have hidx : ∀ i, i < (st.take st0.length ++ os).length → (i < st0.length ∧ ρ2 i = ρ' i) ∨ (st0.length ≤ i ∧ ∃ k, ks[i - st0.length]? = some k ∧ ρ2 i = ρ' k) := fun i hi => by
          rw [eLen] at hi
          rcases Nat.lt_or_ge i st0.length with h1 | h1
          · exact .inl ⟨h1, r2lt i h1⟩
          · refine .inr ⟨h1, ks[i - st0.length], List.getElem?_eq_getElem (by omega), ?_⟩
            have := r2ge (i - st0.length) _ (List.getElem?_eq_getElem (by omega : i - st0.length < ks.length))
            rw [Nat.add_sub_cancel' h1] at this
            exact this
        refine h H' ρ2 x ⟨?_, fun k hk => (r2lt k hk).trans (e.ag k hk), e.fr, fun k h1 h2 => ?_, e.kp, e.fz⟩ ⟨fun k o hk => ?_, fun i j hi hj eij => ?_⟩ (ren_rep hf v v' x hv q)
        · rw [eLen]; omega
        · rcases hidx k h2 with ⟨z, _⟩ | ⟨_, j, hj, ej⟩
          · omega
          · rw [ej]
            exact e.nw j (hge j (List.mem_of_getElem? hj)) (hlt _ j hj)
        · rcases hidx k (List.getElem?_eq_some_iff.mp hk).1 with ⟨hkn, ek⟩ | ⟨hkn, j, hj, ej⟩
          · rw [List.getElem?_append_left (by omega), List.getElem?_take_of_lt hkn] at hk
            obtain ⟨ys, sh, rr⟩ := s.ob k o hk
            refine ⟨ys, by rw [ek]; exact sh, ?_⟩
            have hu : AV.underL st0.length o.vals = true := by
              obtain ⟨zs, sh0, rr0⟩ := s0.ob k st0[k] (List.getElem?_eq_getElem hkn)
              rcases oldOk_at hold (List.getElem?_eq_getElem hkn) hk with z | z
              · rw [← z]; exact underL_of _ _ rr0
              · exact z
            exact repL_under (by rw [eLen]; omega) (fun i hi => r2lt i hi) _ _ hu rr
          · have hk2 : os[k - st0.length]? = some o := by
              rw [List.getElem?_append_right (by omega), htk] at hk
              exact hk
            obtain ⟨y, e1, e2⟩ := mapO_at hos hj
            rw [hk2] at e1
            cases e1
            cases hz : st[j]? with
            | none => rw [hz] at e2; cases e2
            | some oj =>
              rw [hz] at e2
              obtain ⟨ys, sh, rr⟩ := s.ob j oj hz
              obtain ⟨e3, sh'⟩ := obRen (w := o) e2 sh
              exact ⟨ys, by rw [ej]; exact sh', renL_rep hf _ _ _ e3 rr⟩
        · rcases hidx i hi with ⟨h1, e1⟩ | ⟨h1, k1, q1, e1⟩ <;> rcases hidx j hj with ⟨h2, e2⟩ | ⟨h2, k2, q2, e2⟩
          · exact s.inj i j (Nat.lt_of_lt_of_le h1 e.le) (Nat.lt_of_lt_of_le h2 e.le) (by rw [← e1, ← e2]; exact eij)
          · have := s.inj i k2 (Nat.lt_of_lt_of_le h1 e.le) (hlt _ _ q2) (by rw [← e1, ← e2]; exact eij)
            have := hge k2 (List.mem_of_getElem? q2)
            omega
          · have := s.inj k1 j (hlt _ _ q1) (Nat.lt_of_lt_of_le h2 e.le) (by rw [← e1, ← e2]; exact eij)
            have := hge k1 (List.mem_of_getElem? q1)
            omega
          · have ek := s.inj k1 k2 (hlt _ _ q1) (hlt _ _ q2) (by rw [← e1, ← e2]; exact eij)
            subst ek
            have := nd_ix hnd q1 q2
            omega
      · exact h.elim
    · exact h.elim
end
end Y
set_option Elab.async false
set_option linter.all false
set_option maxRecDepth 100000
/-! Y4: the core rules: names, constants, operators, tests, statements, targets, loops, comprehensions, defs -/
namespace Y
open PySem PySem.Spec L2
open PyProof.Rows hiding St
abbrev gX (X : Cx) (cm : Nat → Addr) : GK := ⟨X.K, cm⟩
/-- how an operation on abstract values stands to a rule on values -/
def Snd1 (G : GK) (E : EX) (o : O1) (r : V → Hp → VK → Prop) : Prop := ∀ H ρ st a x Q, RepS G H ρ st → Rep G.K H ρ st.length a x → Post G E H ρ st.length (rV G.K) (o a st) Q → r x H Q
def Snd2 (G : GK) (E : EX) (o : O2) (r : R2) : Prop := ∀ H ρ st a b x y Q, RepS G H ρ st → Rep G.K H ρ st.length a x → Rep G.K H ρ st.length b y → Post G E H ρ st.length (rV G.K) (o a b st) Q → r x y H Q
def SndN (G : GK) (E : EX) (o : ON) (r : List V → Hp → VK → Prop) : Prop := ∀ H ρ st vs xs Q, RepS G H ρ st → RepL G.K H ρ st.length vs xs → Post G E H ρ st.length (rV G.K) (o vs st) Q → r xs H Q
def Snd3 (G : GK) (E : EX) (o : O3) (r : TSet) : Prop := ∀ H ρ st a b c x y z Q, RepS G H ρ st → Rep G.K H ρ st.length a x → Rep G.K H ρ st.length b y → Rep G.K H ρ st.length c z → Post G E H ρ st.length rUn (o a b c st) (fun _ H' => Q H') → r x y z H Q
section
variable {X : Cx} {cm : Nat → Addr} {E : EX} {a b c e : Expr} {es : List Expr} {ma mb mc : ME} {mas : MA} {ta tb tc : MT} {pos : Pos}
/-! ### expressions -/
theorem tVar_of {G : GK} {i : Nat} (σ : St) (H : Hp) (Q : VK) (h : tE G E (mVar i) σ H Q) : tVar i σ H Q := by
  obtain ⟨ρ, st, env, hs, he, hp⟩ := h
  unfold mVar at hp
  split at hp
  · rename_i v hv
    obtain ⟨x, e1, r⟩ := he.2 i v hv
    exact ⟨x, e1, hp.at hs r⟩
  · exact hp.elim
theorem ye_var (i : Nat) {x : Str} (hN : X.N[i]? = some x := by rfl) (hv : Vis X.env.scope x := by first | exact Or.inl rfl | exact Or.inr (Or.inl rfl) | exact Or.inr (Or.inr rfl)) (hd : (x == ("__debug__" : Str)) = false := by decide)
    (hcd : (x == ("__classdict__" : Str)) = false := by decide) : PE X (.Name x pos) (tE (gX X cm) E (mVar i)) := PE.weak (pe_var hN hv hd hcd) tVar_of
theorem tC_of {G : GK} {v : AV} {x : V} (r : ∀ H ρ n, Rep G.K H ρ n v x) (σ : St) (H : Hp) (Q : VK) (h : tE G E (mC v) σ H Q) : tC x σ H Q := by
  obtain ⟨ρ, st, env, hs, he, hp⟩ := h
  exact Post.at (x := x) hp hs (r _ _ _)
theorem ye_int {i j} : PE X (.Constant (.int i) j pos) (tE (gX X cm) E (mC (.int i))) := PE.weak pe_int (tC_of fun _ _ _ => .int i)
theorem ye_bl {i j} : PE X (.Constant (.bool i) j pos) (tE (gX X cm) E (mC (.bl i))) := PE.weak pe_bl (tC_of fun _ _ _ => .bl i)
theorem ye_non {j} : PE X (.Constant .none j pos) (tE (gX X cm) E (mC .non)) := PE.weak pe_non (tC_of fun _ _ _ => .non)
theorem ye_str {i j} : PE X (.Constant (.str i) j pos) (tE (gX X cm) E (mC (.str i))) := PE.weak pe_str (tC_of fun _ _ _ => .str i)
/-- a module's constant -/
theorem ye_glob {x : Str} {v : AV} {y : V} {u : Value} (hg : Gl X x) (hm : X.mg x = some u) (r : RelV y u) (rv : ∀ H ρ n, Rep X.K H ρ n v y) (hd : (x == ("__debug__" : Str)) = false := by decide) : PE X (.Name x pos) (tE (gX X cm) E (mC v)) :=
  PE.weak (pe_glob hg hm r hd) (tC_of rv)
theorem tOp_of {G : GK} {o : O2} {r : R2} (hr : Snd2 G E o r) (σ : St) (H : Hp) (Q : VK) (h : tE G E (mOp o ma mb) σ H Q) : tOp r (tE G E ma) (tE G E mb) σ H Q := by
  obtain ⟨ρ, st, env, hs, he, hp⟩ := h
  exact ⟨ρ, st, env, hs, he, hp.bindI fun v st1 H1 ρ1 x e1 s1 r1 hp1 => ⟨ρ1, st1, env, s1, he.ext hs e1, hp1.bindI fun w st2 H2 ρ2 y e2 s2 r2 hp2 => hr _ _ _ _ _ _ _ _ s2 (Rep.ext s1 e2 r1) r2 hp2⟩⟩
theorem ye_op {op : Operator} {o : O2} {r : R2} (ho : OpR X (binaryOp op) r) (hr : Snd2 (gX X cm) E o r) (ha : PE X a (tE (gX X cm) E ma)) (hb : PE X b (tE (gX X cm) E mb)) :
    PE X (.BinOp a op b pos) (tE (gX X cm) E (mOp o ma mb)) := PE.weak (pe_op ho ha hb) (tOp_of hr)
theorem ye_un {op : UnaryOp} {o : O1} {r : V → Hp → VK → Prop} (ho : UnR X (unaryOp op) r) (hr : Snd1 (gX X cm) E o r) (ha : PE X a (tE (gX X cm) E ma)) :
    PE X (.UnaryOp op a pos) (tE (gX X cm) E (mUn o ma)) := PE.weak (pe_un ho ha) fun σ H Q ⟨ρ, st, env, hs, he, hp⟩ =>
  ⟨ρ, st, env, hs, he, hp.bindI fun v st1 H1 ρ1 x e1 s1 r1 hp1 => hr _ _ _ _ _ _ s1 r1 hp1⟩
theorem ye_cmp {op : CmpOp} {o : O2} {r : R2} (ho : OpR X (compareOp op) r) (hr : Snd2 (gX X cm) E o r) (ha : PE X a (tE (gX X cm) E ma)) (hb : PE X b (tE (gX X cm) E mb)) (hm : behindInMarks op b = false) :
    PE X (.Compare a [op] [b] pos) (tE (gX X cm) E (mOp o ma mb)) := PE.weak (pe_cmpR ho ha hb hm) (tOp_of hr)
theorem tTest_of {G : GK} {m : ME} {t : TE} (w : ∀ σ H Q, tE G E m σ H Q → t σ H Q) (σ : St) (H : Hp) (Q : Bool → Hp → Prop) (h : tT G E (mtV m) σ H Q) : tTest t σ H Q := by
  obtain ⟨ρ, st, env, hs, he, hp⟩ := h
  refine w _ _ _ ⟨ρ, st, env, hs, he, hp.bindI fun v st1 H1 ρ1 x e1 s1 r1 hp1 => ?_⟩
  cases v with
  | bl k =>
    cases (show Rep G.K H1 ρ1 st1.length (.bl k) x from r1)
    exact ⟨k, rfl, hp1.at s1 rfl⟩
  | _ => exact hp1.elim
theorem yt_cmp {op : CmpOp} {o : O2} {r : R2} (ho : OpR X (compareOp op) r) (hr : Snd2 (gX X cm) E o r) (ha : PE X a (tE (gX X cm) E ma)) (hb : PE X b (tE (gX X cm) E mb)) (hm : behindInMarks op b = false) :
    PT X (.Compare a [op] [b] pos) (tT (gX X cm) E (mtV (mOp o ma mb))) := PT.weak (pt_cmpR ho ha hb hm) (tTest_of (tOp_of hr))
theorem yt_val (h : PE X e (tE (gX X cm) E ma)) (he : ∀ whole, isTrue e X.env whole = (do let v ← whole; standAt e.pos; holding [v] (truthy v)) := by intro _; rfl) : PT X e (tT (gX X cm) E (mtV ma)) :=
  PT.weak (pt_val h he) (tTest_of fun _ _ _ q => q)
theorem tChain_of {G : GK} {o o' : O2} {r r' : R2} (hr : Snd2 G E o r) (hr' : Snd2 G E o' r') (σ : St) (H : Hp) (Q : VK) (h : tE G E (mChain o o' ma mb mc) σ H Q) : tChain r r' (tE G E ma) (tE G E mb) (tE G E mc) σ H Q := by
  obtain ⟨ρ, st, env, hs, he, hp⟩ := h
  refine ⟨ρ, st, env, hs, he, hp.bindI fun v st1 H1 ρ1 x e1 s1 r1 hp1 => ⟨ρ1, st1, env, s1, he.ext hs e1, hp1.bindI fun w st2 H2 ρ2 y e2 s2 r2 hp2 => hr _ _ _ _ _ _ _ _ s2 (Rep.ext s1 e2 r1) r2 (hp2.bindI fun z st3 H3 ρ3 q e3 s3 r3 hp3 => ?_)⟩⟩
  cases z with
  | bl k =>
    cases (show Rep G.K H3 ρ3 st3.length (.bl k) q from r3)
    refine ⟨k, rfl, ?_⟩
    cases k with
    | true =>
      rw [if_pos rfl]
      exact ⟨ρ3, st3, env, s3, ((he.ext hs e1).ext s1 e2).ext s2 e3, (show Post _ _ _ _ _ _ (R.bind (mc env st3) _) _ from hp3).bindI fun w4 st4 H4 ρ4 y4 e4 s4 r4 hp4 => hr' _ _ _ _ _ _ _ _ s4 (Rep.ext s3 e4 (Rep.ext s2 e3 r2)) r4 hp4⟩
    | false =>
      rw [if_neg Bool.false_ne_true]
      exact Post.at (x := V.bl false) hp3 s3 (.bl false)
  | _ => exact hp3.elim
theorem ye_chain {op op' : CmpOp} {o o' : O2} {r r' : R2} (ho : OpR X (compareOp op) r) (ho' : OpR X (compareOp op') r') (hr : Snd2 (gX X cm) E o r) (hr' : Snd2 (gX X cm) E o' r') (ha : PE X a (tE (gX X cm) E ma)) (hb : PE X b (tE (gX X cm) E mb)) (hc : PE X c (tE (gX X cm) E mc))
    (h1 : lastMarks [op, op'] [b, c] = false) : PE X (.Compare a [op, op'] [b, c] pos) (tE (gX X cm) E (mChain o o' ma mb mc)) := PE.weak (pe_chain ho ho' ha hb hc h1) (tChain_of hr hr')
theorem yt_chain {op op' : CmpOp} {o o' : O2} {r r' : R2} (ho : OpR X (compareOp op) r) (ho' : OpR X (compareOp op') r') (hr : Snd2 (gX X cm) E o r) (hr' : Snd2 (gX X cm) E o' r') (ha : PE X a (tE (gX X cm) E ma)) (hb : PE X b (tE (gX X cm) E mb)) (hc : PE X c (tE (gX X cm) E mc))
    (h1 : lastMarks [op, op'] [b, c] = false) : PT X (.Compare a [op, op'] [b, c] pos) (tT (gX X cm) E (mtV (mChain o o' ma mb mc))) := PT.weak (pt_chain ho ho' ha hb hc h1) (tTest_of (tChain_of hr hr'))
theorem ye_if (hc : PT X c (tT (gX X cm) E tc)) (ha : PE X a (tE (gX X cm) E ma)) (hb : PE X b (tE (gX X cm) E mb)) : PE X (.IfExp c a b pos) (tE (gX X cm) E (mIf tc ma mb)) :=
  PE.weak (pe_ifExp hc ha hb) fun σ H Q ⟨ρ, st, env, hs, he, hp⟩ => ⟨ρ, st, env, hs, he, hp.bindI fun v st1 H1 ρ1 x e1 s1 r1 hp1 => by
    cases (show x = v from r1)
    cases v with
    | true => exact iteT ⟨ρ1, st1, env, s1, he.ext hs e1, hp1⟩
    | false => exact iteF ⟨ρ1, st1, env, s1, he.ext hs e1, hp1⟩⟩
/-! ### tests -/
theorem yw_one (h : PT X a (tT (gX X cm) E ta)) : PW X (.BoolOp .And [a] pos) (tT (gX X cm) E ta) := pw_and1 h
theorem yw_oner (h : PT X a (tT (gX X cm) E ta)) : PW X (.BoolOp .Or [a] pos) (tT (gX X cm) E ta) := pw_or1 h
theorem yw_and (ha : PT X a (tT (gX X cm) E ta)) (hb : PW X (.BoolOp .And (b :: es) pos) (tT (gX X cm) E tb)) : PW X (.BoolOp .And (a :: b :: es) pos) (tT (gX X cm) E (mtAnd ta tb)) :=
  PW.weak (pw_and ha hb) fun σ H Q ⟨ρ, st, env, hs, he, hp⟩ => ⟨ρ, st, env, hs, he, hp.bindI fun v st1 H1 ρ1 x e1 s1 r1 hp1 => by
    cases (show x = v from r1)
    cases v with
    | true => exact iteT ⟨ρ1, st1, env, s1, he.ext hs e1, hp1⟩
    | false => exact iteF (Post.at (x := false) hp1 s1 rfl)⟩
theorem yw_or (ha : PT X a (tT (gX X cm) E ta)) (hb : PW X (.BoolOp .Or (b :: es) pos) (tT (gX X cm) E tb)) : PW X (.BoolOp .Or (a :: b :: es) pos) (tT (gX X cm) E (mtOr ta tb)) :=
  PW.weak (pw_or ha hb) fun σ H Q ⟨ρ, st, env, hs, he, hp⟩ => ⟨ρ, st, env, hs, he, hp.bindI fun v st1 H1 ρ1 x e1 s1 r1 hp1 => by
    cases (show x = v from r1)
    cases v with
    | true => exact iteT (Post.at (x := true) hp1 s1 rfl)
    | false => exact iteF ⟨ρ1, st1, env, s1, he.ext hs e1, hp1⟩⟩
theorem yt_not (ha : PT X a (tT (gX X cm) E ta)) : PT X (.UnaryOp .Not a pos) (tT (gX X cm) E (mtNot ta)) :=
  PT.weak (pt_not ha) fun σ H Q ⟨ρ, st, env, hs, he, hp⟩ => ⟨ρ, st, env, hs, he, hp.bindI fun v st1 H1 ρ1 x e1 s1 r1 hp1 => by
    cases (show x = v from r1)
    exact Post.at (x := !v) hp1 s1 rfl⟩
/-- .. as values -/
theorem yv_one {op} (h : PE X a (tE (gX X cm) E ma)) : PE X (.BoolOp op [a] pos) (tE (gX X cm) E ma) := pe_one h
theorem yv_and (ha : PE X a (tE (gX X cm) E ma)) (hb : PE X (.BoolOp .And (b :: es) pos) (tE (gX X cm) E mb)) : PE X (.BoolOp .And (a :: b :: es) pos) (tE (gX X cm) E (mAndV ma mb)) :=
  PE.weak (pe_and ha hb) fun σ H Q ⟨ρ, st, env, hs, he, hp⟩ => ⟨ρ, st, env, hs, he, hp.bindI fun v st1 H1 ρ1 x e1 s1 r1 hp1 => by
    cases v with
    | bl k =>
      cases (show Rep X.K H1 ρ1 st1.length (.bl k) x from r1)
      refine ⟨k, rfl, ?_⟩
      cases k with
      | true => exact iteT ⟨ρ1, st1, env, s1, he.ext hs e1, hp1⟩
      | false => exact iteF (Post.at (x := V.bl false) hp1 s1 (.bl false))
    | _ => exact hp1.elim⟩
theorem yv_or (ha : PE X a (tE (gX X cm) E ma)) (hb : PE X (.BoolOp .Or (b :: es) pos) (tE (gX X cm) E mb)) : PE X (.BoolOp .Or (a :: b :: es) pos) (tE (gX X cm) E (mOrV ma mb)) :=
  PE.weak (pe_or ha hb) fun σ H Q ⟨ρ, st, env, hs, he, hp⟩ => ⟨ρ, st, env, hs, he, hp.bindI fun v st1 H1 ρ1 x e1 s1 r1 hp1 => by
    cases v with
    | bl k =>
      cases (show Rep X.K H1 ρ1 st1.length (.bl k) x from r1)
      refine ⟨k, rfl, ?_⟩
      cases k with
      | true => exact iteT (Post.at (x := V.bl true) hp1 s1 (.bl true))
      | false => exact iteF ⟨ρ1, st1, env, s1, he.ext hs e1, hp1⟩
    | _ => exact hp1.elim⟩
theorem yv_not (ha : PE X a (tE (gX X cm) E ma)) : PE X (.UnaryOp .Not a pos) (tE (gX X cm) E (mNotV ma)) :=
  PE.weak (pe_not ha) fun σ H Q ⟨ρ, st, env, hs, he, hp⟩ => ⟨ρ, st, env, hs, he, hp.bindI fun v st1 H1 ρ1 x e1 s1 r1 hp1 => by
    cases v with
    | bl k =>
      cases (show Rep X.K H1 ρ1 st1.length (.bl k) x from r1)
      exact ⟨k, rfl, Post.at (x := V.bl (!k)) hp1 s1 (.bl (!k))⟩
    | _ => exact hp1.elim⟩
/-! ### arguments -/
theorem ya_nil : PA X [] (tA (gX X cm) E maNil) := PA.weak pa_nil fun σ H Q ⟨ρ, st, env, hs, he, hp⟩ => Post.at (x := []) hp hs RepL.nil
theorem ya_cons (ha : PE X a (tE (gX X cm) E ma)) (hb : PA X es (tA (gX X cm) E mas)) (hs : starEach (a :: es) X.env = (false, eval a X.env) :: starEach es X.env := by rfl) : PA X (a :: es) (tA (gX X cm) E (maCons ma mas)) :=
  PA.weak (pa_cons ha hb hs) fun σ H Q ⟨ρ, st, env, hs, he, hp⟩ => ⟨ρ, st, env, hs, he, hp.bindI fun v st1 H1 ρ1 x e1 s1 r1 hp1 => ⟨ρ1, st1, env, s1, he.ext hs e1, hp1.bindI fun ws st2 H2 ρ2 ys e2 s2 r2 hp2 => Post.at (x := x :: ys) hp2 s2 (RepL.cons (Rep.ext s1 e2 r1) r2)⟩⟩
theorem LIM_line : LIM = sizeLine := by rw [sizeLine_eq]; rfl
/-- a plain tuple is laid -/
theorem Inv.lplain {X : Cx} {pins : List (Addr × Obj)} {σ : St} {H : Hp} {s : Shared} {xs : List V} {us : List Value} {t' : Nat} (I : Inv X pins σ H s) (r : Vals xs us) (hz : xs.length ≤ sizeLine) :
    Inv X pins σ (upd H s.heap.objs.size (.frz { cls := .type "tuple", data := .seq us.toArray } (.tup xs))) { s with heap := s.heap.push { cls := .type "tuple", data := .seq us.toArray }, toks := t' } :=
  I.laid (fun b u e => Heap.get?_push_of_some _ e) (Nat.le_refl _) (show ObjOk X.prog X.w _ _ _ (.frz _ (.tup xs)) from ⟨Heap.get?_push_size _ rfl, hz, us, r, IsTup.new _ _⟩)
def tTupP (t : TA) : TE := fun σ H Q => t σ H fun xs H1 => xs.length ≤ sizeLine ∧ ∀ p o, o.cls = .type "tuple" → o.dict = none → H1 p = none → Q (.ref p) (upd H1 p (.frz o (.tup xs)))
theorem pe_tupP {es : List Expr} {t : TA} {x1} (h : PA X es t) : PE X (.Tuple es x1 pos) (tTupP t) := by
  refine ⟨fun pins s σ H Q I hq => ?_⟩
  refine wpAny_Tuple_spliced (thn (h.run pos pins s σ H _ I hq) fun us s1 ⟨xs, H1, I1, r, z, q⟩ => ⟨by rw [← r.length]; exact z, ?_⟩)
  exact ⟨.ref s1.heap.objs.size, _, Inv.lplain (t' := s1.toks) I1 r z, rfl, q _ _ rfl rfl (I1.hok.fresh (Nat.le_refl _))⟩
/-- behind the making of a plain tuple -/
theorem plain_at {G : GK} {H : Hp} {ρ : Nat → Addr} {st : Sto} {vs : List AV} {xs : List V} {p : Addr} {o : Obj} {Q : VK} (hs : RepS G H ρ st) (r : RepL G.K H ρ st.length vs xs) (hc : o.cls = .type "tuple") (hd : o.dict = none) (hp : H p = none)
    (h : Post G E H ρ st.length (rV G.K) (.ok (.tup vs) st) Q) : Q (.ref p) (upd H p (.frz o (.tup xs))) :=
  h _ ρ _ (Ext.lay hp) (hs.lay hp) (.tup (.inl ⟨o, upd_same, hc, hd⟩) (repL_mv (tups_new hp) (Nat.le_refl _) (fun _ _ => rfl) _ _ r))
/-- behind the making of a list -/
theorem list_at {G : GK} {H : Hp} {ρ : Nat → Addr} {st : Sto} {vs : List AV} {xs : List V} {p : Addr} {Q : VK} (hs : RepS G H ρ st) (r : RepL G.K H ρ st.length vs xs) (hp : H p = none)
    (h : Post G E H ρ st.length (rV G.K) (.ok (.loc st.length) (st ++ [.lst vs])) Q) : Q (.ref p) (upd H p (.lst xs)) := by
  have e : (st ++ [Ob.lst vs]).length = st.length + 1 := by simp
  refine h _ (more ρ st.length p) _ (by rw [e]; exact Ext.new hp) (hs.new (ob := .lst vs) hp (show Shape G _ p xs (.lst vs) from upd_same) r) ?_
  have z := Rep.loc (K := G.K) (H := upd H p (.lst xs)) (ρ := more ρ st.length p) (n := (st ++ [Ob.lst vs]).length) (k := st.length) (by rw [e]; exact Nat.lt_succ_self _)
  rw [more_at] at z
  exact z
theorem ye_tup {x1} (h : PA X es (tA (gX X cm) E mas)) : PE X (.Tuple es x1 pos) (tE (gX X cm) E (mN oTup mas)) :=
  PE.weak (pe_tupP h) fun σ H Q ⟨ρ, st, env, hs, he, hp⟩ => ⟨ρ, st, env, hs, he, hp.bindI fun vs st1 H1 ρ1 xs e1 s1 r1 hp1 => by
    have r1 : RepL X.K H1 ρ1 st1.length vs xs := r1
    unfold oTup at hp1
    split at hp1
    · rename_i hl
      exact ⟨by rw [← r1.length, ← LIM_line]; exact hl, fun p o hc hd hn => plain_at s1 r1 hc hd hn hp1⟩
    · exact hp1.elim⟩
theorem ye_lst (h : PA X es (tA (gX X cm) E mas)) : PE X (.List es pos) (tE (gX X cm) E (mN oLst mas)) :=
  PE.weak (pe_lst h) fun σ H Q ⟨ρ, st, env, hs, he, hp⟩ => ⟨ρ, st, env, hs, he, hp.bindI fun vs st1 H1 ρ1 xs e1 s1 r1 hp1 => by
    have r1 : RepL X.K H1 ρ1 st1.length vs xs := r1
    unfold oLst at hp1
    split at hp1
    · rename_i hl
      exact ⟨by rw [← r1.length, ← LIM_line]; exact hl, fun p hn => list_at s1 r1 hn hp1⟩
    · exact hp1.elim⟩
/-- a built-in called -/
theorem tCB_of {G : GK} {o : ON} {r : List V → Hp → VK → Prop} (hr : SndN G E o r) (σ : St) (H : Hp) (Q : VK) (h : tE G E (mN o mas) σ H Q) : tCB r (tA G E mas) σ H Q := by
  obtain ⟨ρ, st, env, hs, he, hp⟩ := h
  exact ⟨ρ, st, env, hs, he, hp.bindI fun vs st1 H1 ρ1 xs e1 s1 r1 hp1 => hr _ _ _ _ _ _ s1 r1 hp1⟩
theorem ye_callB {x : Str} {id : String} {o : ON} {r : List V → Hp → VK → Prop} {p : Pos} (hc : CallR X (.builtin id) r) (hr : SndN (gX X cm) E o r) (hg : Gl X x) (hm : X.mg x = none) (hv : bootBuiltins x = some (.builtin id)) (ha : PA X (a :: es) (tA (gX X cm) E mas)) (hn : x ≠ "__name__" := by decide)
    (hdb : (x == ("__debug__" : Str)) = false := by decide) (hs : starEach (a :: es) X.env = (false, eval a X.env) :: starEach es X.env := by rfl) (hpl : (backTo pos (starEach es X.env)).any (·.1) = false := by rfl) :
    PE X (.Call (.Name x p) (a :: es) [] pos) (tE (gX X cm) E (mN o mas)) := PE.weak (pe_callB hc hg hm hv ha hn hdb hs hpl) (tCB_of hr)
theorem ye_callTy {x : Str} {T : String} {o : ON} {r : List V → Hp → VK → Prop} {p : Pos} (hc : CallR X (.type T) r) (hr : SndN (gX X cm) E o r) (hg : Gl X x) (hm : X.mg x = none) (hv : bootBuiltins x = some (.type T)) (ha : PA X (a :: es) (tA (gX X cm) E mas)) (hn : x ≠ "__name__" := by decide)
    (hdb : (x == ("__debug__" : Str)) = false := by decide) (hs : starEach (a :: es) X.env = (false, eval a X.env) :: starEach es X.env := by rfl) (hpl : (backTo pos (starEach es X.env)).any (·.1) = false := by rfl) :
    PE X (.Call (.Name x p) (a :: es) [] pos) (tE (gX X cm) E (mN o mas)) := PE.weak (pe_callTy hc hg hm hv ha hn hdb hs hpl) (tCB_of hr)
/-- what an expression made and nobody holds is forgotten -/
theorem ye_gc (h : PE X e (tE (gX X cm) E ma)) : PE X e (tE (gX X cm) E (mGc ma)) := PE.weak h fun σ H Q ⟨ρ, st, env, hs, he, hp⟩ => ⟨ρ, st, env, hs, he, gc_sound hs hp⟩
end

/-! ### statements -/
section
variable {X : Cx} {cm : Nat → Addr} {E : EX} {a b c e : Expr} {es : List Expr} {st : Stmt} {sts sts2 : List Stmt} {ma mb mc : ME} {mas : MA} {tc : MT} {s1 s2 : MS} {pos : Pos}
theorem yss_nil : PSs X [] (tS (gX X cm) E msNext) := PSs.weak pss_nil fun D σ H ⟨ρ, st, env, hs, he, hp⟩ => hp H ρ σ .refl hs he
theorem yss_one (h : PS X st (tS (gX X cm) E s1)) : PSs X [st] (tS (gX X cm) E s1) := pss_one h
theorem yss_cons (h : PS X st (tS (gX X cm) E s1)) (h2 : PSs X sts (tS (gX X cm) E s2)) : PSs X (st :: sts) (tS (gX X cm) E (msSeq s1 s2)) :=
  PSs.weak (pss_cons h h2) fun D σ H ⟨ρ, st, env, hs, he, hp⟩ => by
    refine ⟨ρ, st, env, hs, he, ?_⟩
    unfold msSeq at hp
    cases hf : s1 env st with
    | nx env1 st1 =>
      rw [hf] at hp
      exact fun H' ρ' σ' e1 s' he' => ⟨ρ', st1, env1, s', he', PostS.lift e1 hp⟩
    | rt _ _ => rw [hf] at hp; exact hp
    | bk _ _ => rw [hf] at hp; exact hp
    | ct _ _ => rw [hf] at hp; exact hp
    | ex _ _ => rw [hf] at hp; exact hp
    | bad => rw [hf] at hp; exact hp
theorem ys_expr (h : PE X e (tE (gX X cm) E ma)) (hs : swapsWith e none pos.line X.env = pure false := by rfl) : PS X (.Expr e pos) (tS (gX X cm) E (msExpr ma)) :=
  PS.weak (ps_expr h hs) fun D σ H ⟨ρ, st, env, hs, he, hp⟩ => ⟨ρ, st, env, hs, he, hp.toI fun v st1 H1 ρ1 x e1 s1 r1 hp1 => hp1 H1 ρ1 σ .refl s1 (he.ext hs e1)⟩
theorem ys_ret (h : PE X e (tE (gX X cm) E ma)) : PS X (.Return (some e) pos) (tS (gX X cm) E (msRet ma)) :=
  PS.weak (ps_ret h) fun D σ H ⟨ρ, st, env, hs, he, hp⟩ => ⟨ρ, st, env, hs, he, hp.toI fun v st1 H1 ρ1 x e1 s1 r1 hp1 => hp1 H1 ρ1 x .refl s1 r1⟩
theorem ys_retN : PS X (.Return none pos) (tS (gX X cm) E msRetN) :=
  PS.weak ps_retN fun D σ H ⟨ρ, st, env, hs, he, hp⟩ => hp H ρ .non .refl hs .non
theorem ys_if (hc : PT X c (tT (gX X cm) E tc)) (ha : PSs X sts (tS (gX X cm) E s1)) (hb : PSs X sts2 (tS (gX X cm) E s2)) : PS X (.If c sts sts2 pos) (tS (gX X cm) E (msIf tc s1 s2)) :=
  PS.weak (ps_if hc ha hb) fun D σ H ⟨ρ, st, env, hs, he, hp⟩ => ⟨ρ, st, env, hs, he, hp.toI fun v st1 H1 ρ1 x e1 s1 r1 hp1 => by
    cases (show x = v from r1)
    cases v with
    | true => exact iteT ⟨ρ1, st1, env, s1, he.ext hs e1, hp1⟩
    | false => exact iteF ⟨ρ1, st1, env, s1, he.ext hs e1, hp1⟩⟩
theorem ys_break : PS X (.Break pos) (tS (gX X cm) E msBreak) := PS.weak ps_break fun D σ H ⟨ρ, st, env, hs, he, hp⟩ => hp H ρ σ .refl hs he
theorem ys_cont : PS X (.Continue pos) (tS (gX X cm) E msCont) := PS.weak ps_continue fun D σ H ⟨ρ, st, env, hs, he, hp⟩ => hp H ρ σ .refl hs he
/-- a raise that is never reached -/
theorem ys_raise0 {x : Str} : PS X st (tS (gX X cm) E00 (msRaise x)) := PS.weak ps_never fun D σ H ⟨ρ, st, env, hs, he, hp⟩ => hp H ρ .refl hs
theorem ys_raise1 {x : Str} {v : AV} : PS X st (tS (gX X cm) E00 (msRaise1 x v)) := PS.weak ps_never fun D σ H ⟨ρ, st, env, hs, he, hp⟩ => hp H ρ .refl hs
end
end Y
set_option Elab.async false
set_option linter.all false
set_option maxRecDepth 100000
/-! Y5: assignments, targets, loops, comprehensions, defs -/
namespace Y
open PySem PySem.Spec L2
open PyProof.Rows hiding St
section
variable {X : Cx} {cm : Nat → Addr} {E : EX} {a b c e tg : Expr} {es : List Expr} {st : Stmt} {sts sts2 : List Stmt} {ma mb mc : ME} {mas : MA} {tc : MT} {s1 s2 : MS} {pos : Pos} {mg : MG} {sl : List Nat}
theorem Post.rel {α χ : Type} {G : GK} {H : Hp} {ρ : Nat → Addr} {n : Nat} {Rel Rel' : Rl α χ} {r : R α} {Q : χ → Hp → Prop} (h : Post G E H ρ n Rel r Q) (k : ∀ H' ρ' n' v x, Rel' H' ρ' n' v x → Rel H' ρ' n' v x) : Post G E H ρ n Rel' r Q := by
  cases r with
  | ok v st => exact fun H' ρ' x e s q => h H' ρ' x e s (k _ _ _ _ _ q)
  | ex u st => exact h
  | bad => exact h
theorem rG_refl {K : PySem.W.Frag} {H : Hp} {ρ : Nat → Addr} {n : Nat} {env : Ev} {σ : St} (h : RepE K H ρ n env σ) : rG K sl σ H ρ n env σ := ⟨h, rfl, fun _ _ => rfl⟩
theorem set_out {σ : St} {i : Nat} {o : Option V} {j : Nat} (h : j ∉ [i]) : (σ.set i o)[j]? = σ[j]? := List.getElem?_set_ne fun e => h (by simp [e])
theorem yg_name (i : Nat) {x : Str} (hN : X.N.Nodup) (hi : X.N[i]? = some x) (hx : Loc X.env.scope x) (hf : X.fn x = true ∨ X.env.scope.names.lookup x = some .local := by first | exact .inl rfl | exact .inr rfl | assumption) : PG X (.Name x pos) (tG (gX X cm) E [i] (mgName i)) :=
  PG.weak (pg_name hN hi hx hf) fun x σ H Q ⟨ρ, st, env, v, hs, he, hv, hp⟩ => hp H ρ _ .refl hs ⟨he.set i hv, List.length_set, fun j hj => set_out hj⟩
theorem ygs_nil : PGs X [] (tGs (gX X cm) E sl []) := PGs.weak pgs_nil fun xs σ H Q ⟨ρ, st, env, vs, hs, he, hv, hp⟩ => by
  cases hv with
  | nil => exact ⟨rfl, hp H ρ σ .refl hs (rG_refl he)⟩
  | cons _ _ => exact hp.elim
theorem ygs_cons {g : MG} {gs : List MG} {sl1 : List Nat} (h1 : PG X tg (tG (gX X cm) E sl1 g)) (h2 : PGs X es (tGs (gX X cm) E sl gs)) (hsub : ∀ i ∈ sl1, i ∈ sl)
    (hs : (assignEach (tg :: es) X.env).map (·.2) = assign tg X.env :: (assignEach es X.env).map (·.2) := by rfl) : PGs X (tg :: es) (tGs (gX X cm) E sl (g :: gs)) :=
  PGs.weak (pgs_cons h1 h2 hs) fun xs σ H Q ⟨ρ, st, env, vs, hs, he, hv, hp⟩ => by
    cases hv with
    | nil => exact hp.elim
    | cons r1 r2 =>
      refine ⟨_, _, rfl, ρ, st, env, _, hs, he, r1, (show Post _ _ _ _ _ _ (R.bind _ _) _ from hp).bindI fun env1 st1 H1 ρ1 σ1 e1 s1 q1 hp1 => ?_⟩
      obtain ⟨he1, hl1, hn1⟩ := q1
      refine ⟨ρ1, st1, env1, _, s1, he1, r2.ext hs e1, Post.rel hp1 fun H' ρ' n' env2 σ2 ⟨z1, z2, z3⟩ => ⟨z1, z2.trans hl1, fun i hi => (z3 i hi).trans (hn1 i fun z => hi (hsub i z))⟩⟩
theorem yg_tup {k : Nat} {gs : List MG} (hc : X.calm = true) (h : PGs X es (tGs (gX X cm) E sl gs)) (hn : (assignEach es X.env).length = gs.length := by rfl) (hst : (assignEach es X.env).findIdx? (·.1) = none := by rfl) : PG X (.Tuple es k pos) (tG (gX X cm) E sl (mgTup gs)) :=
  PG.weak (pg_tup (n := gs.length) hc h hn hst) fun x σ H Q ⟨ρ, st, env, v, hs, he, hv, hp⟩ => by
    cases hv with
    | tup hq hr =>
      simp only [mgTup] at hp
      split at hp
      · rename_i hl
        exact ⟨_, _, rfl, hq.seq, by rw [← hr.length]; exact hl, ρ, st, env, _, hs, he, hr, hp⟩
      · exact hp.elim
    | tmp hq hr =>
      simp only [mgTup] at hp
      split at hp
      · rename_i hl
        exact ⟨_, _, rfl, hq, by rw [← hr.length]; exact hl, ρ, st, env, _, hs, he, hr, hp⟩
      · exact hp.elim
    | _ => exact hp.elim
theorem yg_sub {o i : Expr} {mo mi : ME} {f : O3} {t : TSet} (ho : PE X o (tE (gX X cm) E mo)) (hi : PE X i (tE (gX X cm) E mi)) (hp : PSet X t) (hf : Snd3 (gX X cm) E f t)
    (ha : ∀ v, assign (.Subscript o i pos) X.env v = (do
      let ov ← holding [v] (eval o X.env)
      let iv ← holding [v, ov] (eval i X.env)
      standAt pos
      holding [v, ov, iv] (setItem ov iv v)
      release [v, ov, iv] []) := by intro _; rfl) : PG X (.Subscript o i pos) (tG (gX X cm) E sl (mgSub mo mi f)) :=
  PG.weak (pg_sub ho hi hp ha) fun x σ H Q ⟨ρ, st, env, v, hs, he, hv, hq⟩ => ⟨ρ, st, env, hs, he, hq.bindI fun w st1 H1 ρ1 y e1 s1 r1 hp1 => ⟨ρ1, st1, env, s1, he.ext hs e1, hp1.bindI fun u st2 H2 ρ2 z e2 s2 r2 hp2 =>
    hf _ _ _ _ _ _ _ _ _ _ s2 (Rep.ext s1 e2 r1) r2 ((hv.ext hs e1).ext s1 e2) (hp2.bindI fun _ st3 H3 ρ3 _ e3 s3 _ hp3 => hp3 H3 ρ3 σ .refl s3 (rG_refl (((he.ext hs e1).ext s1 e2).ext s2 e3)))⟩⟩

/-! ### assignments -/
theorem setAll_two {i j : Nat} : ∀ {vs : List AV} {env env2 : Ev}, setAll [i, j] vs env = some env2 → ∃ v w, vs = [v, w] ∧ env2 = (env.set i (some v)).set j (some w)
  | [], _, _, h => nomatch h
  | [_], _, _, h => nomatch h
  | [v, w], _, _, h => ⟨v, w, rfl, (Option.some.inj h).symm⟩
  | _ :: _ :: _ :: _, _, _, h => nomatch h
theorem setAll_three {i j l : Nat} : ∀ {vs : List AV} {env env2 : Ev}, setAll [i, j, l] vs env = some env2 → ∃ v w u, vs = [v, w, u] ∧ env2 = ((env.set i (some v)).set j (some w)).set l (some u)
  | [], _, _, h => nomatch h
  | [_], _, _, h => nomatch h
  | [_, _], _, _, h => nomatch h
  | [v, w, u], _, _, h => ⟨v, w, u, rfl, (Option.some.inj h).symm⟩
  | _ :: _ :: _ :: _ :: _, _, _, h => nomatch h
theorem ys_asg (he : PE X e (tE (gX X cm) E ma)) (hg : PG X tg (tG (gX X cm) E sl mg)) (hs : swapsWithSole [tg] e pos.line X.env = pure false := by rfl) (hw : swappedStores [tg] e X.env = pure none := by rfl)
    (h1 : (assignEach [tg] X.env).map (·.2) = [assign tg X.env] := by rfl) : PS X (.Assign [tg] e pos) (tS (gX X cm) E (msAsg ma mg)) :=
  PS.weak (ps_asg he hg hs hw h1) fun D σ H ⟨ρ, st, env, hs, he, hp⟩ => ⟨ρ, st, env, hs, he, hp.toI fun v st1 H1 ρ1 x e1 s1 r1 hp1 => ⟨ρ1, st1, env, v, s1, he.ext hs e1, r1, hp1.toI fun env2 st2 H2 ρ2 σ2 e2 s2 q2 hp2 => hp2 H2 ρ2 σ2 .refl s2 q2.1⟩⟩
theorem ys_set (i : Nat) {x : Str} {pos' : Pos} (hN : X.N.Nodup) (hi : X.N[i]? = some x) (hx : Loc X.env.scope x) (he : PE X e (tE (gX X cm) E ma)) (hs : swapsWith e (some (.Name x pos')) pos.line X.env = pure false := by rfl)
    (hf : X.fn x = true ∨ X.env.scope.names.lookup x = some .local := by first | exact .inl rfl | exact .inr rfl | assumption) : PS X (.Assign [.Name x pos'] e pos) (tS (gX X cm) E (msAsg ma (mgName i))) :=
  PS.weak (ps_set hN hi hx he hs hf) fun D σ H ⟨ρ, st, env, hs, he, hp⟩ => ⟨ρ, st, env, hs, he, hp.toI fun v st1 H1 ρ1 x e1 s1 r1 hp1 => hp1 H1 ρ1 _ .refl s1 ((he.ext hs e1).set i r1)⟩
theorem ys_par2 {i j : Nat} {x y : Str} {px py pt : Pos} {kt k2 pt2} (hc : X.calm = true) (hN : X.N.Nodup) (hi : X.N[i]? = some x) (hj : X.N[j]? = some y) (hij : i ≠ j)
    (hx : X.env.scope.names.lookup x = some .local) (hy : X.env.scope.names.lookup y = some .local) (ha : PA X [a, b] (tA (gX X cm) E mas))
    (hw : swappedStores [.Tuple [.Name x px, .Name y py] kt pt] (.Tuple [a, b] k2 pt2) X.env = pure (some [x, y]))
    (hs : swapsWithSole [.Tuple [.Name x px, .Name y py] kt pt] (.Tuple [a, b] k2 pt2) pos.line X.env = pure false := by rfl) : PS X (.Assign [.Tuple [.Name x px, .Name y py] kt pt] (.Tuple [a, b] k2 pt2) pos) (tS (gX X cm) E (msPar [i, j] mas)) :=
  PS.weak (ps_par hc hN hi hj hij hx hy ha hw hs) fun D σ H ⟨ρ, st, env, hs, he, hp⟩ => ⟨ρ, st, env, hs, he, hp.toI fun vs st1 H1 ρ1 xs e1 s1 r1 hp1 => by
    split at hp1
    · rename_i env2 h2
      obtain ⟨v, w, rfl, rfl⟩ := setAll_two h2
      obtain ⟨x, y, rfl, q1, q2⟩ := RepL.two (show RepL X.K H1 ρ1 st1.length [v, w] xs from r1)
      exact ⟨_, _, rfl, hp1 H1 ρ1 _ .refl s1 (((he.ext hs e1).set i q1).set j q2)⟩
    · exact hp1.elim⟩
theorem ys_par3 {i j l : Nat} {x y z : Str} {px py pz pt : Pos} {kt k2 pt2} (hc : X.calm = true) (hN : X.N.Nodup) (hi : X.N[i]? = some x) (hj : X.N[j]? = some y) (hl : X.N[l]? = some z) (hij : i ≠ j) (hil : i ≠ l) (hjl : j ≠ l)
    (hx : X.env.scope.names.lookup x = some .local) (hy : X.env.scope.names.lookup y = some .local) (hz : X.env.scope.names.lookup z = some .local) (ha : PA X [a, b, c] (tA (gX X cm) E mas))
    (hw : swappedStores [.Tuple [.Name x px, .Name y py, .Name z pz] kt pt] (.Tuple [a, b, c] k2 pt2) X.env = pure (some [x, y, z]))
    (hs : swapsWithSole [.Tuple [.Name x px, .Name y py, .Name z pz] kt pt] (.Tuple [a, b, c] k2 pt2) pos.line X.env = pure false := by rfl) : PS X (.Assign [.Tuple [.Name x px, .Name y py, .Name z pz] kt pt] (.Tuple [a, b, c] k2 pt2) pos) (tS (gX X cm) E (msPar [i, j, l] mas)) :=
  PS.weak (ps_par3 hc hN hi hj hl hij hil hjl hx hy hz ha hw hs) fun D σ H ⟨ρ, st, env, hs, he, hp⟩ => ⟨ρ, st, env, hs, he, hp.toI fun vs st1 H1 ρ1 xs e1 s1 r1 hp1 => by
    split at hp1
    · rename_i env2 h2
      obtain ⟨v, w, u, rfl, rfl⟩ := setAll_three h2
      obtain ⟨x, y, z, rfl, q1, q2, q3⟩ := RepL.three (show RepL X.K H1 ρ1 st1.length [v, w, u] xs from r1)
      exact ⟨_, _, _, rfl, hp1 H1 ρ1 _ .refl s1 ((((he.ext hs e1).set i q1).set j q2).set l q3)⟩
    · exact hp1.elim⟩
theorem ys_aug (i : Nat) {x : Str} {op : Operator} {o : O2} {r : R2} {pos' : Pos} (hN : X.N.Nodup) (hi : X.N[i]? = some x) (hx : Loc X.env.scope x) (he : PE X e (tE (gX X cm) E ma)) (ho : OpR X (inplaceOp op) r) (hr : Snd2 (gX X cm) E o r)
    (hf : X.fn x = true ∨ X.env.scope.names.lookup x = some .local := by first | exact .inl rfl | exact .inr rfl | assumption) : PS X (.AugAssign (.Name x pos') op e pos) (tS (gX X cm) E (msAug i o ma)) :=
  PS.weak (ps_aug (ti := r) hN hi hx he (fun pins s σ H x y v u Q I rx ry q => ho pins s σ H x y v u Q I rx ry q) hf) fun D σ H ⟨ρ, st, env, hs, he, hp⟩ => by
    simp only [msAug] at hp
    split at hp
    · rename_i v hv
      obtain ⟨x, e1, rv⟩ := he.2 i v hv
      refine ⟨x, e1, ρ, st, env, hs, he, hp.toI fun w st1 H1 ρ1 y e1 s1 r1 hp1 => hr _ _ _ _ _ _ _ _ s1 (rv.ext hs e1) r1 (hp1.toI fun z st2 H2 ρ2 u e2 s2 r2 hp2 => hp2 H2 ρ2 _ .refl s2 (((he.ext hs e1).ext s1 e2).set i r2))⟩
    · exact hp.elim

/-! ### what is walked -/
/-- an iterator as the list, tuple .. that it walks -/
def SeqOk (G : GK) (q : Sq) (J : It) (H : Hp) (ρ : Nat → Addr) (n : Nat) : Prop := ∀ H' ρ' st' i, Ext H ρ n H' ρ' st'.length → RepS G H' ρ' st' →
  (∀ v, q.at st' i = some (some v) → J.go i H' ∧ ∀ x H'', J.yld i H' x H'' → Ext H' ρ' st'.length H'' ρ' st'.length ∧ RepS G H'' ρ' st' ∧ Rep G.K H'' ρ' st'.length v x) ∧
  (q.at st' i = some none → J.stop i H')
def tI (G : GK) (E : EX) (m : MI) : TI := fun σ H R => ∃ ρ st env, RepS G H ρ st ∧ RepE G.K H ρ st.length env σ ∧ Post G E H ρ st.length (fun H' ρ' n' q J => SeqOk G q J H' ρ' n') (m env st) R
theorem ys_for {it : MI} {body : List Stmt} {mb : MS} (hp : PassesOwn (model X.prog X.w) X.A X.env X.xe) (hc : X.calm = true) (hi : PI X tg e (tI (gX X cm) E it)) (hg : PG X tg (tG (gX X cm) E sl mg)) (hb : PSs X body (tS (gX X cm) E mb))
    (hs : ∀ x, foldedSetIterable e X.env x = pure x := by intro _; rfl) : PS X (.For tg e body [] pos) (tS (gX X cm) E (msFor it mg mb)) :=
  PS.weak (ps_for hp hc hi hg hb hs) fun D σ H ⟨ρ, st, env, hs, he, hp⟩ => ⟨ρ, st, env, hs, he, hp.toI fun q st1 H1 ρ1 J e1 s1 ok hp1 => by
    refine ⟨fun i m σ H => ∃ ρ2 st2 env2, Ext H1 ρ1 st1.length H ρ2 st2.length ∧ RepS (gX X cm) H ρ2 st2 ∧ RepE X.K H ρ2 st2.length env2 σ ∧ PostS (gX X cm) E H ρ2 st2.length (turns q mg mb m i env2 st2) D,
      ⟨_, ρ1, st1, env, .refl, s1, he.ext hs e1, hp1⟩, ?_⟩
    rintro i m σ H ⟨ρ2, st2, env2, e2, s2, he2, hp2⟩
    obtain ⟨hgo, hstop⟩ := ok H ρ2 st2 i e2 s2
    cases m with
    | zero => exact hp2.elim
    | succ f =>
      simp only [turns] at hp2
      cases hq : q.at st2 i with
      | none => rw [hq] at hp2; exact hp2.elim
      | some o =>
        rw [hq] at hp2
        cases o with
        | none => exact .inl ⟨hstop hq, hp2 H ρ2 σ .refl s2 he2⟩
        | some v =>
          obtain ⟨go, yl⟩ := hgo v hq
          refine .inr ⟨go, fun σ' H' => ∃ ρ2 st2 env2, Ext H1 ρ1 st1.length H' ρ2 st2.length ∧ RepS (gX X cm) H' ρ2 st2 ∧ RepE X.K H' ρ2 st2.length env2 σ' ∧ PostS (gX X cm) E H' ρ2 st2.length (turns q mg mb f (i + 1) env2 st2) D,
            fun σ' H' hN => ⟨f, Nat.lt_succ_self f, hN⟩, fun x H' hy => ?_⟩
          obtain ⟨e3, s3, r3⟩ := yl x H' hy
          refine ⟨ρ2, st2, env2, v, s3, he2.ext s2 e3, r3, Post.rel ((PostS.lift e3 hp2).toI (RelA := rG X.K sl σ) fun env4 st4 H4 ρ4 σ4 e4 s4 q4 hp4 => ?_) fun _ _ _ _ _ z => z⟩
          refine ⟨ρ4, st4, env4, s4, q4.1, ?_⟩
          have e24 := (e2.trans e3).trans e4
          cases hb : mb env4 st4 with
          | nx env5 st5 => rw [hb] at hp4; exact fun H5 ρ5 σ5 e5 s5 he5 => ⟨ρ5, st5, env5, e24.trans e5, s5, he5, PostS.lift e5 hp4⟩
          | ct env5 st5 => rw [hb] at hp4; exact fun H5 ρ5 σ5 e5 s5 he5 => ⟨ρ5, st5, env5, e24.trans e5, s5, he5, PostS.lift e5 hp4⟩
          | bk env5 st5 => rw [hb] at hp4; exact hp4
          | rt v5 st5 => rw [hb] at hp4; exact hp4
          | ex u5 st5 => rw [hb] at hp4; exact hp4
          | bad => rw [hb] at hp4; exact hp4⟩
theorem ys_while {body : List Stmt} {mb : MS} (hp : PassesOwn (model X.prog X.w) X.A X.env X.xe) (hc : PT X c (tT (gX X cm) E tc)) (hb : PSs X body (tS (gX X cm) E mb)) : PS X (.While c body [] pos) (tS (gX X cm) E (msWhile tc mb)) :=
  PS.weak (ps_while hp hc hb) fun D σ H ⟨ρ, st, env, hs, he, hp⟩ => by
    refine ⟨fun m σ H => ∃ ρ2 st2 env2, RepS (gX X cm) H ρ2 st2 ∧ RepE X.K H ρ2 st2.length env2 σ ∧ PostS (gX X cm) E H ρ2 st2.length (whileN tc mb m env2 st2) D, ⟨FUEL, ρ, st, env, hs, he, hp⟩, ?_⟩
    rintro m σ H ⟨ρ2, st2, env2, s2, he2, hp2⟩
    cases m with
    | zero => exact hp2.elim
    | succ f =>
      simp only [whileN] at hp2
      refine ⟨ρ2, st2, env2, s2, he2, hp2.toI fun k st3 H3 ρ3 b e3 s3 r3 hp3 => ?_⟩
      cases (show b = k from r3)
      cases k with
      | false => exact iteF (hp3 H3 ρ3 σ .refl s3 (he2.ext s2 e3))
      | true =>
        refine iteT ⟨fun σ' H' => ∃ ρ2 st2 env2, RepS (gX X cm) H' ρ2 st2 ∧ RepE X.K H' ρ2 st2.length env2 σ' ∧ PostS (gX X cm) E H' ρ2 st2.length (whileN tc mb f env2 st2) D, fun σ' H' hN => ⟨f, Nat.lt_succ_self f, hN⟩, ρ3, st3, env2, s3, he2.ext s2 e3, ?_⟩
        have hp4 : PostS (gX X cm) E H3 ρ3 st3.length (step (mb env2 st3) (whileN tc mb f)) D := hp3
        cases hb : mb env2 st3 with
        | nx env5 st5 => rw [hb] at hp4; exact fun H5 ρ5 σ5 e5 s5 he5 => ⟨ρ5, st5, env5, s5, he5, PostS.lift e5 hp4⟩
        | ct env5 st5 => rw [hb] at hp4; exact fun H5 ρ5 σ5 e5 s5 he5 => ⟨ρ5, st5, env5, s5, he5, PostS.lift e5 hp4⟩
        | bk env5 st5 => rw [hb] at hp4; exact hp4
        | rt v5 st5 => rw [hb] at hp4; exact hp4
        | ex u5 st5 => rw [hb] at hp4; exact hp4
        | bad => rw [hb] at hp4; exact hp4

/-! ### comprehensions -/
theorem wipeE_len : ∀ (env : Ev) (l : List Nat), (wipeE env l).length = env.length
  | _, [] => rfl
  | env, i :: r => by rw [wipeE, wipeE_len, List.length_set]
theorem wipe_none {σ : St} {i : Nat} : ∀ {vs : List Nat}, i ∈ vs → i < σ.length → (wipe σ vs)[i]? = some none
  | [], h, _ => by simp at h
  | v :: vs, h, hl => by
    show ((wipe σ vs).set v none)[i]? = some none
    by_cases e : v = i
    · subst e
      exact List.getElem?_set_self (by rw [wipe_length]; exact hl)
    · rw [List.getElem?_set_ne e]
      exact wipe_none ((List.mem_cons.mp h).resolve_left fun z => e z.symm) hl
theorem wipe_eq {σ σ2 : St} {vs : List Nat} (hl : σ2.length = σ.length) (h : ∀ (i : Nat), i ∉ vs → σ2[i]? = σ[i]?) : wipe σ2 vs = wipe σ vs := by
  refine List.ext_getElem? fun i => ?_
  by_cases hi : i ∈ vs
  · by_cases hlt : i < σ.length
    · rw [wipe_none hi hlt, wipe_none hi (hl ▸ hlt)]
    · rw [List.getElem?_eq_none (by rw [wipe_length]; omega), List.getElem?_eq_none (by rw [wipe_length]; omega)]
  · rw [wipe_out hi, wipe_out hi]
    exact h i hi
theorem wipeE_none {env : Ev} {i : Nat} {v : AV} : ∀ {vs : List Nat} {env : Ev}, (wipeE env vs)[i]? = some (some v) → env[i]? = some (some v) ∧ i ∉ vs
  | [], env, h => ⟨h, by simp⟩
  | j :: vs, env, h => by
    obtain ⟨h1, h2⟩ := wipeE_none (vs := vs) (env := env.set j none) h
    by_cases e : j = i
    · subst e
      by_cases hj : j < env.length
      · rw [List.getElem?_set_self hj] at h1; cases h1
      · rw [List.getElem?_eq_none (by rw [List.length_set]; omega)] at h1; cases h1
    · rw [List.getElem?_set_ne e] at h1
      exact ⟨h1, fun z => (List.mem_cons.mp z).elim (fun q => e q.symm) h2⟩
theorem RepE.wiped {K : PySem.W.Frag} {H : Hp} {ρ : Nat → Addr} {n : Nat} {env : Ev} {σ : St} (h : RepE K H ρ n env σ) (vs : List Nat) : RepE K H ρ n (wipeE env vs) (wipe σ vs) := by
  refine ⟨by rw [wipeE_len, wipe_length]; exact h.1, fun i v hv => ?_⟩
  obtain ⟨h1, h2⟩ := wipeE_none (env := env) hv
  obtain ⟨x, e1, r⟩ := h.2 i v h1
  exact ⟨x, by rw [wipe_out h2]; exact e1, r⟩
theorem Post.bindB {α β χ ψ : Type} {G : GK} {H0 H : Hp} {ρ0 ρ : Nat → Addr} {n0 n : Nat} {RelA : Rl α χ} {RelB : Rl β ψ} {r : R α} {f : α → Sto → R β} {QB : ψ → Hp → Prop} {QA : χ → Hp → Prop} (h : Post G E H0 ρ0 n0 RelB (r.bind f) QB) (e : Ext H0 ρ0 n0 H ρ n)
    (k : ∀ v st' H' ρ' x, Ext H ρ n H' ρ' st'.length → RepS G H' ρ' st' → RelA H' ρ' st'.length v x → Post G E H0 ρ0 n0 RelB (f v st') QB → QA x H') : Post G E H ρ n RelA r QA := by
  cases r with
  | ok v st => exact fun H' ρ' x e' s q => k v st H' ρ' x e' s q h
  | ex u st => exact fun H' ρ' e' s => h H' ρ' (e.trans e') s
  | bad => exact h
theorem R.bind_assoc {α β γ : Type} (r : R α) (f : α → Sto → R β) (g : β → Sto → R γ) : (r.bind f).bind g = r.bind fun a st => (f a st).bind g := by cases r <;> rfl
/-- the addresses stay apart from a tracked list of none -/
theorem Ext.apart {H H1 : Hp} {ρ ρ1 : Nat → Addr} {n n1 : Nat} {D : Addr} {o : HO} (e : Ext H ρ n H1 ρ1 n1) (h : H D = some o) (hn : ∀ k, k < n → ρ k ≠ D) : (∀ k, k < n1 → ρ1 k ≠ D) ∧ H1 D = some o := by
  refine ⟨fun k hk z => ?_, e.fr D o h hn⟩
  by_cases hk2 : k < n
  · rw [e.ag k hk2] at z
    exact hn k hk2 z
  · have := e.nw k (Nat.le_of_not_lt hk2) hk
    rw [z, h] at this
    cases this
/-- .. which grows -/
theorem RepS.grow {G : GK} {H : Hp} {ρ : Nat → Addr} {st : Sto} {D : Addr} {xs ys : List V} (s : RepS G H ρ st) (h : H D = some (.lst xs)) (hn : ∀ k, k < st.length → ρ k ≠ D) : RepS G (upd H D (.lst ys)) ρ st :=
  s.mv (fun k hk => upd_ne (hn k hk)) (tups_at h .lst)
theorem tLc_of {G : GK} {it : MI} {mt : MT} {me : ME} {vs : List Nat} (hsl : ∀ i ∈ sl, i ∈ vs) (σ : St) (H : Hp) (Q : VK) (h : tE G E (mLc it mg mt me vs) σ H Q) : tLc (tI G E it) (tG G E sl mg) (tT G E mt) (tE G E me) vs σ H Q := by
  obtain ⟨ρ, st, env, hs, he, hp⟩ := h
  refine ⟨ρ, st, env, hs, he, hp.bindI fun q st1 H1 ρ1 J e1 s1 ok hp1 => fun D hD => ?_⟩
  have he1 := he.ext hs e1
  refine ⟨fun i m H => ∃ ρ2 st2 acc ys, Ext H1 ρ1 st1.length H ρ2 st2.length ∧ RepS G H ρ2 st2 ∧ H D = some (.lst ys) ∧ RepL G.K H ρ2 st2.length acc ys ∧ (∀ k, k < st2.length → ρ2 k ≠ D) ∧ RepE G.K H ρ2 st2.length env σ ∧
      Post G E H1 ρ1 st1.length (rV G.K) ((lcTurns q mg mt me (wipeE env vs) m i acc st2).bind fun acc st => oLst acc st) Q,
    ⟨_, ρ1, st1, [], [], Ext.lay hD, s1.lay hD, upd_same, .nil, s1.ne_new hD, he1.ext s1 (Ext.lay hD), hp1⟩, ?_⟩
  rintro i m H ⟨ρ2, st2, acc, ys, e2, s2, hDy, ra, hne, he2, hp2⟩
  obtain ⟨hgo, hstop⟩ := ok H ρ2 st2 i e2 s2
  cases m with
  | zero => exact hp2.elim
  | succ f =>
    simp only [lcTurns] at hp2
    cases hq : q.at st2 i with
    | none => rw [hq] at hp2; exact hp2.elim
    | some o =>
      rw [hq] at hp2
      cases o with
      | none =>
        refine .inl ⟨hstop hq, ?_⟩
        have hp3 : Post G E H1 ρ1 st1.length (rV G.K) (oLst acc st2) Q := hp2
        unfold oLst at hp3
        split at hp3
        · have e : (st2 ++ [Ob.lst acc]).length = st2.length + 1 := by simp
          -- the list's own place: a new one of ours
          refine hp3 H (more ρ2 st2.length D) _ (by rw [e]; exact e2.take_in hD) (s2.take_in (ob := .lst acc) hne hDy ra) ?_
          have z := Rep.loc (K := G.K) (H := H) (ρ := more ρ2 st2.length D) (n := (st2 ++ [Ob.lst acc]).length) (k := st2.length) (by rw [e]; exact Nat.lt_succ_self _)
          rw [more_at] at z
          exact z
        · exact hp3.elim
      | some v =>
        obtain ⟨go, yl⟩ := hgo v hq
        refine .inr ⟨go, fun H => ∃ ρ2 st2 acc ys, Ext H1 ρ1 st1.length H ρ2 st2.length ∧ RepS G H ρ2 st2 ∧ H D = some (.lst ys) ∧ RepL G.K H ρ2 st2.length acc ys ∧ (∀ k, k < st2.length → ρ2 k ≠ D) ∧ RepE G.K H ρ2 st2.length env σ ∧
            Post G E H1 ρ1 st1.length (rV G.K) ((lcTurns q mg mt me (wipeE env vs) f (i + 1) acc st2).bind fun acc st => oLst acc st) Q,
          fun H' hN => ⟨f, Nat.lt_succ_self f, hN⟩, fun x H' hy => ?_⟩
        obtain ⟨e3, s3, r3⟩ := yl x H' hy
        obtain ⟨hne3, hD3⟩ := e3.apart hDy hne
        have he3 := he2.ext s2 e3
        have hp3 : Post G E H1 ρ1 st1.length (rV G.K) ((mg v (wipeE env vs) st2).bind fun env' st => ((mt env' st).bind fun k st => if k then (me env' st).bind fun y st => if acc.length < LIM then lcTurns q mg mt me (wipeE env vs) f (i + 1) (acc ++ [y]) st else .bad
            else lcTurns q mg mt me (wipeE env vs) f (i + 1) acc st).bind fun acc st => oLst acc st) Q := by
          rw [← R.bind_assoc]
          exact hp2
        refine ⟨ρ2, st2, wipeE env vs, v, s3, he3.wiped vs, r3, hp3.bindB (e2.trans e3) fun env4 st4 H4 ρ4 σ4 e4 s4 q4 hp4 => ?_⟩
        obtain ⟨q4, hl4, hn4⟩ := q4
        obtain ⟨hne4, hD4⟩ := e4.apart hD3 hne3
        have e24 := (e2.trans e3).trans e4
        refine ⟨?_, ρ4, st4, env4, s4, q4, ?_⟩
        · rw [wipe_eq hl4 fun i hi => hn4 i fun z => hi (hsl i z)]
          exact wipe_eq (wipe_length σ vs) fun i hi => wipe_out hi
        · rw [R.bind_assoc] at hp4
          refine hp4.bindB e24 fun k st5 H5 ρ5 b e5 s5 r5 hp5 => ?_
          cases (show b = k from r5)
          obtain ⟨hne5, hD5⟩ := e5.apart hD4 hne4
          have e25 := e24.trans e5
          have he5 := (he3.ext s3 e4).ext s4 e5
          have ra5 := (RepL.ext s4 e5 (RepL.ext s3 e4 (RepL.ext s2 e3 ra)))
          cases k with
          | false =>
            refine iteF ?_
            exact ⟨ρ5, st5, acc, ys, e25, s5, hD5, ra5, hne5, he5, hp5⟩
          | true =>
            refine iteT ⟨ρ5, st5, env4, s5, RepE.ext s4 e5 q4, ?_⟩
            rw [if_pos rfl, R.bind_assoc] at hp5
            refine hp5.bindB e25 fun y st6 H6 ρ6 z e6 s6 r6 hp6 => ?_
            obtain ⟨hne6, hD6⟩ := e6.apart hD5 hne5
            have e26 := e25.trans e6
            have he6 := he5.ext s5 e6
            have ra6 := RepL.ext s5 e6 ra5
            split at hp6
            · rename_i hlt
              have hl := ra6.length
              have t := tups_at (o := .lst (ys ++ [z])) (K := G.K) hD6 .lst
              refine ⟨ys, hD6, by rw [← hl, ← LIM_line]; exact hlt, ρ6, st6, acc ++ [y], ys ++ [z], ?_, s6.grow hD6 hne6, upd_same, ?_, hne6, ⟨he6.1, fun i v hv => let ⟨x, h1, h2⟩ := he6.2 i v hv; ⟨x, h1, rep_mv t (Nat.le_refl _) (fun _ _ => rfl) _ _ h2⟩⟩, hp6⟩
              · exact ⟨e26.le, e26.ag, fun a o h hk => by rw [upd_ne (ne_of_none h hD)]; exact e26.fr a o h hk, e26.nw, fun a o h => by rw [upd_ne (ne_of_none h hD)]; exact e26.kp a o h, fun a ob u h => by rw [upd_ne (ne_of_none h hD)]; exact e26.fz a ob u h⟩
              · exact RepL.append (repL_mv t (Nat.le_refl _) (fun _ _ => rfl) _ _ ra6) (.cons (rep_mv t (Nat.le_refl _) (fun _ _ => rfl) _ _ r6) .nil)
            · exact hp6.elim
/-- a clause's tests -/
theorem yts_nil : PTs X [] (tT (gX X cm) E mtYes) := ⟨fun pins s σ H Q I ⟨ρ, st, env, hs, he, hp⟩ => pts_nil.run pins s σ H Q I (Post.at (x := true) hp hs rfl)⟩
theorem yts_one (h : PT X c (tT (gX X cm) E tc)) : PTs X [c] (tT (gX X cm) E tc) := pts_one h
theorem ye_lc {elt iter : Expr} {ifs : List Expr} {scope : Scope} (own : List (Str × Nat)) {it : MI} {mt : MT} {me : ME} (hc : X.calm = true) (hN : X.N.Nodup) (hi : PI X tg iter (tI (gX X cm) E it)) (ok : BlkOk X.N X.env.scope scope own)
    (hg : ∀ (s : Shared) (H : Hp) (C : Addr) (cl : List (Str × Addr)) (fp : List Addr), PG (X.blk s H scope (compEnvC scope cl C X.env) fp) tg (tG (gX X cm) E sl mg)) (ht : ∀ (s : Shared) (H : Hp) (C : Addr) (cl : List (Str × Addr)) (fp : List Addr), PTs (X.blk s H scope (compEnvC scope cl C X.env) fp) ifs (tT (gX X cm) E mt))
    (he : ∀ (s : Shared) (H : Hp) (C : Addr) (cl : List (Str × Addr)) (fp : List Addr), PE (X.blk s H scope (compEnvC scope cl C X.env) fp) elt (tE (gX X cm) E me)) (hsl : ∀ i ∈ sl, i ∈ own.map (·.2)) (hs : ∀ x, foldedSetIterable iter X.env x = pure x := by intro _; rfl) :
    PE X (.ListComp elt [⟨tg, iter, ifs, 0⟩] scope pos) (tE (gX X cm) E (mLc it mg mt me (own.map (·.2)))) := PE.weak (pe_lc hc hN hi ok hg ht he hs) (tLc_of hsl)
/-- name = [..] -/
theorem ys_setLc (i : Nat) {y : Str} {py spos : Pos} {elt iter : Expr} {ifs : List Expr} {scope : Scope} (own : List (Str × Nat)) {it : MI} {mt : MT} {me : ME} (hc : X.calm = true) (hN : X.N.Nodup) (hy : X.N[i]? = some y) (hyl : X.env.scope.names.lookup y = some .local)
    (hsw : swapsWith (.ListComp elt [⟨tg, iter, ifs, 0⟩] scope pos) (some (.Name y py)) spos.line X.env = pure true) (hi : PI X tg iter (tI (gX X cm) E it)) (ok : BlkOk X.N X.env.scope scope own)
    (hg : ∀ (s : Shared) (H : Hp) (C : Addr) (cl : List (Str × Addr)) (fp : List Addr), PG (X.blk s H scope (compEnvC scope cl C X.env) fp) tg (tG (gX X cm) E sl mg)) (ht : ∀ (s : Shared) (H : Hp) (C : Addr) (cl : List (Str × Addr)) (fp : List Addr), PTs (X.blk s H scope (compEnvC scope cl C X.env) fp) ifs (tT (gX X cm) E mt))
    (he : ∀ (s : Shared) (H : Hp) (C : Addr) (cl : List (Str × Addr)) (fp : List Addr), PE (X.blk s H scope (compEnvC scope cl C X.env) fp) elt (tE (gX X cm) E me)) (hsl : ∀ i ∈ sl, i ∈ own.map (·.2)) (hs : ∀ x, foldedSetIterable iter X.env x = pure x := by intro _; rfl) :
    PS X (.Assign [.Name y py] (.ListComp elt [⟨tg, iter, ifs, 0⟩] scope pos) spos) (tS (gX X cm) E (msAsg (mGc (mLc it mg mt me (own.map (·.2)))) (mgName i))) :=
  PS.weak (ps_setLc hc hN hy hyl hsw hi ok hg ht he hs) fun D σ H ⟨ρ, st, env, hs, he, hp⟩ => by
    refine tLc_of (mt := mt) (me := me) (it := it) hsl σ H _ ⟨ρ, st, env, hs, he, gc_sound hs (hp.toI fun v st1 H1 ρ1 x e1 s1 r1 hp1 => hp1 H1 ρ1 _ .refl s1 ((he.ext hs e1).set i r1))⟩
end
end Y
set_option Elab.async false
set_option linter.all false
set_option maxRecDepth 100000
/-! Y6: operations on values -/
namespace Y
open PySem PySem.Spec L2
open PyProof.Rows hiding St
/-! ### arithmetic -/
def oAdd : O2 := fun x y st => match x, y with
  | .int i, .int j => .ok (.int (i + j)) st
  | .str a, .str b => if a.length + b.length ≤ LIM then .ok (.str (a ++ b)) st else .bad
  | .tup a, .tup b => if a.length + b.length ≤ LIM then .ok (.tup (a ++ b)) st else .bad
  | .loc a, .loc b => match st[a]?, st[b]? with
    | some (.lst xs), some (.lst ys) => if xs.length + ys.length ≤ LIM then .ok (.loc st.length) (st ++ [.lst (xs ++ ys)]) else .bad
    | _, _ => .bad
  | _, _ => .bad
def oSub : O2 := fun x y st => match x, y with
  | .int i, .int j => .ok (.int (i - j)) st
  | _, _ => .bad
/-- one of two factors is small -/
def smallB (i j : Int) : Bool := decide (i.natAbs < 2 ^ 64) || decide (j.natAbs < 2 ^ 64)
def oMul : O2 := fun x y st => match x, y with
  | .int i, .int j => if smallB i j then .ok (.int (i * j)) st else .bad
  | _, _ => .bad
def oMod : O2 := fun x y st => match x, y with
  | .int i, .int j => if 0 < j then .ok (.int (i % j)) st else .bad
  | _, _ => .bad
def oFdiv : O2 := fun x y st => match x, y with
  | .int i, .int j => if 0 < j ∧ j.natAbs < 1073741824 then .ok (.int (i / j)) st else .bad
  | _, _ => .bad
def oPow : O2 := fun x y st => match x, y with
  | .int i, .int j => if 0 ≤ j ∧ j ≤ 1000000 ∧ i.natAbs < 2 ^ 64 then .ok (.int (i ^ j.toNat)) st else .bad
  | _, _ => .bad
def oNeg : O1 := fun x st => match x with
  | .int i => .ok (.int (-i)) st
  | _ => .bad
/-! ### comparisons -/
def oLt : O2 := fun x y st => match x, y with
  | .int i, .int j => .ok (.bl (decide (i < j))) st
  | .str a, .str b => .ok (.bl (decide (a.cps.toList < b.cps.toList))) st
  | _, _ => .bad
def oLe : O2 := fun x y st => match x, y with
  | .int i, .int j => .ok (.bl (decide (i ≤ j))) st
  | .str a, .str b => .ok (.bl (!decide (b.cps.toList < a.cps.toList))) st
  | _, _ => .bad
def oGt : O2 := fun x y st => match x, y with
  | .int i, .int j => .ok (.bl (decide (j < i))) st
  | _, _ => .bad
def oGe : O2 := fun x y st => match x, y with
  | .int i, .int j => .ok (.bl (decide (j ≤ i))) st
  | _, _ => .bad
/-- the data that a value is -/
def den (st : Sto) : Nat → AV → Option PyData
  | 0, _ => none
  | _ + 1, .non => some .none
  | _ + 1, .bl b => some (.bool b)
  | _ + 1, .int i => some (.int i)
  | _ + 1, .str s => some (.str s)
  | f + 1, .tup xs => (mapO (den st f) xs).map .tuple
  | f + 1, .tmp xs => (mapO (den st f) xs).map .tuple
  | f + 1, .frl xs => (mapO (den st f) xs).map .list
  | f + 1, .loc k => match st[k]? with
    | some (.lst xs) => (mapO (den st f) xs).map .list
    | _ => none
def DEEP : Nat := 16
def oEq : O2 := fun x y st => match den st DEEP x, den st DEEP y with
  | some d, some e => .ok (.bl (PyData.eqv d e)) st
  | _, _ => .bad
def oNe : O2 := fun x y st => match den st DEEP x, den st DEEP y with
  | some d, some e => .ok (.bl (!PyData.eqv d e)) st
  | _, _ => .bad
def itemsOf : PyData → Option (List PyData)
  | .list xs => some xs
  | .tuple xs => some xs
  | _ => none
def oIn : O2 := fun x y st => match den st DEEP x, (den st DEEP y).bind itemsOf with
  | some d, some es => .ok (.bl (es.any fun z => PyData.eqv z d)) st
  | _, _ => .bad
def oNotIn : O2 := fun x y st => match den st DEEP x, (den st DEEP y).bind itemsOf with
  | some d, some es => .ok (.bl (!es.any fun z => PyData.eqv z d)) st
  | _, _ => .bad
def isNon : AV → Bool
  | .non => true
  | _ => false
def oIs : O2 := fun x y st => match y with
  | .non => .ok (.bl (isNon x)) st
  | _ => .bad
def oIsNot : O2 := fun x y st => match y with
  | .non => .ok (.bl (!isNon x)) st
  | _ => .bad
def oIsB : O2 := fun x y st => match x, y with
  | .bl a, .bl b => .ok (.bl (decide (a = b))) st
  | _, _ => .bad
def oIsNotB : O2 := fun x y st => match x, y with
  | .bl a, .bl b => .ok (.bl (!decide (a = b))) st
  | _, _ => .bad
/-! ### items -/
def oIx : O2 := fun x y st => match y with
  | .int i => match x with
    | .tup xs => match atI xs i with
      | some v => .ok v st
      | none => .bad
    | .tmp xs => match atI xs i with
      | some v => .ok v st
      | none => .bad
    | .loc k => match rdL st k with
      | some xs => match atI xs i with
        | some v => .ok v st
        | none => .bad
      | none => .bad
    | _ => .bad
  | _ => .bad
def oSetL : O3 := fun x y v st => match x, y with
  | .loc k, .int i => match st[k]? with
    | some (.lst xs) => match ixN xs.length i with
      | some j => .ok () (st.set k (.lst (xs.set j v)))
      | none => .bad
    | _ => .bad
  | _, _ => .bad
def cutA (xs : List AV) (lo hi : Option Int) : List AV := (xs.drop (HT.sIx xs.length 0 lo)).take (HT.sIx xs.length xs.length hi - HT.sIx xs.length 0 lo)
abbrev MO := Ev → Sto → R (Option Int)
def moNone : MO := fun _ st => .ok none st
def moSome (a : ME) : MO := fun env st => (a env st).bind fun x st => match x with
  | .int i => .ok (some i) st
  | _ => .bad
abbrev OS := AV → Option Int → Option Int → Sto → R AV
def mSl (o : OS) (a : ME) (l h : MO) : ME := fun env st => (a env st).bind fun x st => (l env st).bind fun i st => (h env st).bind fun j st => o x i j st
def oSl : OS := fun x i j st => match x with
  | .tup xs => .ok (.tup (cutA xs i j)) st
  | .frl xs => .ok (.loc st.length) (st ++ [.lst (cutA xs i j)])
  | .loc k => match rdL st k with
    | some xs => .ok (.loc st.length) (st ++ [.lst (cutA xs i j)])
    | none => .bad
  | _ => .bad
/-! ### built-ins -/
def oLen : ON := fun vs st => match vs with
  | [.tup xs] => .ok (.int xs.length) st
  | [.tmp xs] => .ok (.int xs.length) st
  | [.loc k] => match rdL st k with
    | some xs => .ok (.int xs.length) st
    | none => .bad
  | [.str s] => if s.length ≤ LIM then .ok (.int s.length) st else .bad
  | _ => .bad
def oMax2 : ON := fun vs st => match vs with
  | [.int i, .int j] => .ok (.int (if j > i then j else i)) st
  | _ => .bad
def oMin2 : ON := fun vs st => match vs with
  | [.int i, .int j] => .ok (.int (if j < i then j else i)) st
  | _ => .bad
def oInt : ON := fun vs st => match vs with
  | [.int i] => .ok (.int i) st
  | [.bl b] => .ok (.int (if b then 1 else 0)) st
  | _ => .bad
/-- list(x) of a list or tuple -/
def oListOf : ON := fun vs st => match vs with
  | [.tup xs] => .ok (.loc st.length) (st ++ [.lst xs])
  | [.loc k] => match rdL st k with
    | some xs => .ok (.loc st.length) (st ++ [.lst xs])
    | none => .bad
  | _ => .bad
def oTupOf : ON := fun vs st => match vs with
  | [.tup xs] => .ok (.tup xs) st
  | [.loc k] => match rdL st k with
    | some xs => .ok (.tup xs) st
    | none => .bad
  | _ => .bad
def intsA : List AV → Option (List Int)
  | [] => some []
  | .int i :: r => (intsA r).map (i :: ·)
  | _ => none
def oSum : ON := fun vs st => match vs with
  | [.loc k] => match (rdL st k).bind intsA with
    | some ns => .ok (.int ns.sum) st
    | none => .bad
  | _ => .bad
/-! ### methods: the receiver's type is looked at ahead of the arguments -/
inductive Ty where | list | tuple | str | dict
def isTy (st : Sto) : Ty → AV → Bool
  | .list, .loc k => match st[k]? with
    | some (.lst _) => true
    | _ => false
  | .tuple, .tup _ => true
  | .str, .str _ => true
  | .dict, .loc k => match st[k]? with
    | some (.dct _) => true
    | some (.fdc _) => true
    | _ => false
  | _, _ => false
abbrev OM := AV → List AV → Sto → R AV
def mMet (T : Ty) (f : OM) (o : ME) (as : MA) : ME := fun env st => (o env st).bind fun x st => if isTy st T x then (as env st).bind fun vs st => f x vs st else .bad
def oAppend : OM := fun x vs st => match x, vs with
  | .loc k, [v] => match st[k]? with
    | some (.lst xs) => if xs.length < LIM then .ok .non (st.set k (.lst (xs ++ [v]))) else .bad
    | _ => .bad
  | _, _ => .bad
def oPopAt : OM := fun x vs st => match x, vs with
  | .loc k, [.int i] => match st[k]? with
    | some (.lst xs) => if -(2 ^ 63) ≤ i ∧ i < 2 ^ 63 then match ixN xs.length i with
      | some j => match xs[j]? with
        | some v => .ok v (st.set k (.lst (xs.eraseIdx j)))
        | none => .bad
      | none => .bad else .bad
    | _ => .bad
  | _, _ => .bad
def oInsert : OM := fun x vs st => match x, vs with
  | .loc k, [.int i, v] => match st[k]? with
    | some (.lst xs) => if xs.length < LIM ∧ 0 ≤ i ∧ i < 2 ^ 63 then .ok .non (st.set k (.lst (xs.take i.toNat ++ [v] ++ xs.drop i.toNat))) else .bad
    | _ => .bad
  | _, _ => .bad
def oCount : OM := fun x vs st => match vs with
  | [v] => match (den st DEEP x).bind itemsOf, den st DEEP v with
    | some es, some d => .ok (.int (es.countP fun y => PyData.eqv y d : Nat)) st
    | _, _ => .bad
  | _ => .bad
def oIndex : OM := fun x vs st => match vs with
  | [v] => match (den st DEEP x).bind itemsOf, den st DEEP v with
    | some es, some d => match es.findIdx? fun y => PyData.eqv y d with
      | some j => .ok (.int (j : Nat)) st
      | none => .bad
    | _, _ => .bad
  | _ => .bad

/-! ### what is walked -/
def miSeq (a : ME) : MI := fun env st => (a env st).bind fun x st => match x with
  | .tup xs => .ok (.tup xs) st
  | .loc k => match rdL st k with
    | some _ => .ok (.list k) st
    | none => .bad
  | _ => .bad
def rngOk (i : Int) : Bool := decide (i.natAbs < 2 ^ 62)
def miR1 (a : MA) : MI := fun env st => (a env st).bind fun vs st => match vs with
  | [.int j] => if rngOk j then .ok (.rng 0 j.toNat) st else .bad
  | _ => .bad
def miR2 (a : MA) : MI := fun env st => (a env st).bind fun vs st => match vs with
  | [.int i, .int j] => if rngOk i && rngOk j then .ok (.rng i (j - i).toNat) st else .bad
  | _ => .bad
/-- range(i, j, -1) -/
def miR3 (a : MA) : MI := fun env st => (a env st).bind fun vs st => match vs with
  | [.int i, .int j, .int (-1)] => if rngOk i && rngOk j then .ok (.rngC i (-1) (i - j).toNat) st else .bad
  | _ => .bad

section
variable {X : Cx} {cm : Nat → Addr} {E : EX} {G : GK} {K : PySem.W.Frag} {H : Hp} {ρ : Nat → Addr} {n : Nat} {st : Sto}
/-! ### arithmetic: soundness -/
theorem rep_int {i : Int} {x : V} (h : Rep K H ρ n (.int i) x) : x = .int i := by cases h; rfl
theorem rep_str {i : Str} {x : V} (h : Rep K H ρ n (.str i) x) : x = .str i := by cases h; rfl
theorem rep_bl {i : Bool} {x : V} (h : Rep K H ρ n (.bl i) x) : x = .bl i := by cases h; rfl
theorem rep_non {x : V} (h : Rep K H ρ n .non x) : x = .non := by cases h; rfl
theorem rep_loc {k : Nat} {x : V} (h : Rep K H ρ n (.loc k) x) : x = .ref (ρ k) ∧ k < n := by cases h; exact ⟨rfl, ‹_›⟩
theorem rep_tup {xs : List AV} {x : V} (h : Rep K H ρ n (.tup xs) x) : ∃ a ys, x = .ref a ∧ SqP K H a ys ∧ RepL K H ρ n xs ys := by cases h; exact ⟨_, _, rfl, ‹_›, ‹_›⟩
theorem rep_tmp {xs : List AV} {x : V} (h : Rep K H ρ n (.tmp xs) x) : ∃ a ys, x = .ref a ∧ SqT K H a ys ∧ RepL K H ρ n xs ys := by cases h; exact ⟨_, _, rfl, ‹_›, ‹_›⟩
theorem rep_frl {xs : List AV} {x : V} (h : Rep K H ρ n (.frl xs) x) : ∃ a ys, x = .ref a ∧ SqF K H a ys ∧ RepL K H ρ n xs ys := by cases h; exact ⟨_, _, rfl, ‹_›, ‹_›⟩
theorem RepS.lst (s : RepS G H ρ st) {k : Nat} {xs : List AV} (h : st[k]? = some (.lst xs)) : ∃ ys, H (ρ k) = some (.lst ys) ∧ RepL G.K H ρ st.length xs ys := by
  obtain ⟨ys, sh, r⟩ := s.ob k _ h
  exact ⟨ys, sh, r⟩
theorem rdL_some {k : Nat} {xs : List AV} (h : rdL st k = some xs) : st[k]? = some (.lst xs) := by
  unfold rdL at h
  split at h
  · rename_i ys e
    cases h
    exact e
  · cases h
theorem lt_of_at {k : Nat} {o : Ob} (h : st[k]? = some o) : k < st.length := (List.getElem?_eq_some_iff.mp h).1
def pT (o : Obj) (xs : List V) : HO := .frz o (.tup xs)
/-- t + u, the sum a plain tuple -/
def rCatP (K : PySem.W.Frag) : R2 := fun x y H Q => ∃ a b xs ys, x = .ref a ∧ y = .ref b ∧ SqT K H a xs ∧ SqT K H b ys ∧ xs.length + ys.length ≤ sizeLine ∧
  (xs = [] → Q (.ref b) H) ∧ (xs ≠ [] → ys = [] → Q (.ref a) H) ∧ (xs ≠ [] → ys ≠ [] → ∀ p o, o.cls = .type "tuple" → o.dict = none → H p = none → Q (.ref p) (upd H p (pT o (xs ++ ys))))
theorem op_catP : OpR X (binaryOp .Add) (rCatP X.K) := by
  intro pins s σ H x y v u Q I rx ry h
  obtain ⟨a, b, xs, ys, rfl, rfl, ha, hb, hz, q0, q1, q2⟩ := h
  cases rx
  cases ry
  obtain ⟨its, r1, p1, _⟩ := I.tuple ha
  obtain ⟨its2, r2, p2, _⟩ := I.tuple hb
  by_cases hx : xs = []
  · subst hx
    cases r1
    exact cat_tup0 p1 p2 ⟨.ref b, H, I, rfl, q0 rfl⟩
  · refine HT.cat_tup p1 p2 (fun z => hx (r1.nil_iff.mp z)) (fun z => ⟨.ref a, H, I, rfl, q1 hx (r2.nil_iff.mp z)⟩) (fun z => ?_) (by rw [← r1.length, ← r2.length]; exact hz)
    exact ⟨.ref s.heap.objs.size, _, Inv.lplain (t' := s.toks) I (r1.append r2) (by rw [List.length_append]; exact hz), rfl, q2 hx (fun w => z (r2.nil_iff.mpr w)) _ _ rfl rfl (I.hok.fresh (Nat.le_refl _))⟩
theorem or_add : OpR X (binaryOp .Add) (fun x y H Q => rI0 (fun i j => .int (i + j)) x y H Q ∨ (∃ i j, x = .str i ∧ y = .str j ∧ i.length + j.length ≤ sizeLine ∧ Q (.str (i ++ j)) H) ∨ rCatP X.K x y H Q ∨ rCat x y H Q) :=
  op_add.or (op_add_str.or (op_catP.or op_cat))
theorem sn_add : Snd2 (gX X cm) E oAdd (fun x y H Q => rI0 (fun i j => .int (i + j)) x y H Q ∨ (∃ i j, x = .str i ∧ y = .str j ∧ i.length + j.length ≤ sizeLine ∧ Q (.str (i ++ j)) H) ∨ rCatP X.K x y H Q ∨ rCat x y H Q) := by
  intro H ρ st a b x y Q s ra rb h
  unfold oAdd at h
  split at h
  · cases rep_int ra; cases rep_int rb
    exact .inl ⟨_, _, rfl, rfl, Post.at (x := V.int _) h s (.int _)⟩
  · cases rep_str ra; cases rep_str rb
    split at h
    · rename_i hl
      exact .inr (.inl ⟨_, _, rfl, rfl, by rw [← LIM_line]; exact hl, Post.at (x := V.str _) h s (.str _)⟩)
    · exact h.elim
  · obtain ⟨p, xs, rfl, hp, rp⟩ := rep_tup ra
    obtain ⟨q, ys, rfl, hq, rq⟩ := rep_tup rb
    split at h
    · rename_i hl
      refine .inr (.inr (.inl ⟨p, q, xs, ys, rfl, rfl, hp.seq, hq.seq, by rw [← rp.length, ← rq.length, ← LIM_line]; exact hl, fun e => ?_, fun _ e => ?_, fun _ _ p' o hc hd hn => plain_at s (rp.append rq) hc hd hn h⟩))
      · subst e
        cases rp
        exact Post.at (x := V.ref q) h s (.tup hq rq)
      · subst e
        cases rq
        rw [List.append_nil] at h
        exact Post.at (x := V.ref p) h s (.tup hp rp)
    · exact h.elim
  · obtain ⟨rfl, hk⟩ := rep_loc ra
    obtain ⟨rfl, hj⟩ := rep_loc rb
    split at h
    · rename_i xs ys e1 e2
      obtain ⟨zs, h1, r1⟩ := s.lst e1
      obtain ⟨ws, h2, r2⟩ := s.lst e2
      split at h
      · rename_i hl
        exact .inr (.inr (.inr ⟨_, _, zs, ws, rfl, rfl, h1, h2, by rw [← r1.length, ← r2.length, ← LIM_line]; exact hl, fun p hn => list_at s (r1.append r2) hn h⟩))
      · exact h.elim
    · exact h.elim
  · exact h.elim
theorem sn_sub : Snd2 (gX X cm) E oSub (rI0 fun i j => .int (i - j)) := by
  intro H ρ st a b x y Q s ra rb h
  unfold oSub at h
  split at h
  · cases rep_int ra; cases rep_int rb
    exact ⟨_, _, rfl, rfl, Post.at (x := V.int _) h s (.int _)⟩
  · exact h.elim
theorem smallB_ok {i j : Int} (h : smallB i j = true) : CMul i j := by
  unfold smallB at h
  rw [Bool.or_eq_true] at h
  refine h.imp (fun z => ?_) fun z => ?_
  · have := of_decide_eq_true z
    constructor <;> omega
  · have := of_decide_eq_true z
    constructor <;> omega
theorem sn_mul : Snd2 (gX X cm) E oMul (rI CMul fun i j => .int (i * j)) := by
  intro H ρ st a b x y Q s ra rb h
  unfold oMul at h
  split at h
  · cases rep_int ra; cases rep_int rb
    split at h
    · rename_i hs
      exact ⟨_, _, rfl, rfl, smallB_ok hs, Post.at (x := V.int _) h s (.int _)⟩
    · exact h.elim
  · exact h.elim
theorem sn_mod : Snd2 (gX X cm) E oMod (rI (fun _ j => 0 < j) fun i j => .int (i % j)) := by
  intro H ρ st a b x y Q s ra rb h
  unfold oMod at h
  split at h
  · cases rep_int ra; cases rep_int rb
    split at h
    · rename_i hs
      exact ⟨_, _, rfl, rfl, hs, Post.at (x := V.int _) h s (.int _)⟩
    · exact h.elim
  · exact h.elim
theorem sn_fdiv : Snd2 (gX X cm) E oFdiv (rI CDiv fun i j => .int (i / j)) := by
  intro H ρ st a b x y Q s ra rb h
  unfold oFdiv at h
  split at h
  · cases rep_int ra; cases rep_int rb
    split at h
    · rename_i hs
      exact ⟨_, _, rfl, rfl, ⟨hs.1, by have := hs.2; omega⟩, Post.at (x := V.int _) h s (.int _)⟩
    · exact h.elim
  · exact h.elim
theorem sn_pow : Snd2 (gX X cm) E oPow (rI CPow fun i j => .int (i ^ j.toNat)) := by
  intro H ρ st a b x y Q s ra rb h
  unfold oPow at h
  split at h
  · cases rep_int ra; cases rep_int rb
    split at h
    · rename_i hs
      exact ⟨_, _, rfl, rfl, hs, Post.at (x := V.int _) h s (.int _)⟩
    · exact h.elim
  · exact h.elim
theorem sn_neg : Snd1 (gX X cm) E oNeg (rU fun i => .int (-i)) := by
  intro H ρ st a x Q s ra h
  unfold oNeg at h
  split at h
  · cases rep_int ra
    exact ⟨_, rfl, Post.at (x := V.int _) h s (.int _)⟩
  · exact h.elim
/-! ### comparisons: soundness -/
theorem or_lt : OpR X (compareOp .Lt) (fun x y H Q => rI0 (fun i j => .bl (decide (i < j))) x y H Q ∨ ∃ i j, x = .str i ∧ y = .str j ∧ Q (.bl (decide (i.cps.toList < j.cps.toList))) H) := op_lt.or op_lt_str
theorem sn_lt : Snd2 (gX X cm) E oLt (fun x y H Q => rI0 (fun i j => .bl (decide (i < j))) x y H Q ∨ ∃ i j, x = .str i ∧ y = .str j ∧ Q (.bl (decide (i.cps.toList < j.cps.toList))) H) := by
  intro H ρ st a b x y Q s ra rb h
  unfold oLt at h
  split at h
  · cases rep_int ra; cases rep_int rb
    exact .inl ⟨_, _, rfl, rfl, Post.at (x := V.bl _) h s (.bl _)⟩
  · cases rep_str ra; cases rep_str rb
    exact .inr ⟨_, _, rfl, rfl, Post.at (x := V.bl _) h s (.bl _)⟩
  · exact h.elim
theorem or_le : OpR X (compareOp .LtE) (fun x y H Q => rI0 (fun i j => .bl (decide (i ≤ j))) x y H Q ∨ ∃ i j, x = .str i ∧ y = .str j ∧ Q (.bl (!decide (j.cps.toList < i.cps.toList))) H) := op_le.or op_le_str
theorem sn_le : Snd2 (gX X cm) E oLe (fun x y H Q => rI0 (fun i j => .bl (decide (i ≤ j))) x y H Q ∨ ∃ i j, x = .str i ∧ y = .str j ∧ Q (.bl (!decide (j.cps.toList < i.cps.toList))) H) := by
  intro H ρ st a b x y Q s ra rb h
  unfold oLe at h
  split at h
  · cases rep_int ra; cases rep_int rb
    exact .inl ⟨_, _, rfl, rfl, Post.at (x := V.bl _) h s (.bl _)⟩
  · cases rep_str ra; cases rep_str rb
    exact .inr ⟨_, _, rfl, rfl, Post.at (x := V.bl _) h s (.bl _)⟩
  · exact h.elim
theorem sn_gt : Snd2 (gX X cm) E oGt (rI0 fun i j => .bl (decide (j < i))) := by
  intro H ρ st a b x y Q s ra rb h
  unfold oGt at h
  split at h
  · cases rep_int ra; cases rep_int rb
    exact ⟨_, _, rfl, rfl, Post.at (x := V.bl _) h s (.bl _)⟩
  · exact h.elim
theorem sn_ge : Snd2 (gX X cm) E oGe (rI0 fun i j => .bl (decide (j ≤ i))) := by
  intro H ρ st a b x y Q s ra rb h
  unfold oGe at h
  split at h
  · cases rep_int ra; cases rep_int rb
    exact ⟨_, _, rfl, rfl, Post.at (x := V.bl _) h s (.bl _)⟩
  · exact h.elim
/-- a value's data as the layer tells it -/
theorem dps_of {f : AV → Option PyData} {m : Nat} (hf : ∀ v x d, Rep G.K H ρ n v x → f v = some d → Dp G.K H x d ∧ d.plain = true ∧ d.depth ≤ m) : ∀ {vs : List AV} {xs : List V} {ds : List PyData}, RepL G.K H ρ n vs xs → mapO f vs = some ds → DpAll G.K H xs ds ∧ PyData.plainAll ds = true ∧ PyData.depthAll ds ≤ m
  | [], _, ds, h, e => by
    cases h
    simp only [mapO] at e
    cases e
    exact ⟨.nil, rfl, Nat.zero_le _⟩
  | v :: vs, _, ds, h, e => by
    cases h with
    | cons h1 h2 =>
      simp only [mapO] at e
      split at e
      · rename_i d es e1 e2
        cases e
        obtain ⟨a1, a2, a3⟩ := hf v _ d h1 e1
        obtain ⟨b1, b2, b3⟩ := dps_of hf h2 e2
        refine ⟨.cons a1 b1, by rw [PyData.plainAll, a2, b2]; rfl, ?_⟩
        rw [PyData.depthAll]
        omega
      · cases e
theorem dp_of (s : RepS G H ρ st) : ∀ (f : Nat) (v : AV) (x : V) (d : PyData), Rep G.K H ρ st.length v x → den st f v = some d → Dp G.K H x d ∧ d.plain = true ∧ d.depth ≤ f
  | 0, _, _, _, _, e => nomatch e
  | f + 1, .non, _, _, h, e => by cases h; simp only [den] at e; cases e; exact ⟨.non, rfl, Nat.zero_le _⟩
  | f + 1, .bl b, _, _, h, e => by cases h; simp only [den] at e; cases e; exact ⟨.bl b, rfl, Nat.zero_le _⟩
  | f + 1, .int b, _, _, h, e => by cases h; simp only [den] at e; cases e; exact ⟨.int b, rfl, Nat.zero_le _⟩
  | f + 1, .str b, _, _, h, e => by cases h; simp only [den] at e; cases e; exact ⟨.str b, rfl, Nat.zero_le _⟩
  | f + 1, .tup xs, _, d, h, e => by
    simp only [den] at e
    cases hx : mapO (den st f) xs with
    | none => rw [hx] at e; cases e
    | some ds =>
      rw [hx] at e
      cases e
      obtain ⟨a, ys, rfl, hq, hr⟩ := rep_tup h
      obtain ⟨h1, h2, h3⟩ := dps_of (dp_of s f) hr hx
      exact ⟨.tup hq.seq h1, h2, by rw [PyData.depth]; omega⟩
  | f + 1, .tmp xs, _, d, h, e => by
    simp only [den] at e
    cases hx : mapO (den st f) xs with
    | none => rw [hx] at e; cases e
    | some ds =>
      rw [hx] at e
      cases e
      obtain ⟨a, ys, rfl, hq, hr⟩ := rep_tmp h
      obtain ⟨h1, h2, h3⟩ := dps_of (dp_of s f) hr hx
      exact ⟨.tup hq h1, h2, by rw [PyData.depth]; omega⟩
  | f + 1, .frl xs, _, d, h, e => by
    simp only [den] at e
    cases hx : mapO (den st f) xs with
    | none => rw [hx] at e; cases e
    | some ds =>
      rw [hx] at e
      cases e
      obtain ⟨a, ys, rfl, hq, hr⟩ := rep_frl h
      obtain ⟨h1, h2, h3⟩ := dps_of (dp_of s f) hr hx
      exact ⟨.lst hq.seq h1, h2, by rw [PyData.depth]; omega⟩
  | f + 1, .loc k, _, d, h, e => by
    obtain ⟨rfl, hk⟩ := rep_loc h
    simp only [den] at e
    split at e
    · rename_i xs hxs
      obtain ⟨ys, h1, r1⟩ := s.lst hxs
      cases hx : mapO (den st f) xs with
      | none => rw [hx] at e; cases e
      | some ds =>
        rw [hx] at e
        cases e
        obtain ⟨h3, h4, h5⟩ := dps_of (dp_of s f) r1 hx
        exact ⟨.lst (SqL.of h1) h3, h4, by rw [PyData.depth]; omega⟩
    · cases e
def rEqP (K : PySem.W.Frag) : R2 := fun x y H Q => ∃ d e, Dp K H x d ∧ Dp K H y e ∧ d.plain = true ∧ e.plain = true ∧ d.depth ≤ 16 ∧ e.depth ≤ 16 ∧ Q (.bl (PyData.eqv d e)) H
def rNeP (K : PySem.W.Frag) : R2 := fun x y H Q => ∃ d e, Dp K H x d ∧ Dp K H y e ∧ d.plain = true ∧ e.plain = true ∧ d.depth ≤ 16 ∧ e.depth ≤ 16 ∧ Q (.bl (!PyData.eqv d e)) H
theorem op_eqP (hu : X.A.units + 64 < cLine) : OpR X (compareOp .Eq) (rEqP X.K) := by
  intro pins s σ H x y v u Q I rx ry h
  obtain ⟨d, e, hd, he, sd, se, l1, l2, q⟩ := h
  obtain ⟨as, r1⟩ := Dp.reads I d x v hd rx
  obtain ⟨bs, r2⟩ := Dp.reads I e y u he ry
  exact SeqAt.eq_plain r1 r2 sd se (by omega) ⟨.bl _, H, I, rfl, q⟩
theorem op_neP (hu : X.A.units + 64 < cLine) : OpR X (compareOp .NotEq) (rNeP X.K) := by
  intro pins s σ H x y v u Q I rx ry h
  obtain ⟨d, e, hd, he, sd, se, l1, l2, q⟩ := h
  obtain ⟨as, r1⟩ := Dp.reads I d x v hd rx
  obtain ⟨bs, r2⟩ := Dp.reads I e y u he ry
  exact SeqAt.ne_plain r1 r2 sd se (by omega) ⟨.bl _, H, I, rfl, q⟩
theorem sn_eq : Snd2 (gX X cm) E oEq (rEqP X.K) := by
  intro H ρ st a b x y Q s ra rb h
  unfold oEq at h
  split at h
  · rename_i d e h1 h2
    obtain ⟨p1, p2, p3⟩ := dp_of s _ _ _ _ ra h1
    obtain ⟨q1, q2, q3⟩ := dp_of s _ _ _ _ rb h2
    exact ⟨d, e, p1, q1, p2, q2, p3, q3, Post.at (x := V.bl _) h s (.bl _)⟩
  · exact h.elim
theorem sn_ne : Snd2 (gX X cm) E oNe (rNeP X.K) := by
  intro H ρ st a b x y Q s ra rb h
  unfold oNe at h
  split at h
  · rename_i d e h1 h2
    obtain ⟨p1, p2, p3⟩ := dp_of s _ _ _ _ ra h1
    obtain ⟨q1, q2, q3⟩ := dp_of s _ _ _ _ rb h2
    exact ⟨d, e, p1, q1, p2, q2, p3, q3, Post.at (x := V.bl _) h s (.bl _)⟩
  · exact h.elim
/-- x in c, c a list or a tuple -/
def rInP (K : PySem.W.Frag) (neg : Bool) : R2 := fun x y H Q => ∃ d e es, Dp K H x d ∧ Dp K H y e ∧ itemsOf e = some es ∧ d.plain = true ∧ e.plain = true ∧ d.depth ≤ 16 ∧ e.depth ≤ 16 ∧ Q (.bl (if neg then !es.any fun z => PyData.eqv z d else es.any fun z => PyData.eqv z d)) H
theorem op_inP (hu : X.A.units + 64 < cLine) : OpR X (compareOp .In) (rInP X.K false) := by
  intro pins s σ H x y v u Q I rx ry h
  obtain ⟨d, e, es, hd, he, hes, sd, se, l1, l2, q⟩ := h
  obtain ⟨as, r1⟩ := Dp.reads I d x v hd rx
  obtain ⟨bs, r2⟩ := Dp.reads I e y u he ry
  cases e with
  | list xs =>
    cases hes
    rw [PyData.depth] at l2
    exact SeqAt.in_list_data r2 r1 se sd (by omega) ⟨.bl _, H, I, rfl, q⟩
  | tuple xs =>
    cases hes
    rw [PyData.depth] at l2
    exact SeqAt.in_tuple_data r2 r1 se sd (by omega) ⟨.bl _, H, I, rfl, q⟩
  | _ => cases hes
theorem op_notInP (hu : X.A.units + 64 < cLine) : OpR X (compareOp .NotIn) (rInP X.K true) := by
  intro pins s σ H x y v u Q I rx ry h
  obtain ⟨d, e, es, hd, he, hes, sd, se, l1, l2, q⟩ := h
  obtain ⟨as, r1⟩ := Dp.reads I d x v hd rx
  obtain ⟨bs, r2⟩ := Dp.reads I e y u he ry
  cases e with
  | list xs =>
    cases hes
    rw [PyData.depth] at l2
    exact SeqAt.notIn_list_data r2 r1 se sd (by omega) ⟨.bl _, H, I, rfl, q⟩
  | tuple xs =>
    cases hes
    rw [PyData.depth] at l2
    exact SeqAt.notIn_tuple_data r2 r1 se sd (by omega) ⟨.bl _, H, I, rfl, q⟩
  | _ => cases hes
theorem bind_items {o : Option PyData} {es : List PyData} (h : o.bind itemsOf = some es) : ∃ e, o = some e ∧ itemsOf e = some es := by
  cases o with
  | none => cases h
  | some e => exact ⟨e, rfl, h⟩
theorem sn_in : Snd2 (gX X cm) E oIn (rInP X.K false) := by
  intro H ρ st a b x y Q s ra rb h
  unfold oIn at h
  split at h
  · rename_i d es h1 h2
    obtain ⟨e, h3, h4⟩ := bind_items h2
    obtain ⟨p1, p2, p3⟩ := dp_of s _ _ _ _ ra h1
    obtain ⟨q1, q2, q3⟩ := dp_of s _ _ _ _ rb h3
    exact ⟨d, e, es, p1, q1, h4, p2, q2, p3, q3, Post.at (x := V.bl _) h s (.bl _)⟩
  · exact h.elim
theorem sn_notIn : Snd2 (gX X cm) E oNotIn (rInP X.K true) := by
  intro H ρ st a b x y Q s ra rb h
  unfold oNotIn at h
  split at h
  · rename_i d es h1 h2
    obtain ⟨e, h3, h4⟩ := bind_items h2
    obtain ⟨p1, p2, p3⟩ := dp_of s _ _ _ _ ra h1
    obtain ⟨q1, q2, q3⟩ := dp_of s _ _ _ _ rb h3
    exact ⟨d, e, es, p1, q1, h4, p2, q2, p3, q3, Post.at (x := V.bl _) h s (.bl _)⟩
  · exact h.elim
theorem isNon_of {v : AV} {x : V} (h : Rep K H ρ n v x) : decide (x = .non) = isNon v := by
  cases h <;> simp [isNon]
theorem sn_is : Snd2 (gX X cm) E oIs (fun x y H Q => y = .non ∧ Q (.bl (decide (x = .non))) H) := by
  intro H ρ st a b x y Q s ra rb h
  unfold oIs at h
  split at h
  · cases rep_non rb
    rw [isNon_of ra]
    exact ⟨rfl, Post.at (x := V.bl _) h s (.bl _)⟩
  · exact h.elim
theorem sn_isNot : Snd2 (gX X cm) E oIsNot (fun x y H Q => y = .non ∧ Q (.bl (!decide (x = .non))) H) := by
  intro H ρ st a b x y Q s ra rb h
  unfold oIsNot at h
  split at h
  · cases rep_non rb
    rw [isNon_of ra]
    exact ⟨rfl, Post.at (x := V.bl _) h s (.bl _)⟩
  · exact h.elim
theorem sn_isB : Snd2 (gX X cm) E oIsB rIsB := by
  intro H ρ st a b x y Q s ra rb h
  unfold oIsB at h
  split at h
  · cases rep_bl ra; cases rep_bl rb
    exact ⟨_, _, rfl, rfl, Post.at (x := V.bl _) h s (.bl _)⟩
  · exact h.elim
theorem sn_isNotB : Snd2 (gX X cm) E oIsNotB rNotB := by
  intro H ρ st a b x y Q s ra rb h
  unfold oIsNotB at h
  split at h
  · cases rep_bl ra; cases rep_bl rb
    exact ⟨_, _, rfl, rfl, Post.at (x := V.bl _) h s (.bl _)⟩
  · exact h.elim
end
end Y
set_option Elab.async false
set_option linter.all false
set_option maxRecDepth 100000
/-! Y7: items, slices, built-ins, methods, iterators: soundness; defs and calls -/
namespace Y
open PySem PySem.Spec L2
open PyProof.Rows hiding St
section
variable {X : Cx} {cm : Nat → Addr} {E : EX} {G : GK} {K : PySem.W.Frag} {H : Hp} {ρ : Nat → Addr} {n : Nat} {st : Sto}
/-! ### items -/
theorem RepL.atI : ∀ {vs : List AV} {xs : List V} {i : Int} {v : AV}, RepL K H ρ n vs xs → L2.atI vs i = some v → ∃ x, L2.atI xs i = some x ∧ Rep K H ρ n v x := by
  intro vs xs i v r e
  unfold L2.atI at e ⊢
  rw [← r.length]
  cases h : ixN vs.length i with
  | none => rw [h] at e; cases e
  | some j =>
    rw [h] at e
    exact r.get e
theorem or_ix : IxR X (fun x y H Q => rIxL X.K x y H Q ∨ rIxT X.K x y H Q) := ix_list.or ix_tup
theorem sn_ix : Snd2 (gX X cm) E oIx (fun x y H Q => rIxL X.K x y H Q ∨ rIxT X.K x y H Q) := by
  intro H ρ st a b x y Q s ra rb h
  unfold oIx at h
  split at h
  · cases rep_int rb
    split at h
    · obtain ⟨p, ys, rfl, hp, hr⟩ := rep_tup ra
      split at h
      · rename_i v hv
        obtain ⟨z, e, rz⟩ := hr.atI hv
        exact .inr ⟨p, ys, _, z, rfl, rfl, hp.seq, e, Post.at (x := z) h s rz⟩
      · exact h.elim
    · obtain ⟨p, ys, rfl, hp, hr⟩ := rep_tmp ra
      split at h
      · rename_i v hv
        obtain ⟨z, e, rz⟩ := hr.atI hv
        exact .inr ⟨p, ys, _, z, rfl, rfl, hp, e, Post.at (x := z) h s rz⟩
      · exact h.elim
    · obtain ⟨rfl, hk⟩ := rep_loc ra
      split at h
      · rename_i xs hx
        obtain ⟨ys, h1, r1⟩ := s.lst (rdL_some hx)
        split at h
        · rename_i v hv
          obtain ⟨z, e, rz⟩ := r1.atI hv
          exact .inl ⟨_, ys, _, z, rfl, rfl, SqL.of h1, e, Post.at (x := z) h s rz⟩
        · exact h.elim
      · exact h.elim
    · exact h.elim
  · exact h.elim
theorem ye_ix {a b : Expr} {ma mb : ME} {o : O2} {r : R2} {pos : Pos} (hr : IxR X r) (ho : Snd2 (gX X cm) E o r) (ha : PE X a (tE (gX X cm) E ma)) (hb : PE X b (tE (gX X cm) E mb)) (hs : PlainIx b) : PE X (.Subscript a b pos) (tE (gX X cm) E (mOp o ma mb)) :=
  PE.weak (pe_ix hr ha hb hs) (tOp_of ho)
theorem sn_setL : Snd3 (gX X cm) E oSetL rSetL := by
  intro H ρ st a b c x y z Q s ra rb rc h
  unfold oSetL at h
  split at h
  · obtain ⟨rfl, hk⟩ := rep_loc ra
    cases rep_int rb
    split at h
    · rename_i xs hx
      obtain ⟨ys, h1, r1⟩ := s.lst hx
      split at h
      · rename_i j hj
        refine ⟨_, ys, _, j, rfl, rfl, h1, by rw [← r1.length]; exact hj, ?_⟩
        refine h _ ρ () ?_ (s.put (ob := .lst _) hk h1 (show Shape _ _ _ (ys.set j z) (.lst _) from upd_same) (RepL.set rc j r1)) trivial
        rw [List.length_set]
        exact Ext.put hk h1 fun _ _ z => nomatch z
      · exact h.elim
    · exact h.elim
  · exact h.elim
/-! ### slices -/
def tO (G : GK) (E : EX) (m : MO) : TO := fun σ H Q => ∃ ρ st env, RepS G H ρ st ∧ RepE G.K H ρ st.length env σ ∧ Post G E H ρ st.length (fun _ _ _ (a b : Option Int) => b = a) (m env st) Q
theorem PO.weak {e : Option Expr} {t u : TO} (h : PO X e t) (w : ∀ σ H Q, u σ H Q → t σ H Q) : PO X e u := ⟨fun pins s σ H Q I q => h.run pins s σ H Q I (w _ _ _ q)⟩
theorem yo_none : PO X none (tO (gX X cm) E moNone) := PO.weak po_none fun σ H Q ⟨ρ, st, env, hs, he, hp⟩ => Post.at (x := (none : Option Int)) hp hs rfl
theorem yo_some {e : Expr} {m : ME} (h : PE X e (tE (gX X cm) E m)) : PO X (some e) (tO (gX X cm) E (moSome m)) := PO.weak (po_some h) fun σ H Q ⟨ρ, st, env, hs, he, hp⟩ => ⟨ρ, st, env, hs, he, hp.bindI fun v st1 H1 ρ1 x e1 s1 r1 hp1 => by
  have r1 : Rep X.K H1 ρ1 st1.length v x := r1
  cases v with
  | int i =>
    cases rep_int r1
    exact ⟨i, rfl, Post.at (x := some i) hp1 s1 rfl⟩
  | _ => exact hp1.elim⟩
def SndS (G : GK) (E : EX) (o : OS) (r : V → Option Int → Option Int → Hp → VK → Prop) : Prop := ∀ H ρ st a x i j Q, RepS G H ρ st → Rep G.K H ρ st.length a x → Post G E H ρ st.length (rV G.K) (o a i j st) Q → r x i j H Q
theorem ye_slice {e : Expr} {lo hi : Option Expr} {m : ME} {l h : MO} {o : OS} {r : V → Option Int → Option Int → Hp → VK → Prop} {p2 pos : Pos} (hr : SlR X r) (ho : SndS (gX X cm) E o r) (he : PE X e (tE (gX X cm) E m)) (hl : PO X lo (tO (gX X cm) E l)) (hh : PO X hi (tO (gX X cm) E h)) :
    PE X (.Subscript e (.Slice lo hi none p2) pos) (tE (gX X cm) E (mSl o m l h)) :=
  PE.weak (pe_slice hr he hl hh) fun σ H Q ⟨ρ, st, env, hs, he, hp⟩ => ⟨ρ, st, env, hs, he, hp.bindI fun v st1 H1 ρ1 x e1 s1 r1 hp1 => ⟨ρ1, st1, env, s1, he.ext hs e1, hp1.bindI fun i st2 H2 ρ2 i' e2 s2 r2 hp2 => ⟨ρ2, st2, env, s2, (he.ext hs e1).ext s1 e2, hp2.bindI fun j st3 H3 ρ3 j' e3 s3 r3 hp3 => by
    cases (show i' = i from r2)
    cases (show j' = j from r3)
    exact ho _ _ _ _ _ _ _ _ s3 (Rep.ext s2 e3 (Rep.ext s1 e2 r1)) hp3⟩⟩⟩
/-- t[lo:hi], the part a plain tuple -/
def rSlP (K : PySem.W.Frag) : V → Option Int → Option Int → Hp → VK → Prop := fun x lo hi H Q => ∃ a xs, x = .ref a ∧ SqT K H a xs ∧
  (HT.sIx xs.length 0 lo = 0 ∧ HT.sIx xs.length xs.length hi = xs.length → Q (.ref a) H) ∧ (¬ (HT.sIx xs.length 0 lo = 0 ∧ HT.sIx xs.length xs.length hi = xs.length) → ∀ p o, o.cls = .type "tuple" → o.dict = none → H p = none → Q (.ref p) (upd H p (pT o (cutV xs lo hi))))
theorem sl_tupP : SlR X (rSlP X.K) := by
  intro pins s σ H x v vl vu lo hi sl Q I rx hs pl pu h
  obtain ⟨a, xs, rfl, hx, q1, q2⟩ := h
  cases rx
  obtain ⟨its, r, ht, hz⟩ := I.tuple hx
  have hlen : its.toArray.size = xs.length := by rw [List.size_toArray]; exact r.length.symm
  by_cases hw : HT.sIx xs.length 0 lo = 0 ∧ HT.sIx xs.length xs.length hi = xs.length
  · refine ⟨"tuple", _, PyProof.Rows.slot_tuple_getitem.lookup, ht.typeIs, ?_⟩
    exact getItem_tuple_whole ht hs pl pu (by rw [hlen]; exact hw) ⟨.ref a, H, I, rfl, q1 hw⟩
  · refine ⟨"tuple", _, PyProof.Rows.slot_tuple_getitem.lookup, ht.typeIs, ?_⟩
    refine HT.getItem_tuple_cut ht hs pl pu (by rw [hlen]; exact hw) ?_ (by rw [hlen]; exact hz)
    rw [hlen]
    exact ⟨.ref s.heap.objs.size, _, Inv.lplain (xs := cutV xs lo hi) (t' := s.toks) I ((r.drop (HT.sIx xs.length 0 lo)).take (HT.sIx xs.length xs.length hi - HT.sIx xs.length 0 lo)) (Nat.le_trans (cutV_length xs lo hi) hz), rfl, q2 hw _ _ rfl rfl (I.hok.fresh (Nat.le_refl _))⟩
theorem or_sl : SlR X (fun x lo hi H Q => rSlP X.K x lo hi H Q ∨ rSlL X.K x lo hi H Q) := sl_tupP.or sl_list
theorem cut_rep {vs : List AV} {xs : List V} (r : RepL K H ρ n vs xs) (i j : Option Int) : RepL K H ρ n (cutA vs i j) (cutV xs i j) := by
  unfold cutA cutV
  rw [r.length]
  exact (r.drop _).take _
theorem cut_whole {vs : List AV} {i j : Option Int} (h : HT.sIx vs.length 0 i = 0 ∧ HT.sIx vs.length vs.length j = vs.length) : cutA vs i j = vs := by
  unfold cutA
  rw [h.1, h.2, List.drop_zero, Nat.sub_zero, List.take_length]
theorem sn_sl : SndS (gX X cm) E oSl (fun x lo hi H Q => rSlP X.K x lo hi H Q ∨ rSlL X.K x lo hi H Q) := by
  intro H ρ st a x i j Q s ra h
  unfold oSl at h
  split at h
  · obtain ⟨p, ys, rfl, hp, hr⟩ := rep_tup ra
    refine .inl ⟨p, ys, rfl, hp.seq, fun hw => ?_, fun _ q o hc hd hn => plain_at s (cut_rep hr i j) hc hd hn h⟩
    rw [← hr.length] at hw
    rw [cut_whole hw] at h
    exact Post.at (x := V.ref p) h s (.tup hp hr)
  · obtain ⟨p, ys, rfl, hp, hr⟩ := rep_frl ra
    exact .inr ⟨p, ys, rfl, hp.seq, fun q hn => list_at s (cut_rep hr i j) hn h⟩
  · obtain ⟨rfl, hk⟩ := rep_loc ra
    split at h
    · rename_i xs hx
      obtain ⟨ys, h1, r1⟩ := s.lst (rdL_some hx)
      exact .inr ⟨_, ys, rfl, SqL.of h1, fun q hn => list_at s (cut_rep r1 i j) hn h⟩
    · exact h.elim
  · exact h.elim
/-! ### built-ins -/
theorem cr_len : CallR X (.builtin "len") (fun xs H Q => (∃ p ys, xs = [.ref p] ∧ (SqL X.K H p ys ∨ SqT X.K H p ys) ∧ Q (.int ys.length) H) ∨ ∃ z, xs = [.str z] ∧ z.length ≤ sizeLine ∧ Q (.int z.length) H) := call_len_seq.or call_len_str
theorem sn_len : SndN (gX X cm) E oLen (fun xs H Q => (∃ p ys, xs = [.ref p] ∧ (SqL X.K H p ys ∨ SqT X.K H p ys) ∧ Q (.int ys.length) H) ∨ ∃ z, xs = [.str z] ∧ z.length ≤ sizeLine ∧ Q (.int z.length) H) := by
  intro H ρ st vs xs Q s r h
  unfold oLen at h
  split at h
  · obtain ⟨x, rfl, rx⟩ := r.one
    obtain ⟨p, ys, rfl, hp, hr⟩ := rep_tup rx
    exact .inl ⟨p, ys, rfl, .inr hp.seq, Post.at (x := V.int _) h s (by rw [hr.length]; exact .int _)⟩
  · obtain ⟨x, rfl, rx⟩ := r.one
    obtain ⟨p, ys, rfl, hp, hr⟩ := rep_tmp rx
    exact .inl ⟨p, ys, rfl, .inr hp, Post.at (x := V.int _) h s (by rw [hr.length]; exact .int _)⟩
  · obtain ⟨x, rfl, rx⟩ := r.one
    obtain ⟨rfl, hk⟩ := rep_loc rx
    split at h
    · rename_i zs hx
      obtain ⟨ys, h1, r1⟩ := s.lst (rdL_some hx)
      exact .inl ⟨_, ys, rfl, .inl (SqL.of h1), Post.at (x := V.int _) h s (by rw [r1.length]; exact .int _)⟩
    · exact h.elim
  · obtain ⟨x, rfl, rx⟩ := r.one
    cases rep_str rx
    split at h
    · rename_i hl
      exact .inr ⟨_, rfl, by rw [← LIM_line]; exact hl, Post.at (x := V.int _) h s (.int _)⟩
    · exact h.elim
  · exact h.elim
theorem sn_max2 : SndN (gX X cm) E oMax2 (fun xs H Q => ∃ i j, xs = [.int i, .int j] ∧ Q (.int (if j > i then j else i)) H) := by
  intro H ρ st vs xs Q s r h
  unfold oMax2 at h
  split at h
  · obtain ⟨x, y, rfl, rx, ry⟩ := r.two
    cases rep_int rx; cases rep_int ry
    exact ⟨_, _, rfl, Post.at (x := V.int _) h s (.int _)⟩
  · exact h.elim
theorem sn_min2 : SndN (gX X cm) E oMin2 (fun xs H Q => ∃ i j, xs = [.int i, .int j] ∧ Q (.int (if j < i then j else i)) H) := by
  intro H ρ st vs xs Q s r h
  unfold oMin2 at h
  split at h
  · obtain ⟨x, y, rfl, rx, ry⟩ := r.two
    cases rep_int rx; cases rep_int ry
    exact ⟨_, _, rfl, Post.at (x := V.int _) h s (.int _)⟩
  · exact h.elim
theorem sn_int : SndN (gX X cm) E oInt (fun xs H Q => (∃ i, xs = [.int i] ∧ Q (.int i) H) ∨ ∃ k, xs = [.bl k] ∧ Q (.int (if k then 1 else 0)) H) := by
  intro H ρ st vs xs Q s r h
  unfold oInt at h
  split at h
  · obtain ⟨x, rfl, rx⟩ := r.one
    cases rep_int rx
    exact .inl ⟨_, rfl, Post.at (x := V.int _) h s (.int _)⟩
  · obtain ⟨x, rfl, rx⟩ := r.one
    cases rep_bl rx
    exact .inr ⟨_, rfl, Post.at (x := V.int _) h s (.int _)⟩
  · exact h.elim
theorem sn_listOf : SndN (gX X cm) E oListOf (fun xs H Q => ∃ p ys, xs = [.ref p] ∧ (SqL X.K H p ys ∨ SqT X.K H p ys) ∧ ∀ l, H l = none → Q (.ref l) (upd H l (.lst ys))) := by
  intro H ρ st vs xs Q s r h
  unfold oListOf at h
  split at h
  · obtain ⟨x, rfl, rx⟩ := r.one
    obtain ⟨p, ys, rfl, hp, hr⟩ := rep_tup rx
    exact ⟨p, ys, rfl, .inr hp.seq, fun l hn => list_at s hr hn h⟩
  · obtain ⟨x, rfl, rx⟩ := r.one
    obtain ⟨rfl, hk⟩ := rep_loc rx
    split at h
    · rename_i zs hx
      obtain ⟨ys, h1, r1⟩ := s.lst (rdL_some hx)
      exact ⟨_, ys, rfl, .inl (SqL.of h1), fun l hn => list_at s r1 hn h⟩
    · exact h.elim
  · exact h.elim
/-- tuple(x): of a list a new plain tuple, of a tuple itself -/
def rTupP (K : PySem.W.Frag) : List V → Hp → VK → Prop := fun xs H Q => ∃ p ys, xs = [.ref p] ∧ ((SqL K H p ys ∧ ∀ l o, o.cls = .type "tuple" → o.dict = none → H l = none → Q (.ref l) (upd H l (pT o ys))) ∨ (SqT K H p ys ∧ Q (.ref p) H))
theorem cr_tupP : CallR X (.type "tuple") (rTupP X.K) := by
  intro pins s σ H xs us Q I r h
  obtain ⟨p, ys, rfl, h⟩ := h
  obtain ⟨u, rfl, rx⟩ := vals1 r
  cases rx
  rcases h with ⟨hq, q⟩ | ⟨hq, q⟩
  · obtain ⟨its, r', pl, hz⟩ := I.list hq
    have hlen := r'.length
    refine call_tuple_list pl.isList (fun h' kp => ?_) (by simp only [List.size_toArray] <;> omega)
    have I1 : Inv X pins σ H { s with heap := h' } := I.kept (t' := s.toks) kp
    exact ⟨.ref h'.objs.size, _, Inv.lplain (t' := s.toks) I1 r' hz, rfl, q _ _ rfl rfl (I1.hok.fresh (Nat.le_refl _))⟩
  · obtain ⟨its, r', pl, hz⟩ := I.tuple hq
    exact call_tuple_same pl ⟨.ref p, H, I, rfl, q⟩
theorem sn_tupOf : SndN (gX X cm) E oTupOf (rTupP X.K) := by
  intro H ρ st vs xs Q s r h
  unfold oTupOf at h
  split at h
  · obtain ⟨x, rfl, rx⟩ := r.one
    obtain ⟨p, ys, rfl, hp, hr⟩ := rep_tup rx
    exact ⟨p, ys, rfl, .inr ⟨hp.seq, Post.at (x := V.ref p) h s (.tup hp hr)⟩⟩
  · obtain ⟨x, rfl, rx⟩ := r.one
    obtain ⟨rfl, hk⟩ := rep_loc rx
    split at h
    · rename_i zs hx
      obtain ⟨ys, h1, r1⟩ := s.lst (rdL_some hx)
      exact ⟨_, ys, rfl, .inl ⟨SqL.of h1, fun l o hc hd hn => plain_at s r1 hc hd hn h⟩⟩
    · exact h.elim
  · exact h.elim
theorem intsA_rep : ∀ {vs : List AV} {xs : List V} {ns : List Int}, RepL K H ρ n vs xs → intsA vs = some ns → xs = ns.map V.int
  | [], _, ns, r, e => by cases r; simp only [intsA] at e; cases e; rfl
  | v :: vs, _, ns, r, e => by
    cases r with
    | cons h1 h2 =>
      cases v with
      | int i =>
        cases rep_int h1
        simp only [intsA] at e
        cases hx : intsA vs with
        | none => rw [hx] at e; cases e
        | some ms =>
          rw [hx] at e
          cases e
          rw [intsA_rep h2 hx]
          rfl
      | _ => simp [intsA] at e
theorem sn_sum : SndN (gX X cm) E oSum (rSum X.K) := by
  intro H ρ st vs xs Q s r h
  unfold oSum at h
  split at h
  · obtain ⟨x, rfl, rx⟩ := r.one
    obtain ⟨rfl, hk⟩ := rep_loc rx
    split at h
    · rename_i ns hx
      cases hz : rdL st _ with
      | none => rw [hz] at hx; cases hx
      | some zs =>
        rw [hz] at hx
        obtain ⟨ys, h1, r1⟩ := s.lst (rdL_some hz)
        have e := intsA_rep r1 hx
        subst e
        exact ⟨_, ns, rfl, SqL.of h1, Post.at (x := V.int _) h s (.int _)⟩
    · exact h.elim
  · exact h.elim
/-! ### methods -/
def tyName : Ty → String
  | .list => "list"
  | .tuple => "tuple"
  | .str => "str"
  | .dict => "dict"
/-- the receiver's type, by what is known of it -/
def tyOk (K : PySem.W.Frag) (T : Ty) (x : V) (H : Hp) : Prop := match T with
  | .tuple => ∃ p ys, x = .ref p ∧ SqP K H p ys
  | .list => tyV K "list" x H
  | .str => tyV K "str" x H
  | .dict => ∃ p kvs, x = .ref p ∧ Rd H p (.dK kvs)
theorem tyOk_is {pins : List (Addr × Obj)} {σ : St} {s : Shared} {T : Ty} {x : V} {v : Value} (I : Inv X pins σ H s) (r : RelV x v) (ty : tyOk X.K T x H) :
    s.TypeIs v (tyName T) ∧ ∀ a, v = .ref a → ∃ ob, s.heap.get? a = some ob ∧ ob.dict = none := by
  cases T with
  | list => exact tyV_is I r ty
  | str => exact tyV_is I r ty
  | tuple =>
    obtain ⟨p, ys, rfl, h⟩ := ty
    cases r
    rcases h with ⟨o, h, hc, hd⟩ | ⟨o, its, m, hk, hc, hd, _⟩
    · obtain ⟨e, _⟩ := I.hok p _ h
      refine ⟨⟨o, e, hc⟩, fun a z => ?_⟩
      cases z
      exact ⟨o, e, hd⟩
    · refine ⟨⟨o, I.kIn p o hk, hc⟩, fun a z => ?_⟩
      cases z
      exact ⟨o, I.kIn _ o hk, hd⟩
  | dict =>
    obtain ⟨p, kvs, rfl, h⟩ := ty
    cases r
    obtain ⟨_, _, _, _, o, _, _, e, ex, _⟩ := h.ok I.hok
    refine ⟨⟨o, e, ex.1⟩, fun a z => ?_⟩
    cases z
    exact ⟨o, e, ex.2.1⟩
theorem isTy_ok {T : Ty} {v : AV} {x : V} (s : RepS G H ρ st) (r : Rep G.K H ρ st.length v x) (h : isTy st T v = true) : tyOk G.K T x H := by
  cases T with
  | list =>
    cases v with
    | loc k =>
      obtain ⟨rfl, hk⟩ := rep_loc r
      simp only [isTy] at h
      split at h
      · rename_i xs hx
        obtain ⟨ys, h1, r1⟩ := s.lst hx
        exact .inl ⟨rfl, ys, SqL.of h1⟩
      · cases h
    | _ => cases h
  | tuple =>
    cases v with
    | tup xs =>
      obtain ⟨p, ys, rfl, hp, hr⟩ := rep_tup r
      exact ⟨p, ys, rfl, hp⟩
    | _ => cases h
  | str =>
    cases v with
    | str z => cases rep_str r; exact rfl
    | _ => cases h
  | dict =>
    cases v with
    | loc k =>
      obtain ⟨rfl, hk⟩ := rep_loc r
      simp only [isTy] at h
      split at h
      · rename_i xs hx
        obtain ⟨ys, ⟨ks, h1, _⟩, r1⟩ := s.ob k _ hx
        exact ⟨_, ks, rfl, .inl h1⟩
      · rename_i xs hx
        obtain ⟨ys, ⟨o, ks, h1, _⟩, r1⟩ := s.ob k _ hx
        exact ⟨_, ks, rfl, .inr ⟨o, h1⟩⟩
      · cases h
    | _ => cases h
def tMet (K : PySem.W.Frag) (T : Ty) (r : V → List V → Hp → VK → Prop) (to : TE) (t : TA) : TE := fun σ H Q => to σ H fun x H1 => tyOk K T x H1 ∧ t σ H1 fun xs H2 => r x xs H2 Q
theorem pe_met {o e : Expr} {es : List Expr} {to : TE} {t : TA} {name : Str} {apos cpos : Pos} {T : Ty} {id : String} {r : V → List V → Hp → VK → Prop} (pa : PlainAttrs (tyName T)) (slot : Slot (tyName T) name id) (hty : typeOf (.builtin id) = pure (.type "method_descriptor")) (hm : MtR X id r) (ho : PE X o to) (ha : PA X (e :: es) t)
    (hbase : attributeBase o name X.env (eval o X.env) = eval o X.env := by rfl)
    (hfew : ((backTo cpos (starEach (e :: es) X.env)).all (fun x => !x.1) && (backToKw cpos (keywordEach [] X.env)).all (fun x => x.1.isSome)
      && decide ((e :: es).length + ([] : List Keyword).length + (if ([] : List Keyword).isEmpty then 0 else 1) < 30)) = true := by rfl)
    (hline : (apos.endLine == cpos.line) = true := by rfl) (hs : starEach (e :: es) X.env = (false, eval e X.env) :: starEach es X.env := by rfl) (hplain : (backTo cpos (starEach es X.env)).any (·.1) = false := by rfl) :
    PE X (.Call (.Attribute o name apos) (e :: es) [] cpos) (tMet X.K T r to t) := by
  refine ⟨fun pins s σ H Q I h => ?_⟩
  refine wpAny_Call_method_late hbase hfew hline rfl (thn (ho.run pins s σ H _ I h) fun v s1 ⟨x, H1, I1, r1, ty, q1⟩ => ?_)
  obtain ⟨h1, h2⟩ := tyOk_is I1 r1 ty
  refine ⟨tyName T, id, pa, slot, hty, h1, h2, ?_⟩
  have hA := ha.run cpos pins s1 σ H1 _ I1 q1
  rw [hs] at hA ⊢
  refine Calls.callWith_builtin (by show (false || (backTo cpos (starEach es X.env)).any (·.1)) = false; rw [hplain] <;> rfl) (Calls.evalArgs_plain ?_)
  exact thn hA fun us s2 ⟨vs, H2, I2, r2, q2⟩ => hm pins s2 σ H2 x vs v us Q I2 r1 r2 q2
def SndM (G : GK) (E : EX) (o : OM) (r : V → List V → Hp → VK → Prop) : Prop := ∀ H ρ st a x vs xs Q, RepS G H ρ st → Rep G.K H ρ st.length a x → RepL G.K H ρ st.length vs xs → Post G E H ρ st.length (rV G.K) (o a vs st) Q → r x xs H Q
theorem ye_met {o e : Expr} {es : List Expr} {m : ME} {mas : MA} {f : OM} {name : Str} {apos cpos : Pos} {T : Ty} {id : String} {r : V → List V → Hp → VK → Prop} (pa : PlainAttrs (tyName T)) (slot : Slot (tyName T) name id) (hty : typeOf (.builtin id) = pure (.type "method_descriptor")) (hm : MtR X id r) (hf : SndM (gX X cm) E f r)
    (ho : PE X o (tE (gX X cm) E m)) (ha : PA X (e :: es) (tA (gX X cm) E mas))
    (hbase : attributeBase o name X.env (eval o X.env) = eval o X.env := by rfl)
    (hfew : ((backTo cpos (starEach (e :: es) X.env)).all (fun x => !x.1) && (backToKw cpos (keywordEach [] X.env)).all (fun x => x.1.isSome)
      && decide ((e :: es).length + ([] : List Keyword).length + (if ([] : List Keyword).isEmpty then 0 else 1) < 30)) = true := by rfl)
    (hline : (apos.endLine == cpos.line) = true := by rfl) (hs : starEach (e :: es) X.env = (false, eval e X.env) :: starEach es X.env := by rfl) (hplain : (backTo cpos (starEach es X.env)).any (·.1) = false := by rfl) :
    PE X (.Call (.Attribute o name apos) (e :: es) [] cpos) (tE (gX X cm) E (mMet T f m mas)) :=
  PE.weak (pe_met pa slot hty hm ho ha hbase hfew hline hs hplain) fun σ H Q ⟨ρ, st, env, hs, he, hp⟩ => ⟨ρ, st, env, hs, he, hp.bindI fun v st1 H1 ρ1 x e1 s1 r1 hp1 => by
    cases ht : isTy st1 T v with
    | false => rw [ht] at hp1; exact hp1.elim
    | true =>
      rw [ht, if_pos rfl] at hp1
      exact ⟨isTy_ok s1 r1 ht, ρ1, st1, env, s1, he.ext hs e1, hp1.bindI fun vs st2 H2 ρ2 xs e2 s2 r2 hp2 => hf _ _ _ _ _ _ _ _ s2 (Rep.ext s1 e2 r1) r2 hp2⟩⟩
/-- behind a list's change -/
theorem setL_at {k : Nat} {xs ws : List AV} {ys zs : List V} {v : AV} {x : V} {Q : VK} (s : RepS G H ρ st) (hx : st[k]? = some (.lst xs)) (h1 : H (ρ k) = some (.lst ys)) (r2 : RepL G.K H ρ st.length ws zs) (rv : Rep G.K H ρ st.length v x)
    (h : Post G E H ρ st.length (rV G.K) (.ok v (st.set k (.lst ws))) Q) : Q x (upd H (ρ k) (.lst zs)) := by
  have hk := lt_of_at hx
  refine h _ ρ x ?_ (s.put (ob := .lst ws) hk h1 (show Shape _ _ _ zs (.lst _) from upd_same) r2) ?_
  · rw [List.length_set]
    exact Ext.put hk h1 fun _ _ z => nomatch z
  · rw [List.length_set]
    exact rep_mv (tups_at h1 .lst) (Nat.le_refl _) (fun _ _ => rfl) _ _ rv
theorem sn_append : SndM (gX X cm) E oAppend rAppend := by
  intro H ρ st a x vs xs Q s ra rs h
  unfold oAppend at h
  split at h
  · obtain ⟨rfl, hk⟩ := rep_loc ra
    obtain ⟨y, rfl, ry⟩ := rs.one
    split at h
    · rename_i zs hx
      obtain ⟨ys, h1, r1⟩ := s.lst hx
      split at h
      · rename_i hl
        exact ⟨_, ys, y, rfl, rfl, h1, by rw [← r1.length, ← LIM_line]; exact hl, setL_at s hx h1 (r1.append (.cons ry .nil)) .non h⟩
      · exact h.elim
    · exact h.elim
  · exact h.elim
theorem sn_popAt : SndM (gX X cm) E oPopAt rPopAt := by
  intro H ρ st a x vs xs Q s ra rs h
  unfold oPopAt at h
  split at h
  · obtain ⟨rfl, hk⟩ := rep_loc ra
    obtain ⟨y, rfl, ry⟩ := rs.one
    cases rep_int ry
    split at h
    · rename_i zs hx
      obtain ⟨ys, h1, r1⟩ := s.lst hx
      split at h
      · rename_i hb
        split at h
        · rename_i j hj
          split at h
          · rename_i v hv
            obtain ⟨z, e, rz⟩ := r1.get hv
            rw [r1.length] at hj
            exact ⟨_, ys, _, j, z, rfl, rfl, h1, hb.1, hb.2, (ixN_seq hj).1, e, setL_at s hx h1 (r1.erase j) rz h⟩
          · exact h.elim
        · exact h.elim
      · exact h.elim
    · exact h.elim
  · exact h.elim
theorem sn_insert : SndM (gX X cm) E oInsert (fun x vs H Q => ∃ (l : Addr) (xs : List V) (i : Int) (y : V), x = .ref l ∧ vs = [.int i, y] ∧ H l = some (.lst xs) ∧ xs.length < sizeLine ∧ 0 ≤ i ∧ i < 2 ^ 63 ∧ Q .non (upd H l (.lst (xs.take i.toNat ++ [y] ++ xs.drop i.toNat)))) := by
  intro H ρ st a x vs xs Q s ra rs h
  unfold oInsert at h
  split at h
  · obtain ⟨rfl, hk⟩ := rep_loc ra
    obtain ⟨y, z, rfl, ry, rz⟩ := rs.two
    cases rep_int ry
    split at h
    · rename_i zs hx
      obtain ⟨ys, h1, r1⟩ := s.lst hx
      split at h
      · rename_i hb
        exact ⟨_, ys, _, z, rfl, rfl, h1, by rw [← r1.length, ← LIM_line]; exact hb.1, hb.2.1, hb.2.2, setL_at s hx h1 (((r1.take _).append (.cons rz .nil)).append (r1.drop _)) .non h⟩
      · exact h.elim
    · exact h.elim
  · exact h.elim
/-- c.count(y) -/
def rCountP (K : PySem.W.Frag) : V → List V → Hp → VK → Prop := fun x xs H Q => ∃ y e d es, xs = [y] ∧ Dp K H x e ∧ Dp K H y d ∧ itemsOf e = some es ∧ d.plain = true ∧ e.plain = true ∧ d.depth ≤ 16 ∧ e.depth ≤ 16 ∧ Q (.int (es.countP fun z => PyData.eqv z d : Nat)) H
theorem mt_countL (hu : X.A.units + 64 < cLine) : MtR X "list.count" (fun x xs H Q => rCountP X.K x xs H Q ∧ ∃ p ys, x = .ref p ∧ SqL X.K H p ys) := by
  intro pins s σ H x xs v us Q I rx rxs h
  obtain ⟨⟨y, e, d, es, rfl, he, hd, hes, sd, se, l1, l2, q⟩, p, ys, rfl, hL⟩ := h
  obtain ⟨u, rfl, ru⟩ := vals1 rxs
  obtain ⟨as, r1⟩ := Dp.reads I d y u hd ru
  obtain ⟨bs, r2⟩ := Dp.reads I e _ v he rx
  cases e with
  | list zs =>
    cases hes
    rw [PyData.depth] at l2
    cases r2 with
    | list g1 g2 g3 g4 => cases rx; exact SeqAt.count_list_data ⟨_, g1, g2, _, g3⟩ g4 r1 se sd (by omega) ⟨.int _, H, I.tok _, ⟨_, rfl⟩, q⟩
  | tuple zs =>
    exfalso
    cases he with
    | tup hT _ =>
      obtain ⟨its, _, ⟨o, n, e1, c1, _⟩, _⟩ := I.list hL
      obtain ⟨its2, _, ⟨o2, e2, c2, _⟩, _⟩ := I.tuple hT
      rw [e1] at e2
      cases e2
      rw [c1] at c2
      injection c2 with z
      exact absurd z (by decide)
  | _ => cases hes
theorem mt_countT (hu : X.A.units + 64 < cLine) : MtR X "tuple.count" (fun x xs H Q => rCountP X.K x xs H Q ∧ ∃ p ys, x = .ref p ∧ SqT X.K H p ys) := by
  intro pins s σ H x xs v us Q I rx rxs h
  obtain ⟨⟨y, e, d, es, rfl, he, hd, hes, sd, se, l1, l2, q⟩, p, ys, rfl, hL⟩ := h
  obtain ⟨u, rfl, ru⟩ := vals1 rxs
  obtain ⟨as, r1⟩ := Dp.reads I d y u hd ru
  obtain ⟨bs, r2⟩ := Dp.reads I e _ v he rx
  cases e with
  | tuple zs =>
    cases hes
    rw [PyData.depth] at l2
    cases r2 with
    | tuple g1 g2 g3 g4 => cases rx; exact SeqAt.count_tuple_data ⟨_, g1, g2, _, g3⟩ g4 r1 se sd (by omega) ⟨.int _, H, I.tok _, ⟨_, rfl⟩, q⟩
  | list zs =>
    exfalso
    cases he with
    | lst hT _ =>
      obtain ⟨its, _, ⟨o, n, e1, c1, _⟩, _⟩ := I.list hT
      obtain ⟨its2, _, ⟨o2, e2, c2, _⟩, _⟩ := I.tuple hL
      rw [e1] at e2
      cases e2
      rw [c1] at c2
      injection c2 with z
      exact absurd z (by decide)
  | _ => cases hes
theorem sn_count {a : AV} {x : V} {vs : List AV} {xs : List V} {Q : VK} (s : RepS G H ρ st) (ra : Rep G.K H ρ st.length a x) (rs : RepL G.K H ρ st.length vs xs) (h : Post G E H ρ st.length (rV G.K) (oCount a vs st) Q) : rCountP G.K x xs H Q := by
  unfold oCount at h
  split at h
  · obtain ⟨y, rfl, ry⟩ := rs.one
    split at h
    · rename_i es d h1 h2
      obtain ⟨e, h3, h4⟩ := bind_items h1
      obtain ⟨p1, p2, p3⟩ := dp_of s _ _ _ _ ra h3
      obtain ⟨q1, q2, q3⟩ := dp_of s _ _ _ _ ry h2
      exact ⟨y, e, d, es, rfl, p1, q1, h4, q2, p2, q3, p3, Post.at (x := V.int _) h s (.int _)⟩
    · exact h.elim
  · exact h.elim
def oCountL : OM := fun x vs st => match x with
  | .loc _ => oCount x vs st
  | _ => .bad
def oCountT : OM := fun x vs st => match x with
  | .tup _ => oCount x vs st
  | _ => .bad
theorem sn_countL : SndM (gX X cm) E oCountL (fun x xs H Q => rCountP X.K x xs H Q ∧ ∃ p ys, x = .ref p ∧ SqL X.K H p ys) := by
  intro H ρ st a x vs xs Q s ra rs h
  unfold oCountL at h
  split at h
  · refine ⟨sn_count s ra rs h, ?_⟩
    unfold oCount at h
    obtain ⟨rfl, hk⟩ := rep_loc ra
    split at h
    · split at h
      · rename_i es d h1 h2
        obtain ⟨e, h3, h4⟩ := bind_items h1
        simp only [DEEP, den] at h3
        split at h3
        · rename_i zs hz
          obtain ⟨ys, h1, r1⟩ := s.lst hz
          exact ⟨_, ys, rfl, SqL.of h1⟩
        · cases h3
      · exact h.elim
    · exact h.elim
  · exact h.elim
theorem sn_countT : SndM (gX X cm) E oCountT (fun x xs H Q => rCountP X.K x xs H Q ∧ ∃ p ys, x = .ref p ∧ SqT X.K H p ys) := by
  intro H ρ st a x vs xs Q s ra rs h
  unfold oCountT at h
  split at h
  · refine ⟨sn_count s ra rs h, ?_⟩
    obtain ⟨p, ys, rfl, hp, hr⟩ := rep_tup ra
    exact ⟨p, ys, rfl, hp.seq⟩
  · exact h.elim
/-! ### what is walked -/
/-- a list or a tuple -/
def iSeq (K : PySem.W.Frag) (tl : TE) : TI := fun σ H R => tl σ H fun x H1 => ∃ a, x = .ref a ∧ (((∃ xs, SqL K H1 a xs) ∧ R (Itl K a) H1) ∨ ((∃ xs, SqT K H1 a xs) ∧ R (Itt K a) H1))
theorem pi_seq {tg l : Expr} {tl : TE} (hl : PE X l tl) : PI X tg l (iSeq X.K tl) := by
  refine ⟨fun pins s σ H R I h => ?_⟩
  refine thn (hl.run pins s σ H _ I h) fun v s1 ⟨x, H1, I1, r1, q1⟩ => ?_
  obtain ⟨a, rfl, q1⟩ := q1
  have fp : ∀ b ∈ [s1.heap.objs.size], FpOk X pins H1 b := fun b hb => by
    obtain rfl : b = s1.heap.objs.size := by simpa using hb
    exact I1.fpOk (Nat.le_refl _) (I1.hok.fresh (Nat.le_refl _))
  cases r1
  rcases q1 with ⟨⟨xs, hq⟩, q⟩ | ⟨⟨xs, hq⟩, q⟩
  · obtain ⟨its, rv, p, hz⟩ := I1.list hq
    exact wpAny_pyIter_list p.isList ⟨s1.heap.objs.size, [s1.heap.objs.size], _, _, H1, rfl, I1.kept (t' := s1.toks) fun b o e => Heap.get?_push_of_some _ e, turn_list a _, ⟨_, Heap.get?_push_size _ rfl, rfl, rfl⟩, fp, q⟩
  · obtain ⟨its, rv, p, hz⟩ := I1.tuple hq
    exact wpAny_pyIter_tuple (show s1.heap.IsTuple a its.toArray from p) ⟨s1.heap.objs.size, [s1.heap.objs.size], _, _, H1, rfl, I1.kept (t' := s1.toks) fun b o e => Heap.get?_push_of_some _ e, turn_tuple a _, ⟨_, Heap.get?_push_size _ rfl, rfl, rfl⟩, fp, q⟩
/-- a list of ours, walked -/
theorem seq_list {k : Nat} {n : Nat} (hk : k < n) : SeqOk G (.list k) (Itl G.K (ρ k)) H ρ n := by
  intro H' ρ' st' i e s
  have ek : ρ' k = ρ k := e.ag k hk
  refine ⟨fun v hv => ?_, fun hv => ?_⟩
  · simp only [Sq.at] at hv
    cases hx : rdL st' k with
    | none => rw [hx] at hv; cases hv
    | some xs =>
      rw [hx] at hv
      have hv : xs[i]? = some v := Option.some.inj hv
      obtain ⟨ys, h1, r1⟩ := s.lst (rdL_some hx)
      rw [ek] at h1
      obtain ⟨x, e1, rx⟩ := r1.get hv
      refine ⟨⟨ys, x, SqL.of h1, e1⟩, fun z H'' hy => ?_⟩
      obtain ⟨rfl, hz⟩ := hy
      have := hz ys (SqL.of h1)
      rw [e1] at this
      cases this
      exact ⟨.refl, s, rx⟩
  · simp only [Sq.at] at hv
    cases hx : rdL st' k with
    | none => rw [hx] at hv; cases hv
    | some xs =>
      rw [hx] at hv
      have hv : xs[i]? = none := Option.some.inj hv
      obtain ⟨ys, h1, r1⟩ := s.lst (rdL_some hx)
      rw [ek] at h1
      exact ⟨ys, SqL.of h1, by rw [← r1.length]; exact List.getElem?_eq_none_iff.mp hv⟩
theorem seq_tup {a : Addr} {xs : List AV} {ys : List V} {st : Sto} (s : RepS G H ρ st) (hq : SqT G.K H a ys) (r : RepL G.K H ρ st.length xs ys) : SeqOk G (.tup xs) (Itt G.K a) H ρ st.length := by
  intro H' ρ' st' i e s'
  have hq' := (e.tups s).t _ _ hq
  have r' := RepL.ext s e r
  refine ⟨fun v hv => ?_, fun hv => ?_⟩
  · have hv : xs[i]? = some v := Option.some.inj hv
    obtain ⟨x, e1, rx⟩ := r'.get hv
    refine ⟨⟨ys, x, hq', e1⟩, fun z H'' hy => ?_⟩
    obtain ⟨rfl, hz⟩ := hy
    have := hz ys hq'
    rw [e1] at this
    cases this
    exact ⟨.refl, s', rx⟩
  · have hv : xs[i]? = none := Option.some.inj hv
    exact ⟨ys, hq', by rw [← r.length]; exact List.getElem?_eq_none_iff.mp hv⟩
theorem yi_seq {tg l : Expr} {m : ME} (h : PE X l (tE (gX X cm) E m)) : PI X tg l (tI (gX X cm) E (miSeq m)) :=
  PI.weak (pi_seq h) fun σ H R ⟨ρ, st, env, hs, he, hp⟩ => ⟨ρ, st, env, hs, he, hp.bindI fun v st1 H1 ρ1 x e1 s1 r1 hp1 => by
    have r1 : Rep X.K H1 ρ1 st1.length v x := r1
    cases v with
    | tup xs =>
      obtain ⟨a, ys, rfl, hq, hr⟩ := rep_tup r1
      exact ⟨a, rfl, .inr ⟨⟨ys, hq.seq⟩, Post.at hp1 s1 (seq_tup s1 hq.seq hr)⟩⟩
    | loc k =>
      obtain ⟨rfl, hk⟩ := rep_loc r1
      simp only at hp1
      cases hx : rdL st1 k with
      | none => rw [hx] at hp1; exact hp1.elim
      | some xs =>
        rw [hx] at hp1
        obtain ⟨ys, h1, _⟩ := s1.lst (rdL_some hx)
        exact ⟨_, rfl, .inl ⟨⟨ys, SqL.of h1⟩, Post.at hp1 s1 (seq_list hk)⟩⟩
    | _ => exact hp1.elim⟩
theorem seq_rng {lo : Int} {m n : Nat} : SeqOk G (.rng lo m) (Itr lo m) H ρ n := by
  intro H' ρ' st' i e s
  simp only [Sq.at]
  refine ⟨fun v hv => ?_, fun hv => ?_⟩
  · split at hv
    · rename_i hi
      cases hv
      refine ⟨hi, fun x H'' hy => ?_⟩
      obtain ⟨rfl, rfl⟩ := hy
      exact ⟨.refl, s, .int _⟩
    · cases hv
  · split at hv
    · cases hv
    · rename_i hi
      exact Nat.le_of_not_lt hi
theorem seq_rngC {lo c : Int} {m n : Nat} : SeqOk G (.rngC lo c m) (Itc lo c m) H ρ n := by
  intro H' ρ' st' i e s
  simp only [Sq.at]
  refine ⟨fun v hv => ?_, fun hv => ?_⟩
  · split at hv
    · rename_i hi
      cases hv
      refine ⟨hi, fun x H'' hy => ?_⟩
      obtain ⟨rfl, rfl⟩ := hy
      exact ⟨.refl, s, .int _⟩
    · cases hv
  · split at hv
    · cases hv
    · rename_i hi
      exact Nat.le_of_not_lt hi
theorem rngOk_iff {i : Int} (h : rngOk i = true) : -(2 ^ 62) ≤ i ∧ i < 2 ^ 62 := by
  unfold rngOk at h
  have := of_decide_eq_true h
  constructor <;> omega
theorem yi_r1 {tg a : Expr} {mas : MA} {p pos : Pos} (hg : Gl X "range") (hm : X.mg "range" = none) (ha : PA X [a] (tA (gX X cm) E mas)) (hs : starEach [a] X.env = [(false, eval a X.env)] := by rfl) : PI X tg (.Call (.Name "range" p) [a] [] pos) (tI (gX X cm) E (miR1 mas)) :=
  PI.weak (pi_range1 hg hm ha hs) fun σ H R ⟨ρ, st, env, hs, he, hp⟩ => ⟨ρ, st, env, hs, he, hp.bindI fun vs st1 H1 ρ1 xs e1 s1 r1 hp1 => by
    have r1 : RepL X.K H1 ρ1 st1.length vs xs := r1
    split at hp1
    · obtain ⟨x, rfl, rx⟩ := r1.one
      cases rep_int rx
      split at hp1
      · rename_i hb
        obtain ⟨b1, b2⟩ := rngOk_iff hb
        exact ⟨_, rfl, b1, b2, Post.at hp1 s1 seq_rng⟩
      · exact hp1.elim
    · exact hp1.elim⟩
theorem yi_r2 {tg a b : Expr} {mas : MA} {p pos : Pos} (hg : Gl X "range") (hm : X.mg "range" = none) (ha : PA X [a, b] (tA (gX X cm) E mas)) (hs : starEach [a, b] X.env = [(false, eval a X.env), (false, eval b X.env)] := by rfl) (hs2 : starEach [b] X.env = [(false, eval b X.env)] := by rfl) :
    PI X tg (.Call (.Name "range" p) [a, b] [] pos) (tI (gX X cm) E (miR2 mas)) :=
  PI.weak (pi_range2 hg hm ha hs hs2) fun σ H R ⟨ρ, st, env, hs, he, hp⟩ => ⟨ρ, st, env, hs, he, hp.bindI fun vs st1 H1 ρ1 xs e1 s1 r1 hp1 => by
    have r1 : RepL X.K H1 ρ1 st1.length vs xs := r1
    split at hp1
    · obtain ⟨x, y, rfl, rx, ry⟩ := r1.two
      cases rep_int rx
      cases rep_int ry
      split at hp1
      · rename_i hb
        rw [Bool.and_eq_true] at hb
        obtain ⟨b1, b2⟩ := rngOk_iff hb.1
        obtain ⟨b3, b4⟩ := rngOk_iff hb.2
        exact ⟨_, _, rfl, ⟨b1, b2, b3, b4⟩, Post.at hp1 s1 seq_rng⟩
      · exact hp1.elim
    · exact hp1.elim⟩

/-! ### defs and calls -/
def spF (G : GK) (m : ON) : Sp := fun vs H Q _ => ∃ ρ st args, RepS G H ρ st ∧ RepL G.K H ρ st.length args vs ∧ Post G E00 H ρ st.length (rV G.K) (m args st) Q
theorem ye_call {f : Addr} {fd : FuncData} {ps : List Str} {k : Nat} {m : ON} {x : Str} {e : Expr} {es : List Expr} {mas : MA} {p pos : Pos} (F : FnOk X.prog X.w X.K X.mg X.base CX0 k f fd ps (spF (gX X cm) m)) (hr : Room k X.A) (hg : Gl X x) (hm : X.mg x = some (.ref f)) (hk : PySem.W.keepIn X.K (.ref f) = true) (hb : Binds X.K fd ps [])
    (ha : PA X (e :: es) (tA (gX X cm) E00 mas)) (hdb : (x == ("__debug__" : Str)) = false := by decide) (he : starEach (e :: es) X.env = (false, eval e X.env) :: starEach es X.env := by rfl) (hpl : (backTo pos (starEach es X.env)).any (·.1) = false := by rfl) :
    PE X (.Call (.Name x p) (e :: es) [] pos) (tE (gX X cm) E00 (mN m mas)) :=
  PE.weak (pe_call F hr hg hm hk hb .nil pass0 ha hdb he hpl) fun σ H Q ⟨ρ, st, env, hs, he, hp⟩ => ⟨ρ, st, env, hs, he, hp.bindI fun vs st1 H1 ρ1 xs e1 s1 r1 hp1 => by
    rw [List.append_nil]
    exact ⟨ρ1, st1, vs, s1, r1, hp1⟩⟩
theorem ye_call0 {f : Addr} {fd : FuncData} {ps : List Str} {k : Nat} {m : ON} {x : Str} {p pos : Pos} (F : FnOk X.prog X.w X.K X.mg X.base CX0 k f fd ps (spF (gX X cm) m)) (hr : Room k X.A) (hg : Gl X x) (hm : X.mg x = some (.ref f)) (hk : PySem.W.keepIn X.K (.ref f) = true) (hb : Binds X.K fd ps [])
    (hdb : (x == ("__debug__" : Str)) = false := by decide) :
    PE X (.Call (.Name x p) [] [] pos) (tE (gX X cm) E00 (mN m maNil)) :=
  PE.weak (pe_call0 F hr hg hm hk hb .nil pass0 hdb) fun σ H Q ⟨ρ, st, env, hs, he, hp⟩ => ⟨ρ, st, [], hs, .nil, hp⟩
theorem repE_start {N : List Str} {args : List AV} {vs : List V} (r : RepL K H ρ n args vs) (hl : args.length ≤ N.length) : RepE K H ρ n (startE N.length args) (L2.start N vs) := by
  refine ⟨?_, fun i v hv => ?_⟩
  · unfold startE L2.start
    simp only [List.length_append, List.length_map, List.length_replicate, r.length]
  · unfold startE at hv
    by_cases hi : i < args.length
    · rw [List.getElem?_append_left (by rw [List.length_map]; exact hi), List.getElem?_map] at hv
      cases e : args[i]? with
      | none => rw [e] at hv; cases hv
      | some w =>
        rw [e] at hv
        cases hv
        obtain ⟨x, e1, rx⟩ := r.get e
        refine ⟨x, ?_, rx⟩
        unfold L2.start
        rw [List.getElem?_append_left (by rw [List.length_map, ← r.length]; exact hi), List.getElem?_map, e1]
        rfl
    · rw [List.getElem?_append_right (by rw [List.length_map]; exact Nat.le_of_not_lt hi), List.getElem?_replicate] at hv
      split at hv
      · cases hv
      · cases hv
theorem fin_post {f : Fl} {Q : VK} (h : Post G E H ρ n (rV G.K) (fin f) Q) : PostS G E H ρ n f { nx := fun _ H' => Q .non H', rt := Q } := by
  cases f with
  | nx env st => exact fun H' ρ' σ' e s _ => h H' ρ' .non e s .non
  | rt v st => exact h
  | bk _ _ => exact h.elim
  | ct _ _ => exact h.elim
  | ex u st => exact h
  | bad => exact h
/-- a def keeps what its meaning says -/
theorem fn_ok {P : Program} {w : World} {K : PySem.W.Frag} {mg : Str → Option Value} {base : Heap} {x qual : Str} {st : Stmt} {f : Addr} {fd : FuncData} {N ps : List Str} {k : Nat} {b : MS} (F : Fun K x qual st f fd) (S : FnScope N ps (defScope st)) (hl : ps.length ≤ N.length)
    (hb : ∀ (cdv : Value) (A : Around) (outer : List Env) (s : Shared) (H : Hp) (E : XK), Room k (A.deeper (envOfC qual (defScope st) s.heap.objs.size f cdv)) →
      PSs (cxOf CX0 P w K mg base N qual (defScope st) f cdv A outer s H E).nox (defBody st) (tS ⟨K, cm⟩ E00 b)) : FnOk P w K mg base CX0 (k + 1) f fd ps (spF ⟨K, cm⟩ (fn N.length ps.length b)) := by
  refine F.ok S (fun vs H Q E h => ?_) (fun cdv A outer s H vs Q E hr h => ?_)
  · obtain ⟨ρ, st, args, hs, r, hp⟩ := h
    unfold fn at hp
    split at hp
    · rename_i e
      rw [← r.length]
      exact e
    · exact hp.elim
  · obtain ⟨ρ, st, args, hs, r, hp⟩ := h
    unfold fn at hp
    split at hp
    · rename_i e
      exact ⟨_, hb cdv A outer s H E hr, ρ, st, _, hs, repE_start r (by rw [e]; exact hl), fin_post (gc_sound hs hp)⟩
    · exact hp.elim
end
end Y
set_option Elab.async false
set_option linter.all false
set_option maxRecDepth 100000
/-! Y8: dicts of ints and texts; enumerate, zip of lists; the end of a law -/
namespace Y
open PySem PySem.Spec L2
open PyProof.Rows hiding St
def keyOf : AV → Option Key
  | .int i => some (.inl i)
  | .str s => some (.inr s)
  | _ => none
def lookA : List (AV × AV) → AV → Option AV
  | [], _ => none
  | p :: r, k => if p.1 = k then some p.2 else lookA r k
def replA (k v : AV) : List (AV × AV) → List (AV × AV)
  | [] => []
  | p :: r => (if p.1 = k then (p.1, v) else p) :: replA k v r
def putA (kvs : List (AV × AV)) (k v : AV) : List (AV × AV) := match lookA kvs k with
  | some _ => replA k v kvs
  | none => kvs ++ [(k, v)]
def rdK (st : Sto) (k : Nat) : Option (List (AV × AV)) := match st[k]? with
  | some (.dct kvs) => some kvs
  | some (.fdc kvs) => some kvs
  | _ => none
def oDNew : ME := fun _ st => .ok (.loc st.length) (st ++ [.dct []])
def oDGet : O2 := fun x y st => match x, keyOf y with
  | .loc k, some _ => match (rdK st k).bind fun kvs => lookA kvs y with
    | some v => .ok v st
    | none => .bad
  | _, _ => .bad
/-- d.get(k, z) -/
def mGet2 (d k z : ME) : ME := fun env st => (d env st).bind fun x st => if isTy st .dict x then (k env st).bind fun y st => (z env st).bind fun w st => match x, keyOf y with
  | .loc k, some _ => match rdK st k with
    | some kvs => .ok ((lookA kvs y).getD w) st
    | none => .bad
  | _, _ => .bad else .bad
def oDSet : O3 := fun x y v st => match x, keyOf y with
  | .loc k, some _ => match st[k]? with
    | some (.dct kvs) => if kvs.length < LIM then .ok () (st.set k (.dct (putA kvs y v))) else .bad
    | _ => .bad
  | _, _ => .bad
/-- {a: b}, written -/
def mDisp1 (a b : ME) : ME := fun env st => (a env st).bind fun x st => (b env st).bind fun y st => match keyOf x with
  | some _ => .ok (.loc st.length) (st ++ [.dct [(x, y)]])
  | none => .bad
/-- the dict at k is to be written again -/
def unlock (k : Nat) (kvs : List (AV × AV)) : Fl → Fl
  | .nx env st => .nx env (st.set k (.dct kvs))
  | .rt v st => .rt v (st.set k (.dct kvs))
  | .bk env st => .bk env (st.set k (.dct kvs))
  | .ct env st => .ct env (st.set k (.dct kvs))
  | .ex _ _ => .bad
  | .bad => .bad
/-- a statement over the dict in slot i, which is not changed within -/
def msLock (i : Nat) (b : MS) : MS := fun env st => match env[i]? with
  | some (some (.loc k)) => match st[k]? with
    | some (.dct kvs) => unlock k kvs (b env (st.set k (.fdc kvs)))
    | _ => .bad
  | _ => .bad
def miKeys (a : ME) : MI := fun env st => (a env st).bind fun x st => match x with
  | .loc k => match rdD st k with
    | some _ => .ok (.keys k) st
    | none => .bad
  | _ => .bad
def miEnum (a : MA) : MI := fun env st => (a env st).bind fun vs st => match vs with
  | [.loc k] => match rdL st k with
    | some _ => .ok (.enumL k) st
    | none => .bad
  | _ => .bad
section
variable {X : Cx} {cm : Nat → Addr} {E : EX} {G : GK} {K : PySem.W.Frag} {H : Hp} {ρ : Nat → Addr} {n : Nat} {st : Sto}
theorem keyAV_inj : ∀ {a b : Key}, keyAV a = keyAV b → a = b
  | .inl _, .inl _, h => by cases h; rfl
  | .inr _, .inr _, h => by cases h; rfl
  | .inl _, .inr _, h => by cases h
  | .inr _, .inl _, h => by cases h
theorem keyOf_eq {v : AV} {k : Key} (h : keyOf v = some k) : v = keyAV k := by
  cases v <;> simp only [keyOf] at h <;> cases h <;> rfl
theorem rep_key {k : Key} {x : V} (h : Rep K H ρ n (keyAV k) x) : x = kV k := by
  cases k with
  | inl i => exact rep_int h
  | inr s => exact rep_str h
theorem key_rep (k : Key) : Rep K H ρ n (keyAV k) (kV k) := by
  cases k with
  | inl i => exact .int i
  | inr s => exact .str s
/-- a table of ours and the layer's -/
inductive RepD (K : PySem.W.Frag) (H : Hp) (ρ : Nat → Addr) (n : Nat) : List (AV × AV) → List (Key × V) → Prop
  | nil : RepD K H ρ n [] []
  | cons {k : Key} {v : AV} {x : V} {r : List (AV × AV)} {q : List (Key × V)} : Rep K H ρ n v x → RepD K H ρ n r q → RepD K H ρ n ((keyAV k, v) :: r) ((k, x) :: q)
theorem repD_of : ∀ {kvs : List (AV × AV)} {ks : List (Key × V)}, kvs.map (·.1) = ks.map (fun p => keyAV p.1) → RepL K H ρ n (kvs.map (·.2)) (ks.map (·.2)) → RepD K H ρ n kvs ks
  | [], [], _, _ => .nil
  | [], _ :: _, e, _ => by simp at e
  | _ :: _, [], e, _ => by simp at e
  | (a, v) :: r, (k, x) :: q, e, h => by
    simp only [List.map_cons, List.cons.injEq] at e h
    cases h with
    | cons h1 h2 =>
      obtain ⟨e1, e2⟩ := e
      subst e1
      exact .cons h1 (repD_of e2 h2)
theorem RepD.fst : ∀ {kvs : List (AV × AV)} {ks : List (Key × V)}, RepD K H ρ n kvs ks → kvs.map (·.1) = ks.map (fun p => keyAV p.1)
  | _, _, .nil => rfl
  | _, _, .cons _ h => by simp [h.fst]
theorem RepD.snd : ∀ {kvs : List (AV × AV)} {ks : List (Key × V)}, RepD K H ρ n kvs ks → RepL K H ρ n (kvs.map (·.2)) (ks.map (·.2))
  | _, _, .nil => .nil
  | _, _, .cons r h => .cons r h.snd
theorem RepD.len : ∀ {kvs : List (AV × AV)} {ks : List (Key × V)}, RepD K H ρ n kvs ks → kvs.length = ks.length
  | _, _, .nil => rfl
  | _, _, .cons _ h => by simp [h.len]
theorem RepD.look {k : Key} : ∀ {kvs : List (AV × AV)} {ks : List (Key × V)}, RepD K H ρ n kvs ks → (∃ v x, lookA kvs (keyAV k) = some v ∧ valV ks k = some x ∧ Rep K H ρ n v x) ∨ (lookA kvs (keyAV k) = none ∧ valV ks k = none)
  | _, _, .nil => .inr ⟨rfl, rfl⟩
  | _, _, .cons (k := j) (v := v) (x := x) r h => by
    by_cases e : j = k
    · subst e
      exact .inl ⟨v, x, by simp [lookA], valV_pos rfl, r⟩
    · have ne : ¬ keyAV j = keyAV k := fun z => e (keyAV_inj z)
      have e1 : ∀ {q : List (AV × AV)}, lookA ((keyAV j, v) :: q) (keyAV k) = lookA q (keyAV k) := by intro q; simp [lookA, ne]
      rcases h.look (k := k) with ⟨w, y, h1, h2, h3⟩ | ⟨h1, h2⟩
      · exact .inl ⟨w, y, e1.trans h1, (valV_neg e).trans h2, h3⟩
      · exact .inr ⟨e1.trans h1, (valV_neg e).trans h2⟩
theorem RepD.repl {k : Key} {v : AV} {x : V} (rv : Rep K H ρ n v x) : ∀ {kvs : List (AV × AV)} {ks : List (Key × V)}, RepD K H ρ n kvs ks → RepD K H ρ n (replA (keyAV k) v kvs) (ks.map fun kv => if kv.1 = k then (kv.1, x) else kv)
  | _, _, .nil => .nil
  | _, _, .cons (k := j) r h => by
    by_cases e : j = k
    · subst e
      simp only [replA, List.map_cons, if_true]
      exact .cons rv (h.repl rv)
    · have ne : ¬ keyAV j = keyAV k := fun z => e (keyAV_inj z)
      simp only [replA, List.map_cons, if_neg e, if_neg ne]
      exact .cons r (h.repl rv)
theorem RepD.snoc {k : Key} {v : AV} {x : V} (rv : Rep K H ρ n v x) : ∀ {kvs : List (AV × AV)} {ks : List (Key × V)}, RepD K H ρ n kvs ks → RepD K H ρ n (kvs ++ [(keyAV k, v)]) (ks ++ [(k, x)])
  | _, _, .nil => .cons rv .nil
  | _, _, .cons r h => .cons r (h.snoc rv)
theorem RepD.put {k : Key} {v : AV} {x : V} (rv : Rep K H ρ n v x) {kvs : List (AV × AV)} {ks : List (Key × V)} (h : RepD K H ρ n kvs ks) : RepD K H ρ n (putA kvs (keyAV k) v) (putK ks k x) := by
  unfold putA putK
  have ea := valV_any k ks
  rcases h.look (k := k) with ⟨w, y, h1, h2, h3⟩ | ⟨h1, h2⟩
  · rw [h1, ea, h2]
    simp only [Option.isSome_some, if_true]
    exact h.repl rv
  · rw [h1, ea, h2]
    simp only [Option.isSome_none, Bool.false_eq_true, if_false]
    exact h.snoc rv
theorem RepD.get : ∀ {kvs : List (AV × AV)} {ks : List (Key × V)} {i : Nat} {a b : AV}, RepD K H ρ n kvs ks → kvs[i]? = some (a, b) → ∃ k x, ks[i]? = some (k, x) ∧ a = keyAV k ∧ Rep K H ρ n b x
  | _, _, i, a, b, .nil, e => by simp at e
  | _, _, 0, a, b, .cons (k := j) (x := x) r h, e => by
    simp only [List.getElem?_cons_zero, Option.some.injEq, Prod.mk.injEq] at e
    obtain ⟨rfl, rfl⟩ := e
    exact ⟨j, x, rfl, rfl, r⟩
  | _, _, i + 1, a, b, .cons r h, e => by
    obtain ⟨k, x, e1, e2⟩ := h.get (i := i) (by simpa using e)
    exact ⟨k, x, by simpa using e1, e2⟩
theorem RepS.dct (s : RepS G H ρ st) {k : Nat} {kvs : List (AV × AV)} (h : st[k]? = some (.dct kvs)) : ∃ ks, H (ρ k) = some (.dK ks) ∧ RepD G.K H ρ st.length kvs ks := by
  obtain ⟨ys, ⟨ks, h1, h2, h3⟩, r⟩ := s.ob k _ h
  subst h3
  exact ⟨ks, h1, repD_of h2 r⟩
theorem RepS.fdc (s : RepS G H ρ st) {k : Nat} {kvs : List (AV × AV)} (h : st[k]? = some (.fdc kvs)) : ∃ o ks, H (ρ k) = some (.frz o (.dK ks)) ∧ RepD G.K H ρ st.length kvs ks := by
  obtain ⟨ys, ⟨o, ks, h1, h2, h3⟩, r⟩ := s.ob k _ h
  subst h3
  exact ⟨o, ks, h1, repD_of h2 r⟩
theorem RepS.rdK (s : RepS G H ρ st) {k : Nat} {kvs : List (AV × AV)} (h : rdK st k = some kvs) : ∃ ks, Rd H (ρ k) (.dK ks) ∧ RepD G.K H ρ st.length kvs ks := by
  unfold Y.rdK at h
  split at h
  · rename_i e
    cases h
    obtain ⟨ks, h1, h2⟩ := s.dct e
    exact ⟨ks, .inl h1, h2⟩
  · rename_i e
    cases h
    obtain ⟨o, ks, h1, h2⟩ := s.fdc e
    exact ⟨ks, .inr ⟨o, h1⟩, h2⟩
  · cases h
theorem ye_dnew {pos : Pos} : PE X (.Dict [] [] pos) (tE (gX X cm) E oDNew) := PE.weak pe_dnewK fun σ H Q ⟨ρ, st, env, hs, he, hp⟩ => fun p hn => by
  have e : (st ++ [Ob.dct []]).length = st.length + 1 := by simp
  refine hp _ (more ρ st.length p) _ (by rw [e]; exact Ext.new hn) (hs.new (ob := .dct []) hn ⟨[], upd_same, rfl, rfl⟩ .nil) ?_
  have z := Rep.loc (K := X.K) (H := upd H p (.dK [])) (ρ := more ρ st.length p) (n := (st ++ [Ob.dct []]).length) (k := st.length) (by rw [e]; exact Nat.lt_succ_self _)
  rw [more_at] at z
  exact z
theorem ye_disp1 {a b : Expr} {ma mb : ME} {pos : Pos} (ha : PE X a (tE (gX X cm) E ma)) (hb : PE X b (tE (gX X cm) E mb)) : PE X (.Dict [some a] [b] pos) (tE (gX X cm) E (mDisp1 ma mb)) :=
  PE.weak (pe_disp (pps_cons ha hb pps_nil) rfl rfl (by simp) (by simp)) fun σ H Q ⟨ρ, st, env, hs, he, hp⟩ => fun p hn => by
    -- the new dict stands empty, beside ours, while key and value are made
    have e0 : Ext H ρ st.length (upd H p (.dK [])) ρ st.length := Ext.lay hn
    have s0 := hs.lay (o := .dK []) hn
    refine ⟨ρ, st, env, s0, he.ext hs e0, hp.bindB e0 fun v st1 H1 ρ1 x e1 s1 r1 hp1 => ?_⟩
    have e1' := e0.trans e1
    obtain ⟨n1, d1⟩ := e1.apart upd_same (hs.ne_new hn)
    refine ⟨ρ1, st1, env, s1, he.ext hs e1', hp1.bindB e1' fun w st2 H2 ρ2 y e2 s2 r2 hp2 => ?_⟩
    obtain ⟨n2, d2⟩ := e2.apart d1 n1
    have e2' := e1'.trans e2
    have rv : Rep X.K H2 ρ2 st2.length v x := Rep.ext s1 e2 r1
    have rw' : Rep X.K H2 ρ2 st2.length w y := r2
    split at hp2
    · rename_i k hk
      have hv := keyOf_eq hk
      subst hv
      cases rep_key rv
      refine ⟨d2, [(k, y)], rfl, by simp, ?_⟩
      have e : (st2 ++ [Ob.dct [(keyAV k, w)]]).length = st2.length + 1 := by simp
      have t := tups_at (o := .dK (mergeK [] [(k, y)])) (K := X.K) d2 .dK
      have s3 : RepS (gX X cm) (upd H2 p (.dK (mergeK [] [(k, y)]))) ρ2 st2 := s2.mv (fun j hj => upd_ne (n2 j hj)) t
      refine hp2 _ (more ρ2 st2.length p) _ ?_ (s3.take_in (ob := .dct [(keyAV k, w)]) n2 ⟨[(k, y)], by rw [upd_same]; rfl, rfl, rfl⟩ (.cons (rep_mv t (Nat.le_refl _) (fun _ _ => rfl) _ _ rw') .nil)) ?_
      · rw [e]
        refine Ext.take_in (p := p) ⟨e2'.le, e2'.ag, fun a o h hk => by rw [upd_ne (ne_of_none h hn)]; exact e2'.fr a o h hk, e2'.nw, fun a o h => by rw [upd_ne (ne_of_none h hn)]; exact e2'.kp a o h, fun a ob u h => by rw [upd_ne (ne_of_none h hn)]; exact e2'.fz a ob u h⟩ hn
      · have z := Rep.loc (K := X.K) (H := upd H2 p (.dK (mergeK [] [(k, y)]))) (ρ := more ρ2 st2.length p) (n := (st2 ++ [Ob.dct [(keyAV k, w)]]).length) (k := st2.length) (by rw [e]; exact Nat.lt_succ_self _)
        rw [more_at] at z
        exact z
    · exact hp2.elim
def rDGet : R2 := fun x y H Q => ∃ a v, x = .ref a ∧ DGet H a y (some v) ∧ Q v H
theorem ye_dget {o i : Expr} {mo mi : ME} {pos : Pos} (hu : X.A.units + 1 < cLine) (ho : PE X o (tE (gX X cm) E mo)) (hi : PE X i (tE (gX X cm) E mi)) (hs : NoSl i) : PE X (.Subscript o i pos) (tE (gX X cm) E (mOp oDGet mo mi)) :=
  PE.weak (pe_dget hu ho hi hs) fun σ H Q h => tOp_of (r := rDGet) (fun H ρ st a b x y Q s ra rb h => by
    unfold oDGet at h
    split at h
    · rename_i k j hj
      obtain ⟨rfl, hk⟩ := rep_loc ra
      have hb := keyOf_eq hj
      subst hb
      cases rep_key rb
      split at h
      · rename_i v hv
        cases hr : rdK st k with
        | none => rw [hr] at hv; cases hv
        | some kvs =>
          rw [hr] at hv
          have hv : lookA kvs (keyAV j) = some v := hv
          obtain ⟨ks, h1, h2⟩ := s.rdK hr
          rcases h2.look (k := j) with ⟨w, y, q1, q2, q3⟩ | ⟨q1, q2⟩
          · rw [hv] at q1
            cases q1
            exact ⟨_, y, rfl, .inl ⟨ks, j, h1, rfl, q2.symm⟩, Post.at (x := y) h s q3⟩
          · rw [hv] at q1; cases q1
      · exact h.elim
    · exact h.elim) σ H Q h
theorem ye_get2 {o e f : Expr} {mo me mf : ME} {apos cpos : Pos} (hu : X.A.units + 1 < cLine) (ho : PE X o (tE (gX X cm) E mo)) (he : PE X e (tE (gX X cm) E me)) (hf : PE X f (tE (gX X cm) E mf)) (m : M2 X o "get" apos e f cpos) :
    PE X (.Call (.Attribute o "get" apos) [e, f] [] cpos) (tE (gX X cm) E (mGet2 mo me mf)) :=
  PE.weak (pe_dget2 hu ho he hf m) fun σ H Q ⟨ρ, st, env, hs, he, hp⟩ => ⟨ρ, st, env, hs, he, hp.bindI fun v st1 H1 ρ1 x e1 s1 r1 hp1 => by
    have r1 : Rep X.K H1 ρ1 st1.length v x := r1
    cases ht : isTy st1 .dict v with
    | false => rw [ht] at hp1; exact hp1.elim
    | true =>
      rw [ht, if_pos rfl] at hp1
      obtain ⟨p, kvs, rfl, hd⟩ := isTy_ok s1 r1 ht
      refine ⟨p, rfl, .inl ⟨kvs, hd⟩, ρ1, st1, env, s1, he.ext hs e1, hp1.bindI fun w st2 H2 ρ2 y e2 s2 r2 hp2 => ⟨ρ2, st2, env, s2, (he.ext hs e1).ext s1 e2, hp2.bindI fun u st3 H3 ρ3 z e3 s3 r3 hp3 => ?_⟩⟩
      have rv : Rep X.K H3 ρ3 st3.length v (.ref p) := Rep.ext s2 e3 (Rep.ext s1 e2 r1)
      have ry : Rep X.K H3 ρ3 st3.length w y := Rep.ext s2 e3 r2
      have rz : Rep X.K H3 ρ3 st3.length u z := r3
      split at hp3
      · rename_i k j hj _
        obtain ⟨ep, hk⟩ := rep_loc rv
        have hb := keyOf_eq hj
        subst hb
        cases rep_key ry
        cases hr : rdK st3 k with
        | none => rw [hr] at hp3; exact hp3.elim
        | some kvs =>
          rw [hr] at hp3
          dsimp only at hp3
          obtain ⟨ks, h1, h2⟩ := s3.rdK hr
          cases ep
          rcases h2.look (k := j) with ⟨w, y, q1, q2, q3⟩ | ⟨q1, q2⟩
          · rw [q1] at hp3
            exact ⟨some y, .inl ⟨ks, j, h1, rfl, q2.symm⟩, Post.at (x := y) hp3 s3 q3⟩
          · rw [q1] at hp3
            exact ⟨none, .inl ⟨ks, j, h1, rfl, q2.symm⟩, Post.at (x := z) hp3 s3 rz⟩
      · exact hp3.elim⟩
theorem setD_at {k : Nat} {kvs kvs' : List (AV × AV)} {ks ks' : List (Key × V)} {Q : Hp → Prop} (s : RepS G H ρ st) (hx : st[k]? = some (.dct kvs)) (h1 : H (ρ k) = some (.dK ks)) (r2 : RepD G.K H ρ st.length kvs' ks')
    (h : Post G E H ρ st.length rUn (.ok () (st.set k (.dct kvs'))) (fun _ H' => Q H')) : Q (upd H (ρ k) (.dK ks')) := by
  have hk := lt_of_at hx
  refine h _ ρ () ?_ (s.put (ob := .dct kvs') hk h1 ⟨ks', upd_same, r2.fst, rfl⟩ r2.snd) trivial
  rw [List.length_set]
  exact Ext.put hk h1 fun _ _ z => nomatch z
theorem sn_setD : Snd3 (gX X cm) E oDSet rSetD := by
  intro H ρ st a b c x y z Q s ra rb rc h
  unfold oDSet at h
  split at h
  · rename_i k j hj
    obtain ⟨rfl, hk⟩ := rep_loc ra
    have hb := keyOf_eq hj
    subst hb
    cases rep_key rb
    split at h
    · rename_i kvs hx
      obtain ⟨ks, h1, h2⟩ := s.dct hx
      split at h
      · rename_i hl
        exact ⟨_, _, rfl, .inl ⟨ks, j, h1, rfl, by rw [← h2.len, ← LIM_line]; exact hl, rfl⟩, setD_at s hx h1 (h2.put rc) h⟩
      · exact h.elim
    · exact h.elim
  · exact h.elim
/-! ### a dict that is walked -/
theorem lock_at {k : Nat} {kvs : List (AV × AV)} {ks : List (Key × V)} {o : Obj} (s : RepS G H ρ st) (hx : st[k]? = some (.dct kvs)) (h1 : H (ρ k) = some (.dK ks)) (h2 : RepD G.K H ρ st.length kvs ks) : RepS G (upd H (ρ k) (.frz o (.dK ks))) ρ (st.set k (.fdc kvs)) :=
  s.put (lt_of_at hx) h1 ⟨o, ks, upd_same, h2.fst, rfl⟩ h2.snd
/-- behind the walk the dict is as it was -/
theorem unlock_at {k n' : Nat} {kvs : List (AV × AV)} {ks : List (Key × V)} {o : Obj} {st' : Sto} {H' : Hp} {ρ' : Nat → Addr} (s : RepS G H ρ st) (hx : st[k]? = some (.dct kvs)) (h1 : H (ρ k) = some (.dK ks)) (h2 : RepD G.K H ρ st.length kvs ks)
    (e : Ext (upd H (ρ k) (.frz o (.dK ks))) ρ st.length H' ρ' st'.length) (s' : RepS G H' ρ' st') :
    H' (ρ k) = some (.frz o (.dK ks)) ∧ Ext H ρ st.length (upd H' (ρ k) (.dK ks)) ρ' (st'.set k (.dct kvs)).length ∧ RepS G (upd H' (ρ k) (.dK ks)) ρ' (st'.set k (.dct kvs)) ∧ Tups G.K H' (upd H' (ρ k) (.dK ks)) := by
  have hk := lt_of_at hx
  have hf := e.fz (ρ k) o (.dK ks) upd_same
  have ek : ρ' k = ρ k := e.ag k hk
  have t1 : Tups G.K H (upd H (ρ k) (.frz o (.dK ks))) := tups_at h1 .dK
  have t2 : Tups G.K H' (upd H' (ρ k) (.dK ks)) := tups_at hf .frzK
  have s0 := lock_at (o := o) s hx h1 h2
  have e0 : Ext (upd H (ρ k) (.frz o (.dK ks))) ρ (st.set k (.fdc kvs)).length H' ρ' st'.length := by rw [List.length_set]; exact e
  have t3 : Tups G.K (upd H (ρ k) (.frz o (.dK ks))) H' := Ext.tups s0 e0
  have rD : RepD G.K H' ρ' st'.length kvs ks := by
    refine repD_of h2.fst (repL_mv t3 e.le e.ag _ _ (repL_mv t1 (Nat.le_refl _) (fun _ _ => rfl) _ _ h2.snd))
  refine ⟨hf, ?_, ?_, t2⟩
  · rw [List.length_set]
    refine ⟨e.le, e.ag, fun a u h hn => ?_, fun j h3 h4 => ?_, fun a u h => ?_, fun a ob u h => ?_⟩
    · have ne : a ≠ ρ k := fun z => hn k hk z.symm
      rw [upd_ne ne]
      exact e.fr a u (by rw [upd_ne ne]; exact h) hn
    · have := e.nw j h3 h4
      by_cases z : ρ' j = ρ k
      · rw [z, upd_same] at this; cases this
      · rw [upd_ne z] at this; exact this
    · by_cases z : a = ρ k
      · exact ⟨_, by rw [z, upd_same]⟩
      · obtain ⟨u', h'⟩ := e.kp a u (by rw [upd_ne z]; exact h)
        exact ⟨u', by rw [upd_ne z]; exact h'⟩
    · have ne : a ≠ ρ k := fun z => by rw [z, h1] at h; cases h
      rw [upd_ne ne]
      exact e.fz a ob u (by rw [upd_ne ne]; exact h)
  · have := s'.put (k := k) (o := .dK ks) (ob := .dct kvs) (ys := ks.map (·.2)) (Nat.lt_of_lt_of_le hk e.le) (by rw [ek]; exact hf) (show Shape G (upd H' (ρ' k) (.dK ks)) (ρ' k) (ks.map (·.2)) (.dct kvs) from ⟨ks, upd_same, rD.fst, rfl⟩) (show RepL G.K H' ρ' st'.length (Ob.vals (.dct kvs)) (ks.map (·.2)) from rD.snd)
    rw [ek] at this
    exact this
theorem ys_lock {stm : Stmt} {b : MS} (i : Nat) (h : PS X stm (tS (gX X cm) E b)) : PS X stm (tS (gX X cm) E (msLock i b)) :=
  PS.weak (ps_lock h) fun D σ H ⟨ρ, st, env, hs, he, hp⟩ => by
    unfold msLock at hp
    split at hp
    · rename_i k hi
      split at hp
      · rename_i kvs hx
        obtain ⟨ks, h1, h2⟩ := hs.dct hx
        have hk := lt_of_at hx
        have t1 : ∀ o, Tups X.K H (upd H (ρ k) (.frz o (.dK ks))) := fun o => tups_at h1 .dK
        refine ⟨ρ k, .dK ks, h1, trivial, fun od => ⟨ρ, st.set k (.fdc kvs), env, lock_at (o := od) hs hx h1 h2, ?_, ?_⟩⟩
        · rw [List.length_set]
          exact ⟨he.1, fun i v hv => let ⟨x, e1, r⟩ := he.2 i v hv; ⟨x, e1, rep_mv (t1 od) (Nat.le_refl _) (fun _ _ => rfl) _ _ r⟩⟩
        · rw [List.length_set]
          cases hb : b env (st.set k (.fdc kvs)) with
          | nx env' st' =>
            rw [hb] at hp
            intro H' ρ' σ' e s' he'
            obtain ⟨q1, q2, q3, q4⟩ := unlock_at (n' := 0) hs hx h1 h2 e s'
            exact ⟨q1, hp _ ρ' σ' q2 q3 ⟨he'.1, fun i v hv => let ⟨x, e1, r⟩ := he'.2 i v hv; ⟨x, e1, rep_mv q4 (by rw [List.length_set]; exact Nat.le_refl _) (fun _ _ => rfl) _ _ r⟩⟩⟩
          | bk env' st' =>
            rw [hb] at hp
            intro H' ρ' σ' e s' he'
            obtain ⟨q1, q2, q3, q4⟩ := unlock_at (n' := 0) hs hx h1 h2 e s'
            exact ⟨q1, hp _ ρ' σ' q2 q3 ⟨he'.1, fun i v hv => let ⟨x, e1, r⟩ := he'.2 i v hv; ⟨x, e1, rep_mv q4 (by rw [List.length_set]; exact Nat.le_refl _) (fun _ _ => rfl) _ _ r⟩⟩⟩
          | ct env' st' =>
            rw [hb] at hp
            intro H' ρ' σ' e s' he'
            obtain ⟨q1, q2, q3, q4⟩ := unlock_at (n' := 0) hs hx h1 h2 e s'
            exact ⟨q1, hp _ ρ' σ' q2 q3 ⟨he'.1, fun i v hv => let ⟨x, e1, r⟩ := he'.2 i v hv; ⟨x, e1, rep_mv q4 (by rw [List.length_set]; exact Nat.le_refl _) (fun _ _ => rfl) _ _ r⟩⟩⟩
          | rt v' st' =>
            rw [hb] at hp
            intro H' ρ' x e s' r'
            obtain ⟨q1, q2, q3, q4⟩ := unlock_at (n' := 0) hs hx h1 h2 e s'
            exact ⟨q1, hp _ ρ' x q2 q3 (rep_mv q4 (by rw [List.length_set]; exact Nat.le_refl _) (fun _ _ => rfl) _ _ r')⟩
          | ex u st' => rw [hb] at hp; exact hp.elim
          | bad => rw [hb] at hp; exact hp
      · exact hp.elim
    · exact hp.elim
theorem rdD_some {k : Nat} {kvs : List (AV × AV)} (h : rdD st k = some kvs) : st[k]? = some (.fdc kvs) := by
  unfold rdD at h
  split at h
  · rename_i ys e
    cases h
    exact e
  · cases h
theorem seq_keys {k : Nat} {o : Obj} {ks : List (Key × V)} (hk : k < n) (h1 : H (ρ k) = some (.frz o (.dK ks))) : SeqOk G (.keys k) (Itk (ρ k) o ks) H ρ n := by
  intro H' ρ' st' i e s
  have ek : ρ' k = ρ k := e.ag k hk
  have h1' := e.fz _ _ _ h1
  simp only [Sq.at]
  refine ⟨fun v hv => ?_, fun hv => ?_⟩
  · cases hx : rdD st' k with
    | none => rw [hx] at hv; cases hv
    | some kvs =>
      rw [hx] at hv
      obtain ⟨o2, ks2, h2, r2⟩ := s.fdc (rdD_some hx)
      rw [ek, h1'] at h2
      cases h2
      cases hi : kvs[i]? with
      | none =>
        have hv : some (kvs[i]?.map fun p => p.1) = some (some v) := hv
        rw [hi] at hv
        cases hv
      | some p =>
        obtain ⟨a, b⟩ := p
        have hv : some (kvs[i]?.map fun p => p.1) = some (some v) := hv
        rw [hi] at hv
        cases hv
        obtain ⟨j, x, e1, e2, rx⟩ := r2.get hi
        subst e2
        refine ⟨⟨h1', (List.getElem?_eq_some_iff.mp e1).1⟩, fun z H'' hy => ?_⟩
        obtain ⟨rfl, j', v', e3, rfl⟩ := hy
        rw [e1] at e3
        cases e3
        exact ⟨.refl, s, key_rep j⟩
  · cases hx : rdD st' k with
    | none => rw [hx] at hv; cases hv
    | some kvs =>
      rw [hx] at hv
      obtain ⟨o2, ks2, h2, r2⟩ := s.fdc (rdD_some hx)
      rw [ek, h1'] at h2
      cases h2
      have hv : some (kvs[i]?.map fun p => p.1) = some none := hv
      refine ⟨h1', ?_⟩
      cases hi : kvs[i]? with
      | none =>
        rw [← r2.len]
        exact List.getElem?_eq_none_iff.mp hi
      | some p => rw [hi] at hv; cases hv
theorem yi_keys {tg l : Expr} {m : ME} (h : PE X l (tE (gX X cm) E m)) : PI X tg l (tI (gX X cm) E (miKeys m)) :=
  PI.weak (pi_keys h) fun σ H R ⟨ρ, st, env, hs, he, hp⟩ => ⟨ρ, st, env, hs, he, hp.bindI fun v st1 H1 ρ1 x e1 s1 r1 hp1 => by
    have r1 : Rep X.K H1 ρ1 st1.length v x := r1
    cases v with
    | loc k =>
      obtain ⟨rfl, hk⟩ := rep_loc r1
      simp only at hp1
      cases hx : rdD st1 k with
      | none => rw [hx] at hp1; exact hp1.elim
      | some kvs =>
        rw [hx] at hp1
        obtain ⟨o, ks, h1, _⟩ := s1.fdc (rdD_some hx)
        exact ⟨_, o, rfl, .inl ⟨ks, h1, Post.at hp1 s1 (seq_keys hk h1)⟩⟩
    | _ => exact hp1.elim⟩
/-! ### enumerate -/
theorem tmp_at {H : Hp} {T : Addr} {vs : List AV} {xs : List V} (s : RepS G H ρ st) (hT : H T = none) (r : RepL G.K H ρ st.length vs xs) : Ext H ρ st.length (upd H T (.tup xs)) ρ st.length ∧ RepS G (upd H T (.tup xs)) ρ st ∧ Rep G.K (upd H T (.tup xs)) ρ st.length (.tmp vs) (.ref T) :=
  ⟨Ext.lay hT, s.lay hT, .tmp (SqT.of upd_same) (repL_mv (tups_new hT) (Nat.le_refl _) (fun _ _ => rfl) _ _ r)⟩
theorem seq_enum {k : Nat} (hk : k < n) : SeqOk G (.enumL k) (Ite G.K (ρ k)) H ρ n := by
  intro H' ρ' st' i e s
  have ek : ρ' k = ρ k := e.ag k hk
  simp only [Sq.at]
  refine ⟨fun v hv => ?_, fun hv => ?_⟩
  · cases hx : rdL st' k with
    | none => rw [hx] at hv; cases hv
    | some xs =>
      rw [hx] at hv
      have hv : some (xs[i]?.map fun x => AV.tmp [.int i, x]) = some (some v) := hv
      obtain ⟨ys, h1, r1⟩ := s.lst (rdL_some hx)
      rw [ek] at h1
      cases hi : xs[i]? with
      | none => rw [hi] at hv; cases hv
      | some w =>
        rw [hi] at hv
        cases hv
        obtain ⟨x, e1, rx⟩ := r1.get hi
        refine ⟨⟨ys, x, SqL.of h1, e1⟩, fun z H'' hy => ?_⟩
        obtain ⟨T, y, rfl, hT, rfl, hz⟩ := hy
        have := hz ys (SqL.of h1)
        rw [e1] at this
        cases this
        exact tmp_at s hT (.cons (.int _) (.cons rx .nil))
  · cases hx : rdL st' k with
    | none => rw [hx] at hv; cases hv
    | some xs =>
      rw [hx] at hv
      have hv : some (xs[i]?.map fun x => AV.tmp [.int i, x]) = some none := hv
      obtain ⟨ys, h1, r1⟩ := s.lst (rdL_some hx)
      rw [ek] at h1
      refine ⟨ys, SqL.of h1, ?_⟩
      cases hi : xs[i]? with
      | none =>
        rw [← r1.length]
        exact List.getElem?_eq_none_iff.mp hi
      | some p => rw [hi] at hv; cases hv
theorem yi_enum {e : Expr} {mas : MA} {p pos tpos : Pos} {elts : List Expr} {kk : Nat} (hg : Gl X "enumerate") (hm : X.mg "enumerate" = none) (ha : PA X [e] (tA (gX X cm) E mas)) (hs : starEach [e] X.env = [(false, eval e X.env)] := by rfl) :
    PI X (.Tuple elts kk tpos) (.Call (.Name "enumerate" p) [e] [] pos) (tI (gX X cm) E (miEnum mas)) :=
  PI.weak (pi_enum hg hm ha hs) fun σ H R ⟨ρ, st, env, hs, he, hp⟩ => ⟨ρ, st, env, hs, he, hp.bindI fun vs st1 H1 ρ1 xs e1 s1 r1 hp1 => by
    have r1 : RepL X.K H1 ρ1 st1.length vs xs := r1
    split at hp1
    · obtain ⟨x, rfl, rx⟩ := r1.one
      obtain ⟨rfl, hk⟩ := rep_loc rx
      split at hp1
      · rename_i zs hz
        obtain ⟨ys, h1, _⟩ := s1.lst (rdL_some hz)
        exact ⟨_, ys, rfl, SqL.of h1, Post.at hp1 s1 (seq_enum hk)⟩
      · exact hp1.elim
    · exact hp1.elim⟩
/-! ### the end -/
/-- the script, as it comes in -/
theorem law_in {m : ON} {a : Addr} {ns : List Int} (hm : ∃ st', m [.frl (ns.map AV.int)] [] = .ok (.bl true) st') (hO : Only H) (hS : SqL K H a (ns.map V.int)) : spF ⟨K, cm⟩ m [.ref a] H (fun v _ => v = .bl true) fun _ _ _ => False := by
  have hF : SqF K H a (ns.map V.int) := by
    rcases hS with (h | ⟨o, h⟩) | h
    · rcases hO a with z | ⟨o, xs, z⟩
      · rw [h] at z; cases z
      · rw [h] at z; cases z
    · exact .inl ⟨o, h⟩
    · exact .inr h
  have hr : ∀ ns : List Int, RepL K H (fun _ => 0) 0 (ns.map AV.int) (ns.map V.int) := fun ns => by
    induction ns with
    | nil => exact .nil
    | cons i r ih => exact .cons (.int i) ih
  obtain ⟨st', e⟩ := hm
  refine ⟨fun _ => 0, [], [.frl (ns.map AV.int)], ⟨fun k o h => by simp at h, fun j k h => absurd h (Nat.not_lt_zero _)⟩, .cons (.frl hF (hr ns)) .nil, ?_⟩
  rw [e]
  exact fun H' ρ' x _ _ r => rep_bl r
end
end Y
set_option Elab.async false
set_option linter.all false
set_option maxRecDepth 100000
namespace Y
open PySem PySem.Spec L2
open PyProof.Rows hiding St
mutual
theorem under_none' {n : Nat} : ∀ {v : AV}, v.locs = [] → AV.under n v = true
  | .non, _ => rfl
  | .bl _, _ => rfl
  | .int _, _ => rfl
  | .str _, _ => rfl
  | .loc k, h => by simp [AV.locs] at h
  | .tup xs, h => by rw [AV.under]; exact underL_none' (v := xs) (by simpa [AV.locs] using h)
  | .frl xs, h => by rw [AV.under]; exact underL_none' (v := xs) (by simpa [AV.locs] using h)
  | .tmp xs, h => by rw [AV.under]; exact underL_none' (v := xs) (by simpa [AV.locs] using h)
theorem underL_none' {n : Nat} : ∀ {v : List AV}, AV.locsL v = [] → AV.underL n v = true
  | [], _ => rfl
  | x :: xs, h => by
    have h : AV.locs x ++ AV.locsL xs = [] := h
    rw [List.append_eq_nil_iff] at h
    rw [AV.underL, under_none' h.1, underL_none' h.2]; rfl
end
/-- a test whose parts make objects -/
def mtGc (m : MT) : MT := fun env st => (gc st ((m env st).bind fun k st => .ok (.bl k) st)).bind fun v st => match v with
  | .bl k => .ok k st
  | _ => .bad
/-- a def that is handed data and hands back data: it never sees the caller's objects -/
def oIso (m : ON) : ON := fun vs st => if (AV.locsL vs).isEmpty then match m vs [] with
  | .ok v _ => if v.locs.isEmpty then .ok v st else .bad
  | _ => .bad else .bad
section
variable {X : Cx} {cm : Nat → Addr} {E : EX}
theorem ye_callI {f : Addr} {fd : FuncData} {ps : List Str} {k : Nat} {m : ON} {x : Str} {e : Expr} {es : List Expr} {mas : MA} {p pos : Pos} (F : FnOk X.prog X.w X.K X.mg X.base CX0 k f fd ps (spF (gX X cm) m)) (hr : Room k X.A) (hg : Gl X x) (hm : X.mg x = some (.ref f)) (hk : PySem.W.keepIn X.K (.ref f) = true) (hb : Binds X.K fd ps [])
    (ha : PA X (e :: es) (tA (gX X cm) E mas)) (hdb : (x == ("__debug__" : Str)) = false := by decide) (he : starEach (e :: es) X.env = (false, eval e X.env) :: starEach es X.env := by rfl) (hpl : (backTo pos (starEach es X.env)).any (·.1) = false := by rfl) :
    PE X (.Call (.Name x p) (e :: es) [] pos) (tE (gX X cm) E (mN (oIso m) mas)) :=
  PE.weak (pe_call F hr hg hm hk hb .nil pass0 ha hdb he hpl) fun σ H Q ⟨ρ, st, env, hs, he, hp⟩ => ⟨ρ, st, env, hs, he, hp.bindI fun vs st1 H1 ρ1 xs e1 s1 r1 hp1 => by
    have r1 : RepL X.K H1 ρ1 st1.length vs xs := r1
    rw [List.append_nil]
    unfold oIso at hp1
    split at hp1
    · rename_i hv
      have hv : AV.locsL vs = [] := List.isEmpty_iff.mp hv
      have hu : ∀ {vs : List AV}, AV.locsL vs = [] → AV.underL 0 vs = true := fun h => underL_none' h
      split at hp1
      · rename_i v st' hm'
        split at hp1
        · rename_i hw
          have hw : v.locs = [] := List.isEmpty_iff.mp hw
          refine ⟨ρ1, [], vs, ⟨fun k o h => by simp at h, fun j k h => absurd h (Nat.not_lt_zero _)⟩, repL_under (Nat.le_refl _) (fun _ h => absurd h (Nat.not_lt_zero _)) _ _ (hu hv) r1, ?_⟩
          rw [hm']
          intro H' ρ' x e s q
          -- the caller's objects are none of the callee's
          have fr : ∀ a o, H1 a = some o → H' a = some o := fun a o h => e.fr a o h fun k hk => absurd hk (Nat.not_lt_zero _)
          have t : Tups X.K H1 H' := tups_of fun a o h _ => fr a o h
          refine hp1 H' ρ1 x ⟨Nat.le_refl _, fun _ _ => rfl, fun a o h _ => fr a o h, fun _ h1 h2 => absurd h1 (Nat.not_le.mpr h2), e.kp, e.fz⟩ (s1.mv (fun k hk => ?_) t) ?_
          · obtain ⟨u, h, _⟩ := s1.notT hk
            rw [h]
            exact fr _ _ h
          · exact rep_under (n := 0) (Nat.zero_le _) (fun _ h => absurd h (Nat.not_lt_zero _)) _ _ (under_none' hw) q
        · exact hp1.elim
      · exact hp1.elim
    · exact hp1.elim⟩
theorem yt_gc {e : Expr} {m : MT} (h : PT X e (tT (gX X cm) E m)) : PT X e (tT (gX X cm) E (mtGc m)) := PT.weak h fun σ H Q ⟨ρ, st, env, hs, he, hp⟩ => by
  refine ⟨ρ, st, env, hs, he, ?_⟩
  have h1 : Post (gX X cm) E H ρ st.length (rV X.K) (gc st ((m env st).bind fun k st => .ok (.bl k) st)) (fun x H' => ∃ k, x = .bl k ∧ Q k H') :=
    Post.bindI hp fun v st1 H1 ρ1 x e1 s1 r1 hp1 => by
      have r1 : Rep X.K H1 ρ1 st1.length v x := r1
      cases v with
      | bl k =>
        cases rep_bl r1
        exact ⟨k, rfl, Post.at (x := k) hp1 s1 rfl⟩
      | _ => exact hp1.elim
  exact Post.bindI (gc_sound hs h1) fun v st1 H1 ρ1 x e1 s1 r1 hp1 => by
    obtain ⟨k, e, q⟩ := Post.at (x := V.bl v) hp1 s1 (.bl v)
    cases e
    cases (show x = v from r1)
    exact q
theorem yi_r3 {tg a b c : Expr} {mas : MA} {p pos : Pos} (hg : Gl X "range") (hm : X.mg "range" = none) (ha : PA X [a, b, c] (tA (gX X cm) E mas)) (hs : starEach [a, b, c] X.env = (false, eval a X.env) :: starEach [b, c] X.env := by rfl) (hpl : (backTo pos (starEach [b, c] X.env)).any (·.1) = false := by rfl) :
    PI X tg (.Call (.Name "range" p) [a, b, c] [] pos) (tI (gX X cm) E (miR3 mas)) :=
  PI.weak (pi_range3 hg hm ha hs hpl) fun σ H R ⟨ρ, st, env, hs, he, hp⟩ => ⟨ρ, st, env, hs, he, hp.bindI fun vs st1 H1 ρ1 xs e1 s1 r1 hp1 => by
    have r1 : RepL X.K H1 ρ1 st1.length vs xs := r1
    split at hp1
    · obtain ⟨x, y, z, rfl, rx, ry, rz⟩ := r1.three
      cases rep_int rx
      cases rep_int ry
      cases rep_int rz
      split at hp1
      · rename_i hb
        rw [Bool.and_eq_true] at hb
        obtain ⟨b1, b2⟩ := rngOk_iff hb.1
        obtain ⟨b3, b4⟩ := rngOk_iff hb.2
        exact ⟨_, _, _, _, rfl, RgC.neg b1 b2 b3 b4, Post.at hp1 s1 seq_rngC⟩
      · exact hp1.elim
    · exact hp1.elim⟩
end
end Y
set_option Elab.async false
set_option linter.all false
set_option maxRecDepth 100000
/-! Y10: reckoning with meanings -/
namespace Y
open PySem
section
variable {env : Ev} {st : Sto} {a b c : ME} {as : MA} {t u : MT} {s r : MS}
@[simp] theorem ev_var0 {v : AV} {e : Ev} : mVar 0 (some v :: e) st = .ok v st := rfl
@[simp] theorem ev_varS {i : Nat} {x : Option AV} {e : Ev} : mVar (i + 1) (x :: e) st = mVar i e st := rfl
@[simp low] theorem ev_var {i : Nat} {v : AV} (h : env[i]? = some (some v)) : mVar i env st = .ok v st := by unfold mVar; rw [h]
@[simp] theorem ev_C {v : AV} : mC v env st = .ok v st := rfl
@[simp] theorem ev_op {o : O2} : mOp o a b env st = (a env st).bind fun x st => (b env st).bind fun y st => o x y st := rfl
@[simp] theorem ev_un {o : O1} : mUn o a env st = (a env st).bind fun x st => o x st := rfl
@[simp] theorem ev_if : mIf t a b env st = (t env st).bind fun k st => if k then a env st else b env st := rfl
@[simp] theorem ev_nil : maNil env st = .ok [] st := rfl
@[simp] theorem ev_cons : maCons a as env st = (a env st).bind fun x st => (as env st).bind fun xs st => .ok (x :: xs) st := rfl
@[simp] theorem ev_N {f : ON} : mN f as env st = (as env st).bind fun xs st => f xs st := rfl
@[simp] theorem ev_gc : mGc a env st = gc st (a env st) := rfl
@[simp] theorem ev_tV : mtV a env st = (a env st).bind fun x st => match x with
  | .bl b => .ok b st
  | _ => .bad := rfl
@[simp] theorem ev_tAnd : mtAnd t u env st = (t env st).bind fun k st => if k then u env st else .ok false st := rfl
@[simp] theorem ev_tOr : mtOr t u env st = (t env st).bind fun k st => if k then .ok true st else u env st := rfl
@[simp] theorem ev_tNot : mtNot t env st = (t env st).bind fun k st => .ok (!k) st := rfl
@[simp] theorem ev_tYes : mtYes env st = .ok true st := rfl
@[simp] theorem ev_AndV : mAndV a b env st = (a env st).bind fun x st => match x with
  | .bl k => if k then b env st else .ok (.bl false) st
  | _ => .bad := rfl
@[simp] theorem ev_OrV : mOrV a b env st = (a env st).bind fun x st => match x with
  | .bl k => if k then .ok (.bl true) st else b env st
  | _ => .bad := rfl
@[simp] theorem ev_NotV : mNotV a env st = (a env st).bind fun x st => match x with
  | .bl k => .ok (.bl (!k)) st
  | _ => .bad := rfl
@[simp] theorem ev_chain {o o' : O2} : mChain o o' a b c env st = (a env st).bind fun x st => (b env st).bind fun y st => (o x y st).bind fun z st => match z with
  | .bl k => if k then (c env st).bind fun w st => o' y w st else .ok (.bl false) st
  | _ => .bad := rfl
@[simp] theorem ev_sl {o : OS} {l h : MO} : mSl o a l h env st = (a env st).bind fun x st => (l env st).bind fun i st => (h env st).bind fun j st => o x i j st := rfl
@[simp] theorem ev_oNone : moNone env st = .ok none st := rfl
@[simp] theorem ev_oSome : moSome a env st = (a env st).bind fun x st => match x with
  | .int i => .ok (some i) st
  | _ => .bad := rfl
@[simp] theorem ev_met {T : Ty} {f : OM} : mMet T f a as env st = (a env st).bind fun x st => if isTy st T x then (as env st).bind fun vs st => f x vs st else .bad := rfl
@[simp] theorem ev_dnew : oDNew env st = .ok (.loc st.length) (st ++ [.dct []]) := rfl
@[simp] theorem ev_disp : mDisp1 a b env st = (a env st).bind fun x st => (b env st).bind fun y st => match keyOf x with
  | some _ => .ok (.loc st.length) (st ++ [.dct [(x, y)]])
  | none => .bad := rfl
@[simp] theorem ev_get2 : mGet2 a b c env st = (a env st).bind fun x st => if isTy st .dict x then (b env st).bind fun y st => (c env st).bind fun w st => match x, keyOf y with
  | .loc k, some _ => match rdK st k with
    | some kvs => .ok ((lookA kvs y).getD w) st
    | none => .bad
  | _, _ => .bad else .bad := rfl
/-! statements -/
@[simp] theorem ev_next : msNext env st = .nx env st := rfl
@[simp] theorem ev_expr : msExpr a env st = (a env st).toFl fun _ st => .nx env st := rfl
@[simp] theorem ev_ret : msRet a env st = (a env st).toFl fun v st => .rt v st := rfl
@[simp] theorem ev_retN : msRetN env st = .rt .non st := rfl
@[simp] theorem ev_ifS : msIf t s r env st = (t env st).toFl fun k st => if k then s env st else r env st := rfl
@[simp] theorem ev_asg {g : MG} : msAsg a g env st = (a env st).toFl fun v st => (g v env st).toFl fun env st => .nx env st := rfl
@[simp] theorem ev_aug {i : Nat} {o : O2} {x : AV} (h : env[i]? = some (some x)) : msAug i o a env st = (a env st).toFl fun y st => (o x y st).toFl fun z st => .nx (env.set i (some z)) st := by unfold msAug; rw [h]
@[simp] theorem ev_par {is : List Nat} : msPar is as env st = (as env st).toFl fun vs st => match setAll is vs env with
  | some env => .nx env st
  | none => .bad := rfl
@[simp] theorem ev_for {it : MI} {g : MG} : msFor it g s env st = (it env st).toFl fun q st => turns q g s (q.len st + 1) 0 env st := rfl
@[simp] theorem ev_while : msWhile t s env st = whileN t s FUEL env st := rfl
@[simp] theorem ev_lc {it : MI} {g : MG} {l : List Nat} : mLc it g t a l env st = (it env st).bind fun q st => (lcTurns q g t a (wipeE env l) (q.len st + 1) 0 [] st).bind fun acc st => oLst acc st := rfl
@[simp] theorem ev_gName {i : Nat} {v : AV} : mgName i v env st = .ok (env.set i (some v)) st := rfl
@[simp] theorem ev_gTup {gs : List MG} {xs : List AV} : mgTup gs (.tup xs) env st = if xs.length = gs.length then mgs gs xs env st else .bad := rfl
@[simp] theorem ev_gTmp {gs : List MG} {xs : List AV} : mgTup gs (.tmp xs) env st = if xs.length = gs.length then mgs gs xs env st else .bad := rfl
@[simp] theorem ev_gs0 : mgs [] [] env st = .ok env st := rfl
@[simp] theorem ev_gs1 {g : MG} {gs : List MG} {v : AV} {vs : List AV} : mgs (g :: gs) (v :: vs) env st = (g v env st).bind fun env st => mgs gs vs env st := rfl
@[simp] theorem ev_gSub {f : O3} {v : AV} : mgSub a b f v env st = (a env st).bind fun x st => (b env st).bind fun y st => (f x y v st).bind fun _ st => .ok env st := rfl
theorem ev_seq : msSeq s r env st = match s env st with
  | .nx env st => r env st
  | f => f := rfl
theorem seq_nx {env' : Ev} {st' : Sto} (h : s env st = .nx env' st') : msSeq s r env st = r env' st' := by rw [ev_seq, h]
theorem seq_rt {v : AV} {st' : Sto} (h : s env st = .rt v st') : msSeq s r env st = .rt v st' := by rw [ev_seq, h]
@[simp] theorem ev_iSeqT {xs : List AV} (h : a env st = .ok (.tup xs) st) : miSeq a env st = .ok (.tup xs) st := by unfold miSeq; rw [h]; rfl
theorem ev_iSeq : miSeq a env st = (a env st).bind fun x st => match x with
  | .tup xs => .ok (.tup xs) st
  | .loc k => match rdL st k with
    | some _ => .ok (.list k) st
    | none => .bad
  | _ => .bad := rfl
theorem ev_R1 : miR1 as env st = (as env st).bind fun vs st => match vs with
  | [.int j] => if rngOk j then .ok (.rng 0 j.toNat) st else .bad
  | _ => .bad := rfl
theorem ev_R1i {n : Nat} {j : Int} {st' : Sto} (hr : rngOk j = true) (hn : j.toNat = n) (h : as env st = .ok [.int j] st') : miR1 as env st = .ok (.rng 0 n) st' := by
  unfold miR1
  rw [h]
  simp only [R.bind_ok]
  rw [if_pos hr, hn]
theorem ev_R2 : miR2 as env st = (as env st).bind fun vs st => match vs with
  | [.int i, .int j] => if rngOk i && rngOk j then .ok (.rng i (j - i).toNat) st else .bad
  | _ => .bad := rfl
theorem ev_R3 : miR3 as env st = (as env st).bind fun vs st => match vs with
  | [.int i, .int j, .int (-1)] => if rngOk i && rngOk j then .ok (.rngC i (-1) (i - j).toNat) st else .bad
  | _ => .bad := rfl
/-! values -/
@[simp] theorem add_ii {i j : Int} : oAdd (.int i) (.int j) st = .ok (.int (i + j)) st := rfl
@[simp] theorem sub_ii {i j : Int} : oSub (.int i) (.int j) st = .ok (.int (i - j)) st := rfl
@[simp] theorem neg_i {i : Int} : oNeg (.int i) st = .ok (.int (-i)) st := rfl
theorem mul_ii {i j : Int} (h : smallB i j = true) : oMul (.int i) (.int j) st = .ok (.int (i * j)) st := if_pos h
theorem mod_ii {i j : Int} (h : 0 < j) : oMod (.int i) (.int j) st = .ok (.int (i % j)) st := if_pos h
theorem fdiv_ii {i j : Int} (h : 0 < j ∧ j < 1073741824) : oFdiv (.int i) (.int j) st = .ok (.int (i / j)) st := if_pos ⟨h.1, by omega⟩
theorem pow_ii {i j : Int} (h : 0 ≤ j ∧ j ≤ 1000000 ∧ i.natAbs < 2 ^ 64) : oPow (.int i) (.int j) st = .ok (.int (i ^ j.toNat)) st := if_pos h
@[simp] theorem lt_ii {i j : Int} : oLt (.int i) (.int j) st = .ok (.bl (decide (i < j))) st := rfl
@[simp] theorem le_ii {i j : Int} : oLe (.int i) (.int j) st = .ok (.bl (decide (i ≤ j))) st := rfl
@[simp] theorem gt_ii {i j : Int} : oGt (.int i) (.int j) st = .ok (.bl (decide (j < i))) st := rfl
@[simp] theorem ge_ii {i j : Int} : oGe (.int i) (.int j) st = .ok (.bl (decide (j ≤ i))) st := rfl
@[simp] theorem eq_ii {i j : Int} : oEq (.int i) (.int j) st = .ok (.bl (decide (i = j))) st := by
  show R.ok (AV.bl (i == j)) st = _
  rw [Bool.beq_eq_decide_eq]
@[simp] theorem ne_ii {i j : Int} : oNe (.int i) (.int j) st = .ok (.bl (!decide (i = j))) st := by
  show R.ok (AV.bl (!(i == j))) st = _
  rw [Bool.beq_eq_decide_eq]
@[simp] theorem max_ii {i j : Int} : oMax2 [.int i, .int j] st = .ok (.int (if j > i then j else i)) st := rfl
@[simp] theorem min_ii {i j : Int} : oMin2 [.int i, .int j] st = .ok (.int (if j < i then j else i)) st := rfl
theorem tup_ok {xs : List AV} (h : xs.length ≤ LIM) : oTup xs st = .ok (.tup xs) st := by unfold oTup; rw [if_pos h]
theorem lst_ok {xs : List AV} (h : xs.length ≤ LIM) : oLst xs st = .ok (.loc st.length) (st ++ [.lst xs]) := by unfold oLst; rw [if_pos h]
@[simp] theorem len_t {xs : List AV} : oLen [.tup xs] st = .ok (.int xs.length) st := rfl
theorem len_l {k : Nat} {xs : List AV} (h : st[k]? = some (.lst xs)) : oLen [.loc k] st = .ok (.int xs.length) st := by
  have e : rdL st k = some xs := by unfold rdL; rw [h]
  unfold oLen; simp only [e]
theorem rdL_ok {k : Nat} {xs : List AV} (h : st[k]? = some (.lst xs)) : rdL st k = some xs := by unfold rdL; rw [h]
theorem ix_t {xs : List AV} {i : Int} {v : AV} (h : L2.atI xs i = some v) : oIx (.tup xs) (.int i) st = .ok v st := by unfold oIx; simp only [h]
theorem ix_l {k : Nat} {xs : List AV} {i : Int} {v : AV} (h : st[k]? = some (.lst xs)) (h2 : L2.atI xs i = some v) : oIx (.loc k) (.int i) st = .ok v st := by
  unfold oIx; simp only [rdL_ok h, h2]
theorem setL_ok {k j : Nat} {xs : List AV} {i : Int} {v : AV} (h : st[k]? = some (.lst xs)) (h2 : L2.ixN xs.length i = some j) : oSetL (.loc k) (.int i) v st = .ok () (st.set k (.lst (xs.set j v))) := by
  unfold oSetL; simp only [h, h2]
theorem app_ok {k : Nat} {xs : List AV} {v : AV} (h : st[k]? = some (.lst xs)) (h2 : xs.length < LIM) : oAppend (.loc k) [v] st = .ok .non (st.set k (.lst (xs ++ [v]))) := by
  unfold oAppend; simp only [h, h2, if_true]
theorem isTy_l {k : Nat} {xs : List AV} (h : st[k]? = some (.lst xs)) : isTy st .list (.loc k) = true := by unfold isTy; simp only [h]
@[simp] theorem isTy_t {xs : List AV} : isTy st .tuple (.tup xs) = true := rfl
theorem isTy_d {k : Nat} {xs : List (AV × AV)} (h : st[k]? = some (.dct xs)) : isTy st .dict (.loc k) = true := by unfold isTy; simp only [h]
/-! places -/
theorem rok {x : Int} (h : 0 ≤ x ∧ x < 1000000) : rngOk x = true := by
  unfold rngOk
  exact decide_eq_true (by omega)
theorem lenR {lo : Int} {n : Nat} {st : Sto} : (Sq.rng lo n).len st = n := rfl
theorem small_r {i j : Int} (h : 0 ≤ j ∧ j < 1000000) : smallB i j = true := by
  unfold smallB
  rw [Bool.or_eq_true]
  exact .inr (decide_eq_true (by omega))
theorem small_l {i j : Int} (h : 0 ≤ i ∧ i < 1000000) : smallB i j = true := by
  unfold smallB
  rw [Bool.or_eq_true]
  exact .inl (decide_eq_true (by omega))
theorem at_new {o : Ob} {rest : Sto} : (st ++ o :: rest)[st.length]? = some o := by rw [List.getElem?_append_right (Nat.le_refl _), Nat.sub_self]; rfl
theorem at_old {o : Ob} {rest : Sto} {k : Nat} (h : st[k]? = some o) : (st ++ rest)[k]? = some o := by rw [List.getElem?_append_left (List.getElem?_eq_some_iff.mp h).1]; exact h
theorem at_set {o o' : Ob} {k : Nat} (h : st[k]? = some o) : (st.set k o')[k]? = some o' := List.getElem?_set_self (List.getElem?_eq_some_iff.mp h).1
theorem set_new {o o' : Ob} {rest : Sto} : (st ++ o :: rest).set st.length o' = st ++ o' :: rest := by
  rw [List.set_append_right _ _ (Nat.le_refl _), Nat.sub_self]; rfl
theorem set_old {o' : Ob} {rest : Sto} {k : Nat} (h : k < st.length) : (st ++ rest).set k o' = st.set k o' ++ rest := List.set_append_left _ _ h
/-! cleaning up -/
theorem gc_same {v : AV} {st' : Sto} (h : st'.length = st.length) : gc st (.ok v st') = .ok v st' := by simp only [gc]; rw [if_pos h]
theorem oldOk_app {n : Nat} : ∀ {st g : Sto}, oldOk n st (st ++ g) = true
  | [], g => rfl
  | o :: r, g => by
    show ((Ob.beq o o || o.under n) && oldOk n r (r ++ g)) = true
    rw [Ob.beq_refl, oldOk_app]; rfl
theorem oldOk_set {n : Nat} {o : Ob} (ho : o.under n = true) : ∀ {st g : Sto} {k : Nat}, oldOk n st (st.set k o ++ g) = true
  | [], g, k => rfl
  | a :: r, g, 0 => by
    show ((Ob.beq a o || o.under n) && oldOk n r (r ++ g)) = true
    rw [ho, oldOk_app, Bool.or_true]; rfl
  | a :: r, g, k + 1 => by
    show ((Ob.beq a a || a.under n) && oldOk n r (r.set k o ++ g)) = true
    rw [Ob.beq_refl, oldOk_set ho]; rfl
mutual
theorem ren_none {f : Nat → Option Nat} : ∀ {v : AV}, v.locs = [] → AV.ren f v = some v
  | .non, _ => rfl
  | .bl _, _ => rfl
  | .int _, _ => rfl
  | .str _, _ => rfl
  | .loc k, h => by simp [AV.locs] at h
  | .tup xs, h => by rw [AV.ren, renL_none (v := xs) (by simpa [AV.locs] using h)]; rfl
  | .frl xs, h => by rw [AV.ren, renL_none (v := xs) (by simpa [AV.locs] using h)]; rfl
  | .tmp xs, h => by rw [AV.ren, renL_none (v := xs) (by simpa [AV.locs] using h)]; rfl
theorem renL_none {f : Nat → Option Nat} : ∀ {v : List AV}, AV.locsL v = [] → AV.renL f v = some v
  | [], _ => rfl
  | x :: xs, h => by
    have h : AV.locs x ++ AV.locsL xs = [] := h
    rw [List.append_eq_nil_iff] at h
    rw [AV.renL, ren_none h.1, renL_none h.2]
end
mutual
theorem under_none {n : Nat} : ∀ {v : AV}, v.locs = [] → AV.under n v = true
  | .non, _ => rfl
  | .bl _, _ => rfl
  | .int _, _ => rfl
  | .str _, _ => rfl
  | .loc k, h => by simp [AV.locs] at h
  | .tup xs, h => by rw [AV.under]; exact underL_none (v := xs) (by simpa [AV.locs] using h)
  | .frl xs, h => by rw [AV.under]; exact underL_none (v := xs) (by simpa [AV.locs] using h)
  | .tmp xs, h => by rw [AV.under]; exact underL_none (v := xs) (by simpa [AV.locs] using h)
theorem underL_none {n : Nat} : ∀ {v : List AV}, AV.locsL v = [] → AV.underL n v = true
  | [], _ => rfl
  | x :: xs, h => by
    have h : AV.locs x ++ AV.locsL xs = [] := h
    rw [List.append_eq_nil_iff] at h
    rw [AV.underL, under_none h.1, underL_none h.2]; rfl
end
theorem reach_nil {n : Nat} {st : Sto} : ∀ {f : Nat}, reach n st f [] = []
  | 0 => rfl
  | f + 1 => by
    show reach n st f (addNew n [] []) = []
    exact reach_nil
/-- a value that holds no object: the store is as long as it was -/
theorem gc_val {v : AV} {st' g : Sto} (hv : v.locs = []) (hl : st'.length = st.length) (ho : oldOk st.length st (st' ++ g) = true) : gc st (.ok v (st' ++ g)) = .ok v st' := by
  simp only [gc]
  by_cases hg : (st' ++ g).length = st.length
  · have : g = [] := by
      rw [List.length_append] at hg
      exact List.eq_nil_of_length_eq_zero (by omega)
    rw [if_pos hg, this, List.append_nil]
  · rw [if_neg hg, hv]
    simp only [addNew, reach_nil, ho, nodupB, List.all_nil, Bool.and_self, if_true, ren_none hv, mapO]
    rw [← hl, List.take_left', List.append_nil]
    rfl
theorem gc_drop {v : AV} {g : Sto} (hv : v.locs = []) : gc st (.ok v (st ++ g)) = .ok v st := gc_val hv rfl oldOk_app
theorem locsL_flat {xs : List AV} (h : ∀ v ∈ xs, AV.locs v = []) : AV.locsL xs = [] := by
  induction xs with
  | nil => rfl
  | cons x xs ih =>
    show AV.locs x ++ AV.locsL xs = []
    rw [h x (by simp), ih fun v hv => h v (by simp [hv])]; rfl
/-- a new list that holds no object -/
theorem gc_new {xs : List AV} {st' g : Sto} {j : Nat} (hx : AV.locsL xs = []) (hl : st'.length = st.length) (ho : oldOk st.length st (st' ++ g) = true) (hj : g[j]? = some (.lst xs)) : gc st (.ok (.loc (st.length + j)) (st' ++ g)) = .ok (.loc st.length) (st' ++ [.lst xs]) := by
  simp only [gc]
  have hjl := (List.getElem?_eq_some_iff.mp hj).1
  have hg : ¬ (st' ++ g).length = st.length := by rw [List.length_append]; omega
  rw [if_neg hg]
  have hat : (st' ++ g)[st.length + j]? = some (.lst xs) := by rw [List.getElem?_append_right (by omega), hl, Nat.add_sub_cancel_left]; exact hj
  have h1 : addNew st.length [] (AV.locs (.loc (st.length + j))) = [st.length + j] := by simp [AV.locs, addNew]
  have h2 : ∀ f, reach st.length (st' ++ g) f [st.length + j] = [st.length + j] := by
    intro f
    induction f with
    | zero => rfl
    | succ f ih =>
      rw [reach]
      simp only [List.flatMap_cons, List.flatMap_nil, hat, Ob.vals, hx, addNew, List.append_nil]
      exact ih
  rw [h1, h2, ho]
  have hp : place st.length [st.length + j] (st.length + j) = some st.length := by
    unfold place
    rw [if_neg (by omega)]
    simp
  simp only [nodupB, List.contains_nil, Bool.not_false, Bool.and_self, List.all_cons, List.all_nil, Bool.and_true, decide_eq_true_eq, Bool.true_and, Nat.le_add_right, decide_true, if_true, AV.ren, hp, Option.map_some, mapO, hat, Option.bind_some, Ob.ren, renL_none hx]
  rw [← hl, List.take_left']
  rfl
theorem gc_list {xs : List AV} (hx : AV.locsL xs = []) : gc st (.ok (.loc st.length) (st ++ [.lst xs])) = .ok (.loc st.length) (st ++ [.lst xs]) :=
  gc_new (j := 0) (g := [.lst xs]) hx rfl oldOk_app rfl
end
/-! ### loops -/
theorem iso_ok {m : ON} {vs : List AV} {v : AV} {st st' : Sto} (hv : AV.locsL vs = []) (h : m vs [] = .ok v st') (hw : v.locs = []) : oIso m vs st = .ok v st := by
  unfold oIso
  simp only [hv, h, hw, List.isEmpty_nil, if_true]
/-- a loop: an invariant by the turn; or the body returns -/
theorem turns_its {q : Sq} {g : MG} {b : MS} {xs : List AV} (P : Nat → Ev → Sto → Prop) (T : AV → Sto → Prop) (hq : ∀ i env st, i ≤ xs.length → P i env st → q.at st i = some xs[i]?)
    (hs : ∀ i x env st, xs[i]? = some x → P i env st → (∃ env' st', (g x env st).toFl b = .nx env' st' ∧ P (i + 1) env' st') ∨ ∃ v st', (g x env st).toFl b = .rt v st' ∧ T v st') {env : Ev} {st : Sto} (h0 : P 0 env st) :
    (∃ env' st', turns q g b (xs.length + 1) 0 env st = .nx env' st' ∧ P xs.length env' st') ∨ ∃ v st', turns q g b (xs.length + 1) 0 env st = .rt v st' ∧ T v st' := by
  have go : ∀ f i env st, i + f = xs.length → P i env st → (∃ env' st', turns q g b (f + 1) i env st = .nx env' st' ∧ P xs.length env' st') ∨ ∃ v st', turns q g b (f + 1) i env st = .rt v st' ∧ T v st' := by
    intro f
    induction f with
    | zero =>
      intro i env st e h
      have hi : i = xs.length := by omega
      refine .inl ⟨env, st, ?_, by rw [← hi]; exact h⟩
      simp only [turns, hq i env st (by omega) h]
      rw [List.getElem?_eq_none (by omega)]
    | succ f ih =>
      intro i env st e h
      have hlt : i < xs.length := by omega
      have hat := hq i env st (by omega) h
      rw [List.getElem?_eq_getElem hlt] at hat
      have ht : turns q g b (f + 1 + 1) i env st = (g xs[i] env st).toFl fun env st => step (b env st) (turns q g b (f + 1) (i + 1)) := by
        conv => lhs; unfold turns
        simp only [hat]
      rw [ht]
      rcases hs i xs[i] env st (List.getElem?_eq_getElem hlt) h with ⟨env1, st1, e1, h1⟩ | ⟨v, st1, e1, h1⟩
      · cases hg : g xs[i] env st with
        | ok env' st' =>
          rw [hg] at e1
          simp only [R.toFl_ok] at e1 ⊢
          rw [e1]
          exact ih (i + 1) env1 st1 (by omega) h1
        | ex u st' => rw [hg] at e1; cases e1
        | bad => rw [hg] at e1; cases e1
      · cases hg : g xs[i] env st with
        | ok env' st' =>
          rw [hg] at e1
          simp only [R.toFl_ok] at e1 ⊢
          rw [e1]
          exact .inr ⟨v, st1, rfl, h1⟩
        | ex u st' => rw [hg] at e1; cases e1
        | bad => rw [hg] at e1; cases e1
  exact go xs.length 0 env st (by omega) h0
theorem turns_nx {q : Sq} {g : MG} {b : MS} {xs : List AV} (P : Nat → Ev → Sto → Prop) (hq : ∀ i env st, i ≤ xs.length → P i env st → q.at st i = some xs[i]?)
    (hs : ∀ i x env st, xs[i]? = some x → P i env st → ∃ env' st', (g x env st).toFl b = .nx env' st' ∧ P (i + 1) env' st') {env : Ev} {st : Sto} (h0 : P 0 env st) :
    ∃ env' st', turns q g b (xs.length + 1) 0 env st = .nx env' st' ∧ P xs.length env' st' := by
  rcases turns_its P (fun _ _ => False) hq (fun i x env st h1 h2 => .inl (hs i x env st h1 h2)) h0 with h | ⟨_, _, _, h⟩
  · exact h
  · exact h.elim
/-- the ints of a range -/
def rngA (lo : Int) (n : Nat) : List AV := (List.range n).map fun i => .int (lo + (i : Nat))
theorem rngA_len (lo : Int) (n : Nat) : (rngA lo n).length = n := by simp [rngA]
theorem rngA_at {lo : Int} {n i : Nat} : (rngA lo n)[i]? = if i < n then some (.int (lo + (i : Nat))) else none := by
  unfold rngA
  by_cases h : i < n
  · simp [h]
  · simp [h]
theorem at_rng {lo : Int} {n i : Nat} {st : Sto} : (Sq.rng lo n).at st i = some (rngA lo n)[i]? := by rw [rngA_at]; rfl
/-- a loop over a range -/
theorem turns_rng {g : MG} {b : MS} {lo : Int} {n : Nat} (P : Nat → Ev → Sto → Prop) (hs : ∀ i env st, i < n → P i env st → ∃ env' st', (g (.int (lo + (i : Nat))) env st).toFl b = .nx env' st' ∧ P (i + 1) env' st') {env : Ev} {st : Sto} (h0 : P 0 env st) :
    ∃ env' st', turns (.rng lo n) g b (n + 1) 0 env st = .nx env' st' ∧ P n env' st' := by
  have := turns_nx (q := .rng lo n) (g := g) (b := b) (xs := rngA lo n) P (fun i env st _ _ => at_rng) (fun i x env st hx h => ?_) h0
  · rw [rngA_len] at this; exact this
  · rw [rngA_at] at hx
    split at hx
    · rename_i hi
      cases hx
      exact hs i env st hi h
    · cases hx
theorem at_list {k i : Nat} {xs : List AV} {st : Sto} (h : st[k]? = some (.lst xs)) : (Sq.list k).at st i = some xs[i]? := by
  simp only [Sq.at, rdL_ok h]; rfl
theorem len_list {k : Nat} {xs : List AV} {st : Sto} (h : st[k]? = some (.lst xs)) : (Sq.list k).len st = xs.length := by
  simp only [Sq.len, rdL_ok h]; rfl
/-- a comprehension whose parts change nothing -/
theorem lc_its {q : Sq} {g : MG} {t : MT} {e : ME} {xs : List AV} {env : Ev} {st : Sto} (f : AV → Option AV) (hq : ∀ i, q.at st i = some xs[i]?)
    (h : ∀ x ∈ xs, ((g x env st).bind fun env' st => (t env' st).bind fun k st => if k then (e env' st).bind fun y st => .ok (some y) st else .ok none st) = .ok (f x) st) (hl : xs.length ≤ LIM) :
    lcTurns q g t e env (xs.length + 1) 0 [] st = .ok (xs.filterMap f) st := by
  have go : ∀ m i acc, i + m = xs.length → acc.length ≤ i → lcTurns q g t e env (m + 1) i acc st = .ok (acc ++ (xs.drop i).filterMap f) st := by
    intro m
    induction m with
    | zero =>
      intro i acc e h
      simp only [lcTurns, hq i]
      rw [List.getElem?_eq_none (by omega), List.drop_of_length_le (by omega)]
      simp
    | succ m ih =>
      intro i acc e ha
      have hlt : i < xs.length := by omega
      have hx := h xs[i] (List.getElem_mem hlt)
      have hat := hq i
      rw [List.getElem?_eq_getElem hlt] at hat
      rw [List.drop_eq_getElem_cons hlt, List.filterMap_cons]
      conv => lhs; unfold lcTurns
      simp only [hat]
      cases hg : g xs[i] env st with
      | ok env' st' =>
        rw [hg] at hx
        simp only [R.bind_ok] at hx ⊢
        cases ht : t env' st' with
        | ok k st2 =>
          rw [ht] at hx
          simp only [R.bind_ok] at hx ⊢
          cases k with
          | true =>
            simp only [if_true] at hx ⊢
            rename_i eM
            cases he : eM env' st2 with
            | ok y st3 =>
              rw [he] at hx
              simp only [R.bind_ok, R.ok.injEq] at hx ⊢
              obtain ⟨hx1, hx2⟩ := hx
              rw [← hx1, hx2, if_pos (by omega), ih (i + 1) (acc ++ [y]) (by omega) (by simp; omega)]
              simp
            | ex u st' => rw [he] at hx; cases hx
            | bad => rw [he] at hx; cases hx
          | false =>
            simp only [Bool.false_eq_true, if_false, R.ok.injEq] at hx ⊢
            obtain ⟨hx1, hx2⟩ := hx
            rw [← hx1, hx2, ih (i + 1) acc (by omega) (by omega)]
        | ex u st' => rw [ht] at hx; cases hx
        | bad => rw [ht] at hx; cases hx
      | ex u st' => rw [hg] at hx; cases hx
      | bad => rw [hg] at hx; cases hx
  have := go xs.length 0 [] (by omega) (by simp)
  simpa using this
/-! ### data -/
theorem mapO_map {α β γ : Type} {f : α → Option β} {h : γ → α} {r : γ → β} : ∀ {xs : List γ}, (∀ x ∈ xs, f (h x) = some (r x)) → mapO f (xs.map h) = some (xs.map r)
  | [], _ => rfl
  | x :: xs, hx => by
    simp only [List.map_cons, mapO, hx x (by simp), mapO_map (xs := xs) fun y hy => hx y (by simp [hy])]
theorem den_ints {st : Sto} {f : Nat} {w : List Int} : den st (f + 2) (.tup (w.map .int)) = some (.tuple (w.map .int)) := by
  simp only [den, mapO_map (f := den st (f + 1)) (h := AV.int) (r := PyData.int) (xs := w) fun x _ => rfl, Option.map_some]
theorem count_ints {st : Sto} {w : List Int} {s : Int} : oCountT (.tup (w.map .int)) [.int s] st = .ok (.int (w.count s : Nat)) st := by
  unfold oCountT oCount
  simp only [DEEP, den_ints, Option.bind_some, itemsOf, den]
  congr 3
  rw [List.countP_map, List.count_eq_countP]
  rfl
theorem locs_ints {w : List Int} : AV.locsL (w.map AV.int) = [] := locsL_flat fun v hv => by
  obtain ⟨i, _, rfl⟩ := List.mem_map.mp hv
  rfl
end Y
set_option Elab.async false
set_option linter.all false
set_option maxRecDepth 100000
/-! Y11: the draws -/
namespace Y
open PySem
def cutI (xs : List Int) (lo hi : Option Int) : List Int := (xs.drop (HT.sIx xs.length 0 lo)).take (HT.sIx xs.length xs.length hi - HT.sIx xs.length 0 lo)
theorem cutI_ok {xs : List Int} {lo hi : Option Int} : cutA (xs.map AV.int) lo hi = (cutI xs lo hi).map AV.int := by
  unfold cutA cutI
  rw [List.length_map, List.map_take, List.map_drop]
theorem cutI_len {xs : List Int} {lo hi : Option Int} : (cutI xs lo hi).length ≤ xs.length := by
  unfold cutI
  rw [List.length_take, List.length_drop]
  omega
def b__law_deck : MS := (msSeq (msIf (mtV (mOp oGe (mVar 0) (mOp oPow (mC (.int 10)) (mC (.int 18))))) (msRet (mN oLst (maCons (mOp oSub (mVar 0) (mOp oPow (mC (.int 10)) (mC (.int 18)))) (maCons (mOp oMod (mVar 0) (mC (.int 2147483579))) (maCons (mVar 1) maNil))))) msNext)
    (msRet (mN oLst (maCons (mC (.int 0)) (maCons (mOp oMod (mVar 0) (mC (.int 2147483579))) (maCons (mVar 1) maNil))))))
def m__law_deck : ON := fn 2 2 b__law_deck
def b__law_pick : MS := (msSeq (msIf (mtV (mOp oGt (mOp oIx (mVar 0) (mC (.int 0))) (mC (.int 1)))) (msSeq (msAsg (mOp oMod (mOp oIx (mVar 0) (mC (.int 0))) (mVar 1)) (mgName 2))
    (msSeq (msAsg (mOp oFdiv (mOp oIx (mVar 0) (mC (.int 0))) (mVar 1)) (mgSub (mVar 0) (mC (.int 0)) oSetL))
    (msRet (mVar 2)))) msNext)
    (msSeq (msAsg (mOp oAdd (mOp oIx (mVar 0) (mC (.int 2))) (mC (.int 1))) (mgSub (mVar 0) (mC (.int 2)) oSetL))
    (msSeq (msAsg (mOp oMod (mOp oPow (mOp oAdd (mOp oIx (mVar 0) (mC (.int 1))) (mOp oMul (mC (.int 15485867)) (mOp oIx (mVar 0) (mC (.int 2))))) (mC (.int 5))) (mC (.int 2147483647))) (mgName 3))
    (msSeq (msAsg (mOp oFdiv (mOp oMod (mOp oPow (mOp oAdd (mVar 3) (mOp oMul (mC (.int 7919)) (mOp oIx (mVar 0) (mC (.int 2))))) (mC (.int 3))) (mC (.int 2147483629))) (mC (.int 32))) (mgName 2))
    (msSeq (msIf (mtV (mOp oGt (mVar 1) (mC (.int 1000000)))) (msRet (mOp oMod (mOp oAdd (mOp oMul (mVar 2) (mC (.int 2147483563))) (mVar 3)) (mVar 1))) msNext)
    (msRet (mOp oMod (mVar 2) (mVar 1))))))))
def m__law_pick : ON := fn 4 2 b__law_pick
theorem pow18 {st : Sto} : oPow (.int 10) (.int 18) st = .ok (.int 1000000000000000000) st := rfl
theorem deck_ok (cell t : Int) (st : Sto) : ∃ a b : Int, m__law_deck [.int cell, .int t] st = .ok (.loc st.length) (st ++ [.lst [.int a, .int b, .int t]]) ∧ 0 ≤ a ∧ 0 ≤ b ∧ b < 2147483579 := by
  unfold m__law_deck fn
  by_cases h : (1000000000000000000 : Int) ≤ cell
  · refine ⟨cell - 1000000000000000000, cell % 2147483579, ?_, by omega, by omega, by omega⟩
    simp [b__law_deck, startE, ev_seq, pow18, mod_ii, h, lst_ok, LIM, fin]
    exact gc_list rfl
  · refine ⟨0, cell % 2147483579, ?_, by omega, by omega, by omega⟩
    simp [b__law_deck, startE, ev_seq, pow18, mod_ii, h, lst_ok, LIM, fin]
    exact gc_list rfl
/-- the deck at k: its numbers, the turn at most m -/
def DeckAt (st : Sto) (k : Nat) (m : Int) : Prop := ∃ a b t : Int, st[k]? = some (.lst [.int a, .int b, .int t]) ∧ 0 ≤ a ∧ 0 ≤ b ∧ b < 2147483579 ∧ 0 ≤ t ∧ t ≤ m
theorem DeckAt.mono {st : Sto} {k : Nat} {m m' : Int} (h : DeckAt st k m) (hm : m ≤ m') : DeckAt st k m' :=
  let ⟨a, b, t, h1, h2, h3, h4, h5, h6⟩ := h; ⟨a, b, t, h1, h2, h3, h4, h5, Int.le_trans h6 hm⟩
theorem DeckAt.old {st g : Sto} {k : Nat} {m : Int} (h : DeckAt st k m) : DeckAt (st ++ g) k m :=
  let ⟨a, b, t, h1, h2⟩ := h; ⟨a, b, t, at_old h1, h2⟩
theorem DeckAt.other {st : Sto} {k j : Nat} {m : Int} {o : Ob} (h : DeckAt st k m) (hj : j ≠ k) : DeckAt (st.set j o) k m :=
  let ⟨a, b, t, h1, h2⟩ := h; ⟨a, b, t, by rw [List.getElem?_set_ne hj]; exact h1, h2⟩
theorem DeckAt.lt {st : Sto} {k : Nat} {m : Int} (h : DeckAt st k m) : k < st.length := let ⟨_, _, _, h1, _⟩ := h; (List.getElem?_eq_some_iff.mp h1).1
theorem pick_ok {st : Sto} {k : Nat} {m lim : Int} (h : DeckAt st k m) (hm : m < 1000000) (hl : 0 < lim ∧ lim < 1000) :
    ∃ (r : Int) (xs : List AV), m__law_pick [.loc k, .int lim] st = .ok (.int r) (st.set k (.lst xs)) ∧ 0 ≤ r ∧ r < lim ∧ DeckAt (st.set k (.lst xs)) k (m + 1) ∧ AV.locsL xs = [] := by
  obtain ⟨a, b, t, hk, ha, hb, hb2, ht, htm⟩ := h
  unfold m__law_pick fn
  have i0 : ∀ x y z : AV, L2.atI [x, y, z] 0 = some x := fun _ _ _ => rfl
  have i1 : ∀ x y z : AV, L2.atI [x, y, z] 1 = some y := fun _ _ _ => rfl
  have i2 : ∀ x y z : AV, L2.atI [x, y, z] 2 = some z := fun _ _ _ => rfl
  have j0 : ∀ x y z : AV, L2.ixN [x, y, z].length 0 = some 0 := fun _ _ _ => rfl
  have j2 : ∀ x y z : AV, L2.ixN [x, y, z].length 2 = some 2 := fun _ _ _ => rfl
  by_cases h : (1 : Int) < a
  · refine ⟨a % lim, [.int (a / lim), .int b, .int t], ?_, Int.emod_nonneg _ (by omega), Int.emod_lt_of_pos _ hl.1, ⟨a / lim, b, t, at_set hk, Int.ediv_nonneg ha (by omega), hb, hb2, ht, by omega⟩, rfl⟩
    simp [b__law_pick, startE, ev_seq, ix_l hk (i0 _ _ _), h, mod_ii hl.1, fdiv_ii (show 0 < lim ∧ lim < 1073741824 by omega), setL_ok hk (j0 _ _ _), fin]
    exact gc_same (by simp)
  · have hk2 := at_set (o' := .lst [.int a, .int b, .int (t + 1)]) hk
    have s1 : smallB 15485867 (t + 1) = true := rfl
    have s2 : smallB 7919 (t + 1) = true := rfl
    have p1 : oPow (.int (b + 15485867 * (t + 1))) (.int 5) (st.set k (.lst [.int a, .int b, .int (t + 1)])) = .ok (.int ((b + 15485867 * (t + 1)) ^ 5)) (st.set k (.lst [.int a, .int b, .int (t + 1)])) := pow_ii ⟨by omega, by omega, by omega⟩
    generalize hn : (b + 15485867 * (t + 1)) ^ 5 = n5 at p1
    have p2 : oPow (.int (n5 % 2147483647 + 7919 * (t + 1))) (.int 3) (st.set k (.lst [.int a, .int b, .int (t + 1)])) = .ok (.int ((n5 % 2147483647 + 7919 * (t + 1)) ^ 3)) (st.set k (.lst [.int a, .int b, .int (t + 1)])) := pow_ii ⟨by omega, by omega, by omega⟩
    generalize hq : (n5 % 2147483647 + 7919 * (t + 1)) ^ 3 = n3 at p2
    refine ⟨(n3 % 2147483629 / 32) % lim, [.int a, .int b, .int (t + 1)], ?_, Int.emod_nonneg _ (by omega), Int.emod_lt_of_pos _ hl.1, ⟨a, b, t + 1, hk2, ha, hb, hb2, by omega, by omega⟩, rfl⟩
    simp [b__law_pick, startE, ev_seq, ix_l hk (i0 _ _ _), ix_l hk (i2 _ _ _), h, setL_ok hk (j2 _ _ _), ix_l hk2 (i1 _ _ _), ix_l hk2 (i2 _ _ _), mul_ii s1, mul_ii s2, p1, p2, mod_ii hl.1, mod_ii (show (0 : Int) < 2147483647 by omega), mod_ii (show (0 : Int) < 2147483629 by omega), fdiv_ii (show (0 : Int) < 32 ∧ (32 : Int) < 1073741824 by omega),
      show ¬ (1000000 < lim) by omega, fin]
    exact gc_same (by simp)
end Y
set_option Elab.async false
set_option linter.all false
set_option maxRecDepth 100000
set_option maxHeartbeats 4000000
namespace K09
open PySem PySem.Spec L2 Y
open PyProof.Rows hiding St
def b_rows_that_seat : MS := (msSeq (msIf (mtV (mOp oGt (mVar 2) (mVar 0))) (msRet (mC (.int 0))) msNext)
    (msSeq (msIf (mtOr (mtV (mVar 1)) (mtV (mOp oEq (mVar 2) (mC (.int 0))))) (msPar [3, 4, 5] (maCons (mVar 0) (maCons (mVar 2) (maCons (mC (.int 1)) maNil)))) (msPar [3, 4, 5] (maCons (mOp oAdd (mVar 0) (mC (.int 1))) (maCons (mOp oSub (mVar 2) (mC (.int 1))) (maCons (mOp oAdd (mOp oSub (mVar 0) (mVar 2)) (mC (.int 1))) maNil)))))
    (msSeq (msFor (miR1 (maCons (mVar 4) maNil)) (mgName 6) (msAug 5 oMul (mVar 3)))
    (msRet (mVar 5)))))
def m_rows_that_seat : ON := fn 7 3 b_rows_that_seat
def b__law_choose : MS := (msSeq (msAsg (mC (.int 1)) (mgName 2))
    (msSeq (msFor (miR1 (maCons (mVar 1) maNil)) (mgName 3) (msAsg (mOp oFdiv (mOp oMul (mVar 2) (mOp oSub (mVar 0) (mVar 3))) (mOp oAdd (mVar 3) (mC (.int 1)))) (mgName 2)))
    (msRet (mVar 2))))
def m__law_choose : ON := fn 4 2 b__law_choose
def b__law_along : MS := (msSeq (msAsg (mDisp1 (mC (.int 0)) (mC (.int 1))) (mgName 2))
    (msSeq (msFor (miR3 (maCons (mOp oSub (mVar 0) (mC (.int 1))) (maCons (mUn oNeg (mC (.int 1))) (maCons (mUn oNeg (mC (.int 1))) maNil)))) (mgName 3) (msSeq (msAsg oDNew (mgName 4))
    (msSeq (msLock 2 (msFor (miKeys (mVar 2)) (mgName 5) (msFor (miR1 (maCons (mOp oAdd (mOp oSub (mVar 1) (mVar 5)) (mC (.int 1))) maNil)) (mgName 6) (msSeq (msAsg (mOp oAdd (mVar 5) (mVar 6)) (mgName 7))
    (msIf (mtV (mOp oLe (mVar 7) (mOp oSub (mVar 0) (mVar 3)))) (msAsg (mOp oAdd (mGet2 (mVar 4) (mVar 7) (mC (.int 0))) (mOp oMul (mOp oDGet (mVar 2) (mVar 5)) (mN (oIso m__law_choose) (maCons (mOp oSub (mVar 1) (mVar 5)) (maCons (mVar 6) maNil))))) (mgSub (mVar 4) (mVar 7) oDSet)) msNext)))))
    (msAsg (mVar 4) (mgName 2)))))
    (msRet (mGet2 (mVar 2) (mVar 1) (mC (.int 0))))))
def m__law_along : ON := fn 8 2 b__law_along
def b__law_all_rows : MS := (msSeq (msAsg (mN oLst (maCons (mN oTup maNil) maNil)) (mgName 2))
    (msSeq (msFor (miR1 (maCons (mVar 1) maNil)) (mgName 3) (msSeq (msAsg (mN oLst maNil) (mgName 4))
    (msSeq (msFor (miSeq (mVar 2)) (mgName 5) (msAsg (mGc (mOp oAdd (mVar 4) (mLc (miR1 (maCons (mVar 0) maNil)) (mgName 6) mtYes (mOp oAdd (mVar 5) (mN oTup (maCons (mVar 6) maNil))) (List.map Prod.snd ([("wish", 6)] : List (Str × Nat)))))) (mgName 4)))
    (msAsg (mVar 4) (mgName 2)))))
    (msRet (mVar 2))))
def m__law_all_rows : ON := fn 7 2 b__law_all_rows
def b__law_outs : MS := (msSeq (msAsg (mC (.int 0)) (mgName 2))
    (msSeq (msFor (miR1 (maCons (mVar 0) maNil)) (mgName 3) (msAsg (mN oMax2 (maCons (mC (.int 0)) (maCons (mOp oSub (mOp oAdd (mVar 2) (mMet .tuple oCountT (mVar 1) (maCons (mVar 3) maNil))) (mC (.int 1))) maNil))) (mgName 2)))
    (msRet (mVar 2))))
def m__law_outs : ON := fn 4 2 b__law_outs
def b_law : MS := (msSeq (msFor (miSeq (mOp oAdd (mN oLst (maCons (mC (.int 0)) maNil)) (mSl oSl (mVar 0) moNone (moSome (mC (.int 6)))))) (mgName 1) (msSeq (msAsg (mN m__law_deck (maCons (mVar 1) (maCons (mC (.int 9)) maNil))) (mgName 2))
    (msSeq (msAsg (mOp oAdd (mC (.int 1)) (mN m__law_pick (maCons (mVar 2) (maCons (mC (.int 5)) maNil)))) (mgName 3))
    (msSeq (msAsg (mN m__law_pick (maCons (mVar 2) (maCons (mC (.int 6)) maNil))) (mgName 4))
    (msSeq (msAsg (mGc (mLc (miSeq (mN m__law_all_rows (maCons (mVar 3) (maCons (mVar 4) maNil)))) (mgName 12) (mtV (mOp oEq (mN (oIso m__law_outs) (maCons (mVar 3) (maCons (mVar 12) maNil))) (mC (.int 0)))) (mVar 12) (List.map Prod.snd ([("row", 12)] : List (Str × Nat))))) (mgName 5))
    (msSeq (msIf (mtV (mOp oNe (mN (oIso m_rows_that_seat) (maCons (mVar 3) (maCons (mC (.bl false)) (maCons (mVar 4) maNil)))) (mN oLen (maCons (mVar 5) maNil)))) (msRet (mC (.bl false))) msNext)
    (msSeq (msAsg (mOp oAdd (mC (.int 1)) (mN m__law_pick (maCons (mVar 2) (maCons (mC (.int 24)) maNil)))) (mgName 6))
    (msSeq (msAsg (mN m__law_pick (maCons (mVar 2) (maCons (mOp oAdd (mVar 6) (mC (.int 2))) maNil))) (mgName 7))
    (msSeq (msIf (mtV (mOp oNe (mN (oIso m_rows_that_seat) (maCons (mVar 6) (maCons (mC (.bl false)) (maCons (mVar 7) maNil)))) (mN (oIso m__law_along) (maCons (mVar 6) (maCons (mVar 7) maNil))))) (msRet (mC (.bl false))) msNext)
    (msSeq (msAsg (mOp oAdd (mC (.int 1)) (mN m__law_pick (maCons (mVar 2) (maCons (mC (.int 199)) maNil)))) (mgName 8))
    (msSeq (msAsg (mN m__law_pick (maCons (mVar 2) (maCons (mOp oAdd (mVar 8) (mC (.int 1))) maNil))) (mgName 9))
    (msSeq (msAsg (mC (.int 1)) (mgName 10))
    (msSeq (msFor (miR1 (maCons (mVar 9) maNil)) (mgName 11) (msAsg (mOp oMul (mVar 10) (mVar 8)) (mgName 10)))
    (msSeq (msIf (mtOr (mtV (mOp oNe (mN (oIso m_rows_that_seat) (maCons (mVar 8) (maCons (mC (.bl true)) (maCons (mVar 9) maNil)))) (mVar 10))) (mtV (mOp oNe (mN (oIso m_rows_that_seat) (maCons (mVar 8) (maCons (mC (.bl true)) (maCons (mOp oAdd (mVar 8) (mC (.int 1))) maNil)))) (mC (.int 0))))) (msRet (mC (.bl false))) msNext)
    (msSeq (msIf (mtOr (mtV (mOp oGt (mN (oIso m_rows_that_seat) (maCons (mVar 8) (maCons (mC (.bl false)) (maCons (mVar 9) maNil)))) (mVar 10))) (mtV (mOp oNe (mN (oIso m_rows_that_seat) (maCons (mVar 8) (maCons (mC (.bl false)) (maCons (mOp oAdd (mVar 8) (mC (.int 1))) maNil)))) (mC (.int 0))))) (msRet (mC (.bl false))) msNext)
    (msSeq (msAsg (mOp oSub (mOp oAdd (mVar 8) (mC (.int 1))) (mVar 9)) (mgName 10))
    (msSeq (msFor (miR1 (maCons (mOp oSub (mVar 9) (mC (.int 1))) maNil)) (mgName 11) (msAsg (mOp oMul (mVar 10) (mOp oAdd (mVar 8) (mC (.int 1)))) (mgName 10)))
    (msSeq (msIf (mtV (mOp oNe (mN (oIso m_rows_that_seat) (maCons (mVar 8) (maCons (mC (.bl false)) (maCons (mVar 9) maNil)))) (mIf (mtV (mOp oGt (mVar 9) (mC (.int 0)))) (mVar 10) (mC (.int 1))))) (msRet (mC (.bl false))) msNext)
    (msSeq (msAsg (mC (.int 1)) (mgName 10))
    (msSeq (msFor (miR1 (maCons (mOp oSub (mVar 8) (mC (.int 1))) maNil)) (mgName 11) (msAsg (mOp oMul (mVar 10) (mOp oAdd (mVar 8) (mC (.int 1)))) (mgName 10)))
    (msIf (mtOr (mtV (mOp oNe (mN (oIso m_rows_that_seat) (maCons (mVar 8) (maCons (mC (.bl false)) (maCons (mVar 8) maNil)))) (mVar 10))) (mtV (mOp oNe (mN (oIso m_rows_that_seat) (maCons (mVar 8) (maCons (mC (.bl false)) (maCons (mC (.int 0)) maNil)))) (mC (.int 1))))) (msRet (mC (.bl false))) msNext)))))))))))))))))))))
    (msRet (mC (.bl true))))
def m_law : ON := fn 13 1 b_law
end K09
set_option Elab.async false
set_option linter.all false
set_option maxRecDepth 100000
set_option maxHeartbeats 4000000
namespace K09
open PySem Y
/-! ### rows_that_seat -/
def powI (base : Int) : Nat → Int → Int
  | 0, f => f
  | k + 1, f => powI base k (f * base)
theorem powI_eq (base : Int) : ∀ (k : Nat) (f : Int), powI base k f = f * base ^ k
  | 0, f => by simp [powI]
  | k + 1, f => by rw [powI, powI_eq, Int.pow_succ, Int.mul_assoc, Int.mul_comm (base ^ k)]
theorem powI_succ (base : Int) (k : Nat) (f : Int) : powI base (k + 1) f = powI base k f * base := by
  rw [powI_eq, powI_eq, Int.pow_succ, Int.mul_assoc]
def rtsF (size : Int) (ring : Bool) (many : Int) : Int :=
  if size < many then 0 else if ring = true ∨ many = 0 then powI size many.toNat 1 else powI (size + 1) (many - 1).toNat (size - many + 1)
theorem rts_ok (size many : Int) (ring : Bool) (hs : 0 ≤ size ∧ size < 1000) (hm : 0 ≤ many ∧ many < 1000) : m_rows_that_seat [.int size, .bl ring, .int many] [] = .ok (.int (rtsF size ring many)) [] := by
  unfold m_rows_that_seat fn rtsF
  by_cases h : size < many
  · simp [b_rows_that_seat, startE, ev_seq, h, fin]
    exact gc_same rfl
  · have loop : ∀ (base less first : Int), 0 ≤ base ∧ base < 1000000 → 0 ≤ less ∧ less < 1000 →
        ∃ x, turns (.rng 0 less.toNat) (mgName 6) (msAug 5 oMul (mVar 3)) (less.toNat + 1) 0 [some (.int size), some (.bl ring), some (.int many), some (.int base), some (.int less), some (.int first), none] [] =
          .nx [some (.int size), some (.bl ring), some (.int many), some (.int base), some (.int less), some (.int (powI base less.toNat first)), x] [] := by
      intro base less first hb hl
      obtain ⟨env, st, e, x, rfl, rfl⟩ := turns_rng (g := mgName 6) (b := msAug 5 oMul (mVar 3)) (lo := 0) (n := less.toNat) (fun i env st => ∃ x, env = [some (.int size), some (.bl ring), some (.int many), some (.int base), some (.int less), some (.int (powI base i first)), x] ∧ st = [])
        (fun i env st hi ⟨x, e1, e2⟩ => by
          subst e1 e2
          refine ⟨[some (.int size), some (.bl ring), some (.int many), some (.int base), some (.int less), some (.int (powI base (i + 1) first)), some (.int (0 + (i : Nat)))], [], ?_, _, rfl, rfl⟩
          simp [mul_ii (small_r (i := powI base i first) hb), powI_succ]) (env := [some (.int size), some (.bl ring), some (.int many), some (.int base), some (.int less), some (.int first), none]) (st := []) ⟨none, rfl, rfl⟩
      exact ⟨x, e⟩
    by_cases hr : ring = true ∨ many = 0
    · obtain ⟨x, e⟩ := loop size many 1 (by omega) (by omega)
      rw [if_neg h, if_pos hr]
      have : b_rows_that_seat [some (.int size), some (.bl ring), some (.int many), none, none, none, none] [] = .rt (.int (powI size many.toNat 1)) [] := by
        cases ring with
        | true => simp [b_rows_that_seat, ev_seq, h, setAll, ev_R1i (rok (x := many) (by omega)) (n := many.toNat) rfl, lenR, e]
        | false =>
          have hm : many = 0 := by simpa using hr
          subst hm
          simp [b_rows_that_seat, ev_seq, h, setAll, ev_R1i (rok (x := 0) (by omega)) (n := 0) rfl, lenR]
          simp at e
          simp [e]
      simp [startE, this, fin]
      exact gc_same rfl
    · obtain ⟨x, e⟩ := loop (size + 1) (many - 1) (size - many + 1) (by omega) (by omega)
      rw [if_neg h, if_neg hr]
      cases ring with
      | true => exact absurd (.inl rfl) hr
      | false =>
        have hm : ¬ many = 0 := fun z => hr (.inr z)
        have tn : (many - 1).toNat = many.toNat - 1 := by omega
        rw [tn] at e ⊢
        simp [b_rows_that_seat, startE, ev_seq, h, hm, setAll, ev_R1i (rok (x := many - 1) (by omega)) (n := many.toNat - 1) (by omega), lenR, e, fin]
        exact gc_same rfl
/-! ### outs -/
def outsF (w : List Int) : Nat → Int
  | 0 => 0
  | k + 1 => if outsF w k + (w.count (k : Int) : Nat) - 1 > 0 then outsF w k + (w.count (k : Int) : Nat) - 1 else 0
theorem outs_ok (size : Nat) (w : List Int) (hs : size < 1000) : m__law_outs [.int size, .tup (w.map .int)] [] = .ok (.int (outsF w size)) [] := by
  unfold m__law_outs fn
  have loop : ∃ x, turns (.rng 0 size) (mgName 3) (msAsg (mN oMax2 (maCons (mC (.int 0)) (maCons (mOp oSub (mOp oAdd (mVar 2) (mMet .tuple oCountT (mVar 1) (maCons (mVar 3) maNil))) (mC (.int 1))) maNil))) (mgName 2)) (size + 1) 0 [some (.int size), some (.tup (w.map .int)), some (.int 0), none] [] =
      .nx [some (.int size), some (.tup (w.map .int)), some (.int (outsF w size)), x] [] := by
    obtain ⟨env, st, e, x, rfl, rfl⟩ := turns_rng (g := mgName 3) (b := msAsg (mN oMax2 (maCons (mC (.int 0)) (maCons (mOp oSub (mOp oAdd (mVar 2) (mMet .tuple oCountT (mVar 1) (maCons (mVar 3) maNil))) (mC (.int 1))) maNil))) (mgName 2)) (lo := 0) (n := size)
      (fun i env st => ∃ x, env = [some (.int size), some (.tup (w.map .int)), some (.int (outsF w i)), x] ∧ st = [])
      (fun i env st hi ⟨x, e1, e2⟩ => by
        subst e1 e2
        refine ⟨[some (.int size), some (.tup (w.map .int)), some (.int (outsF w (i + 1))), some (.int (0 + (i : Nat)))], [], ?_, _, rfl, rfl⟩
        simp [count_ints, outsF]) (env := [some (.int size), some (.tup (w.map .int)), some (.int 0), none]) (st := []) ⟨none, rfl, rfl⟩
    exact ⟨x, e⟩
  obtain ⟨x, e⟩ := loop
  simp [b__law_outs, startE, ev_seq, ev_R1i (rok (x := size) (by omega)) (n := size) rfl, lenR, e, fin]
  exact gc_same rfl
/-! ### all rows -/
def allRows (size : Nat) : Nat → List (List Int)
  | 0 => [[]]
  | k + 1 => (allRows size k).flatMap fun w => (List.range size).map fun (i : Nat) => w ++ [(i : Int)]
abbrev encR (w : List Int) : AV := .tup (w.map .int)
theorem locs_rows (rs : List (List Int)) : AV.locsL (rs.map encR) = [] := locsL_flat fun v hv => by
  obtain ⟨w, _, rfl⟩ := List.mem_map.mp hv
  show AV.locs (.tup (w.map .int)) = []
  rw [AV.locs]; exact locs_ints
theorem allRows_len (size : Nat) : ∀ k, (allRows size k).length = size ^ k
  | 0 => rfl
  | k + 1 => by
    simp only [allRows, List.length_flatMap, List.length_map, List.length_range]
    rw [List.map_const', List.sum_replicate_nat, allRows_len size k, Nat.pow_succ]
theorem allRows_row (size : Nat) : ∀ k, ∀ w ∈ allRows size k, w.length = k
  | 0, w, h => by simp [allRows] at h; simp [h]
  | k + 1, w, h => by
    simp only [allRows, List.mem_flatMap, List.mem_map] at h
    obtain ⟨u, hu, i, _, rfl⟩ := h
    simp [allRows_row size k u hu]
/-- one row made longer -/
def longer (size : Nat) (w : List Int) : List (List Int) := (List.range size).map fun (i : Nat) => w ++ [(i : Int)]
theorem comp_ok {size : Nat} {w : List Int} {env : Ev} {st : Sto} (h0 : env[0]? = some (some (.int size))) (h5 : env[5]? = some (some (encR w))) (hl : env.length = 7) (hs : size < 1000) (hw : w.length < 1000) :
    mLc (miR1 (maCons (mVar 0) maNil)) (mgName 6) mtYes (mOp oAdd (mVar 5) (mN oTup (maCons (mVar 6) maNil))) (List.map Prod.snd ([("wish", 6)] : List (Str × Nat))) env st = .ok (.loc st.length) (st ++ [.lst ((longer size w).map encR)]) := by
  have he : ∃ a b c d, env = [some (.int size), a, b, c, d, some (encR w), env[6]] := by
    match env, hl, h0, h5 with
    | [x0, x1, x2, x3, x4, x5, x6], _, h0, h5 =>
      simp at h0 h5
      subst h0 h5
      exact ⟨_, _, _, _, rfl⟩
  obtain ⟨a, b, c, d, e⟩ := he
  generalize env[6] = y at e
  subst e
  have hc := lc_its (q := .rng 0 size) (g := mgName 6) (t := mtYes) (e := mOp oAdd (mVar 5) (mN oTup (maCons (mVar 6) maNil))) (xs := rngA 0 size) (env := [some (.int size), a, b, c, d, some (encR w), none]) (st := st)
    (fun x => match x with
      | .int i => some (encR (w ++ [i]))
      | _ => none) (fun i => at_rng) (fun x hx => by
      unfold rngA at hx
      obtain ⟨i, hi, rfl⟩ := List.mem_map.mp hx
      have l1 : ([AV.int (i : Nat)] : List AV).length ≤ LIM := by show 1 ≤ LIM; decide
      have l2 : (w.map AV.int).length + ([AV.int (i : Nat)] : List AV).length ≤ LIM := by
        simp only [List.length_map, List.length_cons, List.length_nil, LIM]; omega
      have a1 : ∀ st, oAdd (encR w) (.tup [AV.int (i : Nat)]) st = .ok (encR (w ++ [((i : Nat) : Int)])) st := fun st => by
        unfold oAdd encR
        simp only [if_pos l2, List.map_append, List.map_cons, List.map_nil]
      simp [tup_ok l1, a1]) (by rw [rngA_len]; simp only [LIM]; omega)
  rw [rngA_len] at hc
  have e2 : (rngA 0 size).filterMap (fun x => match x with
      | .int i => some (encR (w ++ [i]))
      | _ => none) = (longer size w).map encR := by
    unfold rngA longer
    rw [List.filterMap_map, List.map_map, ← List.filterMap_eq_map]
    congr 1
    funext i
    simp
  rw [e2] at hc
  have l3 : ((longer size w).map encR).length ≤ LIM := by simp only [longer, List.length_map, List.length_range, LIM]; omega
  simp [ev_R1i (rok (x := size) (by omega)) (n := size) rfl, lenR, wipeE, hc]
  exact lst_ok l3
end K09
set_option Elab.async false
set_option linter.all false
set_option maxRecDepth 100000
set_option maxHeartbeats 4000000
namespace K09
open PySem Y
theorem locsL_append : ∀ {xs ys : List AV}, AV.locsL (xs ++ ys) = AV.locsL xs ++ AV.locsL ys
  | [], _ => rfl
  | x :: xs, ys => by
    show AV.locs x ++ AV.locsL (xs ++ ys) = (AV.locs x ++ AV.locsL xs) ++ AV.locsL ys
    rw [locsL_append, List.append_assoc]
theorem allRows_le {size k : Nat} (h1 : size ≤ 5) (h2 : k ≤ 5) : (allRows size k).length ≤ 3125 := by
  rw [allRows_len]
  calc size ^ k ≤ 5 ^ k := Nat.pow_le_pow_left h1 k
    _ ≤ 5 ^ 5 := Nat.pow_le_pow_right (by decide) h2
theorem longer_len {size : Nat} {w : List Int} : (longer size w).length = size := by simp [longer]
/-- the rows of a prefix -/
theorem fm_len {size : Nat} (xs : List (List Int)) : (xs.flatMap (longer size)).length = xs.length * size := by
  induction xs with
  | nil => simp
  | cons x xs ih => rw [List.flatMap_cons, List.length_append, ih, longer_len, List.length_cons, Nat.succ_mul, Nat.add_comm]
abbrev inB : MS := msAsg (mGc (mOp oAdd (mVar 4) (mLc (miR1 (maCons (mVar 0) maNil)) (mgName 6) mtYes (mOp oAdd (mVar 5) (mN oTup (maCons (mVar 6) maNil))) (List.map Prod.snd ([("wish", 6)] : List (Str × Nat)))))) (mgName 4)
theorem in_ok {size : Nat} {w : List Int} {cur : List AV} {a b c : Option AV} {y6 : Option AV} {r : Nat} {st : Sto} (hs : size < 1000) (hw : w.length < 1000) (hr : st[r]? = some (.lst cur)) (hc : cur.length + size ≤ LIM) (hcl : AV.locsL cur = []) :
    inB [some (.int size), a, b, c, some (.loc r), some (encR w), y6] st = .nx [some (.int size), a, b, c, some (.loc st.length), some (encR w), y6] (st ++ [.lst (cur ++ (longer size w).map encR)]) := by
  have h1 := comp_ok (size := size) (w := w) (env := [some (.int size), a, b, c, some (.loc r), some (encR w), y6]) (st := st) rfl rfl rfl hs hw
  have hr2 : (st ++ [Ob.lst ((longer size w).map encR)])[r]? = some (.lst cur) := at_old hr
  have a1 : oAdd (.loc r) (.loc st.length) (st ++ [Ob.lst ((longer size w).map encR)]) = .ok (.loc (st.length + 1)) (st ++ [Ob.lst ((longer size w).map encR), .lst (cur ++ (longer size w).map encR)]) := by
    have hl : cur.length + ((longer size w).map encR).length ≤ LIM := by rw [List.length_map, longer_len]; exact hc
    unfold oAdd
    simp only [hr2, at_new, if_pos hl, List.length_append, List.length_cons, List.length_nil, List.append_assoc, List.cons_append, List.nil_append, Nat.zero_add]
  have g1 := gc_new (st := st) (st' := st) (g := [Ob.lst ((longer size w).map encR), .lst (cur ++ (longer size w).map encR)]) (j := 1) (xs := cur ++ (longer size w).map encR) (by
    rw [locsL_append, hcl, locs_rows]; rfl) rfl oldOk_app rfl
  simp only [inB, ev_asg, ev_gc, ev_op, ev_varS, ev_var0, R.bind_ok, h1, a1, g1, R.toFl_ok, ev_gName]
  rfl
theorem all_rows_ok {size many : Nat} (h1 : size ≤ 5) (h2 : many ≤ 5) {st : Sto} : m__law_all_rows [.int size, .int many] st = .ok (.loc st.length) (st ++ [.lst ((allRows size many).map encR)]) := by
  unfold m__law_all_rows fn
  -- the loops
  have outer : ∃ env g j, turns (.rng 0 many) (mgName 3) (msSeq (msAsg (mN oLst maNil) (mgName 4)) (msSeq (msFor (miSeq (mVar 2)) (mgName 5) inB) (msAsg (mVar 4) (mgName 2)))) (many + 1) 0 [some (.int size), some (.int many), some (.loc st.length), none, none, none, none] (st ++ [.lst [.tup []]]) = .nx env (st ++ g) ∧ mVar 2 env (st ++ g) = .ok (.loc (st.length + j)) (st ++ g) ∧ g[j]? = some (.lst ((allRows size many).map encR)) := by
    obtain ⟨env, st', e, ⟨j, g, x3, x4, x5, x6, rfl, rfl, hg⟩⟩ := turns_rng (lo := 0) (n := many) (g := mgName 3) (b := (msSeq (msAsg (mN oLst maNil) (mgName 4)) (msSeq (msFor (miSeq (mVar 2)) (mgName 5) inB) (msAsg (mVar 4) (mgName 2)))))
      (fun i env st' => ∃ j g x3 x4 x5 x6, env = [some (.int size), some (.int many), some (.loc (st.length + j)), x3, x4, x5, x6] ∧ st' = st ++ g ∧ g[j]? = some (.lst ((allRows size i).map encR)))
      (fun i env st' hi ⟨j, g, x3, x4, x5, x6, e1, e2, hg⟩ => by
        subst e1 e2
        have hlen := allRows_le h1 (show i ≤ 5 by omega)
        -- the inner loop
        have hat : (st ++ (g ++ [Ob.lst []]))[st.length + j]? = some (.lst ((allRows size i).map encR)) := by
          rw [List.getElem?_append_right (by omega), Nat.add_sub_cancel_left]; exact at_old hg
        have inner := turns_nx (q := .list (st.length + j)) (g := mgName 5) (b := inB) (xs := (allRows size i).map encR)
          (env := [some (.int size), some (.int many), some (.loc (st.length + j)), some (.int (0 + (i : Nat))), some (.loc (st.length + g.length)), x5, x6]) (st := st ++ (g ++ [Ob.lst []]))
          (fun t env st' => ∃ g2 r y5 y6, env = [some (.int size), some (.int many), some (.loc (st.length + j)), some (.int (0 + (i : Nat))), some (.loc (st.length + r)), y5, y6] ∧ st' = st ++ (g ++ g2) ∧ (g ++ g2)[r]? = some (.lst ((((allRows size i).take t).flatMap (longer size)).map encR)))
          (fun t env st' ht ⟨g2, r, y5, y6, e1, e2, hg2⟩ => by
            subst e1 e2
            exact at_list (by rw [List.getElem?_append_right (by omega), Nat.add_sub_cancel_left]; exact at_old hg))
          (fun t x env st' hx ⟨g2, r, y5, y6, e1, e2, hg2⟩ => by
            subst e1 e2
            rw [List.getElem?_map, Option.map_eq_some_iff] at hx
            obtain ⟨w, hw, rfl⟩ := hx
            have hmem := List.mem_of_getElem? hw
            have hwl := allRows_row size i w hmem
            have htl := (List.getElem?_eq_some_iff.mp hw).1
            have hcl : ((((allRows size i).take t).flatMap (longer size)).map encR).length + size ≤ LIM := by
              rw [List.length_map, fm_len, List.length_take, Nat.min_eq_left (Nat.le_of_lt htl)]
              have : t * size ≤ 3125 * 5 := Nat.mul_le_mul (by omega) h1
              simp only [LIM]; omega
            have hr : (st ++ (g ++ g2))[st.length + r]? = some (.lst ((((allRows size i).take t).flatMap (longer size)).map encR)) := by
              rw [List.getElem?_append_right (by omega), Nat.add_sub_cancel_left]; exact hg2
            refine ⟨_, _, in_ok (y6 := y6) (by omega) (by omega) hr hcl (locs_rows _), g2 ++ [.lst ((((allRows size i).take (t + 1)).flatMap (longer size)).map encR)], (g ++ g2).length, some (encR w), y6, ?_, ?_, ?_⟩
            · rw [List.length_append]
            · have : ((allRows size i).take (t + 1)).flatMap (longer size) = ((allRows size i).take t).flatMap (longer size) ++ longer size w := by
                rw [List.take_succ, hw]; simp
              simp [this]
            · rw [← List.append_assoc]; exact at_new)
          ⟨[.lst []], g.length, x5, x6, rfl, rfl, by rw [at_new]; rfl⟩
        obtain ⟨env', st', e, g2, r, y5, y6, rfl, rfl, hg2⟩ := inner
        rw [List.length_map, List.take_length] at *
        refine ⟨_, _, ?_, r, g ++ g2, some (.int (0 + (i : Nat))), some (.loc (st.length + r)), y5, y6, rfl, rfl, hg2⟩
        have hlst : oLst [] (st ++ g) = .ok (.loc (st.length + g.length)) (st ++ (g ++ [.lst []])) := by
          rw [lst_ok (by decide)]; simp
        have hit : miSeq (mVar 2) [some (.int size), some (.int many), some (.loc (st.length + j)), some (.int (0 + (i : Nat))), some (.loc (st.length + g.length)), x5, x6] (st ++ (g ++ [.lst []])) = .ok (.list (st.length + j)) (st ++ (g ++ [.lst []])) := by
          rw [ev_iSeq]; simp only [ev_varS, ev_var0, R.bind_ok, rdL_ok hat]
        have hln := len_list hat
        rw [List.length_map] at hln
        have hlst' : mN oLst maNil [some (.int size), some (.int many), some (.loc (st.length + j)), some (.int (0 + (i : Nat))), x4, x5, x6] (st ++ g) = .ok (.loc (st.length + g.length)) (st ++ (g ++ [.lst []])) := hlst
        simp only [ev_gName, R.toFl_ok, List.set]
        rw [ev_seq, ev_asg, hlst']
        simp only [ev_gName, R.toFl_ok, List.set]
        rw [ev_seq, ev_for, hit]
        simp only [R.toFl_ok]
        rw [hln, e]
        rfl)
      (env := [some (.int size), some (.int many), some (.loc st.length), none, none, none, none]) (st := st ++ [.lst [.tup []]]) ⟨0, _, _, _, _, _, rfl, rfl, rfl⟩
    exact ⟨_, g, j, e, rfl, hg⟩
  obtain ⟨env, g, j, e, h3, hg⟩ := outer
  have hl1 : oLst [AV.tup []] st = .ok (.loc st.length) (st ++ [.lst [.tup []]]) := lst_ok (by show 1 ≤ LIM; decide)
  have ht1 : oTup [] st = .ok (.tup []) st := tup_ok (by decide)
  have hb : b__law_all_rows [some (.int size), some (.int many), none, none, none, none, none] st = .rt (.loc (st.length + j)) (st ++ g) := by
    unfold b__law_all_rows
    simp only [ev_seq, ev_asg, ev_N, ev_cons, ev_nil, R.bind_ok, ht1, hl1, R.toFl_ok, ev_gName, List.set]
    rw [ev_for, ev_R1i (rok (x := many) (by omega)) (n := many) rfl rfl]
    simp only [R.toFl_ok, lenR]
    rw [e]
    simp only [ev_ret, h3, R.toFl_ok]
  show (if 2 = 2 then gc st (fin (b__law_all_rows [some (.int size), some (.int many), none, none, none, none, none] st)) else .bad) = _
  rw [if_pos rfl, hb]
  exact gc_new (locs_rows _) rfl oldOk_app hg
end K09
set_option Elab.async false
set_option linter.all false
set_option maxRecDepth 100000
set_option maxHeartbeats 4000000
namespace K09
open PySem Y
/-! ### choose -/
def chooseF (n : Nat) : Nat → Nat
  | 0 => 1
  | k + 1 => chooseF n k * (n - k) / (k + 1)
theorem choose_ok {n k : Nat} (hn : n < 1000) (hk : k ≤ n) : m__law_choose [.int n, .int k] [] = .ok (.int (chooseF n k)) [] := by
  unfold m__law_choose fn
  obtain ⟨env, st, e, x, rfl, rfl⟩ := turns_rng (g := mgName 3) (b := msAsg (mOp oFdiv (mOp oMul (mVar 2) (mOp oSub (mVar 0) (mVar 3))) (mOp oAdd (mVar 3) (mC (.int 1)))) (mgName 2)) (lo := 0) (n := k)
      (fun i env st => ∃ x, env = [some (.int n), some (.int k), some (.int (chooseF n i)), x] ∧ st = [])
      (fun i env st hi ⟨x, e1, e2⟩ => by
        subst e1 e2
        refine ⟨[some (.int n), some (.int k), some (.int (chooseF n (i + 1))), some (.int (i : Nat))], [], ?_, _, rfl, rfl⟩
        have a1 : ((n : Int) - (i : Nat)) = ((n - i : Nat) : Int) := by omega
        have a2 : ((i : Int) + 1) = ((i + 1 : Nat) : Int) := by omega
        have a3 : (chooseF n i : Int) * ((n - i : Nat) : Int) / ((i + 1 : Nat) : Int) = ((chooseF n i * (n - i) / (i + 1) : Nat) : Int) := by
          rw [← Int.natCast_mul, ← Int.natCast_ediv]
        simp [mul_ii (small_r (i := (chooseF n i : Int)) (j := (n : Int) - (i : Nat)) (by omega)), fdiv_ii (i := (chooseF n i : Int) * ((n : Int) - (i : Nat))) (j := (i : Int) + 1) (by omega), chooseF]
        rw [a1, a2, a3]) (env := [some (.int n), some (.int k), some (.int 1), none]) (st := []) ⟨none, rfl, rfl⟩
  simp [b__law_choose, startE, ev_seq, ev_R1i (rok (x := k) (by omega)) (n := k) rfl, lenR, e, fin]
  exact gc_same rfl
/-! ### the table as a dict -/
def encO (o : Nat) : List Nat → List (AV × AV)
  | [] => []
  | v :: r => (.int (o : Nat), .int (v : Nat)) :: encO (o + 1) r
theorem encO_len : ∀ {t : List Nat} {o : Nat}, (encO o t).length = t.length
  | [], _ => rfl
  | _ :: t, o => by simp [encO, encO_len (t := t)]
theorem int_ne {a b : Nat} (h : a ≠ b) : ¬ (AV.int (a : Nat) = AV.int (b : Nat)) := fun e => h (by injection e with e; omega)
theorem lookA_enc : ∀ {t : List Nat} {o i : Nat}, lookA (encO o t) (.int ((o + i : Nat) : Int)) = t[i]?.map fun (v : Nat) => AV.int (v : Nat)
  | [], _, _ => rfl
  | v :: t, o, 0 => by simp [encO, lookA]
  | v :: t, o, i + 1 => by
    rw [encO, lookA, if_neg (int_ne (by omega))]
    rw [show o + (i + 1) = (o + 1) + i by omega, lookA_enc (t := t) (o := o + 1)]
    simp
theorem replA_gt : ∀ {t : List Nat} {o k : Nat} {w : AV}, k < o → replA (.int (k : Nat)) w (encO o t) = encO o t
  | [], _, _, _, _ => rfl
  | v :: t, o, k, w, h => by
    rw [encO, replA, if_neg (int_ne (by omega)), replA_gt (by omega)]
theorem replA_enc' : ∀ {t : List Nat} {o i : Nat} {w : Nat}, replA (.int ((o + i : Nat) : Int)) (.int (w : Nat)) (encO o t) = encO o (t.set i w)
  | [], _, _, _ => rfl
  | v :: t, o, 0, w => by
    rw [encO, replA, if_pos (by simp), replA_gt (by omega)]; rfl
  | v :: t, o, i + 1, w => by
    rw [encO, replA, if_neg (int_ne (by omega)), show o + (i + 1) = (o + 1) + i by omega, replA_enc']; rfl
theorem encO_snoc : ∀ {t : List Nat} {o w : Nat}, encO o t ++ [(.int ((o + t.length : Nat) : Int), .int (w : Nat))] = encO o (t ++ [w])
  | [], o, w => rfl
  | v :: t, o, w => by
    have := encO_snoc (t := t) (o := o + 1) (w := w)
    simp only [encO, List.cons_append, List.length_cons]
    rw [← this, show o + (t.length + 1) = (o + 1) + t.length by omega]
/-- t[i] + v, or v behind -/
def addT (t : List Nat) (i v : Nat) : Option (List Nat) := match t[i]? with
  | some u => some (t.set i (u + v))
  | none => if i = t.length then some (t ++ [v]) else none
theorem addT_ok {t t' : List Nat} {i v : Nat} (h : addT t i v = some t') : putA (encO 0 t) (.int (i : Nat)) (.int (((t[i]?.getD 0) + v : Nat) : Int)) = encO 0 t' := by
  unfold addT at h
  have hl := lookA_enc (t := t) (o := 0) (i := i)
  rw [Nat.zero_add] at hl
  unfold putA
  rw [hl]
  split at h
  · rename_i u hu
    cases h
    rw [hu]
    have := replA_enc' (t := t) (o := 0) (i := i) (w := u + v)
    rw [Nat.zero_add] at this
    exact this
  · rename_i hu
    split at h
    · rename_i e
      cases h
      rw [hu]
      have := encO_snoc (t := t) (o := 0) (w := v)
      rw [Nat.zero_add, ← e] at this
      simpa using this
    · cases h
/-! ### the walk down the seats, mirrored -/
def inn (cap M h w : Nat) : Nat → List Nat → Option (List Nat)
  | 0, t => some t
  | k + 1, t => (inn cap M h w k t).bind fun t' => if h + k ≤ cap then (if chooseF (M - h) k < 18446744073709551616 ∧ t'.length < 1000 then addT t' (h + k) (w * chooseF (M - h) k) else none) else some t'
def out (cap M : Nat) (ways : List Nat) : Nat → Option (List Nat)
  | 0 => some []
  | k + 1 => (out cap M ways k).bind fun t => match ways[k]? with
    | some w => if k ≤ M then inn cap M k w (M - k + 1) t else none
    | none => none
def wk (M : Nat) : Nat → Option (List Nat)
  | 0 => some [1]
  | j + 1 => (wk M j).bind fun w => out (j + 1) M w w.length
theorem inn_up {cap M h w : Nat} {t : List Nat} : ∀ {k t'}, inn cap M h w (k + 1) t = some t' → ∃ t1, inn cap M h w k t = some t1
  | k, t', e => by
    rw [inn] at e
    cases h1 : inn cap M h w k t with
    | none => rw [h1] at e; cases e
    | some t1 => exact ⟨t1, rfl⟩
theorem inn_le {cap M h w : Nat} {t : List Nat} : ∀ {n k t'}, inn cap M h w n t = some t' → k ≤ n → ∃ t1, inn cap M h w k t = some t1
  | 0, k, t', e, hk => ⟨t', by rw [Nat.le_zero.mp hk]; exact e⟩
  | n + 1, k, t', e, hk => by
    rcases Nat.lt_or_ge k (n + 1) with h1 | h1
    · obtain ⟨t1, e1⟩ := inn_up e
      exact inn_le e1 (by omega)
    · rw [show k = n + 1 by omega]; exact ⟨t', e⟩
theorem out_up {cap M : Nat} {ways : List Nat} {k : Nat} {t' : List Nat} (e : out cap M ways (k + 1) = some t') : ∃ t1, out cap M ways k = some t1 := by
  rw [out] at e
  cases h1 : out cap M ways k with
  | none => rw [h1] at e; cases e
  | some t1 => exact ⟨t1, rfl⟩
theorem out_le {cap M : Nat} {ways : List Nat} : ∀ {n k t'}, out cap M ways n = some t' → k ≤ n → ∃ t1, out cap M ways k = some t1
  | 0, k, t', e, hk => ⟨t', by rw [Nat.le_zero.mp hk]; exact e⟩
  | n + 1, k, t', e, hk => by
    rcases Nat.lt_or_ge k (n + 1) with h1 | h1
    · obtain ⟨t1, e1⟩ := out_up e
      exact out_le e1 (by omega)
    · rw [show k = n + 1 by omega]; exact ⟨t', e⟩
theorem wk_le {M : Nat} : ∀ {n k t'}, wk M n = some t' → k ≤ n → ∃ t1, wk M k = some t1
  | 0, k, t', e, hk => ⟨t', by rw [Nat.le_zero.mp hk]; exact e⟩
  | n + 1, k, t', e, hk => by
    rcases Nat.lt_or_ge k (n + 1) with h1 | h1
    · rw [wk] at e
      cases h2 : wk M n with
      | none => rw [h2] at e; cases e
      | some t1 => exact wk_le h2 (by omega)
    · rw [show k = n + 1 by omega]; exact ⟨t', e⟩
/-- one step of the innermost loop -/
abbrev moreB : MS := (msSeq (msAsg (mOp oAdd (mVar 5) (mVar 6)) (mgName 7))
    (msIf (mtV (mOp oLe (mVar 7) (mOp oSub (mVar 0) (mVar 3)))) (msAsg (mOp oAdd (mGet2 (mVar 4) (mVar 7) (mC (.int 0))) (mOp oMul (mOp oDGet (mVar 2) (mVar 5)) (mN (oIso m__law_choose) (maCons (mOp oSub (mVar 1) (mVar 5)) (maCons (mVar 6) maNil))))) (mgSub (mVar 4) (mVar 7) oDSet)) msNext))
abbrev haveB : MS := msFor (miR1 (maCons (mOp oAdd (mOp oSub (mVar 1) (mVar 5)) (mC (.int 1))) maNil)) (mgName 6) moreB
abbrev seatB : MS := (msSeq (msAsg oDNew (mgName 4))
    (msSeq (msLock 2 (msFor (miKeys (mVar 2)) (mgName 5) haveB))
    (msAsg (mVar 4) (mgName 2))))
theorem more_ok {size M cap h w k a b : Nat} {ways t t' : List Nat} {seat : Int} {x7 : Option AV} {st : Sto} (hM : M < 900) (hcap : (size : Int) - seat = (cap : Nat)) (ha : st[a]? = some (.fdc (encO 0 ways))) (hb : st[b]? = some (.dct (encO 0 t))) (hw : ways[h]? = some w) (hh : h ≤ M) (hk : k ≤ M - h)
    (e : (if h + k ≤ cap then (if chooseF (M - h) k < 18446744073709551616 ∧ t.length < 1000 then addT t (h + k) (w * chooseF (M - h) k) else none) else some t) = some t') :
    moreB [some (.int size), some (.int M), some (.loc a), some (.int seat), some (.loc b), some (.int h), some (.int (k : Nat)), x7] st = .nx [some (.int size), some (.int M), some (.loc a), some (.int seat), some (.loc b), some (.int h), some (.int (k : Nat)), some (.int ((h + k : Nat) : Int))] (st.set b (.dct (encO 0 t'))) := by
  have c1 : ((h : Int) + (k : Nat)) = ((h + k : Nat) : Int) := by omega
  have c2 : ((M : Int) - (h : Nat)) = ((M - h : Nat) : Int) := by omega
  simp only [moreB, ev_seq, ev_asg, ev_op, ev_varS, ev_var0, R.bind_ok, add_ii, R.toFl_ok, ev_gName, List.set, ev_ifS, ev_tV, sub_ii, le_ii, hcap, c1]
  by_cases hle : h + k ≤ cap
  · rw [if_pos hle] at e
    split at e
    · rename_i hs
      have d1 : decide (((h + k : Nat) : Int) ≤ (cap : Nat)) = true := decide_eq_true (by omega)
      have g1 : ∀ e : Ev, mGet2 (mVar 4) (mVar 7) (mC (.int 0)) [some (.int size), some (.int M), some (.loc a), some (.int seat), some (.loc b), some (.int h), some (.int (k : Nat)), some (.int ((h + k : Nat) : Int))] st = .ok (.int ((t[h + k]?.getD 0 : Nat) : Int)) st := fun _ => by
        have hl := lookA_enc (t := t) (o := 0) (i := h + k)
        rw [Nat.zero_add] at hl
        have hr : rdK st b = some (encO 0 t) := by unfold rdK; rw [hb]
        simp only [ev_get2, ev_varS, ev_var0, R.bind_ok, isTy_d hb, if_true, ev_C, keyOf, hr, hl]
        cases t[h + k]? <;> rfl
      have g2 : oDGet (.loc a) (.int h) st = .ok (.int (w : Nat)) st := by
        have hl := lookA_enc (t := ways) (o := 0) (i := h)
        rw [Nat.zero_add, hw] at hl
        have hr : rdK st a = some (encO 0 ways) := by unfold rdK; rw [ha]
        simp only [oDGet, keyOf, hr, Option.bind_some, hl, Option.map_some]
      have g3 : oIso m__law_choose [.int ((M - h : Nat) : Int), .int (k : Nat)] st = .ok (.int (chooseF (M - h) k)) st := iso_ok rfl (choose_ok (by omega) hk) rfl
      have sm : smallB (w : Nat) (chooseF (M - h) k : Nat) = true := by
        unfold smallB
        rw [Bool.or_eq_true]
        exact .inr (decide_eq_true (by have := hs.1; omega))
      have g4 := addT_ok e
      have c3 : ((t[h + k]?.getD 0 : Nat) : Int) + (w : Nat) * (chooseF (M - h) k : Nat) = (((t[h + k]?.getD 0) + w * chooseF (M - h) k : Nat) : Int) := by
        rw [Int.natCast_add, Int.natCast_mul]
      have g5 : oDSet (.loc b) (.int ((h + k : Nat) : Int)) (.int (((t[h + k]?.getD 0) + w * chooseF (M - h) k : Nat) : Int)) st = .ok () (st.set b (.dct (encO 0 t'))) := by
        have hlim : (encO 0 t).length < LIM := by rw [encO_len]; have := hs.2; simp only [LIM]; omega
        simp only [oDSet, keyOf, hb, if_pos hlim, g4]
      rw [d1]
      simp only [if_true, g1 [], R.bind_ok, g2, ev_N, ev_cons, ev_nil, ev_op, ev_varS, ev_var0, sub_ii, c2, g3, mul_ii sm, add_ii, c3, R.toFl_ok, ev_gSub, g5]
    · cases e
  · rw [if_neg hle] at e
    have d1 : decide (((h + k : Nat) : Int) ≤ (cap : Nat)) = false := decide_eq_false (by omega)
    cases e
    rw [d1]
    have : st.set b (.dct (encO 0 t)) = st := by
      apply List.ext_getElem?
      intro i
      by_cases hi : b = i
      · subst hi; rw [hb, List.getElem?_set_self (List.getElem?_eq_some_iff.mp hb).1]
      · rw [List.getElem?_set_ne hi]
    rw [this]
    simp
theorem set_id {st : Sto} {b : Nat} {o : Ob} (hb : st[b]? = some o) : st.set b o = st := by
  apply List.ext_getElem?
  intro i
  by_cases hi : b = i
  · subst hi; rw [hb, List.getElem?_set_self (List.getElem?_eq_some_iff.mp hb).1]
  · rw [List.getElem?_set_ne hi]
theorem have_ok {size M cap h w a b : Nat} {ways t t' : List Nat} {seat : Int} {x6 x7 : Option AV} {st : Sto} (hM : M < 900) (hcap : (size : Int) - seat = (cap : Nat)) (hab : b ≠ a) (ha : st[a]? = some (.fdc (encO 0 ways))) (hb : st[b]? = some (.dct (encO 0 t))) (hw : ways[h]? = some w) (hh : h ≤ M)
    (e : inn cap M h w (M - h + 1) t = some t') :
    ∃ y6 y7, haveB [some (.int size), some (.int M), some (.loc a), some (.int seat), some (.loc b), some (.int h), x6, x7] st = .nx [some (.int size), some (.int M), some (.loc a), some (.int seat), some (.loc b), some (.int h), y6, y7] (st.set b (.dct (encO 0 t'))) := by
  obtain ⟨env, st', e1, t1, ht1, y6, y7, rfl, rfl⟩ := turns_rng (g := mgName 6) (b := moreB) (lo := 0) (n := M - h + 1)
    (fun i env st' => ∃ t1, inn cap M h w i t = some t1 ∧ ∃ y6 y7, env = [some (.int size), some (.int M), some (.loc a), some (.int seat), some (.loc b), some (.int h), y6, y7] ∧ st' = st.set b (.dct (encO 0 t1)))
    (fun i env st' hi ⟨t1, ht1, y6, y7, e1, e2⟩ => by
      subst e1 e2
      obtain ⟨t2, ht2⟩ := inn_le e (show i + 1 ≤ M - h + 1 by omega)
      have ht3 := ht2
      rw [inn, ht1] at ht3
      simp only [Option.bind_some] at ht3
      have ha' : (st.set b (.dct (encO 0 t1)))[a]? = some (.fdc (encO 0 ways)) := by rw [List.getElem?_set_ne hab]; exact ha
      have hb' : (st.set b (.dct (encO 0 t1)))[b]? = some (.dct (encO 0 t1)) := at_set hb
      have := more_ok (x7 := y7) hM hcap ha' hb' hw hh (show i ≤ M - h by omega) ht3
      refine ⟨_, _, ?_, t2, ht2, some (.int (i : Nat)), some (.int ((h + i : Nat) : Int)), rfl, rfl⟩
      simp only [ev_gName, R.toFl_ok, List.set, Int.zero_add]
      rw [this, List.set_set])
    (env := [some (.int size), some (.int M), some (.loc a), some (.int seat), some (.loc b), some (.int h), x6, x7]) (st := st) ⟨t, rfl, x6, x7, rfl, (set_id hb).symm⟩
  rw [e] at ht1
  cases ht1
  refine ⟨y6, y7, ?_⟩
  have hn : ((M : Int) - (h : Nat) + 1).toNat = M - h + 1 := by omega
  rw [haveB, ev_for, ev_R1i (rok (x := (M : Int) - (h : Nat) + 1) (by omega)) (n := M - h + 1) hn rfl]
  simp only [R.toFl_ok, lenR, e1]
theorem encO_key : ∀ {t : List Nat} {o i : Nat}, (encO o t)[i]? = t[i]?.map fun (v : Nat) => (AV.int ((o + i : Nat) : Int), AV.int (v : Nat))
  | [], _, _ => rfl
  | v :: t, o, 0 => rfl
  | v :: t, o, i + 1 => by
    rw [encO, List.getElem?_cons_succ, encO_key, List.getElem?_cons_succ, show o + (i + 1) = (o + 1) + i by omega]
theorem seat_ok {size M cap a : Nat} {ways t' : List Nat} {seat : Int} {x4 x5 x6 x7 : Option AV} {st : Sto} (hM : M < 900) (hcap : (size : Int) - seat = (cap : Nat)) (ha : st[a]? = some (.dct (encO 0 ways)))
    (e : out cap M ways ways.length = some t') :
    ∃ y5 y6 y7 st', seatB [some (.int size), some (.int M), some (.loc a), some (.int seat), x4, x5, x6, x7] st = .nx [some (.int size), some (.int M), some (.loc st.length), some (.int seat), some (.loc st.length), y5, y6, y7] st' ∧ st'[st.length]? = some (.dct (encO 0 t')) := by
  have hal := (List.getElem?_eq_some_iff.mp ha).1
  have ha2 : (st ++ [Ob.dct []])[a]? = some (.dct (encO 0 ways)) := at_old ha
  -- the store, locked
  have hat : ∀ t : List Nat, ((((st ++ [Ob.dct []]).set a (.fdc (encO 0 ways))).set st.length (.dct (encO 0 t))))[a]? = some (.fdc (encO 0 ways)) := fun t => by
    rw [List.getElem?_set_ne (by omega)]; exact at_set ha2
  have hst : ((st ++ [Ob.dct []]).set a (.fdc (encO 0 ways)))[st.length]? = some (.dct []) := by rw [List.getElem?_set_ne (by omega)]; exact at_new
  have hbt : ∀ t : List Nat, ((((st ++ [Ob.dct []]).set a (.fdc (encO 0 ways))).set st.length (.dct (encO 0 t))))[st.length]? = some (.dct (encO 0 t)) := fun t => at_set hst
  have rd : ∀ t : List Nat, rdD (((st ++ [Ob.dct []]).set a (.fdc (encO 0 ways))).set st.length (.dct (encO 0 t))) a = some (encO 0 ways) := fun t => by unfold rdD; rw [hat t]
  obtain ⟨env, st', e1, t1, ht1, y5, y6, y7, rfl, rfl⟩ := turns_nx (q := .keys a) (g := mgName 5) (b := haveB) (xs := (encO 0 ways).map (·.1))
    (fun i env st' => ∃ t1, out cap M ways i = some t1 ∧ ∃ y5 y6 y7, env = [some (.int size), some (.int M), some (.loc a), some (.int seat), some (.loc st.length), y5, y6, y7] ∧ st' = ((st ++ [Ob.dct []]).set a (.fdc (encO 0 ways))).set st.length (.dct (encO 0 t1)))
    (fun i env st' hi ⟨t1, ht1, y5, y6, y7, e1, e2⟩ => by
      subst e1 e2
      simp only [Sq.at, rd, Option.bind_some, List.getElem?_map])
    (fun i x env st' hx ⟨t1, ht1, y5, y6, y7, e1, e2⟩ => by
      subst e1 e2
      rw [List.getElem?_map, encO_key, Option.map_map, Option.map_eq_some_iff] at hx
      obtain ⟨w, hw, rfl⟩ := hx
      have hlt := (List.getElem?_eq_some_iff.mp hw).1
      obtain ⟨t2, ht2⟩ := out_le e (show i + 1 ≤ ways.length by omega)
      have ht3 := ht2
      rw [out, ht1] at ht3
      simp only [Option.bind_some, hw] at ht3
      split at ht3
      · rename_i hiM
        obtain ⟨z6, z7, hz⟩ := have_ok (x6 := y6) (x7 := y7) (b := st.length) hM hcap (by omega) (hat t1) (hbt t1) hw hiM ht3
        refine ⟨_, _, ?_, t2, ht2, some (.int (i : Nat)), z6, z7, rfl, rfl⟩
        simp only [Function.comp, ev_gName, R.toFl_ok, List.set, Nat.zero_add]
        rw [hz, List.set_set]
      · cases ht3)
    (env := [some (.int size), some (.int M), some (.loc a), some (.int seat), some (.loc st.length), x5, x6, x7]) (st := (st ++ [Ob.dct []]).set a (.fdc (encO 0 ways))) ⟨[], rfl, x5, x6, x7, rfl, (set_id hst).symm⟩
  rw [List.length_map, encO_len, e] at *
  cases ht1
  have rd0 : rdD ((st ++ [Ob.dct []]).set a (.fdc (encO 0 ways))) a = some (encO 0 ways) := by unfold rdD; rw [at_set ha2]
  refine ⟨y5, y6, y7, ((((st ++ [Ob.dct []]).set a (.fdc (encO 0 ways))).set st.length (.dct (encO 0 t'))).set a (.dct (encO 0 ways))), ?_, by rw [List.getElem?_set_ne (by omega)]; exact hbt t'⟩
  have hlock : msLock 2 (msFor (miKeys (mVar 2)) (mgName 5) haveB) [some (.int size), some (.int M), some (.loc a), some (.int seat), some (.loc st.length), x5, x6, x7] (st ++ [Ob.dct []]) = .nx [some (.int size), some (.int M), some (.loc a), some (.int seat), some (.loc st.length), y5, y6, y7] ((((st ++ [Ob.dct []]).set a (.fdc (encO 0 ways))).set st.length (.dct (encO 0 t'))).set a (.dct (encO 0 ways))) := by
    unfold msLock
    simp only [List.getElem?_cons_succ, List.getElem?_cons_zero, ha2]
    have hk : miKeys (mVar 2) [some (.int size), some (.int M), some (.loc a), some (.int seat), some (.loc st.length), x5, x6, x7] ((st ++ [Ob.dct []]).set a (.fdc (encO 0 ways))) = .ok (.keys a) ((st ++ [Ob.dct []]).set a (.fdc (encO 0 ways))) := by
      unfold miKeys
      simp only [ev_varS, ev_var0, R.bind_ok, rd0]
    rw [ev_for, hk]
    simp only [R.toFl_ok, Sq.len, rd0, Option.elim_some, encO_len]
    rw [e1]
    rfl
  unfold seatB
  rw [ev_seq, ev_asg, ev_dnew]
  simp only [R.toFl_ok, ev_gName, List.set]
  rw [ev_seq, hlock]
  rfl
theorem along_ok {size M : Nat} {t : List Nat} (hs : size < 900) (hM : M < 900) (e : wk M size = some t) : m__law_along [.int size, .int M] [] = .ok (.int (t[M]?.getD 0 : Nat)) [] := by
  obtain ⟨env, st', e1, t1, ht1, a, y3, y4, y5, y6, y7, rfl, ha⟩ := turns_nx (q := .rngC ((size : Int) - 1) (-1) size) (g := mgName 3) (b := seatB) (xs := (List.range size).map fun (i : Nat) => AV.int ((size : Int) - 1 + (i : Nat) * (-1)))
    (fun i env st' => ∃ t1, wk M i = some t1 ∧ ∃ a y3 y4 y5 y6 y7, env = [some (.int size), some (.int M), some (.loc a), y3, y4, y5, y6, y7] ∧ st'[a]? = some (.dct (encO 0 t1)))
    (fun i env st' hi _ => by
      simp only [Sq.at, List.getElem?_map]
      by_cases h : i < size
      · simp [h]
      · simp [h])
    (fun i x env st' hx ⟨t1, ht1, a, y3, y4, y5, y6, y7, e1, ha⟩ => by
      subst e1
      rw [List.getElem?_map, Option.map_eq_some_iff] at hx
      obtain ⟨i', hi', rfl⟩ := hx
      obtain ⟨hi, rfl⟩ : i < size ∧ i = i' := by
        rw [List.getElem?_eq_some_iff] at hi'
        obtain ⟨h1, h2⟩ := hi'
        rw [List.length_range] at h1
        rw [List.getElem_range] at h2
        exact ⟨h1, h2⟩
      obtain ⟨t2, ht2⟩ := wk_le e (show i + 1 ≤ size by omega)
      have ht3 := ht2
      rw [wk, ht1] at ht3
      simp only [Option.bind_some] at ht3
      obtain ⟨z5, z6, z7, st2, hz, hz2⟩ := seat_ok (size := size) (seat := (size : Int) - 1 + (i : Nat) * (-1)) (x4 := y4) (x5 := y5) (x6 := y6) (x7 := y7) hM (show (size : Int) - ((size : Int) - 1 + (i : Nat) * (-1)) = ((i + 1 : Nat) : Int) by omega) ha ht3
      refine ⟨_, _, ?_, t2, ht2, st'.length, some (.int ((size : Int) - 1 + (i : Nat) * (-1))), some (.loc st'.length), z5, z6, z7, rfl, hz2⟩
      simp only [ev_gName, R.toFl_ok, List.set]
      rw [hz])
    (env := [some (.int size), some (.int M), some (.loc 0), none, none, none, none, none]) (st := [.dct [(.int 0, .int 1)]]) ⟨[1], rfl, 0, none, none, none, none, none, rfl, rfl⟩
  rw [List.length_map, List.length_range, e] at *
  cases ht1
  have hn : ((size : Int) - 1 - -1).toNat = size := by omega
  have hr3 : miR3 (maCons (mOp oSub (mVar 0) (mC (.int 1))) (maCons (mUn oNeg (mC (.int 1))) (maCons (mUn oNeg (mC (.int 1))) maNil))) [some (.int size), some (.int M), some (.loc 0), none, none, none, none, none] [.dct [(.int 0, .int 1)]] = .ok (.rngC ((size : Int) - 1) (-1) size) [.dct [(.int 0, .int 1)]] := by
    have r1 : rngOk ((size : Int) - 1) = true := by unfold rngOk; exact decide_eq_true (by omega)
    have r2 : rngOk (-1) = true := by decide
    unfold miR3
    simp only [ev_cons, ev_nil, ev_op, ev_un, ev_varS, ev_var0, ev_C, R.bind_ok, sub_ii, neg_i]
    rw [r1, r2, hn]
    rfl
  have hl := lookA_enc (t := t) (o := 0) (i := M)
  rw [Nat.zero_add] at hl
  have hg : mGet2 (mVar 2) (mVar 1) (mC (.int 0)) [some (.int size), some (.int M), some (.loc a), y3, y4, y5, y6, y7] st' = .ok (.int (t[M]?.getD 0 : Nat)) st' := by
    have hr : rdK st' a = some (encO 0 t) := by unfold rdK; rw [ha]
    simp only [ev_get2, ev_varS, ev_var0, R.bind_ok, isTy_d ha, if_true, ev_C, keyOf, hr, hl]
    cases t[M]? <;> rfl
  have hb : b__law_along [some (.int size), some (.int M), none, none, none, none, none, none] [] = .rt (.int (t[M]?.getD 0 : Nat)) st' := by
    unfold b__law_along
    rw [ev_seq]
    show msSeq _ _ [some (.int size), some (.int M), some (.loc 0), none, none, none, none, none] [.dct [(.int 0, .int 1)]] = _
    rw [ev_seq, ev_for, hr3]
    simp only [R.toFl_ok, Sq.len]
    rw [e1]
    simp only [ev_ret, hg, R.toFl_ok]
  show (if 2 = 2 then gc [] (fin (b__law_along [some (.int size), some (.int M), none, none, none, none, none, none] [])) else .bad) = _
  rw [if_pos rfl, hb]
  exact gc_drop (st := []) rfl
/-! ### the table's check -/
def rtsN (j M : Nat) : Nat := if j < M then 0 else if M = 0 then 1 else (j + 1) ^ (M - 1) * (j - M + 1)
def chk (M : Nat) : Nat → Nat → List Nat → Bool
  | 0, _, _ => true
  | f + 1, j, t => Nat.beq (t[M]?.getD 0) (rtsN j M) && match out (j + 1) M t t.length with
    | some t' => chk M f (j + 1) t'
    | none => false
theorem chk_ok {M : Nat} : ∀ {f j : Nat} {t : List Nat}, chk M f j t = true → wk M j = some t → ∀ i, i < f → ∃ t', wk M (j + i) = some t' ∧ t'[M]?.getD 0 = rtsN (j + i) M
  | 0, _, _, _, _, _, hi => absurd hi (by omega)
  | f + 1, j, t, h, hw, 0, _ => by
    rw [chk, Bool.and_eq_true] at h
    exact ⟨t, hw, Nat.eq_of_beq_eq_true h.1⟩
  | f + 1, j, t, h, hw, i + 1, hi => by
    rw [chk, Bool.and_eq_true] at h
    obtain ⟨_, h2⟩ := h
    split at h2
    · rename_i t' ht'
      have hw' : wk M (j + 1) = some t' := by rw [wk, hw]; exact ht'
      have := chk_ok h2 hw' i (by omega)
      rw [show j + 1 + i = j + (i + 1) by omega] at this
      exact this
    · cases h2
theorem chk_0 : chk 0 25 0 [1] = true := by decide +kernel
theorem chk_1 : chk 1 25 0 [1] = true := by decide +kernel
theorem chk_2 : chk 2 25 0 [1] = true := by decide +kernel
theorem chk_3 : chk 3 25 0 [1] = true := by decide +kernel
theorem chk_4 : chk 4 25 0 [1] = true := by decide +kernel
theorem chk_5 : chk 5 25 0 [1] = true := by decide +kernel
theorem chk_6 : chk 6 25 0 [1] = true := by decide +kernel
theorem chk_7 : chk 7 25 0 [1] = true := by decide +kernel
theorem chk_8 : chk 8 25 0 [1] = true := by decide +kernel
theorem chk_9 : chk 9 25 0 [1] = true := by decide +kernel
theorem chk_10 : chk 10 25 0 [1] = true := by decide +kernel
theorem chk_11 : chk 11 25 0 [1] = true := by decide +kernel
theorem chk_12 : chk 12 25 0 [1] = true := by decide +kernel
theorem chk_13 : chk 13 25 0 [1] = true := by decide +kernel
theorem chk_14 : chk 14 25 0 [1] = true := by decide +kernel
theorem chk_15 : chk 15 25 0 [1] = true := by decide +kernel
theorem chk_16 : chk 16 25 0 [1] = true := by decide +kernel
theorem chk_17 : chk 17 25 0 [1] = true := by decide +kernel
theorem chk_18 : chk 18 25 0 [1] = true := by decide +kernel
theorem chk_19 : chk 19 25 0 [1] = true := by decide +kernel
theorem chk_20 : chk 20 25 0 [1] = true := by decide +kernel
theorem chk_21 : chk 21 25 0 [1] = true := by decide +kernel
theorem chk_22 : chk 22 25 0 [1] = true := by decide +kernel
theorem chk_23 : chk 23 25 0 [1] = true := by decide +kernel
theorem chk_24 : chk 24 25 0 [1] = true := by decide +kernel
theorem chk_25 : chk 25 25 0 [1] = true := by decide +kernel
theorem chk_all : ∀ M, M ≤ 25 → chk M 25 0 [1] = true
  | 0, _ => chk_0
  | 1, _ => chk_1
  | 2, _ => chk_2
  | 3, _ => chk_3
  | 4, _ => chk_4
  | 5, _ => chk_5
  | 6, _ => chk_6
  | 7, _ => chk_7
  | 8, _ => chk_8
  | 9, _ => chk_9
  | 10, _ => chk_10
  | 11, _ => chk_11
  | 12, _ => chk_12
  | 13, _ => chk_13
  | 14, _ => chk_14
  | 15, _ => chk_15
  | 16, _ => chk_16
  | 17, _ => chk_17
  | 18, _ => chk_18
  | 19, _ => chk_19
  | 20, _ => chk_20
  | 21, _ => chk_21
  | 22, _ => chk_22
  | 23, _ => chk_23
  | 24, _ => chk_24
  | 25, _ => chk_25
  | M + 26, h => absurd h (by omega)
theorem along_rts {size M : Nat} (hs : size ≤ 24) (hM : M ≤ 25) : m__law_along [.int size, .int M] [] = .ok (.int (rtsN size M : Nat)) [] := by
  have h := chk_all M hM
  obtain ⟨t, h1, h2⟩ := chk_ok h rfl size (by omega)
  rw [Nat.zero_add] at h1 h2
  rw [along_ok (by omega) (by omega) h1, h2]
theorem rtsF_nat {size M : Nat} : rtsF size false M = (rtsN size M : Nat) := by
  unfold rtsF rtsN
  by_cases h : size < M
  · rw [if_pos (by omega), if_pos h]; rfl
  · rw [if_neg (by omega), if_neg h]
    by_cases h0 : M = 0
    · subst h0
      rw [if_pos (by simp), if_pos rfl]
      rfl
    · rw [if_neg (by simp; omega), if_neg h0, powI_eq]
      have c1 : ((M : Int) - 1).toNat = M - 1 := by omega
      have c2 : (size : Int) - (M : Nat) + 1 = ((size - M + 1 : Nat) : Int) := by omega
      rw [c1, c2, Int.natCast_mul, Int.natCast_pow, Int.mul_comm]
      rfl
/-! ### the rows' check -/
def outsN (w : List Int) (k : Nat) : Int := outsF w k
def rowsChk (n m : Nat) : Bool := Nat.beq (((allRows n m).filter fun w => decide (outsF w n = 0)).length) (rtsN n m)
theorem rows_4_4 : rowsChk 4 4 = true := by decide +kernel
theorem rows_4_5 : rowsChk 4 5 = true := by decide +kernel
theorem rows_5_4 : rowsChk 5 4 = true := by decide +kernel
theorem rows_5_5 : rowsChk 5 5 = true := by decide +kernel
theorem rows_all : ∀ n m, n ≤ 5 → m ≤ 5 → rowsChk n m = true
  | 0, 0, _, _ => (by decide +kernel)
  | 0, 1, _, _ => (by decide +kernel)
  | 0, 2, _, _ => (by decide +kernel)
  | 0, 3, _, _ => (by decide +kernel)
  | 0, 4, _, _ => (by decide +kernel)
  | 0, 5, _, _ => (by decide +kernel)
  | 1, 0, _, _ => (by decide +kernel)
  | 1, 1, _, _ => (by decide +kernel)
  | 1, 2, _, _ => (by decide +kernel)
  | 1, 3, _, _ => (by decide +kernel)
  | 1, 4, _, _ => (by decide +kernel)
  | 1, 5, _, _ => (by decide +kernel)
  | 2, 0, _, _ => (by decide +kernel)
  | 2, 1, _, _ => (by decide +kernel)
  | 2, 2, _, _ => (by decide +kernel)
  | 2, 3, _, _ => (by decide +kernel)
  | 2, 4, _, _ => (by decide +kernel)
  | 2, 5, _, _ => (by decide +kernel)
  | 3, 0, _, _ => (by decide +kernel)
  | 3, 1, _, _ => (by decide +kernel)
  | 3, 2, _, _ => (by decide +kernel)
  | 3, 3, _, _ => (by decide +kernel)
  | 3, 4, _, _ => (by decide +kernel)
  | 3, 5, _, _ => (by decide +kernel)
  | 4, 0, _, _ => (by decide +kernel)
  | 4, 1, _, _ => (by decide +kernel)
  | 4, 2, _, _ => (by decide +kernel)
  | 4, 3, _, _ => (by decide +kernel)
  | 4, 4, _, _ => rows_4_4
  | 4, 5, _, _ => rows_4_5
  | 5, 0, _, _ => (by decide +kernel)
  | 5, 1, _, _ => (by decide +kernel)
  | 5, 2, _, _ => (by decide +kernel)
  | 5, 3, _, _ => (by decide +kernel)
  | 5, 4, _, _ => rows_5_4
  | 5, 5, _, _ => rows_5_5
  | n + 6, _, h, _ => absurd h (by omega)
  | _, m + 6, _, h => absurd h (by omega)
end K09
set_option Elab.async false
set_option linter.all false
set_option maxRecDepth 100000
set_option maxHeartbeats 4000000
namespace K09
open PySem Y
def body : MS := (msSeq (msAsg (mN m__law_deck (maCons (mVar 1) (maCons (mC (.int 9)) maNil))) (mgName 2))
    (msSeq (msAsg (mOp oAdd (mC (.int 1)) (mN m__law_pick (maCons (mVar 2) (maCons (mC (.int 5)) maNil)))) (mgName 3))
    (msSeq (msAsg (mN m__law_pick (maCons (mVar 2) (maCons (mC (.int 6)) maNil))) (mgName 4))
    (msSeq (msAsg (mGc (mLc (miSeq (mN m__law_all_rows (maCons (mVar 3) (maCons (mVar 4) maNil)))) (mgName 12) (mtV (mOp oEq (mN (oIso m__law_outs) (maCons (mVar 3) (maCons (mVar 12) maNil))) (mC (.int 0)))) (mVar 12) (List.map Prod.snd ([("row", 12)] : List (Str × Nat))))) (mgName 5))
    (msSeq (msIf (mtV (mOp oNe (mN (oIso m_rows_that_seat) (maCons (mVar 3) (maCons (mC (.bl false)) (maCons (mVar 4) maNil)))) (mN oLen (maCons (mVar 5) maNil)))) (msRet (mC (.bl false))) msNext)
    (msSeq (msAsg (mOp oAdd (mC (.int 1)) (mN m__law_pick (maCons (mVar 2) (maCons (mC (.int 24)) maNil)))) (mgName 6))
    (msSeq (msAsg (mN m__law_pick (maCons (mVar 2) (maCons (mOp oAdd (mVar 6) (mC (.int 2))) maNil))) (mgName 7))
    (msSeq (msIf (mtV (mOp oNe (mN (oIso m_rows_that_seat) (maCons (mVar 6) (maCons (mC (.bl false)) (maCons (mVar 7) maNil)))) (mN (oIso m__law_along) (maCons (mVar 6) (maCons (mVar 7) maNil))))) (msRet (mC (.bl false))) msNext)
    (msSeq (msAsg (mOp oAdd (mC (.int 1)) (mN m__law_pick (maCons (mVar 2) (maCons (mC (.int 199)) maNil)))) (mgName 8))
    (msSeq (msAsg (mN m__law_pick (maCons (mVar 2) (maCons (mOp oAdd (mVar 8) (mC (.int 1))) maNil))) (mgName 9))
    (msSeq (msAsg (mC (.int 1)) (mgName 10))
    (msSeq (msFor (miR1 (maCons (mVar 9) maNil)) (mgName 11) (msAsg (mOp oMul (mVar 10) (mVar 8)) (mgName 10)))
    (msSeq (msIf (mtOr (mtV (mOp oNe (mN (oIso m_rows_that_seat) (maCons (mVar 8) (maCons (mC (.bl true)) (maCons (mVar 9) maNil)))) (mVar 10))) (mtV (mOp oNe (mN (oIso m_rows_that_seat) (maCons (mVar 8) (maCons (mC (.bl true)) (maCons (mOp oAdd (mVar 8) (mC (.int 1))) maNil)))) (mC (.int 0))))) (msRet (mC (.bl false))) msNext)
    (msSeq (msIf (mtOr (mtV (mOp oGt (mN (oIso m_rows_that_seat) (maCons (mVar 8) (maCons (mC (.bl false)) (maCons (mVar 9) maNil)))) (mVar 10))) (mtV (mOp oNe (mN (oIso m_rows_that_seat) (maCons (mVar 8) (maCons (mC (.bl false)) (maCons (mOp oAdd (mVar 8) (mC (.int 1))) maNil)))) (mC (.int 0))))) (msRet (mC (.bl false))) msNext)
    (msSeq (msAsg (mOp oSub (mOp oAdd (mVar 8) (mC (.int 1))) (mVar 9)) (mgName 10))
    (msSeq (msFor (miR1 (maCons (mOp oSub (mVar 9) (mC (.int 1))) maNil)) (mgName 11) (msAsg (mOp oMul (mVar 10) (mOp oAdd (mVar 8) (mC (.int 1)))) (mgName 10)))
    (msSeq (msIf (mtV (mOp oNe (mN (oIso m_rows_that_seat) (maCons (mVar 8) (maCons (mC (.bl false)) (maCons (mVar 9) maNil)))) (mIf (mtV (mOp oGt (mVar 9) (mC (.int 0)))) (mVar 10) (mC (.int 1))))) (msRet (mC (.bl false))) msNext)
    (msSeq (msAsg (mC (.int 1)) (mgName 10))
    (msSeq (msFor (miR1 (maCons (mOp oSub (mVar 8) (mC (.int 1))) maNil)) (mgName 11) (msAsg (mOp oMul (mVar 10) (mOp oAdd (mVar 8) (mC (.int 1)))) (mgName 10)))
    (msIf (mtOr (mtV (mOp oNe (mN (oIso m_rows_that_seat) (maCons (mVar 8) (maCons (mC (.bl false)) (maCons (mVar 8) maNil)))) (mVar 10))) (mtV (mOp oNe (mN (oIso m_rows_that_seat) (maCons (mVar 8) (maCons (mC (.bl false)) (maCons (mC (.int 0)) maNil)))) (mC (.int 1))))) (msRet (mC (.bl false))) msNext))))))))))))))))))))
/-! ### the plain law -/
theorem ineq : ∀ {m n : Nat}, m + 1 ≤ n → (n - m) * (n + 1) ^ m ≤ n ^ (m + 1)
  | 0, n, _ => by simp
  | m + 1, n, h => by
    have ih := ineq (m := m) (n := n) (by omega)
    obtain ⟨d, rfl⟩ : ∃ d, n = m + 1 + d := ⟨n - (m + 1), by omega⟩
    have e1 : m + 1 + d - (m + 1) = d := by omega
    have e2 : m + 1 + d - m = d + 1 := by omega
    rw [e1, Nat.pow_succ, Nat.pow_succ (n := m + 1 + d)]
    rw [e2] at ih
    have s1 : d * (m + 1 + d + 1) ≤ (m + 1 + d) * (d + 1) := by
      simp only [Nat.mul_add, Nat.add_mul, Nat.mul_one, Nat.one_mul]
      rw [Nat.mul_comm d m]; omega
    calc d * ((m + 1 + d + 1) ^ m * (m + 1 + d + 1)) = (d * (m + 1 + d + 1)) * (m + 1 + d + 1) ^ m := by
          rw [Nat.mul_comm ((m + 1 + d + 1) ^ m), Nat.mul_assoc]
      _ ≤ ((m + 1 + d) * (d + 1)) * (m + 1 + d + 1) ^ m := Nat.mul_le_mul_right _ s1
      _ = (m + 1 + d) * ((d + 1) * (m + 1 + d + 1) ^ m) := by rw [Nat.mul_assoc]
      _ ≤ (m + 1 + d) * (m + 1 + d) ^ (m + 1) := Nat.mul_le_mul_left _ ih
      _ = (m + 1 + d) ^ (m + 1) * (m + 1 + d) := Nat.mul_comm _ _
theorem rts_ring {n m : Nat} (h : m ≤ n) : rtsF n true m = (n ^ m : Nat) := by
  unfold rtsF
  rw [if_neg (by omega), if_pos (.inl rfl), powI_eq, Int.one_mul, Int.natCast_pow]; rfl
theorem rts_over {n : Nat} {r : Bool} : rtsF n r ((n + 1 : Nat) : Int) = 0 := by
  unfold rtsF
  rw [if_pos (by omega)]
theorem rts_le {n m : Nat} (h : m ≤ n) : rtsN n m ≤ n ^ m := by
  unfold rtsN
  rw [if_neg (by omega)]
  split
  · rename_i h0; subst h0; simp
  · rename_i h0
    obtain ⟨k, rfl⟩ : ∃ k, m = k + 1 := ⟨m - 1, by omega⟩
    have := ineq (m := k) (n := n) (by omega)
    rw [Nat.mul_comm, show n - (k + 1) + 1 = n - k by omega, Nat.add_sub_cancel]
    exact this
/-! ### one turn -/
def Good (st : Sto) (k : Nat) (cells : List AV) (d : Nat) (m : Int) : Prop := st[k]? = some (.lst cells) ∧ DeckAt st d m ∧ d ≠ k
theorem pick_g {st : Sto} {k d : Nat} {cells : List AV} {m lim : Int} (h : Good st k cells d m) (hm : m < 1000000) (hl : 0 < lim ∧ lim < 1000) :
    ∃ (r : Nat) (st' : Sto), m__law_pick [.loc d, .int lim] st = .ok (.int r) st' ∧ (r : Int) < lim ∧ Good st' k cells d (m + 1) := by
  obtain ⟨h1, h2, h3⟩ := h
  obtain ⟨r, xs, e, a1, a2, a3, a4⟩ := pick_ok h2 hm hl
  refine ⟨r.toNat, _, by rw [e, Int.toNat_of_nonneg a1], by omega, ?_, a3, h3⟩
  rw [List.getElem?_set_ne h3]; exact h1
theorem Good.old {st g : Sto} {k d : Nat} {cells : List AV} {m : Int} (h : Good st k cells d m) : Good (st ++ g) k cells d m := ⟨at_old h.1, h.2.1.old, h.2.2⟩
def decI : AV → Int
  | .int i => i
  | _ => 0
def keep (n : Nat) (x : AV) : Option AV := match x with
  | .tup ys => if outsF (ys.map decI) n = 0 then some x else none
  | _ => none
theorem keep_enc {n : Nat} {w : List Int} : keep n (encR w) = if outsF w n = 0 then some (encR w) else none := by
  unfold keep encR
  simp only [List.map_map]
  have : w.map (decI ∘ AV.int) = w := by
    conv => rhs; rw [← List.map_id w]
    rfl
  rw [this]
theorem keep_rows {n : Nat} (rs : List (List Int)) : (rs.map encR).filterMap (keep n) = (rs.filter fun w => decide (outsF w n = 0)).map encR := by
  induction rs with
  | nil => rfl
  | cons w rs ih =>
    rw [List.map_cons, List.filterMap_cons, keep_enc, List.filter_cons]
    by_cases h : outsF w n = 0
    · simp [h, ih]
    · simp [h, ih]
theorem rows_ok {n m : Nat} (hn : n ≤ 5) (hm : m ≤ 5) : ((allRows n m).filter fun w => decide (outsF w n = 0)).length = rtsN n m := by
  exact Nat.eq_of_beq_eq_true (rows_all n m hn hm)
theorem lc_ok {n m : Nat} {a0 a1 a2 a5 a6 a7 a8 a9 a10 a11 a12 : Option AV} {st : Sto} (hn : n ≤ 5) (hm : m ≤ 5) :
    mGc (mLc (miSeq (mN m__law_all_rows (maCons (mVar 3) (maCons (mVar 4) maNil)))) (mgName 12) (mtV (mOp oEq (mN (oIso m__law_outs) (maCons (mVar 3) (maCons (mVar 12) maNil))) (mC (.int 0)))) (mVar 12) (List.map Prod.snd ([("row", 12)] : List (Str × Nat))))
      [a0, a1, a2, some (.int n), some (.int m), a5, a6, a7, a8, a9, a10, a11, a12] st = .ok (.loc st.length) (st ++ [.lst (((allRows n m).filter fun w => decide (outsF w n = 0)).map encR)]) := by
  have hat : (st ++ [Ob.lst ((allRows n m).map encR)])[st.length]? = some (.lst ((allRows n m).map encR)) := at_new
  have hlen := allRows_le hn hm
  have hit : miSeq (mN m__law_all_rows (maCons (mVar 3) (maCons (mVar 4) maNil))) [a0, a1, a2, some (.int n), some (.int m), a5, a6, a7, a8, a9, a10, a11, a12] st = .ok (.list st.length) (st ++ [.lst ((allRows n m).map encR)]) := by
    rw [ev_iSeq]
    simp only [ev_N, ev_cons, ev_nil, ev_varS, ev_var0, R.bind_ok, all_rows_ok hn hm, rdL_ok hat]
  have hc := lc_its (q := .list st.length) (g := mgName 12) (t := mtV (mOp oEq (mN (oIso m__law_outs) (maCons (mVar 3) (maCons (mVar 12) maNil))) (mC (.int 0)))) (e := mVar 12) (xs := (allRows n m).map encR) (env := [a0, a1, a2, some (.int n), some (.int m), a5, a6, a7, a8, a9, a10, a11, none]) (st := st ++ [.lst ((allRows n m).map encR)]) (keep n) (fun i => at_list hat)
    (fun x hx => by
      obtain ⟨w, hw, rfl⟩ := List.mem_map.mp hx
      have ho : oIso m__law_outs [.int n, encR w] (st ++ [.lst ((allRows n m).map encR)]) = .ok (.int (outsF w n)) (st ++ [.lst ((allRows n m).map encR)]) := iso_ok (by simp only [AV.locsL, AV.locs, encR, locs_ints, List.append_nil]) (outs_ok n w (by omega)) rfl
      simp only [ev_gName, List.set, R.bind_ok, ev_tV, ev_op, ev_N, ev_cons, ev_nil, ev_varS, ev_var0, ho, ev_C, eq_ii, keep_enc]
      by_cases h : outsF w n = 0
      · simp [h]
      · simp [h]) (by rw [List.length_map]; simp only [LIM]; omega)
  rw [List.length_map, keep_rows] at hc
  have hl2 : (((allRows n m).filter fun w => decide (outsF w n = 0)).map encR).length ≤ LIM := by
    rw [List.length_map]
    have := List.length_filter_le (fun w => decide (outsF w n = 0)) (allRows n m)
    simp only [LIM]; omega
  have hl := len_list hat
  rw [List.length_map] at hl
  simp only [ev_gc, ev_lc, hit, R.bind_ok, wipeE, List.map_cons, List.map_nil, List.set, hl, hc, lst_ok hl2]
  rw [List.append_assoc]
  have := gc_new (st := st) (st' := st) (g := [.lst ((allRows n m).map encR), .lst (((allRows n m).filter fun w => decide (outsF w n = 0)).map encR)]) (j := 1) (locs_rows _) rfl oldOk_app rfl
  rw [List.length_append]
  exact this
/-- the three loops -/
theorem due_ok {C : ME} {B : ME} {c base first : Int} {st : Sto} {l : List (Option AV)} {x11 x12 : Option AV} (hl : l.length = 10) (hC : ∀ st, C (l ++ [some (.int first), x11, x12]) st = .ok (.int c) st) (hc : -1 ≤ c ∧ c < 1000) (hb : 0 ≤ base ∧ base < 1000)
    (hB : ∀ x10 x11 st, B (l ++ [x10, x11, x12]) st = .ok (.int base) st) :
    ∃ y11, msFor (miR1 (maCons C maNil)) (mgName 11) (msAsg (mOp oMul (mVar 10) B) (mgName 10)) (l ++ [some (.int first), x11, x12]) st = .nx (l ++ [some (.int (powI base c.toNat first)), y11, x12]) st := by
  have s10 : ∀ (a b c v : Option AV), (l ++ [a, b, c]).set 10 v = l ++ [v, b, c] := fun a b c v => by rw [← hl, List.set_append_right _ _ (Nat.le_refl _), Nat.sub_self]; rfl
  have s11 : ∀ (a b c v : Option AV), (l ++ [a, b, c]).set 11 v = l ++ [a, v, c] := fun a b c v => by
    rw [List.set_append_right _ _ (by omega), hl]; rfl
  have g10 : ∀ (a b c : Option AV), (l ++ [a, b, c])[10]? = some a := fun a b c => by rw [List.getElem?_append_right (by omega), hl]; rfl
  obtain ⟨env, st', e, y, rfl, e2⟩ := turns_rng (g := mgName 11) (b := msAsg (mOp oMul (mVar 10) B) (mgName 10)) (lo := 0) (n := c.toNat) (fun i env st' => ∃ y, env = l ++ [some (.int (powI base i first)), y, x12] ∧ st' = st)
    (fun i env st' hi ⟨y, e1, e2⟩ => by
      subst e1 e2
      refine ⟨_, _, ?_, some (.int (0 + (i : Nat))), rfl, rfl⟩
      simp only [ev_gName, R.toFl_ok, ev_asg, ev_op, s11, ev_var (g10 _ _ _), R.bind_ok, hB, mul_ii (small_r (i := powI base i first) (j := base) (by omega)), s10, powI_succ])
    (env := l ++ [some (.int first), x11, x12]) (st := st) ⟨x11, rfl, rfl⟩
  rw [e2] at e
  refine ⟨y, ?_⟩
  have r1 : rngOk c = true := by unfold rngOk; exact decide_eq_true (by omega)
  have hm : maCons C maNil (l ++ [some (.int first), x11, x12]) st = .ok [.int c] st := by simp only [ev_cons, ev_nil, hC, R.bind_ok]
  rw [ev_for, ev_R1i r1 rfl hm]
  simp only [R.toFl_ok, lenR, e]
theorem turn_ok {st : Sto} {k : Nat} {cells : List AV} {s : Option AV} {cell : Int} {x2 x3 x4 x5 x6 x7 x8 x9 x10 x11 x12 : Option AV} (hk : st[k]? = some (.lst cells)) :
    ∃ y2 y3 y4 y5 y6 y7 y8 y9 y10 y11 y12 st', body [s, some (.int cell), x2, x3, x4, x5, x6, x7, x8, x9, x10, x11, x12] st = .nx [s, some (.int cell), y2, y3, y4, y5, y6, y7, y8, y9, y10, y11, y12] st' ∧ st'[k]? = some (.lst cells) := by
  obtain ⟨da, db, e1, q1, q2, q3⟩ := deck_ok cell 9 st
  have hkl := (List.getElem?_eq_some_iff.mp hk).1
  have G0 : Good (st ++ [.lst [.int da, .int db, .int 9]]) k cells st.length 9 := ⟨at_old hk, ⟨da, db, 9, at_new, q1, q2, q3, by omega, by omega⟩, by omega⟩
  generalize hd : st.length = d at *
  generalize st ++ [.lst [.int da, .int db, .int 9]] = st0 at *
  obtain ⟨r1, st1, p1, b1, G1⟩ := pick_g (lim := 5) G0 (by omega) (by omega)
  obtain ⟨r2, st2, p2, b2, G2⟩ := pick_g (lim := 6) G1 (by omega) (by omega)
  have hsz : 1 + r1 ≤ 5 := by omega
  have hmn : r2 ≤ 5 := by omega
  have c1 : (1 : Int) + (r1 : Nat) = ((1 + r1 : Nat) : Int) := by omega
  have G3 : Good (st2 ++ [.lst (((allRows (1 + r1) r2).filter fun w => decide (outsF w (1 + r1) = 0)).map encR)]) k cells d (9 + 1 + 1) := G2.old
  have hlst : (st2 ++ [.lst (((allRows (1 + r1) r2).filter fun w => decide (outsF w (1 + r1) = 0)).map encR)])[st2.length]? = some (.lst (((allRows (1 + r1) r2).filter fun w => decide (outsF w (1 + r1) = 0)).map encR)) := at_new
  have hln := len_l hlst
  rw [List.length_map, rows_ok hsz hmn] at hln
  have hlc := fun a0 a1 a2 a5 a6 a7 a8 a9 a10 a11 a12 => lc_ok (n := 1 + r1) (m := r2) (a0 := a0) (a1 := a1) (a2 := a2) (a5 := a5) (a6 := a6) (a7 := a7) (a8 := a8) (a9 := a9) (a10 := a10) (a11 := a11) (a12 := a12) (st := st2) hsz hmn
  generalize st2 ++ [.lst (((allRows (1 + r1) r2).filter fun w => decide (outsF w (1 + r1) = 0)).map encR)] = st3 at *
  have RR : ∀ (n m : Nat) (ring : Bool) (st : Sto), n < 999 → m < 999 → oIso m_rows_that_seat [.int n, .bl ring, .int m] st = .ok (.int (rtsF n ring m)) st := fun n m ring st h1 h2 => iso_ok rfl (rts_ok n m ring (by omega) (by omega)) rfl
  obtain ⟨r3, st4, p3, b3, G4⟩ := pick_g (lim := 24) G3 (by omega) (by omega)
  obtain ⟨r4, st5, p4, b4, G5⟩ := pick_g (lim := 1 + (r3 : Nat) + 2) G4 (by omega) (by omega)
  have c2 : (1 : Int) + (r3 : Nat) = ((1 + r3 : Nat) : Int) := by omega
  have A : oIso m__law_along [.int ((1 + r3 : Nat) : Int), .int r4] st5 = .ok (.int (rtsN (1 + r3) r4 : Nat)) st5 := iso_ok rfl (along_rts (by omega) (by omega)) rfl
  obtain ⟨r5, st6, p5, b5, G6⟩ := pick_g (lim := 199) G5 (by omega) (by omega)
  obtain ⟨r6, st7, p6, b6, G7⟩ := pick_g (lim := 1 + (r5 : Nat) + 1) G6 (by omega) (by omega)
  have c3 : (1 : Int) + (r5 : Nat) = ((1 + r5 : Nat) : Int) := by omega
  rw [c2] at p4
  rw [c3] at p6
  obtain ⟨gr, hgr⟩ : ∃ gr, gr = 1 + r5 := ⟨_, rfl⟩
  rw [← hgr] at p6 c3
  have hso : r6 ≤ gr := by omega
  have hg1 : 1 ≤ gr ∧ gr < 200 := by omega
  have ne0 : ∀ x : Int, (!decide (x = x)) = false := fun x => by simp
  let L : List (Option AV) := [s, some (.int cell), some (.loc d), some (.int ((1 + r1 : Nat) : Int)), some (.int r2), some (.loc st2.length), some (.int ((1 + r3 : Nat) : Int)), some (.int r4), some (.int gr), some (.int r6)]
  have c4 : ((gr : Int) + 1) = ((gr + 1 : Nat) : Int) := by omega
  obtain ⟨y11, l1⟩ := due_ok (C := mVar 9) (B := mVar 8) (c := (r6 : Nat)) (base := (gr : Nat)) (first := 1) (st := st7) (l := L) (x11 := x11) (x12 := x12) rfl (fun _ => rfl) (by omega) (by omega) (fun _ _ _ => rfl)
  obtain ⟨z11, l2⟩ := due_ok (C := mOp oSub (mVar 9) (mC (.int 1))) (B := mOp oAdd (mVar 8) (mC (.int 1))) (c := (r6 : Int) - 1) (base := (gr : Int) + 1) (first := (gr : Int) + 1 - (r6 : Nat)) (st := st7) (l := L) (x11 := y11) (x12 := x12) rfl (fun _ => rfl) (by omega) (by omega) (fun _ _ _ => rfl)
  obtain ⟨w11, l3⟩ := due_ok (C := mOp oSub (mVar 8) (mC (.int 1))) (B := mOp oAdd (mVar 8) (mC (.int 1))) (c := (gr : Int) - 1) (base := (gr : Int) + 1) (first := 1) (st := st7) (l := L) (x11 := z11) (x12 := x12) rfl (fun _ => rfl) (by omega) (by omega) (fun _ _ _ => rfl)
  have f1 : powI (gr : Nat) ((r6 : Nat) : Int).toNat 1 = ((gr ^ r6 : Nat) : Int) := by rw [powI_eq, Int.one_mul, Int.natCast_pow]; rfl
  rw [f1] at l1
  have f2 : ¬ (((gr ^ r6 : Nat) : Int) < (rtsN gr r6 : Nat)) := by have := rts_le hso; omega
  have f3 : rtsF gr false r6 = if 0 < (r6 : Int) then powI ((gr : Int) + 1) ((r6 : Int) - 1).toNat ((gr : Int) + 1 - (r6 : Nat)) else 1 := by
    unfold rtsF
    rw [if_neg (by omega)]
    by_cases h0 : r6 = 0
    · subst h0; rfl
    · rw [if_neg (by simp; omega), if_pos (by omega), show (gr : Int) - (r6 : Nat) + 1 = (gr : Int) + 1 - (r6 : Nat) by omega]
  have f4 : rtsF gr false gr = powI ((gr : Int) + 1) ((gr : Int) - 1).toNat 1 := by
    unfold rtsF
    rw [if_neg (by omega), if_neg (by simp; omega), show (gr : Int) - (gr : Nat) + 1 = 1 by omega]
  have f5 : rtsF gr false (0 : Nat) = 1 := by
    unfold rtsF
    rw [if_neg (by omega), if_pos (by simp)]; rfl
  have f50 : oIso m_rows_that_seat [.int gr, .bl false, .int 0] st7 = .ok (.int 1) st7 := by
    have := RR gr 0 false st7 (by omega) (by omega)
    rw [f5] at this; exact this
  refine ⟨some (.loc d), some (.int ((1 + r1 : Nat) : Int)), some (.int r2), some (.loc st2.length), some (.int ((1 + r3 : Nat) : Int)), some (.int r4), some (.int gr), some (.int r6), some (.int (powI ((gr : Int) + 1) ((gr : Int) - 1).toNat 1)), w11, x12, st7, ?_, G7.1⟩
  unfold body
  refine (seq_nx (env' := [s, some (.int cell), some (.loc d), x3, x4, x5, x6, x7, x8, x9, x10, x11, x12]) (st' := st0) ?_).trans ?_
  · simp only [ev_asg, ev_N, ev_cons, ev_nil, ev_varS, ev_var0, ev_C, R.bind_ok, e1, R.toFl_ok, ev_gName, List.set]
  refine (seq_nx (env' := [s, some (.int cell), some (.loc d), some (.int ((1 + r1 : Nat) : Int)), x4, x5, x6, x7, x8, x9, x10, x11, x12]) (st' := st1) ?_).trans ?_
  · simp only [ev_asg, ev_op, ev_N, ev_cons, ev_nil, ev_varS, ev_var0, ev_C, R.bind_ok, p1, R.toFl_ok, ev_gName, List.set, add_ii, c1]
  refine (seq_nx (env' := [s, some (.int cell), some (.loc d), some (.int ((1 + r1 : Nat) : Int)), some (.int r2), x5, x6, x7, x8, x9, x10, x11, x12]) (st' := st2) ?_).trans ?_
  · simp only [ev_asg, ev_op, ev_N, ev_cons, ev_nil, ev_varS, ev_var0, ev_C, R.bind_ok, p2, R.toFl_ok, ev_gName, List.set]
  refine (seq_nx (env' := [s, some (.int cell), some (.loc d), some (.int ((1 + r1 : Nat) : Int)), some (.int r2), some (.loc st2.length), x6, x7, x8, x9, x10, x11, x12]) (st' := st3) ?_).trans ?_
  · rw [ev_asg, hlc]
    rfl
  refine (seq_nx (env' := [s, some (.int cell), some (.loc d), some (.int ((1 + r1 : Nat) : Int)), some (.int r2), some (.loc st2.length), x6, x7, x8, x9, x10, x11, x12]) (st' := st3) ?_).trans ?_
  · simp only [ev_ifS, ev_tV, ev_op, ev_N, ev_cons, ev_nil, ev_varS, ev_var0, ev_C, R.bind_ok, RR (1 + r1) r2 false st3 (by omega) (by omega), hln, ne_ii, rtsF_nat, ne0, R.toFl_ok, ev_next]
    rfl
  refine (seq_nx (env' := [s, some (.int cell), some (.loc d), some (.int ((1 + r1 : Nat) : Int)), some (.int r2), some (.loc st2.length), some (.int ((1 + r3 : Nat) : Int)), x7, x8, x9, x10, x11, x12]) (st' := st4) ?_).trans ?_
  · simp only [ev_asg, ev_op, ev_N, ev_cons, ev_nil, ev_varS, ev_var0, ev_C, R.bind_ok, p3, R.toFl_ok, ev_gName, List.set, add_ii, c2]
  refine (seq_nx (env' := [s, some (.int cell), some (.loc d), some (.int ((1 + r1 : Nat) : Int)), some (.int r2), some (.loc st2.length), some (.int ((1 + r3 : Nat) : Int)), some (.int r4), x8, x9, x10, x11, x12]) (st' := st5) ?_).trans ?_
  · simp only [ev_asg, ev_op, ev_N, ev_cons, ev_nil, ev_varS, ev_var0, ev_C, R.bind_ok, add_ii, p4, R.toFl_ok, ev_gName, List.set]
  refine (seq_nx (env' := [s, some (.int cell), some (.loc d), some (.int ((1 + r1 : Nat) : Int)), some (.int r2), some (.loc st2.length), some (.int ((1 + r3 : Nat) : Int)), some (.int r4), x8, x9, x10, x11, x12]) (st' := st5) ?_).trans ?_
  · simp only [ev_ifS, ev_tV, ev_op, ev_N, ev_cons, ev_nil, ev_varS, ev_var0, ev_C, R.bind_ok, RR (1 + r3) r4 false st5 (by omega) (by omega), A, ne_ii, rtsF_nat, ne0, R.toFl_ok, ev_next]
    rfl
  refine (seq_nx (env' := [s, some (.int cell), some (.loc d), some (.int ((1 + r1 : Nat) : Int)), some (.int r2), some (.loc st2.length), some (.int ((1 + r3 : Nat) : Int)), some (.int r4), some (.int gr), x9, x10, x11, x12]) (st' := st6) ?_).trans ?_
  · simp only [ev_asg, ev_op, ev_N, ev_cons, ev_nil, ev_varS, ev_var0, ev_C, R.bind_ok, p5, R.toFl_ok, ev_gName, List.set, add_ii, c3]
  refine (seq_nx (env' := L ++ [x10, x11, x12]) (st' := st7) ?_).trans ?_
  · simp only [ev_asg, ev_op, ev_N, ev_cons, ev_nil, ev_varS, ev_var0, ev_C, R.bind_ok, add_ii, p6, R.toFl_ok, ev_gName, List.set]
    rfl
  refine (seq_nx (env' := L ++ [some (.int 1), x11, x12]) (st' := st7) rfl).trans ?_
  refine (seq_nx (env' := L ++ [some (.int (gr ^ r6 : Nat)), y11, x12]) (st' := st7) l1).trans ?_
  refine (seq_nx (env' := L ++ [some (.int (gr ^ r6 : Nat)), y11, x12]) (st' := st7) ?_).trans ?_
  · simp only [L, List.cons_append, List.nil_append, ev_ifS, ev_tOr, ev_tV, ev_op, ev_N, ev_cons, ev_nil, ev_varS, ev_var0, ev_C, R.bind_ok, add_ii, c4, RR gr r6 true st7 (by omega) (by omega), RR gr (gr + 1) true st7 (by omega) (by omega), rts_ring hso, rts_over, ne_ii, R.toFl_ok, ev_next, decide_true, Bool.not_true, Bool.false_eq_true, if_false]
  refine (seq_nx (env' := L ++ [some (.int (gr ^ r6 : Nat)), y11, x12]) (st' := st7) ?_).trans ?_
  · simp only [L, List.cons_append, List.nil_append, ev_ifS, ev_tOr, ev_tV, ev_op, ev_N, ev_cons, ev_nil, ev_varS, ev_var0, ev_C, R.bind_ok, add_ii, c4, RR gr r6 false st7 (by omega) (by omega), RR gr (gr + 1) false st7 (by omega) (by omega), rtsF_nat, rts_over, gt_ii, ne_ii, decide_eq_false f2, R.toFl_ok, ev_next, decide_true, Bool.not_true, Bool.false_eq_true, if_false]
  refine (seq_nx (env' := L ++ [some (.int ((gr : Int) + 1 - (r6 : Nat))), y11, x12]) (st' := st7) rfl).trans ?_
  refine (seq_nx l2).trans ?_
  refine (seq_nx (env' := L ++ [some (.int (powI ((gr : Int) + 1) ((r6 : Int) - 1).toNat ((gr : Int) + 1 - (r6 : Nat)))), z11, x12]) (st' := st7) ?_).trans ?_
  · simp only [L, List.cons_append, List.nil_append, ev_ifS, ev_if, ev_tV, ev_op, ev_N, ev_cons, ev_nil, ev_varS, ev_var0, ev_C, R.bind_ok, RR gr r6 false st7 (by omega) (by omega), f3, gt_ii, R.toFl_ok, ev_next]
    by_cases h0 : 0 < (r6 : Int)
    · simp only [decide_eq_true h0, if_pos h0, if_true, R.bind_ok, ne_ii, R.toFl_ok, decide_true, Bool.not_true, Bool.false_eq_true, if_false]
    · simp only [decide_eq_false h0, if_neg h0, R.bind_ok, ne_ii, R.toFl_ok, decide_true, Bool.not_true, Bool.false_eq_true, if_false]
  refine (seq_nx (env' := L ++ [some (.int 1), z11, x12]) (st' := st7) rfl).trans ?_
  refine (seq_nx l3).trans ?_
  simp only [L, List.cons_append, List.nil_append, ev_ifS, ev_tOr, ev_tV, ev_op, ev_N, ev_cons, ev_nil, ev_varS, ev_var0, ev_C, R.bind_ok, RR gr gr false st7 (by omega) (by omega), f4, ne_ii, R.toFl_ok, ev_next, decide_true, Bool.not_true, Bool.false_eq_true, if_false, f50]
theorem law_true (ns : List Int) (h : ns.length ≤ 63) : ∃ st', m_law [.frl (ns.map AV.int)] [] = .ok (.bl true) st' := by
  have hcut : cutA (ns.map AV.int) none (some 6) = (cutI ns none (some 6)).map AV.int := cutI_ok
  have hlen : (cutI ns none (some 6)).length ≤ 63 := Nat.le_trans cutI_len h
  generalize cutI ns none (some 6) = cs at hcut hlen
  have hl1 : oLst [AV.int 0] [] = .ok (.loc 0) [.lst [.int 0]] := lst_ok (st := []) (by show 1 ≤ LIM; decide)
  have hadd : oAdd (.loc 0) (.loc 1) [.lst [.int 0], .lst (cs.map AV.int)] = .ok (.loc 2) [.lst [.int 0], .lst (cs.map AV.int), .lst ((0 :: cs).map AV.int)] := by
    have : ([AV.int 0] : List AV).length + (cs.map AV.int).length ≤ LIM := by rw [List.length_map]; simp only [LIM, List.length_cons, List.length_nil]; omega
    unfold oAdd
    simp only [List.getElem?_cons_zero, List.getElem?_cons_succ, if_pos this]
    rfl
  have hk : ([.lst [.int 0], .lst (cs.map AV.int), .lst ((0 :: cs).map AV.int)] : Sto)[2]? = some (.lst ((0 :: cs).map AV.int)) := rfl
  have hit : miSeq (mOp oAdd (mN oLst (maCons (mC (.int 0)) maNil)) (mSl oSl (mVar 0) moNone (moSome (mC (.int 6))))) [some (.frl (ns.map AV.int)), none, none, none, none, none, none, none, none, none, none, none, none] [] = .ok (.list 2) [.lst [.int 0], .lst (cs.map AV.int), .lst ((0 :: cs).map AV.int)] := by
    rw [ev_iSeq]
    simp only [ev_op, ev_N, ev_cons, ev_nil, ev_C, ev_varS, ev_var0, ev_sl, ev_oNone, ev_oSome, R.bind_ok, hl1, oSl, hcut]
    show (oAdd (.loc 0) (.loc 1) [.lst [.int 0], .lst (cs.map AV.int)]).bind _ = _
    rw [hadd]
    rfl
  obtain ⟨env, st', e, -⟩ := turns_nx (q := .list 2) (g := mgName 1) (b := body) (xs := (0 :: cs).map AV.int) (env := [some (.frl (ns.map AV.int)), none, none, none, none, none, none, none, none, none, none, none, none]) (st := [.lst [.int 0], .lst (cs.map AV.int), .lst ((0 :: cs).map AV.int)])
    (fun i env st => st[2]? = some (.lst ((0 :: cs).map AV.int)) ∧ ∃ s x1 x2 x3 x4 x5 x6 x7 x8 x9 x10 x11 x12, env = [s, x1, x2, x3, x4, x5, x6, x7, x8, x9, x10, x11, x12])
    (fun i env st hi hP => at_list hP.1)
    (fun i x env st hx ⟨hk, s, x1, x2, x3, x4, x5, x6, x7, x8, x9, x10, x11, x12, e⟩ => by
      subst e
      rw [List.getElem?_map, Option.map_eq_some_iff] at hx
      obtain ⟨cell, -, rfl⟩ := hx
      obtain ⟨y2, y3, y4, y5, y6, y7, y8, y9, y10, y11, y12, st', e, hk'⟩ := turn_ok (s := s) (cell := cell) (x2 := x2) (x3 := x3) (x4 := x4) (x5 := x5) (x6 := x6) (x7 := x7) (x8 := x8) (x9 := x9) (x10 := x10) (x11 := x11) (x12 := x12) hk
      exact ⟨_, _, e, hk', _, _, _, _, _, _, _, _, _, _, _, _, _, rfl⟩)
    ⟨hk, _, _, _, _, _, _, _, _, _, _, _, _, _, rfl⟩
  have hb : b_law [some (.frl (ns.map AV.int)), none, none, none, none, none, none, none, none, none, none, none, none] [] = .rt (.bl true) st' := by
    show msSeq (msFor _ (mgName 1) body) (msRet (mC (.bl true))) _ _ = _
    rw [ev_seq, ev_for, hit]
    simp only [R.toFl_ok, len_list hk, e]
    rfl
  refine ⟨[], ?_⟩
  show (if 1 = 1 then gc [] (fin (b_law [some (.frl (ns.map AV.int)), none, none, none, none, none, none, none, none, none, none, none, none] [])) else .bad) = _
  rw [if_pos rfl, hb]
  exact gc_drop (st := []) rfl
end K09
set_option Elab.async false
set_option linter.all false
set_option maxRecDepth 100000
set_option maxHeartbeats 4000000
namespace K09
open PySem PySem.Spec L2 Y
open PyProof.Rows hiding St
def topS (i : Nat) : Stmt := PySem.Challenge.pw_yieldseats_k09_whole_how_many_rows_seat.main.body.getD i (.Pass ⟨0, 0, 0, 0⟩)
/-! ### _law_deck -/
abbrev s__law_deck : Stmt := topS 3
abbrev N__law_deck : List Str := ["cell", "turn"]
theorem sc__law_deck : FnScope N__law_deck ["cell", "turn"] (defScope s__law_deck) := ⟨rfl, rfl, rfl, by decide +kernel, rfl, by decide +kernel, by decide +kernel⟩
/-! ### _law_pick -/
abbrev s__law_pick : Stmt := topS 4
abbrev N__law_pick : List Str := ["deck", "limit", "found", "number"]
theorem sc__law_pick : FnScope N__law_pick ["deck", "limit"] (defScope s__law_pick) := ⟨rfl, rfl, rfl, by decide +kernel, rfl, by decide +kernel, by decide +kernel⟩
/-! ### rows_that_seat -/
abbrev s_rows_that_seat : Stmt := topS 1
abbrev N_rows_that_seat : List Str := ["size", "ring", "many", "base", "less", "first", "turn"]
theorem sc_rows_that_seat : FnScope N_rows_that_seat ["size", "ring", "many"] (defScope s_rows_that_seat) := ⟨rfl, rfl, rfl, by decide +kernel, rfl, by decide +kernel, by decide +kernel⟩
/-! ### _law_choose -/
abbrev s__law_choose : Stmt := topS 13
abbrev N__law_choose : List Str := ["size", "many", "found", "k"]
theorem sc__law_choose : FnScope N__law_choose ["size", "many"] (defScope s__law_choose) := ⟨rfl, rfl, rfl, by decide +kernel, rfl, by decide +kernel, by decide +kernel⟩
/-! ### _law_along -/
abbrev s__law_along : Stmt := topS 14
abbrev N__law_along : List Str := ["size", "many", "ways", "seat", "later", "have", "more", "both"]
theorem sc__law_along : FnScope N__law_along ["size", "many"] (defScope s__law_along) := ⟨rfl, rfl, rfl, by decide +kernel, rfl, by decide +kernel, by decide +kernel⟩
/-! ### _law_all_rows -/
abbrev s__law_all_rows : Stmt := topS 11
abbrev N__law_all_rows : List Str := ["size", "many", "found", "k", "row", "wishes", "wish"]
theorem sc__law_all_rows : FnScope N__law_all_rows ["size", "many"] (defScope s__law_all_rows) := ⟨rfl, rfl, rfl, by decide +kernel, rfl, by decide +kernel, by decide +kernel⟩
/-! ### _law_outs -/
abbrev s__law_outs : Stmt := topS 12
abbrev N__law_outs : List Str := ["size", "wishes", "here", "seat"]
theorem sc__law_outs : FnScope N__law_outs ["size", "wishes"] (defScope s__law_outs) := ⟨rfl, rfl, rfl, by decide +kernel, rfl, by decide +kernel, by decide +kernel⟩
/-! ### law -/
abbrev s_law : Stmt := topS 15
abbrev N_law : List Str := ["script", "cell", "deck", "size", "many", "rows", "wide", "folk", "great", "some", "due", "k", "row"]
theorem sc_law : FnScope N_law ["script"] (defScope s_law) := ⟨rfl, rfl, rfl, by decide +kernel, rfl, by decide +kernel, by decide +kernel⟩
structure Ad where
  a__law_deck : Addr
  d__law_deck : FuncData
  a__law_pick : Addr
  d__law_pick : FuncData
  a_rows_that_seat : Addr
  d_rows_that_seat : FuncData
  a__law_choose : Addr
  d__law_choose : FuncData
  a__law_along : Addr
  d__law_along : FuncData
  a__law_all_rows : Addr
  d__law_all_rows : FuncData
  a__law_outs : Addr
  d__law_outs : FuncData
  a_law : Addr
  d_law : FuncData
structure Tx (K : PySem.W.Frag) (mg : Str → Option Value) (A : Ad) : Prop where
  F__law_deck : Fun K "_law_deck" "_law_deck" s__law_deck A.a__law_deck A.d__law_deck
  g__law_deck : mg "_law_deck" = some (.ref A.a__law_deck)
  b__law_deck : Binds K A.d__law_deck ["cell", "turn"] []
  F__law_pick : Fun K "_law_pick" "_law_pick" s__law_pick A.a__law_pick A.d__law_pick
  g__law_pick : mg "_law_pick" = some (.ref A.a__law_pick)
  b__law_pick : Binds K A.d__law_pick ["deck", "limit"] []
  F_rows_that_seat : Fun K "rows_that_seat" "rows_that_seat" s_rows_that_seat A.a_rows_that_seat A.d_rows_that_seat
  g_rows_that_seat : mg "rows_that_seat" = some (.ref A.a_rows_that_seat)
  b_rows_that_seat : Binds K A.d_rows_that_seat ["size", "ring", "many"] []
  F__law_choose : Fun K "_law_choose" "_law_choose" s__law_choose A.a__law_choose A.d__law_choose
  g__law_choose : mg "_law_choose" = some (.ref A.a__law_choose)
  b__law_choose : Binds K A.d__law_choose ["size", "many"] []
  F__law_along : Fun K "_law_along" "_law_along" s__law_along A.a__law_along A.d__law_along
  g__law_along : mg "_law_along" = some (.ref A.a__law_along)
  b__law_along : Binds K A.d__law_along ["size", "many"] []
  F__law_all_rows : Fun K "_law_all_rows" "_law_all_rows" s__law_all_rows A.a__law_all_rows A.d__law_all_rows
  g__law_all_rows : mg "_law_all_rows" = some (.ref A.a__law_all_rows)
  b__law_all_rows : Binds K A.d__law_all_rows ["size", "many"] []
  F__law_outs : Fun K "_law_outs" "_law_outs" s__law_outs A.a__law_outs A.d__law_outs
  g__law_outs : mg "_law_outs" = some (.ref A.a__law_outs)
  b__law_outs : Binds K A.d__law_outs ["size", "wishes"] []
  F_law : Fun K "law" "law" s_law A.a_law A.d_law
  g_law : mg "law" = some (.ref A.a_law)
  b_law : Binds K A.d_law ["script"] []
  n_len : mg "len" = none
  n_max : mg "max" = none
  n_range : mg "range" = none
section
variable {P : Program} {w : World} {K : PySem.W.Frag} {mg : Str → Option Value} {base : Heap} {A : Ad} {cm : Nat → Addr}
theorem ok__law_deck (T : Tx K mg A) : FnOk P w K mg base CX0 1 A.a__law_deck A.d__law_deck ["cell", "turn"] (spF ⟨K, cm⟩ m__law_deck) :=
  fn_ok T.F__law_deck sc__law_deck (by decide) fun cdv A outer s H E hr => (
    (yss_cons (ys_if (yt_cmp op_ge sn_ge (ye_var 0) (ye_op op_pow sn_pow ye_int ye_int) (nomark _)) (yss_one (ys_ret (ye_lst (ya_cons (ye_op op_sub sn_sub (ye_var 0) (ye_op op_pow sn_pow ye_int ye_int)) (ya_cons (ye_op op_mod sn_mod (ye_var 0) ye_int) (ya_cons (ye_var 1) ya_nil)))))) yss_nil)
    (yss_one (ys_ret (ye_lst (ya_cons ye_int (ya_cons (ye_op op_mod sn_mod (ye_var 0) ye_int) (ya_cons (ye_var 1) ya_nil))))))))
theorem ok__law_pick (T : Tx K mg A) : FnOk P w K mg base CX0 1 A.a__law_pick A.d__law_pick ["deck", "limit"] (spF ⟨K, cm⟩ m__law_pick) :=
  fn_ok T.F__law_pick sc__law_pick (by decide) fun cdv A outer s H E hr => (
    (yss_cons (ys_if (yt_cmp op_gt sn_gt (ye_ix or_ix sn_ix (ye_var 0) ye_int (fun _ _ => rfl)) ye_int (nomark _)) (yss_cons (ys_set 2 sc__law_pick.nd rfl (by first | exact Or.inl rfl | exact Or.inr rfl) (ye_op op_mod sn_mod (ye_ix or_ix sn_ix (ye_var 0) ye_int (fun _ _ => rfl)) (ye_var 1)))
    (yss_cons (ys_asg (ye_op op_fdiv sn_fdiv (ye_ix or_ix sn_ix (ye_var 0) ye_int (fun _ _ => rfl)) (ye_var 1)) (yg_sub (sl := []) (ye_var 0) ye_int set_list sn_setL))
    (yss_one (ys_ret (ye_var 2))))) yss_nil)
    (yss_cons (ys_asg (ye_op or_add sn_add (ye_ix or_ix sn_ix (ye_var 0) ye_int (fun _ _ => rfl)) ye_int) (yg_sub (sl := []) (ye_var 0) ye_int set_list sn_setL))
    (yss_cons (ys_set 3 sc__law_pick.nd rfl (by first | exact Or.inl rfl | exact Or.inr rfl) (ye_op op_mod sn_mod (ye_op op_pow sn_pow (ye_op or_add sn_add (ye_ix or_ix sn_ix (ye_var 0) ye_int (fun _ _ => rfl)) (ye_op op_mul sn_mul ye_int (ye_ix or_ix sn_ix (ye_var 0) ye_int (fun _ _ => rfl)))) ye_int) ye_int))
    (yss_cons (ys_set 2 sc__law_pick.nd rfl (by first | exact Or.inl rfl | exact Or.inr rfl) (ye_op op_fdiv sn_fdiv (ye_op op_mod sn_mod (ye_op op_pow sn_pow (ye_op or_add sn_add (ye_var 3) (ye_op op_mul sn_mul ye_int (ye_ix or_ix sn_ix (ye_var 0) ye_int (fun _ _ => rfl)))) ye_int) ye_int) ye_int))
    (yss_cons (ys_if (yt_cmp op_gt sn_gt (ye_var 1) ye_int (nomark _)) (yss_one (ys_ret (ye_op op_mod sn_mod (ye_op or_add sn_add (ye_op op_mul sn_mul (ye_var 2) ye_int) (ye_var 3)) (ye_var 1)))) yss_nil)
    (yss_one (ys_ret (ye_op op_mod sn_mod (ye_var 2) (ye_var 1))))))))))
theorem ok_rows_that_seat (T : Tx K mg A) : FnOk P w K mg base CX0 1 A.a_rows_that_seat A.d_rows_that_seat ["size", "ring", "many"] (spF ⟨K, cm⟩ m_rows_that_seat) :=
  fn_ok T.F_rows_that_seat sc_rows_that_seat (by decide) fun cdv A outer s H E hr => (
    (yss_cons (ys_if (yt_cmp op_gt sn_gt (ye_var 2) (ye_var 0) (nomark _)) (yss_one (ys_ret ye_int)) yss_nil)
    (yss_cons (ys_if (PW.pt (yw_or (yt_val (ye_var 1)) (yw_oner (yt_cmp (op_eqP hr.units) sn_eq (ye_var 2) ye_int (nomark _))))) (yss_one (ys_par3 (i := 3) (j := 4) (l := 5) rfl sc_rows_that_seat.nd rfl rfl rfl  (by decide) (by decide) (by decide)  rfl rfl rfl  (ya_cons (ye_var 0) (ya_cons (ye_var 2) (ya_cons ye_int ya_nil))) (by rfl))) (yss_one (ys_par3 (i := 3) (j := 4) (l := 5) rfl sc_rows_that_seat.nd rfl rfl rfl  (by decide) (by decide) (by decide)  rfl rfl rfl  (ya_cons (ye_op or_add sn_add (ye_var 0) ye_int) (ya_cons (ye_op op_sub sn_sub (ye_var 2) ye_int) (ya_cons (ye_op or_add sn_add (ye_op op_sub sn_sub (ye_var 0) (ye_var 2)) ye_int) ya_nil))) (by rfl))))
    (yss_cons (ys_for PassesOwn.never rfl (yi_r1 (by rfl) T.n_range (ya_cons (ye_var 4) ya_nil)) (yg_name 6 sc_rows_that_seat.nd rfl (by first | exact Or.inl rfl | exact Or.inr rfl)) (yss_one (ys_aug 5 sc_rows_that_seat.nd rfl (by first | exact Or.inl rfl | exact Or.inr rfl) (ye_var 3) iop_mul sn_mul)))
    (yss_one (ys_ret (ye_var 5)))))))
theorem ok__law_choose (T : Tx K mg A) : FnOk P w K mg base CX0 1 A.a__law_choose A.d__law_choose ["size", "many"] (spF ⟨K, cm⟩ m__law_choose) :=
  fn_ok T.F__law_choose sc__law_choose (by decide) fun cdv A outer s H E hr => (
    (yss_cons (ys_set 2 sc__law_choose.nd rfl (by first | exact Or.inl rfl | exact Or.inr rfl) ye_int)
    (yss_cons (ys_for PassesOwn.never rfl (yi_r1 (by rfl) T.n_range (ya_cons (ye_var 1) ya_nil)) (yg_name 3 sc__law_choose.nd rfl (by first | exact Or.inl rfl | exact Or.inr rfl)) (yss_one (ys_set 2 sc__law_choose.nd rfl (by first | exact Or.inl rfl | exact Or.inr rfl) (ye_op op_fdiv sn_fdiv (ye_op op_mul sn_mul (ye_var 2) (ye_op op_sub sn_sub (ye_var 0) (ye_var 3))) (ye_op or_add sn_add (ye_var 3) ye_int)))))
    (yss_one (ys_ret (ye_var 2))))))
theorem ok__law_along (T : Tx K mg A) : FnOk P w K mg base CX0 2 A.a__law_along A.d__law_along ["size", "many"] (spF ⟨K, cm⟩ m__law_along) :=
  fn_ok T.F__law_along sc__law_along (by decide) fun cdv A outer s H E hr => (
    (yss_cons (ys_set 2 sc__law_along.nd rfl (by first | exact Or.inl rfl | exact Or.inr rfl) (ye_disp1 ye_int ye_int))
    (yss_cons (ys_for PassesOwn.never rfl (yi_r3 (by rfl) T.n_range (ya_cons (ye_op op_sub sn_sub (ye_var 0) ye_int) (ya_cons (ye_un un_neg sn_neg ye_int) (ya_cons (ye_un un_neg sn_neg ye_int) ya_nil)))) (yg_name 3 sc__law_along.nd rfl (by first | exact Or.inl rfl | exact Or.inr rfl)) (yss_cons (ys_set 4 sc__law_along.nd rfl (by first | exact Or.inl rfl | exact Or.inr rfl) ye_dnew)
    (yss_cons (ys_lock 2 (ys_for PassesOwn.never rfl (yi_keys (ye_var 2)) (yg_name 5 sc__law_along.nd rfl (by first | exact Or.inl rfl | exact Or.inr rfl)) (yss_one (ys_for PassesOwn.never rfl (yi_r1 (by rfl) T.n_range (ya_cons (ye_op or_add sn_add (ye_op op_sub sn_sub (ye_var 1) (ye_var 5)) ye_int) ya_nil)) (yg_name 6 sc__law_along.nd rfl (by first | exact Or.inl rfl | exact Or.inr rfl)) (yss_cons (ys_set 7 sc__law_along.nd rfl (by first | exact Or.inl rfl | exact Or.inr rfl) (ye_op or_add sn_add (ye_var 5) (ye_var 6)))
    (yss_one (ys_if (yt_cmp or_le sn_le (ye_var 7) (ye_op op_sub sn_sub (ye_var 0) (ye_var 3)) (nomark _)) (yss_one (ys_asg (ye_op or_add sn_add (ye_get2 (hu_of hr) (ye_var 4) (ye_var 7) ye_int ⟨by rfl, by rfl, by rfl, by rfl⟩) (ye_op op_mul sn_mul (ye_dget (hu_of hr) (ye_var 2) (ye_var 5) (fun _ _ => rfl)) (ye_callI (ok__law_choose T) (hr.mono (by decide)) (by rfl) T.g__law_choose T.F__law_choose.kp T.b__law_choose (ya_cons (ye_op op_sub sn_sub (ye_var 1) (ye_var 5)) (ya_cons (ye_var 6) ya_nil))))) (yg_sub (sl := []) (ye_var 4) (ye_var 7) (set_dict (hu_of hr)) sn_setD))) yss_nil)))))))
    (yss_one (ys_set 2 sc__law_along.nd rfl (by first | exact Or.inl rfl | exact Or.inr rfl) (ye_var 4))))))
    (yss_one (ys_ret (ye_get2 (hu_of hr) (ye_var 2) (ye_var 1) ye_int ⟨by rfl, by rfl, by rfl, by rfl⟩))))))
theorem ok__law_all_rows (T : Tx K mg A) : FnOk P w K mg base CX0 1 A.a__law_all_rows A.d__law_all_rows ["size", "many"] (spF ⟨K, cm⟩ m__law_all_rows) :=
  fn_ok T.F__law_all_rows sc__law_all_rows (by decide) fun cdv A outer s H E hr => (
    (yss_cons (ys_set 2 sc__law_all_rows.nd rfl (by first | exact Or.inl rfl | exact Or.inr rfl) (ye_lst (ya_cons (ye_tup ya_nil) ya_nil)))
    (yss_cons (ys_for PassesOwn.never rfl (yi_r1 (by rfl) T.n_range (ya_cons (ye_var 1) ya_nil)) (yg_name 3 sc__law_all_rows.nd rfl (by first | exact Or.inl rfl | exact Or.inr rfl)) (yss_cons (ys_set 4 sc__law_all_rows.nd rfl (by first | exact Or.inl rfl | exact Or.inr rfl) (ye_lst ya_nil))
    (yss_cons (ys_for PassesOwn.never rfl (yi_seq (ye_var 2)) (yg_name 5 sc__law_all_rows.nd rfl (by first | exact Or.inl rfl | exact Or.inr rfl)) (yss_one (ys_set 4 sc__law_all_rows.nd rfl (by first | exact Or.inl rfl | exact Or.inr rfl) (ye_gc (ye_op or_add sn_add (ye_var 4) (ye_lc [("wish", 6)] rfl sc__law_all_rows.nd (yi_r1 (by rfl) T.n_range (ya_cons (ye_var 0) ya_nil)) (blkOk_by (own := [("wish", 6)]) (N := N__law_all_rows) (sc := defScope s__law_all_rows) (by decide +kernel)) (fun _ _ _ _ _ => (yg_name 6 sc__law_all_rows.nd rfl (by first | exact Or.inl rfl | exact Or.inr rfl))) (fun _ _ _ _ _ => yts_nil) (fun _ _ _ _ _ => (ye_op or_add sn_add (ye_var 5) (ye_tup (ya_cons (ye_var 6) ya_nil)))) (by decide)))))))
    (yss_one (ys_set 2 sc__law_all_rows.nd rfl (by first | exact Or.inl rfl | exact Or.inr rfl) (ye_var 4))))))
    (yss_one (ys_ret (ye_var 2))))))
theorem ok__law_outs (T : Tx K mg A) : FnOk P w K mg base CX0 1 A.a__law_outs A.d__law_outs ["size", "wishes"] (spF ⟨K, cm⟩ m__law_outs) :=
  fn_ok T.F__law_outs sc__law_outs (by decide) fun cdv A outer s H E hr => (
    (yss_cons (ys_set 2 sc__law_outs.nd rfl (by first | exact Or.inl rfl | exact Or.inr rfl) ye_int)
    (yss_cons (ys_for PassesOwn.never rfl (yi_r1 (by rfl) T.n_range (ya_cons (ye_var 0) ya_nil)) (yg_name 3 sc__law_outs.nd rfl (by first | exact Or.inl rfl | exact Or.inr rfl)) (yss_one (ys_set 2 sc__law_outs.nd rfl (by first | exact Or.inl rfl | exact Or.inr rfl) (ye_callB (call_max2 rfl) sn_max2 (by rfl) T.n_max (by decide +kernel) (ya_cons ye_int (ya_cons (ye_op op_sub sn_sub (ye_op or_add sn_add (ye_var 2) (ye_met (T := .tuple) PySem.F.plainAttrs_tuple PySem.F.slot_tuple_count PySem.F.type_tuple_count (mt_countT hr.units) sn_countT (ye_var 1) (ya_cons (ye_var 3) ya_nil))) ye_int) ya_nil))))))
    (yss_one (ys_ret (ye_var 2))))))
theorem ok_law (T : Tx K mg A) : FnOk P w K mg base CX0 3 A.a_law A.d_law ["script"] (spF ⟨K, cm⟩ m_law) :=
  fn_ok T.F_law sc_law (by decide) fun cdv A outer s H E hr => (
    (yss_cons (ys_for PassesOwn.never rfl (yi_seq (ye_op or_add sn_add (ye_lst (ya_cons ye_int ya_nil)) (ye_slice or_sl sn_sl (ye_var 0) yo_none (yo_some ye_int)))) (yg_name 1 sc_law.nd rfl (by first | exact Or.inl rfl | exact Or.inr rfl)) (yss_cons (ys_set 2 sc_law.nd rfl (by first | exact Or.inl rfl | exact Or.inr rfl) (ye_call (ok__law_deck T) (hr.mono (by decide)) (by rfl) T.g__law_deck T.F__law_deck.kp T.b__law_deck (ya_cons (ye_var 1) (ya_cons ye_int ya_nil))))
    (yss_cons (ys_set 3 sc_law.nd rfl (by first | exact Or.inl rfl | exact Or.inr rfl) (ye_op or_add sn_add ye_int (ye_call (ok__law_pick T) (hr.mono (by decide)) (by rfl) T.g__law_pick T.F__law_pick.kp T.b__law_pick (ya_cons (ye_var 2) (ya_cons ye_int ya_nil)))))
    (yss_cons (ys_set 4 sc_law.nd rfl (by first | exact Or.inl rfl | exact Or.inr rfl) (ye_call (ok__law_pick T) (hr.mono (by decide)) (by rfl) T.g__law_pick T.F__law_pick.kp T.b__law_pick (ya_cons (ye_var 2) (ya_cons ye_int ya_nil))))
    (yss_cons (ys_setLc 5 [("row", 12)] rfl sc_law.nd rfl rfl (sw_true rfl rfl rfl (by decide +kernel)) (yi_seq (ye_call (ok__law_all_rows T) (hr.mono (by decide)) (by rfl) T.g__law_all_rows T.F__law_all_rows.kp T.b__law_all_rows (ya_cons (ye_var 3) (ya_cons (ye_var 4) ya_nil)))) (blkOk_by (own := [("row", 12)]) (N := N_law) (sc := defScope s_law) (by decide +kernel)) (fun _ _ _ _ _ => (yg_name 12 sc_law.nd rfl (by first | exact Or.inl rfl | exact Or.inr rfl))) (fun _ _ _ _ _ => (yts_one (yt_cmp (op_eqP hr.units) sn_eq (ye_callI (ok__law_outs T) (hr.mono (by decide)) (by rfl) T.g__law_outs T.F__law_outs.kp T.b__law_outs (ya_cons (ye_var 3) (ya_cons (ye_var 12) ya_nil))) ye_int (nomark _)))) (fun _ _ _ _ _ => (ye_var 12)) (by decide))
    (yss_cons (ys_if (yt_cmp (op_neP hr.units) sn_ne (ye_callI (ok_rows_that_seat T) (hr.mono (by decide)) (by rfl) T.g_rows_that_seat T.F_rows_that_seat.kp T.b_rows_that_seat (ya_cons (ye_var 3) (ya_cons ye_bl (ya_cons (ye_var 4) ya_nil)))) (ye_callB cr_len sn_len (by rfl) T.n_len PySem.boot_len (ya_cons (ye_var 5) ya_nil)) (nomark _)) (yss_one (ys_ret ye_bl)) yss_nil)
    (yss_cons (ys_set 6 sc_law.nd rfl (by first | exact Or.inl rfl | exact Or.inr rfl) (ye_op or_add sn_add ye_int (ye_call (ok__law_pick T) (hr.mono (by decide)) (by rfl) T.g__law_pick T.F__law_pick.kp T.b__law_pick (ya_cons (ye_var 2) (ya_cons ye_int ya_nil)))))
    (yss_cons (ys_set 7 sc_law.nd rfl (by first | exact Or.inl rfl | exact Or.inr rfl) (ye_call (ok__law_pick T) (hr.mono (by decide)) (by rfl) T.g__law_pick T.F__law_pick.kp T.b__law_pick (ya_cons (ye_var 2) (ya_cons (ye_op or_add sn_add (ye_var 6) ye_int) ya_nil))))
    (yss_cons (ys_if (yt_cmp (op_neP hr.units) sn_ne (ye_callI (ok_rows_that_seat T) (hr.mono (by decide)) (by rfl) T.g_rows_that_seat T.F_rows_that_seat.kp T.b_rows_that_seat (ya_cons (ye_var 6) (ya_cons ye_bl (ya_cons (ye_var 7) ya_nil)))) (ye_callI (ok__law_along T) (hr.mono (by decide)) (by rfl) T.g__law_along T.F__law_along.kp T.b__law_along (ya_cons (ye_var 6) (ya_cons (ye_var 7) ya_nil))) (nomark _)) (yss_one (ys_ret ye_bl)) yss_nil)
    (yss_cons (ys_set 8 sc_law.nd rfl (by first | exact Or.inl rfl | exact Or.inr rfl) (ye_op or_add sn_add ye_int (ye_call (ok__law_pick T) (hr.mono (by decide)) (by rfl) T.g__law_pick T.F__law_pick.kp T.b__law_pick (ya_cons (ye_var 2) (ya_cons ye_int ya_nil)))))
    (yss_cons (ys_set 9 sc_law.nd rfl (by first | exact Or.inl rfl | exact Or.inr rfl) (ye_call (ok__law_pick T) (hr.mono (by decide)) (by rfl) T.g__law_pick T.F__law_pick.kp T.b__law_pick (ya_cons (ye_var 2) (ya_cons (ye_op or_add sn_add (ye_var 8) ye_int) ya_nil))))
    (yss_cons (ys_set 10 sc_law.nd rfl (by first | exact Or.inl rfl | exact Or.inr rfl) ye_int)
    (yss_cons (ys_for PassesOwn.never rfl (yi_r1 (by rfl) T.n_range (ya_cons (ye_var 9) ya_nil)) (yg_name 11 sc_law.nd rfl (by first | exact Or.inl rfl | exact Or.inr rfl)) (yss_one (ys_set 10 sc_law.nd rfl (by first | exact Or.inl rfl | exact Or.inr rfl) (ye_op op_mul sn_mul (ye_var 10) (ye_var 8)))))
    (yss_cons (ys_if (PW.pt (yw_or (yt_cmp (op_neP hr.units) sn_ne (ye_callI (ok_rows_that_seat T) (hr.mono (by decide)) (by rfl) T.g_rows_that_seat T.F_rows_that_seat.kp T.b_rows_that_seat (ya_cons (ye_var 8) (ya_cons ye_bl (ya_cons (ye_var 9) ya_nil)))) (ye_var 10) (nomark _)) (yw_oner (yt_cmp (op_neP hr.units) sn_ne (ye_callI (ok_rows_that_seat T) (hr.mono (by decide)) (by rfl) T.g_rows_that_seat T.F_rows_that_seat.kp T.b_rows_that_seat (ya_cons (ye_var 8) (ya_cons ye_bl (ya_cons (ye_op or_add sn_add (ye_var 8) ye_int) ya_nil)))) ye_int (nomark _))))) (yss_one (ys_ret ye_bl)) yss_nil)
    (yss_cons (ys_if (PW.pt (yw_or (yt_cmp op_gt sn_gt (ye_callI (ok_rows_that_seat T) (hr.mono (by decide)) (by rfl) T.g_rows_that_seat T.F_rows_that_seat.kp T.b_rows_that_seat (ya_cons (ye_var 8) (ya_cons ye_bl (ya_cons (ye_var 9) ya_nil)))) (ye_var 10) (nomark _)) (yw_oner (yt_cmp (op_neP hr.units) sn_ne (ye_callI (ok_rows_that_seat T) (hr.mono (by decide)) (by rfl) T.g_rows_that_seat T.F_rows_that_seat.kp T.b_rows_that_seat (ya_cons (ye_var 8) (ya_cons ye_bl (ya_cons (ye_op or_add sn_add (ye_var 8) ye_int) ya_nil)))) ye_int (nomark _))))) (yss_one (ys_ret ye_bl)) yss_nil)
    (yss_cons (ys_set 10 sc_law.nd rfl (by first | exact Or.inl rfl | exact Or.inr rfl) (ye_op op_sub sn_sub (ye_op or_add sn_add (ye_var 8) ye_int) (ye_var 9)))
    (yss_cons (ys_for PassesOwn.never rfl (yi_r1 (by rfl) T.n_range (ya_cons (ye_op op_sub sn_sub (ye_var 9) ye_int) ya_nil)) (yg_name 11 sc_law.nd rfl (by first | exact Or.inl rfl | exact Or.inr rfl)) (yss_one (ys_set 10 sc_law.nd rfl (by first | exact Or.inl rfl | exact Or.inr rfl) (ye_op op_mul sn_mul (ye_var 10) (ye_op or_add sn_add (ye_var 8) ye_int)))))
    (yss_cons (ys_if (yt_cmp (op_neP hr.units) sn_ne (ye_callI (ok_rows_that_seat T) (hr.mono (by decide)) (by rfl) T.g_rows_that_seat T.F_rows_that_seat.kp T.b_rows_that_seat (ya_cons (ye_var 8) (ya_cons ye_bl (ya_cons (ye_var 9) ya_nil)))) (ye_if (yt_cmp op_gt sn_gt (ye_var 9) ye_int (nomark _)) (ye_var 10) ye_int) (nomark _)) (yss_one (ys_ret ye_bl)) yss_nil)
    (yss_cons (ys_set 10 sc_law.nd rfl (by first | exact Or.inl rfl | exact Or.inr rfl) ye_int)
    (yss_cons (ys_for PassesOwn.never rfl (yi_r1 (by rfl) T.n_range (ya_cons (ye_op op_sub sn_sub (ye_var 8) ye_int) ya_nil)) (yg_name 11 sc_law.nd rfl (by first | exact Or.inl rfl | exact Or.inr rfl)) (yss_one (ys_set 10 sc_law.nd rfl (by first | exact Or.inl rfl | exact Or.inr rfl) (ye_op op_mul sn_mul (ye_var 10) (ye_op or_add sn_add (ye_var 8) ye_int)))))
    (yss_one (ys_if (PW.pt (yw_or (yt_cmp (op_neP hr.units) sn_ne (ye_callI (ok_rows_that_seat T) (hr.mono (by decide)) (by rfl) T.g_rows_that_seat T.F_rows_that_seat.kp T.b_rows_that_seat (ya_cons (ye_var 8) (ya_cons ye_bl (ya_cons (ye_var 8) ya_nil)))) (ye_var 10) (nomark _)) (yw_oner (yt_cmp (op_neP hr.units) sn_ne (ye_callI (ok_rows_that_seat T) (hr.mono (by decide)) (by rfl) T.g_rows_that_seat T.F_rows_that_seat.kp T.b_rows_that_seat (ya_cons (ye_var 8) (ya_cons ye_bl (ya_cons ye_int ya_nil)))) ye_int (nomark _))))) (yss_one (ys_ret ye_bl)) yss_nil))))))))))))))))))))))
    (yss_one (ys_ret ye_bl))))
end
theorem all_mk {l : PySem.W.OpenLaw} {w : World} {K : PySem.W.Frag} {h : Heap} {mg : Str → Option Value} {fa : Addr} (X : K.In h) (G : h.Ns mainGlobals mg) (hfa : mg "law" = some (.ref fa))
    {od0 an0 od1 an1 od2 an2 od3 an3 od4 an4 od5 an5 od6 an6 od7 an7 : Option Addr} {sl0 sl1 sl2 sl3 sl4 sl5 sl6 sl7 : Array (Option Value)} {oc0 kV0 dc0 pm0 cd0 ct0 oc1 kV1 dc1 pm1 cd1 ct1 oc2 kV2 dc2 pm2 cd2 ct2 oc3 kV3 dc3 pm3 cd3 ct3 oc4 kV4 dc4 pm4 cd4 ct4 oc5 kV5 dc5 pm5 cd5 ct5 oc6 kV6 dc6 pm6 cd6 ct6 oc7 kV7 dc7 pm7 cd7 ct7 : Value} {f0 f1 f2 f3 f4 f5 f6 f7 : Addr}
    (a0 : PySem.W.nsIn K mainGlobals "_law_deck" = some (some (.ref f0))) (l0 : K.lookup f0 = some ⟨oc0, od0, .func (PySem.W.fnOf "_law_deck" "_law_deck" (defArgs s__law_deck) (defBody s__law_deck) (defScope s__law_deck) .none kV0 dc0 pm0 an0 cd0 ct0), sl0⟩) (c0 : PySem.W.codeIn K cd0 "_law_deck" = true) (k0 : PySem.W.keepIn K (.ref f0) = true)
    (a1 : PySem.W.nsIn K mainGlobals "_law_pick" = some (some (.ref f1))) (l1 : K.lookup f1 = some ⟨oc1, od1, .func (PySem.W.fnOf "_law_pick" "_law_pick" (defArgs s__law_pick) (defBody s__law_pick) (defScope s__law_pick) .none kV1 dc1 pm1 an1 cd1 ct1), sl1⟩) (c1 : PySem.W.codeIn K cd1 "_law_pick" = true) (k1 : PySem.W.keepIn K (.ref f1) = true)
    (a2 : PySem.W.nsIn K mainGlobals "rows_that_seat" = some (some (.ref f2))) (l2 : K.lookup f2 = some ⟨oc2, od2, .func (PySem.W.fnOf "rows_that_seat" "rows_that_seat" (defArgs s_rows_that_seat) (defBody s_rows_that_seat) (defScope s_rows_that_seat) .none kV2 dc2 pm2 an2 cd2 ct2), sl2⟩) (c2 : PySem.W.codeIn K cd2 "rows_that_seat" = true) (k2 : PySem.W.keepIn K (.ref f2) = true)
    (a3 : PySem.W.nsIn K mainGlobals "_law_choose" = some (some (.ref f3))) (l3 : K.lookup f3 = some ⟨oc3, od3, .func (PySem.W.fnOf "_law_choose" "_law_choose" (defArgs s__law_choose) (defBody s__law_choose) (defScope s__law_choose) .none kV3 dc3 pm3 an3 cd3 ct3), sl3⟩) (c3 : PySem.W.codeIn K cd3 "_law_choose" = true) (k3 : PySem.W.keepIn K (.ref f3) = true)
    (a4 : PySem.W.nsIn K mainGlobals "_law_along" = some (some (.ref f4))) (l4 : K.lookup f4 = some ⟨oc4, od4, .func (PySem.W.fnOf "_law_along" "_law_along" (defArgs s__law_along) (defBody s__law_along) (defScope s__law_along) .none kV4 dc4 pm4 an4 cd4 ct4), sl4⟩) (c4 : PySem.W.codeIn K cd4 "_law_along" = true) (k4 : PySem.W.keepIn K (.ref f4) = true)
    (a5 : PySem.W.nsIn K mainGlobals "_law_all_rows" = some (some (.ref f5))) (l5 : K.lookup f5 = some ⟨oc5, od5, .func (PySem.W.fnOf "_law_all_rows" "_law_all_rows" (defArgs s__law_all_rows) (defBody s__law_all_rows) (defScope s__law_all_rows) .none kV5 dc5 pm5 an5 cd5 ct5), sl5⟩) (c5 : PySem.W.codeIn K cd5 "_law_all_rows" = true) (k5 : PySem.W.keepIn K (.ref f5) = true)
    (a6 : PySem.W.nsIn K mainGlobals "_law_outs" = some (some (.ref f6))) (l6 : K.lookup f6 = some ⟨oc6, od6, .func (PySem.W.fnOf "_law_outs" "_law_outs" (defArgs s__law_outs) (defBody s__law_outs) (defScope s__law_outs) .none kV6 dc6 pm6 an6 cd6 ct6), sl6⟩) (c6 : PySem.W.codeIn K cd6 "_law_outs" = true) (k6 : PySem.W.keepIn K (.ref f6) = true)
    (a7 : PySem.W.nsIn K mainGlobals "law" = some (some (.ref f7))) (l7 : K.lookup f7 = some ⟨oc7, od7, .func (PySem.W.fnOf "law" "law" (defArgs s_law) (defBody s_law) (defScope s_law) .none kV7 dc7 pm7 an7 cd7 ct7), sl7⟩) (c7 : PySem.W.codeIn K cd7 "law" = true) (k7 : PySem.W.keepIn K (.ref f7) = true)
    (z_len : PySem.W.nsIn K mainGlobals "len" = some none)
    (z_max : PySem.W.nsIn K mainGlobals "max" = some none)
    (z_range : PySem.W.nsIn K mainGlobals "range" = some none) :
    ∃ fd : FuncData, (∀ (s : Shared) (v : Value), BindsTo s fd ⟨[v], []⟩ [("script", v)]) ∧ ∀ base : Heap, K.In base → base.Ns mainGlobals mg → FnOk l.prog w K mg base CX0 3 fa fd ["script"] (spF ⟨K, fun _ => 0⟩ m_law) := by
  have e := hfa.symm.trans (PySem.W.mg_of X G a7)
  cases e
  have F0 := fun_mk (st := s__law_deck) l0 c0 k0
  have b0 := F0.binds (ps := ["cell", "turn"]) fun _ _ _ _ _ _ us hl => match us, hl with | [_, _], _ => rfl
  have F1 := fun_mk (st := s__law_pick) l1 c1 k1
  have b1 := F1.binds (ps := ["deck", "limit"]) fun _ _ _ _ _ _ us hl => match us, hl with | [_, _], _ => rfl
  have F2 := fun_mk (st := s_rows_that_seat) l2 c2 k2
  have b2 := F2.binds (ps := ["size", "ring", "many"]) fun _ _ _ _ _ _ us hl => match us, hl with | [_, _, _], _ => rfl
  have F3 := fun_mk (st := s__law_choose) l3 c3 k3
  have b3 := F3.binds (ps := ["size", "many"]) fun _ _ _ _ _ _ us hl => match us, hl with | [_, _], _ => rfl
  have F4 := fun_mk (st := s__law_along) l4 c4 k4
  have b4 := F4.binds (ps := ["size", "many"]) fun _ _ _ _ _ _ us hl => match us, hl with | [_, _], _ => rfl
  have F5 := fun_mk (st := s__law_all_rows) l5 c5 k5
  have b5 := F5.binds (ps := ["size", "many"]) fun _ _ _ _ _ _ us hl => match us, hl with | [_, _], _ => rfl
  have F6 := fun_mk (st := s__law_outs) l6 c6 k6
  have b6 := F6.binds (ps := ["size", "wishes"]) fun _ _ _ _ _ _ us hl => match us, hl with | [_, _], _ => rfl
  have F7 := fun_mk (st := s_law) l7 c7 k7
  have b7 := F7.binds (ps := ["script"]) fun _ _ _ _ _ _ us hl => match us, hl with | [_], _ => rfl
  exact ⟨_, fun s v => .of_eq rfl, fun base _ _ => ok_law (A := ⟨f0, _, f1, _, f2, _, f3, _, f4, _, f5, _, f6, _, fa, _⟩) ⟨F0, PySem.W.mg_of X G a0, b0, F1, PySem.W.mg_of X G a1, b1, F2, PySem.W.mg_of X G a2, b2, F3, PySem.W.mg_of X G a3, b3, F4, PySem.W.mg_of X G a4, b4, F5, PySem.W.mg_of X G a5, b5, F6, PySem.W.mg_of X G a6, b6, F7, PySem.W.mg_of X G a7, b7, PySem.W.mg_none_of X G z_len, PySem.W.mg_none_of X G z_max, PySem.W.mg_none_of X G z_range⟩⟩
end K09
set_option Elab.async false
set_option linter.all false
set_option maxRecDepth 100000
set_option maxHeartbeats 4000000
open PySem PySem.W PyProof.Rows
set_option maxHeartbeats 0 in
theorem PySem.Challenge.cw_yieldseats_k09_whole_how_many_rows_seat_holds : PySem.Challenge.rw_yieldseats_k09_whole_how_many_rows_seat.Holds := by
  w_on; o_law; k_head; (case hw => w_witness2)
  k_fill
  refine L2.walk_of (l := PySem.Challenge.rw_yieldseats_k09_whole_how_many_rows_seat) (n := 63) (k := 3) (x := "script") (CX := fun _ => L2.CX0) (sp := fun w => Y.spF ⟨_, fun _ => 0⟩ K09.m_law) rfl (by decide) rfl ⟨rfl, by decide, by decide⟩ (fun w h Y => PySem.W.kIn_of Y) ?F (fun _ _ a ns hl hO hS => Y.law_in (K09.law_true ns hl) hO hS) (fun _ _ _ _ _ h => h)
  case F =>
    intro w mg fa h KX G hmg
    refine' K09.all_mk KX G hmg ?a0 ?l0 ?c0 ?k0 ?a1 ?l1 ?c1 ?k1 ?a2 ?l2 ?c2 ?k2 ?a3 ?l3 ?c3 ?k3 ?a4 ?l4 ?c4 ?k4 ?a5 ?l5 ?c5 ?k5 ?a6 ?l6 ?c6 ?k6 ?a7 ?l7 ?c7 ?k7 ?z_len ?z_max ?z_range
    (case a0 => k_is)
    (case l0 => k_is)
    (case c0 => k_is)
    (case k0 => k_is)
    (case a1 => k_is)
    (case l1 => k_is)
    (case c1 => k_is)
    (case k1 => k_is)
    (case a2 => k_is)
    (case l2 => k_is)
    (case c2 => k_is)
    (case k2 => k_is)
    (case a3 => k_is)
    (case l3 => k_is)
    (case c3 => k_is)
    (case k3 => k_is)
    (case a4 => k_is)
    (case l4 => k_is)
    (case c4 => k_is)
    (case k4 => k_is)
    (case a5 => k_is)
    (case l5 => k_is)
    (case c5 => k_is)
    (case k5 => k_is)
    (case a6 => k_is)
    (case l6 => k_is)
    (case c6 => k_is)
    (case k6 => k_is)
    (case a7 => k_is)
    (case l7 => k_is)
    (case c7 => k_is)
    (case k7 => k_is)
    (case z_len => k_is)
    (case z_max => k_is)
    (case z_range => k_is)
