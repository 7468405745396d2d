import PyProof.Rows.All
import Wide.All
import OpenK.AllK
import Wide.FinOn
import HandS.ForMost
import HandS.TupAny
import HandS.TupMul
import HandS.Conv
import KE.KDictDisplayH
import HandS.Lambda
import HandS.Style
import KE.DataFind
import KE.DataEq
import HandS.More
import HandS.Small
import KE.DataCmp
import KE.SortData
import KE.GoesMore
import HandS.IsInst
import HandS.Zip
import KE.DataMinMax
import HandS.OwnEq
import OpenK.KOps
import HandS.DictTup
import HandS.DictComp
import KE.GoesEnum
import KE.KUnpack
import HandS.HotCalls
import HandS.Iter
import HandS.ExcIs
import HandS.EndOwn
import KE.RegKIsAll
import KE.RegKTryMore
import HandS.Strs
import PyProof.ReprRoads
import PyProof.ReprLen
import PySem.Challenge.RW_yieldseats_k01_whole_who_sits_where
set_option Elab.async false
set_option linter.all false
set_option maxRecDepth 100000
/-! Y1: abstract values, the store, the monad: what the program's text means, executable, without heap or addresses -/
namespace Y
open PySem

inductive AV where
  | non | bl (b : Bool) | int (i : Int) | str (s : Str) | tup (xs : List AV) | loc (n : Nat)
  /-- a list that is known to stand as it is -/
  | frl (xs : List AV)
  /-- a tuple that an iterator hands out -/
  | tmp (xs : List AV)
deriving Inhabited

mutual
def AV.beq : AV → AV → Bool
  | .non, .non => true
  | .bl a, .bl b => a == b
  | .int a, .int b => a == b
  | .str a, .str b => decide (a = b)
  | .tup xs, .tup ys => AV.beqL xs ys
  | .loc a, .loc b => a == b
  | .frl xs, .frl ys => AV.beqL xs ys
  | .tmp xs, .tmp ys => AV.beqL xs ys
  | _, _ => false
def AV.beqL : List AV → List AV → Bool
  | [], [] => true
  | x :: xs, y :: ys => AV.beq x y && AV.beqL xs ys
  | _, _ => false
end
mutual
theorem AV.beq_refl : ∀ v : AV, AV.beq v v = true
  | .non => rfl
  | .bl b => by simp [AV.beq]
  | .int i => by simp [AV.beq]
  | .str s => by simp [AV.beq]
  | .tup xs => by rw [AV.beq]; exact AV.beqL_refl xs
  | .loc n => by simp [AV.beq]
  | .frl xs => by rw [AV.beq]; exact AV.beqL_refl xs
  | .tmp xs => by rw [AV.beq]; exact AV.beqL_refl xs
theorem AV.beqL_refl : ∀ v : List AV, AV.beqL v v = true
  | [] => rfl
  | x :: xs => by rw [AV.beqL, AV.beq_refl x, AV.beqL_refl xs]; rfl
end
mutual
theorem AV.beq_eq : ∀ v w : AV, AV.beq v w = true → v = w
  | .non, .non, _ => rfl
  | .bl a, .bl b, h => by simp [AV.beq] at h; rw [h]
  | .int a, .int b, h => by simp [AV.beq] at h; rw [h]
  | .str a, .str b, h => by simp [AV.beq] at h; rw [h]
  | .tup xs, .tup ys, h => by rw [AV.beq] at h; rw [AV.beqL_eq xs ys h]
  | .frl xs, .frl ys, h => by rw [AV.beq] at h; rw [AV.beqL_eq xs ys h]
  | .loc a, .loc b, h => by simp [AV.beq] at h; rw [h]
  | .tmp xs, .tmp ys, h => by rw [AV.beq] at h; rw [AV.beqL_eq xs ys h]
  | .non, .bl _, h | .non, .int _, h | .non, .str _, h | .non, .tup _, h | .non, .loc _, h | .non, .frl _, h | .non, .tmp _, h => by simp [AV.beq] at h
  | .bl _, .non, h | .bl _, .int _, h | .bl _, .str _, h | .bl _, .tup _, h | .bl _, .loc _, h | .bl _, .frl _, h | .bl _, .tmp _, h => by simp [AV.beq] at h
  | .int _, .non, h | .int _, .bl _, h | .int _, .str _, h | .int _, .tup _, h | .int _, .loc _, h | .int _, .frl _, h | .int _, .tmp _, h => by simp [AV.beq] at h
  | .str _, .non, h | .str _, .bl _, h | .str _, .int _, h | .str _, .tup _, h | .str _, .loc _, h | .str _, .frl _, h | .str _, .tmp _, h => by simp [AV.beq] at h
  | .tup _, .non, h | .tup _, .bl _, h | .tup _, .int _, h | .tup _, .str _, h | .tup _, .loc _, h | .tup _, .frl _, h | .tup _, .tmp _, h => by simp [AV.beq] at h
  | .loc _, .non, h | .loc _, .bl _, h | .loc _, .int _, h | .loc _, .str _, h | .loc _, .tup _, h | .loc _, .frl _, h | .loc _, .tmp _, h => by simp [AV.beq] at h
  | .frl _, .non, h | .frl _, .bl _, h | .frl _, .int _, h | .frl _, .str _, h | .frl _, .tup _, h | .frl _, .loc _, h | .frl _, .tmp _, h => by simp [AV.beq] at h
  | .tmp _, .non, h | .tmp _, .bl _, h | .tmp _, .int _, h | .tmp _, .str _, h | .tmp _, .tup _, h | .tmp _, .loc _, h | .tmp _, .frl _, h => by simp [AV.beq] at h
theorem AV.beqL_eq : ∀ v w : List AV, AV.beqL v w = true → v = w
  | [], [], _ => rfl
  | x :: xs, y :: ys, h => by
    rw [AV.beqL, Bool.and_eq_true] at h
    rw [AV.beq_eq x y h.1, AV.beqL_eq xs ys h.2]
  | [], _ :: _, h => by simp [AV.beqL] at h
  | _ :: _, [], h => by simp [AV.beqL] at h
end
instance : BEq AV := ⟨AV.beq⟩
instance : LawfulBEq AV where
  eq_of_beq := fun {a b} h => AV.beq_eq a b h
  rfl := fun {a} => AV.beq_refl a
instance : DecidableEq AV := fun a b => if h : AV.beq a b = true then .isTrue (AV.beq_eq a b h) else .isFalse fun e => h (by rw [e]; exact AV.beq_refl b)

/-! ### the objects that a value points at -/
mutual
/-- all below n -/
def AV.under (n : Nat) : AV → Bool
  | .loc k => decide (k < n)
  | .tup xs => AV.underL n xs
  | .frl xs => AV.underL n xs
  | .tmp xs => AV.underL n xs
  | _ => true
def AV.underL (n : Nat) : List AV → Bool
  | [] => true
  | x :: xs => AV.under n x && AV.underL n xs
end
mutual
def AV.locs : AV → List Nat
  | .loc k => [k]
  | .tup xs => AV.locsL xs
  | .frl xs => AV.locsL xs
  | .tmp xs => AV.locsL xs
  | _ => []
def AV.locsL : List AV → List Nat
  | [] => []
  | x :: xs => AV.locs x ++ AV.locsL xs
end
mutual
/-- pointing elsewhere -/
def AV.ren (f : Nat → Option Nat) : AV → Option AV
  | .loc k => (f k).map AV.loc
  | .tup xs => (AV.renL f xs).map AV.tup
  | .frl xs => (AV.renL f xs).map AV.frl
  | .tmp xs => (AV.renL f xs).map AV.tmp
  | .non => some .non
  | .bl b => some (.bl b)
  | .int i => some (.int i)
  | .str s => some (.str s)
def AV.renL (f : Nat → Option Nat) : List AV → Option (List AV)
  | [] => some []
  | x :: xs => match AV.ren f x, AV.renL f xs with
    | some y, some ys => some (y :: ys)
    | _, _ => none
end

/-- what stands in the store -/
inductive Ob where
  | lst (xs : List AV)
  /-- a dict; one that is read alone (a loop walks it) -/
  | dct (kvs : List (AV × AV)) | fdc (kvs : List (AV × AV))
  /-- an instance of the class of that number -/
  | ins (c : Nat) (fs : List (Str × AV))
  /-- a dict whose keys are tuples, nested ones too; one that is read alone from now on -/
  | kdc (kvs : List (AV × AV)) | fkd (kvs : List (AV × AV))
  /-- an exception that was caught, of the class of that number -/
  | exc (c : Nat)
deriving Inhabited
abbrev Sto := List Ob
def Ob.vals : Ob → List AV
  | .lst xs => xs
  | .dct kvs => kvs.map (·.2)
  | .fdc kvs => kvs.map (·.2)
  | .ins _ fs => fs.map (·.2)
  | .kdc kvs => kvs.map (·.1) ++ kvs.map (·.2)
  | .fkd kvs => kvs.map (·.1) ++ kvs.map (·.2)
  | .exc _ => []
def Ob.under (n : Nat) (o : Ob) : Bool := AV.underL n o.vals
def Ob.beq : Ob → Ob → Bool
  | .lst xs, .lst ys => xs == ys
  | .dct xs, .dct ys => xs == ys
  | .fdc xs, .fdc ys => xs == ys
  | .ins c xs, .ins d ys => c == d && decide (xs = ys)
  | .kdc xs, .kdc ys => xs == ys
  | .fkd xs, .fkd ys => xs == ys
  | .exc c, .exc d => c == d
  | _, _ => false
theorem Ob.beq_refl : ∀ o : Ob, Ob.beq o o = true
  | .lst xs => by simp [Ob.beq]
  | .dct xs => by simp [Ob.beq]
  | .fdc xs => by simp [Ob.beq]
  | .ins c fs => by simp [Ob.beq]
  | .kdc xs => by simp [Ob.beq]
  | .fkd xs => by simp [Ob.beq]
  | .exc c => by simp [Ob.beq]
theorem Ob.beq_eq (o u : Ob) (h : Ob.beq o u = true) : o = u := by
  cases o <;> cases u <;> simp_all [Ob.beq]
instance : BEq Ob := ⟨Ob.beq⟩
instance : LawfulBEq Ob where
  eq_of_beq := fun {a b} h => Ob.beq_eq a b h
  rfl := fun {a} => Ob.beq_refl a

/-! ### the monad -/
/-- an exception: its class's name, its fields -/
structure Xn where
  cls : Str
  fs : List AV
inductive R (α : Type) where
  | ok (a : α) (st : Sto)
  | ex (e : Xn) (st : Sto)
  | bad
abbrev Ev := List (Option AV)
inductive Fl where
  | nx (env : Ev) (st : Sto)
  | rt (v : AV) (st : Sto)
  | bk (env : Ev) (st : Sto)
  | ct (env : Ev) (st : Sto)
  | ex (e : Xn) (st : Sto)
  | bad
abbrev ME := Ev → Sto → R AV
abbrev MT := Ev → Sto → R Bool
abbrev MA := Ev → Sto → R (List AV)
abbrev MS := Ev → Sto → Fl
abbrev MG := AV → Ev → Sto → R Ev
def R.bind {α β : Type} (r : R α) (f : α → Sto → R β) : R β := match r with
  | .ok a st => f a st
  | .ex e st => .ex e st
  | .bad => .bad
def R.toFl {α : Type} (r : R α) (f : α → Sto → Fl) : Fl := match r with
  | .ok a st => f a st
  | .ex e st => .ex e st
  | .bad => .bad
@[simp] theorem R.bind_ok {α β : Type} (a : α) (st : Sto) (f : α → Sto → R β) : (R.ok a st).bind f = f a st := rfl
@[simp] theorem R.bind_ex {α β : Type} (e : Xn) (st : Sto) (f : α → Sto → R β) : (R.ex e st).bind f = .ex e st := rfl
@[simp] theorem R.bind_bad {α β : Type} (f : α → Sto → R β) : (R.bad : R α).bind f = .bad := rfl
@[simp] theorem R.toFl_ok {α : Type} (a : α) (st : Sto) (f : α → Sto → Fl) : (R.ok a st).toFl f = f a st := rfl
@[simp] theorem R.toFl_ex {α : Type} (e : Xn) (st : Sto) (f : α → Sto → Fl) : (R.ex e st).toFl f = .ex e st := rfl
@[simp] theorem R.toFl_bad {α : Type} (f : α → Sto → Fl) : (R.bad : R α).toFl f = .bad := rfl

/-! ### cleaning up: what an expression made and nobody holds is forgotten -/
/-- what stood below stands, or points below -/
def oldOk (n : Nat) : Sto → Sto → Bool
  | [], _ => true
  | o :: r, o' :: r' => (Ob.beq o o' || o'.under n) && oldOk n r r'
  | _ :: _, [] => false
def addNew (n : Nat) (ks : List Nat) : List Nat → List Nat
  | [] => ks
  | k :: r => if n ≤ k && !ks.contains k then addNew n (ks ++ [k]) r else addNew n ks r
def reach (n : Nat) (st : Sto) : Nat → List Nat → List Nat
  | 0, ks => ks
  | f + 1, ks => reach n st f (addNew n ks (ks.flatMap fun k => match st[k]? with | some o => AV.locsL o.vals | none => []))
def place (n : Nat) (ks : List Nat) (k : Nat) : Option Nat := if k < n then some k else (ks.idxOf? k).map (n + ·)
def Ob.ren (f : Nat → Option Nat) : Ob → Option Ob
  | .lst xs => (AV.renL f xs).map Ob.lst
  | .dct kvs => (AV.renL f (kvs.map (·.2))).map fun vs => .dct ((kvs.map (·.1)).zip vs)
  | .fdc _ => none
  | .ins c fs => (AV.renL f (fs.map (·.2))).map fun vs => .ins c ((fs.map (·.1)).zip vs)
  | .kdc kvs => if AV.renL f (kvs.map (·.1)) = some (kvs.map (·.1)) then (AV.renL f (kvs.map (·.2))).map fun vs => .kdc ((kvs.map (·.1)).zip vs) else none
  | .fkd _ => none
  | .exc c => some (.exc c)
def nodupB : List Nat → Bool
  | [] => true
  | k :: r => !r.contains k && nodupB r
def mapO {α β : Type} (f : α → Option β) : List α → Option (List β)
  | [] => some []
  | x :: xs => match f x, mapO f xs with
    | some y, some ys => some (y :: ys)
    | _, _ => none
def gc (st0 : Sto) (r : R AV) : R AV := match r with
  | .ok v st =>
    let n := st0.length
    if st.length = n then .ok v st else
    let ks := reach n st 3 (addNew n [] v.locs)
    if oldOk n st0 st && nodupB ks && ks.all (fun k => decide (n ≤ k)) then
      match AV.ren (place n ks) v, mapO (fun k => st[k]?.bind (Ob.ren (place n ks))) ks with
      | some v', some os => .ok v' (st.take n ++ os)
      | _, _ => .bad
    else .bad
  | .ex e st => .ex e st
  | .bad => .bad
def mGc (m : ME) : ME := fun env st => gc st (m env st)

/-! ### expressions -/
def mVar (i : Nat) : ME := fun env st => match env[i]? with
  | some (some v) => .ok v st
  | _ => .bad
def mC (v : AV) : ME := fun _ st => .ok v st
abbrev O2 := AV → AV → Sto → R AV
abbrev O1 := AV → Sto → R AV
abbrev ON := List AV → Sto → R AV
def mOp (o : O2) (a b : ME) : ME := fun env st => (a env st).bind fun x st => (b env st).bind fun y st => o x y st
def mUn (o : O1) (a : ME) : ME := fun env st => (a env st).bind fun x st => o x st
def mIf (c : MT) (a b : ME) : ME := fun env st => (c env st).bind fun k st => if k then a env st else b env st
def maNil : MA := fun _ st => .ok [] st
def maCons (a : ME) (b : MA) : MA := fun env st => (a env st).bind fun x st => (b env st).bind fun xs st => .ok (x :: xs) st
def mN (f : ON) (a : MA) : ME := fun env st => (a env st).bind fun xs st => f xs st
def LIM : Nat := 16777216
def oTup : ON := fun xs st => if xs.length ≤ LIM then .ok (.tup xs) st else .bad
def oLst : ON := fun xs st => if xs.length ≤ LIM then .ok (.loc st.length) (st ++ [.lst xs]) else .bad

/-! ### tests -/
def mtV (a : ME) : MT := fun env st => (a env st).bind fun x st => match x with
  | .bl b => .ok b st
  | _ => .bad
def mtAnd (a b : MT) : MT := fun env st => (a env st).bind fun k st => if k then b env st else .ok false st
def mtOr (a b : MT) : MT := fun env st => (a env st).bind fun k st => if k then .ok true st else b env st
def mtNot (a : MT) : MT := fun env st => (a env st).bind fun k st => .ok (!k) st
/-- .. as values -/
def mAndV (a b : ME) : ME := fun env st => (a env st).bind fun x st => match x with
  | .bl k => if k then b env st else .ok (.bl false) st
  | _ => .bad
def mOrV (a b : ME) : ME := fun env st => (a env st).bind fun x st => match x with
  | .bl k => if k then .ok (.bl true) st else b env st
  | _ => .bad
def mNotV (a : ME) : ME := fun env st => (a env st).bind fun x st => match x with
  | .bl k => .ok (.bl (!k)) st
  | _ => .bad
def mChain (r r' : O2) (a b c : ME) : ME := fun env st => (a env st).bind fun x st => (b env st).bind fun y st => (r x y st).bind fun z st => match z with
  | .bl k => if k then (c env st).bind fun w st => r' y w st else .ok (.bl false) st
  | _ => .bad

/-! ### statements -/
def msSeq (a b : MS) : MS := fun env st => match a env st with
  | .nx env st => b env st
  | f => f
def msNext : MS := fun env st => .nx env st
def msExpr (a : ME) : MS := fun env st => (a env st).toFl fun _ st => .nx env st
def msRet (a : ME) : MS := fun env st => (a env st).toFl fun v st => .rt v st
def msRetN : MS := fun _ st => .rt .non st
def msIf (c : MT) (a b : MS) : MS := fun env st => (c env st).toFl fun k st => if k then a env st else b env st
def msAsg (a : ME) (g : MG) : MS := fun env st => (a env st).toFl fun v st => (g v env st).toFl fun env st => .nx env st
def msAug (i : Nat) (o : O2) (a : ME) : MS := fun env st => match env[i]? with
  | some (some x) => (a env st).toFl fun y st => (o x y st).toFl fun z st => .nx (env.set i (some z)) st
  | _ => .bad
def setAll : List Nat → List AV → Ev → Option Ev
  | [], [], env => some env
  | i :: is, v :: vs, env => setAll is vs (env.set i (some v))
  | _, _, _ => none
/-- a, b = e1, e2: no tuple is made -/
def msPar (is : List Nat) (a : MA) : MS := fun env st => (a env st).toFl fun vs st => match setAll is vs env with
  | some env => .nx env st
  | none => .bad
def msBreak : MS := fun env st => .bk env st
def msCont : MS := fun env st => .ct env st
def msRaise (c : Str) : MS := fun _ st => .ex ⟨c, []⟩ st
def msRaise1 (c : Str) (v : AV) : MS := fun _ st => .ex ⟨c, [v]⟩ st

/-! ### targets -/
def mgName (i : Nat) : MG := fun v env st => .ok (env.set i (some v)) st
def mgs : List MG → List AV → Ev → Sto → R Ev
  | [], [], env, st => .ok env st
  | g :: gs, v :: vs, env, st => (g v env st).bind fun env st => mgs gs vs env st
  | _, _, _, _ => .bad
def mgTup (gs : List MG) : MG := fun v env st => match v with
  | .tup xs => if xs.length = gs.length then mgs gs xs env st else .bad
  | .tmp xs => if xs.length = gs.length then mgs gs xs env st else .bad
  | _ => .bad
abbrev O3 := AV → AV → AV → Sto → R Unit
/-- o[i] = v -/
def mgSub (o i : ME) (f : O3) : MG := fun v env st => (o env st).bind fun x st => (i env st).bind fun y st => (f x y v st).bind fun _ st => .ok env st

/-! ### what a loop walks -/
inductive Sq where
  | list (k : Nat) | tup (xs : List AV) | rng (lo : Int) (n : Nat) | rngC (lo c : Int) (n : Nat)
  | enumL (k : Nat) | enumT (xs : List AV) | zipL (j k : Nat) | zipT (xs ys : List AV) | str (s : Str)
  | keys (k : Nat) | items (k : Nat)
  | kkeys (kvs : List (AV × AV)) | kitems (kvs : List (AV × AV))
abbrev MI := Ev → Sto → R Sq
def rdL (st : Sto) (k : Nat) : Option (List AV) := match st[k]? with
  | some (.lst xs) => some xs
  | _ => none
def rdD (st : Sto) (k : Nat) : Option (List (AV × AV)) := match st[k]? with
  | some (.fdc kvs) => some kvs
  | _ => none
/-- how many at most -/
def Sq.len (st : Sto) : Sq → Nat
  | .list k => (rdL st k).elim 0 List.length
  | .tup xs => xs.length
  | .rng _ n => n
  | .rngC _ _ n => n
  | .enumL k => (rdL st k).elim 0 List.length
  | .enumT xs => xs.length
  | .zipL j _ => (rdL st j).elim 0 List.length
  | .zipT xs _ => xs.length
  | .str s => s.cps.size
  | .keys k => (rdD st k).elim 0 List.length
  | .items k => (rdD st k).elim 0 List.length
  | .kkeys kvs => kvs.length
  | .kitems kvs => kvs.length
def atO {α : Type} (xs : List α) (i : Nat) : Option (Option α) := some xs[i]?
/-- the i-th turn: some (some x), its item; some none: it stops; none: it can't be told -/
def Sq.at (st : Sto) (i : Nat) : Sq → Option (Option AV)
  | .list k => (rdL st k).bind fun xs => atO xs i
  | .tup xs => atO xs i
  | .rng lo n => some (if i < n then some (.int (lo + i)) else none)
  | .rngC lo c n => some (if i < n then some (.int (lo + i * c)) else none)
  | .enumL k => (rdL st k).bind fun xs => some (xs[i]?.map fun x => .tmp [.int i, x])
  | .enumT xs => some (xs[i]?.map fun x => .tmp [.int i, x])
  | .zipL j k => (rdL st j).bind fun xs => (rdL st k).bind fun ys => match xs[i]?, ys[i]? with
    | some x, some y => some (some (.tmp [x, y]))
    | _, _ => some none
  | .zipT xs ys => match xs[i]?, ys[i]? with
    | some x, some y => some (some (.tmp [x, y]))
    | _, _ => some none
  | .str s => some (s.cps[i]?.map fun c => .str ⟨#[c]⟩)
  | .keys k => (rdD st k).bind fun kvs => some (kvs[i]?.map fun p => p.1)
  | .items k => (rdD st k).bind fun kvs => some (kvs[i]?.map fun p => .tmp [p.1, p.2])
  | .kkeys kvs => some (kvs[i]?.map fun p => p.1)
  | .kitems kvs => some (kvs[i]?.map fun p => .tmp [p.1, p.2])
/-- behind a turn's body: on, out, or away -/
def step (f : Fl) (k : Ev → Sto → Fl) : Fl := match f with
  | .nx env st => k env st
  | .ct env st => k env st
  | .bk env st => .nx env st
  | .rt v st => .rt v st
  | .ex e st => .ex e st
  | .bad => .bad
/-- the turns from the i-th on -/
def turns (q : Sq) (g : MG) (b : MS) : Nat → Nat → Ev → Sto → Fl
  | 0, _, _, _ => .bad
  | f + 1, i, env, st => match q.at st i with
    | none => .bad
    | some none => .nx env st
    | some (some x) => (g x env st).toFl fun env st => step (b env st) (turns q g b f (i + 1))
def msFor (it : MI) (g : MG) (b : MS) : MS := fun env st => (it env st).toFl fun q st => turns q g b (q.len st + 1) 0 env st
def whileN (c : MT) (b : MS) : Nat → Ev → Sto → Fl
  | 0, _, _ => .bad
  | f + 1, env, st => (c env st).toFl fun k st => if k then step (b env st) (whileN c b f) else .nx env st
def FUEL : Nat := 1000
def msWhile (c : MT) (b : MS) : MS := whileN c b FUEL
def wipeE (env : Ev) : List Nat → Ev
  | [] => env
  | i :: r => wipeE (env.set i none) r
/-- a comprehension's turns: acc what is made so far -/
def lcTurns (q : Sq) (g : MG) (t : MT) (e : ME) (env : Ev) : Nat → Nat → List AV → Sto → R (List AV)
  | 0, _, _, _ => .bad
  | f + 1, i, acc, st => match q.at st i with
    | none => .bad
    | some none => .ok acc st
    | some (some x) => (g x env st).bind fun env' st => (t env' st).bind fun k st =>
      if k then (e env' st).bind fun y st => if acc.length < LIM then lcTurns q g t e env f (i + 1) (acc ++ [y]) st else .bad
      else lcTurns q g t e env f (i + 1) acc st
def mLc (it : MI) (g : MG) (t : MT) (e : ME) (own : List Nat) : ME := fun env st => (it env st).bind fun q st =>
  (lcTurns q g t e (wipeE env own) (q.len st + 1) 0 [] st).bind fun acc st => oLst acc st
def mtYes : MT := fun _ st => .ok true st

/-! ### defs -/
def startE (n : Nat) (vs : List AV) : Ev := vs.map some ++ List.replicate (n - vs.length) none
def fin (f : Fl) : R AV := match f with
  | .nx _ st => .ok .non st
  | .rt v st => .ok v st
  | .ex e st => .ex e st
  | _ => .bad
/-- a def of n names, k of them parameters -/
def fn (n k : Nat) (b : MS) : ON := fun vs st => if vs.length = k then gc st (fin (b (startE n vs) st)) else .bad
end Y
set_option Elab.async false
set_option linter.all false
set_option maxRecDepth 100000
/-! Y2: how abstract values and the store lie in the heap; what is wanted behind a run -/
namespace Y
open PySem PySem.Spec L2
open PyProof.Rows hiding St

/-- where the classes stand: those of instances, those of exceptions; the tables of code objects -/
structure CM where
  cls : Nat → Addr
  xc : Nat → Addr
  T : List (Addr × Str)
instance : CoeFun CM fun _ => Nat → Addr := ⟨CM.cls⟩
/-- the written part, and where the classes stand -/
structure GK where
  K : PySem.W.Frag
  cm : CM
  w : World

/-- no tuple, no list that stands as it is -/
def NotT (o : HO) : Prop := (∀ xs, o ≠ .tup xs) ∧ (∀ ob xs, o ≠ .frz ob (.tup xs)) ∧ ∀ ob xs, o ≠ .frz ob (.lst xs)
theorem NotT.lst {xs : List V} : NotT (.lst xs) := ⟨(fun _ h => nomatch h), (fun _ _ h => nomatch h), (fun _ _ h => nomatch h)⟩
theorem NotT.frzK {o : Obj} {xs} : NotT (.frz o (.dK xs)) := ⟨(fun _ h => nomatch h), (fun _ _ h => nomatch h), (fun _ _ h => nomatch h)⟩
/-- a list that stands as it is -/
def SqF (K : PySem.W.Frag) (H : Hp) (a : Addr) (xs : List V) : Prop := (∃ o, H a = some (.frz o (.lst xs))) ∨
    ∃ (o : Obj) (its : Array Value) (n : Nat), K.lookup a = some o ∧ o.cls = .type "list" ∧ o.dict = none ∧ o.data = .seq its n ∧ its.size ≤ sizeLine ∧ Vals xs its.toList
theorem SqF.seq {K : PySem.W.Frag} {H : Hp} {a : Addr} {xs : List V} (h : SqF K H a xs) : SqL K H a xs := h.elim (fun h => .inl (.inr h)) .inr
theorem NotT.dK {xs} : NotT (.dK xs) := ⟨(fun _ h => nomatch h), (fun _ _ h => nomatch h), (fun _ _ h => nomatch h)⟩
theorem NotT.ext {φ} : NotT (.ext φ) := ⟨(fun _ h => nomatch h), (fun _ _ h => nomatch h), (fun _ _ h => nomatch h)⟩
theorem NotT.frzE {o : Obj} {φ} : NotT (.frz o (.ext φ)) := ⟨(fun _ h => nomatch h), (fun _ _ h => nomatch h), (fun _ _ h => nomatch h)⟩
/-- a dict, by its object -/
def KdO (a : Addr) (o : Obj) : HO := .ext fun h => h.get? a = some o
mutual
/-- a value that is a key -/
def kOf : AV → Option NestedKey
  | .non => some .none
  | .int i => some (.num i)
  | .str s => some (.text s)
  | .tup xs => (kOfL xs).map NestedKey.tup
  | _ => none
def kOfL : List AV → Option (List NestedKey)
  | [] => some []
  | x :: xs => match kOf x, kOfL xs with
    | some y, some ys => some (y :: ys)
    | _, _ => none
end
/-- what the object of a dict holds -/
structure NDat (w : World) (o : Obj) (xs : List (NestedKey × Addr × Value)) : Prop where
  ex : o.ExactDict
  da : ∃ es ep, o.data = .dict es ep ∧ es.toList = xs.map fun x => (⟨x.1.hash w, .ref x.2.1, x.2.2⟩ : DictEntry)
  nd : (xs.map (·.1)).Nodup
  sz : xs.length ≤ sizeLine
  dp : ∀ x ∈ xs, x.1.depth ≤ 8
/-- our entries and the object's -/
def KRel (kvs : List (AV × AV)) (ys : List V) (xs : List (NestedKey × Addr × Value)) : Prop :=
  kvs.map (fun p => kOf p.1) = xs.map (fun x => some x.1) ∧ ∃ zs, ys = xs.map (fun x => V.ref x.2.1) ++ zs ∧ Vals zs (xs.map (·.2.2))
theorem NotT.ins {C dx fs} : NotT (.ins C dx fs) := ⟨(fun _ h => nomatch h), (fun _ _ h => nomatch h), (fun _ _ h => nomatch h)⟩

/-- an exception that was caught -/
def exO (a : Addr) (cls : Value) (d : Option Addr) : HO := .ext fun h => ∃ oe, h.get? a = some oe ∧ Zc cls d oe ∧ ∃ vs, oe.data = .fields vs
/-- no table, no code object -/
def NotC (a : Addr) (o : HO) : Prop := (∀ ps, o ≠ .tbl ps) ∧ ∀ q, o ≠ LamX.CodeO a q
theorem heap_size : ∀ a : Nat, ∃ h : Heap, h.objs.size = a
  | 0 => ⟨⟨#[], default⟩, rfl⟩
  | a + 1 => let ⟨h, e⟩ := heap_size a; ⟨h.push default, by rw [Heap.size_push, e]⟩
theorem notC_ext {a : Addr} {φ : Heap → Prop} (o : Obj) (hf : o.isFreed = false) (h : ∀ h : Heap, h.get? a = some o → φ h) (n : ∀ vs t q, o.data = .fields vs → vs[1]? ≠ some (.str q t)) : NotC a (.ext φ) := by
  refine ⟨(fun ps z => nomatch z), fun q z => ?_⟩
  obtain ⟨h0, e0⟩ := heap_size a
  have g : (h0.push o).get? a = some o := by rw [← e0]; exact Heap.get?_push_size h0 hf
  have z2 : φ = fun h => ∃ (oc : Obj) (vs : Array Value) (t : Tok), h.get? a = some oc ∧ oc.data = .fields vs ∧ vs[1]? = some (.str q t) := HO.ext.inj z
  have := h _ g
  rw [z2] at this
  obtain ⟨oc, vs, t, e1, e2, e3⟩ := this
  rw [g] at e1
  cases e1
  exact n vs t q e2 e3
theorem notC_exO {a : Addr} {cls : Value} {d : Option Addr} : NotC a (exO a cls d) :=
  notC_ext { cls := cls, dict := d, data := .fields #[] } rfl (fun h e => ⟨_, e, ⟨rfl, rfl⟩, _, rfl⟩) fun vs t q e => by
    cases e
    simp
theorem notC_lst {a : Addr} {xs : List V} : NotC a (.lst xs) := ⟨(fun _ z => nomatch z), fun _ z => nomatch z⟩
theorem notC_dK {a : Addr} {xs} : NotC a (.dK xs) := ⟨(fun _ z => nomatch z), fun _ z => nomatch z⟩
theorem notC_ins {a : Addr} {C dx fs} : NotC a (.ins C dx fs) := ⟨(fun _ z => nomatch z), fun _ z => nomatch z⟩
theorem notC_frz {a : Addr} {o u} : NotC a (.frz o u) := ⟨(fun _ z => nomatch z), fun _ z => nomatch z⟩
theorem notC_kdO {a : Addr} {w : World} {o : Obj} {xs} (h : NDat w o xs) : NotC a (KdO a o) := by
  obtain ⟨es, ep, e1, _⟩ := h.da
  refine notC_ext o ?_ (fun h e => e) fun vs t q e => ?_
  · exact Obj.isFreed_of_dict e1
  · rw [e1] at e; cases e
/-- a plain tuple that stands as it is -/
def SqP (K : PySem.W.Frag) (H : Hp) (a : Addr) (xs : List V) : Prop := (∃ o, H a = some (.frz o (.tup xs)) ∧ o.cls = .type "tuple" ∧ o.dict = none) ∨
    ∃ (o : Obj) (its : Array Value) (n : Nat), K.lookup a = some o ∧ o.cls = .type "tuple" ∧ o.dict = none ∧ o.data = .seq its n ∧ its.size ≤ sizeLine ∧ Vals xs its.toList
theorem SqP.seq {K : PySem.W.Frag} {H : Hp} {a : Addr} {xs : List V} (h : SqP K H a xs) : SqT K H a xs :=
  h.elim (fun ⟨o, h, _⟩ => .inl (.inr ⟨o, h⟩)) fun ⟨o, its, n, h1, h2, _, h3⟩ => .inr ⟨o, its, n, h1, h2, h3⟩
mutual
inductive Rep (K : PySem.W.Frag) (H : Hp) (ρ : Nat → Addr) (n : Nat) : AV → V → Prop
  | non : Rep K H ρ n .non .non
  | bl (b : Bool) : Rep K H ρ n (.bl b) (.bl b)
  | int (i : Int) : Rep K H ρ n (.int i) (.int i)
  | str (s : Str) : Rep K H ρ n (.str s) (.str s)
  | loc {k : Nat} : k < n → Rep K H ρ n (.loc k) (.ref (ρ k))
  | tup {a : Addr} {ys : List V} {xs : List AV} : SqP K H a ys → RepL K H ρ n xs ys → Rep K H ρ n (.tup xs) (.ref a)
  | tmp {a : Addr} {ys : List V} {xs : List AV} : SqT K H a ys → RepL K H ρ n xs ys → Rep K H ρ n (.tmp xs) (.ref a)
  | frl {a : Addr} {ys : List V} {xs : List AV} : SqF K H a ys → RepL K H ρ n xs ys → Rep K H ρ n (.frl xs) (.ref a)
inductive RepL (K : PySem.W.Frag) (H : Hp) (ρ : Nat → Addr) (n : Nat) : List AV → List V → Prop
  | nil : RepL K H ρ n [] []
  | cons {v : AV} {x : V} {vs : List AV} {xs : List V} : Rep K H ρ n v x → RepL K H ρ n vs xs → RepL K H ρ n (v :: vs) (x :: xs)
end

def keyAV : Key → AV
  | .inl i => .int i
  | .inr s => .str s
/-- the object at a lies there with the values ys -/
def Shape (G : GK) (H : Hp) (a : Addr) (ys : List V) : Ob → Prop
  | .lst _ => H a = some (.lst ys)
  | .dct kvs => ∃ ks : List (Key × V), H a = some (.dK ks) ∧ kvs.map (·.1) = ks.map (fun p => keyAV p.1) ∧ ys = ks.map (·.2)
  | .fdc kvs => ∃ (o : Obj) (ks : List (Key × V)), H a = some (.frz o (.dK ks)) ∧ kvs.map (·.1) = ks.map (fun p => keyAV p.1) ∧ ys = ks.map (·.2)
  | .ins c fs => ∃ (dx : Addr) (gs : List (Str × V)), H a = some (.ins (G.cm c) dx gs) ∧ fs.map (·.1) = gs.map (·.1) ∧ ys = gs.map (·.2)
  | .kdc kvs => (a == sysModules) = false ∧ ∃ o xs, H a = some (KdO a o) ∧ NDat G.w o xs ∧ KRel kvs ys xs
  | .fkd kvs => (a == sysModules) = false ∧ ∃ o xs, H a = some (.frz o (KdO a o)) ∧ NDat G.w o xs ∧ KRel kvs ys xs
  | .exc c => ∃ d, H a = some (exO a (.ref (G.cm.xc c)) d) ∧ ys = []
theorem Shape.notC {G : GK} {H : Hp} {a : Addr} {ys : List V} : ∀ {o : Ob}, Shape G H a ys o → ∃ u, H a = some u ∧ NotC a u
  | .lst _, h => ⟨_, h, notC_lst⟩
  | .dct _, ⟨_, h, _⟩ => ⟨_, h, notC_dK⟩
  | .fdc _, ⟨_, _, h, _⟩ => ⟨_, h, notC_frz⟩
  | .ins _ _, ⟨_, _, h, _⟩ => ⟨_, h, notC_ins⟩
  | .kdc _, ⟨_, _, _, h, d, _⟩ => ⟨_, h, notC_kdO d⟩
  | .fkd _, ⟨_, _, _, h, _⟩ => ⟨_, h, notC_frz⟩
  | .exc _, ⟨_, h, _⟩ => ⟨_, h, notC_exO⟩
theorem Shape.notT {G : GK} {H : Hp} {a : Addr} {ys : List V} : ∀ {o : Ob}, Shape G H a ys o → ∃ u, H a = some u ∧ NotT u
  | .lst _, h => ⟨_, h, .lst⟩
  | .dct _, ⟨_, h, _⟩ => ⟨_, h, .dK⟩
  | .fdc _, ⟨_, _, h, _⟩ => ⟨_, h, .frzK⟩
  | .ins _ _, ⟨_, _, h, _⟩ => ⟨_, h, .ins⟩
  | .kdc _, ⟨_, _, _, h, _⟩ => ⟨_, h, .ext⟩
  | .fkd _, ⟨_, _, _, h, _⟩ => ⟨_, h, .frzE⟩
  | .exc _, ⟨_, h, _⟩ => ⟨_, h, .ext⟩

structure RepS (G : GK) (H : Hp) (ρ : Nat → Addr) (st : Sto) : Prop where
  ob : ∀ k o, st[k]? = some o → ∃ ys, Shape G H (ρ k) ys o ∧ RepL G.K H ρ st.length o.vals ys
  inj : ∀ j k, j < st.length → k < st.length → ρ j = ρ k → j = k
  tb : LamX.Tabs G.cm.T H

structure Ext (H : Hp) (ρ : Nat → Addr) (n : Nat) (H' : Hp) (ρ' : Nat → Addr) (n' : Nat) : Prop where
  le : n ≤ n'
  ag : ∀ k, k < n → ρ' k = ρ k
  fr : ∀ a o, H a = some o → (∀ ps, o ≠ .tbl ps) → (∀ k, k < n → ρ k ≠ a) → H' a = some o
  nw : ∀ k, n ≤ k → k < n' → H (ρ' k) = none
  kp : ∀ a o, H a = some o → ∃ o', H' a = some o'
  fz : ∀ a ob u, H a = some (.frz ob u) → H' a = some (.frz ob u)

section
variable {G : GK} {K : PySem.W.Frag} {H H1 H2 : Hp} {ρ ρ1 ρ2 : Nat → Addr} {n n1 n2 : Nat} {st st1 : Sto}
theorem Ext.refl : Ext H ρ n H ρ n := ⟨Nat.le_refl _, fun _ _ => rfl, fun _ _ h _ _ => h, fun _ h1 h2 => absurd h1 (Nat.not_le.mpr h2), fun _ o h => ⟨o, h⟩, fun _ _ _ h => h⟩
theorem Ext.trans (a : Ext H ρ n H1 ρ1 n1) (b : Ext H1 ρ1 n1 H2 ρ2 n2) : Ext H ρ n H2 ρ2 n2 where
  le := Nat.le_trans a.le b.le
  ag := fun k h => (b.ag k (Nat.lt_of_lt_of_le h a.le)).trans (a.ag k h)
  fr := fun c o h nt hk => b.fr c o (a.fr c o h nt hk) nt fun k h1 e => by
    by_cases hkn : k < n
    · exact hk k hkn (by rw [← a.ag k hkn]; exact e)
    · have := a.nw k (Nat.le_of_not_lt hkn) h1
      rw [e, h] at this
      cases this
  nw := fun k h1 h2 => by
    by_cases hk : k < n1
    · rw [b.ag k hk]; exact a.nw k h1 hk
    · have z := b.nw k (Nat.le_of_not_lt hk) h2
      cases e : H (ρ2 k) with
      | none => rfl
      | some o =>
        obtain ⟨o', h'⟩ := a.kp _ _ e
        rw [z] at h'
        cases h'
  kp := fun c o h => let ⟨o1, h1⟩ := a.kp c o h; b.kp c o1 h1
  fz := fun c ob u h => b.fz c ob u (a.fz c ob u h)

theorem RepS.notT (s : RepS G H ρ st) {k : Nat} (hk : k < st.length) : ∃ u, H (ρ k) = some u ∧ NotT u := by
  obtain ⟨ys, sh, _⟩ := s.ob k st[k] (List.getElem?_eq_getElem hk)
  exact sh.notT
theorem RepS.notC (s : RepS G H ρ st) {k : Nat} (hk : k < st.length) : ∃ u, H (ρ k) = some u ∧ NotC (ρ k) u := by
  obtain ⟨ys, sh, _⟩ := s.ob k st[k] (List.getElem?_eq_getElem hk)
  exact sh.notC
theorem RepS.ne (s : RepS G H ρ st) {a : Addr} {o : HO} (h : H a = some o) (n : ¬ NotT o) : ∀ k, k < st.length → ρ k ≠ a := fun k hk z => by
  obtain ⟨u, e, q⟩ := s.notT hk
  rw [z, h] at e
  cases e
  exact n q
/-- what never changes stands -/
structure Tups (K : PySem.W.Frag) (H H1 : Hp) : Prop where
  p : ∀ a ys, SqP K H a ys → SqP K H1 a ys
  t : ∀ a ys, SqT K H a ys → SqT K H1 a ys
  f : ∀ a ys, SqF K H a ys → SqF K H1 a ys
theorem tups_of (h : ∀ a o, H a = some o → ¬ NotT o → H1 a = some o) : Tups K H H1 := by
  refine ⟨fun a ys q => ?_, fun a ys q => ?_, fun a ys q => ?_⟩
  · rcases q with ⟨o, q, r⟩ | q
    · exact .inl ⟨o, h _ _ q fun z => z.2.1 _ _ rfl, r⟩
    · exact .inr q
  · rcases q with (q | ⟨o, q⟩) | q
    · exact .inl (.inl (h _ _ q fun z => z.1 _ rfl))
    · exact .inl (.inr ⟨o, h _ _ q fun z => z.2.1 _ _ rfl⟩)
    · exact .inr q
  · rcases q with ⟨o, q⟩ | q
    · exact .inl ⟨o, h _ _ q fun z => z.2.2 _ _ rfl⟩
    · exact .inr q
theorem notT_tbl {o : HO} (n : ¬ NotT o) : ∀ ps, o ≠ .tbl ps := fun ps z => n (by
  subst z
  exact ⟨(fun _ h => nomatch h), (fun _ _ h => nomatch h), (fun _ _ h => nomatch h)⟩)
theorem Ext.tups (s : RepS G H ρ st) (e : Ext H ρ st.length H1 ρ1 n1) : Tups K H H1 := tups_of fun a o h n => e.fr a o h (notT_tbl n) (s.ne h n)
mutual
theorem rep_mv (t : Tups K H H1) (hl : n ≤ n1) (ag : ∀ k, k < n → ρ1 k = ρ k) : ∀ (v : AV) (x : V), Rep K H ρ n v x → Rep K H1 ρ1 n1 v x
  | .non, _, h => by cases h; exact .non
  | .bl b, _, h => by cases h; exact .bl b
  | .int i, _, h => by cases h; exact .int i
  | .str s, _, h => by cases h; exact .str s
  | .loc k, _, h => by
    cases h with
    | loc hk =>
      rw [← ag k hk]
      exact .loc (Nat.lt_of_lt_of_le hk hl)
  | .tup xs, _, h => by
    cases h with
    | tup hs hr => exact .tup (t.p _ _ hs) (repL_mv t hl ag _ _ hr)
  | .tmp xs, _, h => by
    cases h with
    | tmp hs hr => exact .tmp (t.t _ _ hs) (repL_mv t hl ag _ _ hr)
  | .frl xs, _, h => by
    cases h with
    | frl hs hr => exact .frl (t.f _ _ hs) (repL_mv t hl ag _ _ hr)
theorem repL_mv (t : Tups K H H1) (hl : n ≤ n1) (ag : ∀ k, k < n → ρ1 k = ρ k) : ∀ (v : List AV) (x : List V), RepL K H ρ n v x → RepL K H1 ρ1 n1 v x
  | [], _, h => by cases h; exact .nil
  | v :: vs, _, h => by
    cases h with
    | cons h1 h2 => exact .cons (rep_mv t hl ag _ _ h1) (repL_mv t hl ag _ _ h2)
end
theorem Rep.ext (s : RepS G H ρ st) (e : Ext H ρ st.length H1 ρ1 n1) {v : AV} {x : V} (h : Rep G.K H ρ st.length v x) : Rep G.K H1 ρ1 n1 v x := rep_mv (e.tups s) e.le e.ag v x h
theorem RepL.ext (s : RepS G H ρ st) (e : Ext H ρ st.length H1 ρ1 n1) {v : List AV} {x : List V} (h : RepL G.K H ρ st.length v x) : RepL G.K H1 ρ1 n1 v x := repL_mv (e.tups s) e.le e.ag v x h
theorem RepL.length : ∀ {v : List AV} {x : List V}, RepL K H ρ n v x → v.length = x.length
  | [], _, h => by cases h; rfl
  | v :: vs, _, h => by
    cases h with
    | cons h1 h2 => rw [List.length_cons, List.length_cons, RepL.length h2]
theorem RepL.get : ∀ {vs : List AV} {xs : List V} {i : Nat} {v : AV}, RepL K H ρ n vs xs → vs[i]? = some v → ∃ x, xs[i]? = some x ∧ Rep K H ρ n v x
  | [], _, i, _, h, e => by simp at e
  | w :: vs, _, i, v, h, e => by
    cases h with
    | cons h1 h2 =>
      cases i with
      | zero => exact ⟨_, rfl, by simp at e; rw [← e]; exact h1⟩
      | succ i =>
        obtain ⟨x, e1, r⟩ := RepL.get (i := i) h2 (by simpa using e)
        exact ⟨x, by simpa using e1, r⟩
theorem RepL.append : ∀ {vs ws : List AV} {xs ys : List V}, RepL K H ρ n vs xs → RepL K H ρ n ws ys → RepL K H ρ n (vs ++ ws) (xs ++ ys)
  | [], _, _, _, h, q => by cases h; exact q
  | v :: vs, _, _, _, h, q => by
    cases h with
    | cons h1 h2 => exact .cons h1 (RepL.append h2 q)
theorem RepL.set {v : AV} {x : V} (r : Rep K H ρ n v x) : ∀ {vs : List AV} {xs : List V} (i : Nat), RepL K H ρ n vs xs → RepL K H ρ n (vs.set i v) (xs.set i x)
  | [], _, i, h => by cases h; exact .nil
  | w :: vs, _, i, h => by
    cases h with
    | cons h1 h2 =>
      cases i with
      | zero => exact .cons r h2
      | succ i => exact .cons h1 (RepL.set r i h2)
theorem RepL.drop : ∀ {vs : List AV} {xs : List V} (i : Nat), RepL K H ρ n vs xs → RepL K H ρ n (vs.drop i) (xs.drop i)
  | _, _, 0, h => h
  | [], _, i + 1, h => by cases h; exact .nil
  | w :: vs, _, i + 1, h => by
    cases h with
    | cons h1 h2 => exact RepL.drop i h2
theorem RepL.take : ∀ {vs : List AV} {xs : List V} (i : Nat), RepL K H ρ n vs xs → RepL K H ρ n (vs.take i) (xs.take i)
  | _, _, 0, h => .nil
  | [], _, i + 1, h => by cases h; exact .nil
  | w :: vs, _, i + 1, h => by
    cases h with
    | cons h1 h2 => exact .cons h1 (RepL.take i h2)
theorem RepL.rev : ∀ {vs : List AV} {xs : List V}, RepL K H ρ n vs xs → RepL K H ρ n vs.reverse xs.reverse
  | [], _, h => by cases h; exact .nil
  | w :: vs, _, h => by
    cases h with
    | cons h1 h2 =>
      rw [List.reverse_cons, List.reverse_cons]
      exact RepL.append (RepL.rev h2) (.cons h1 .nil)
theorem RepL.erase : ∀ {vs : List AV} {xs : List V} (i : Nat), RepL K H ρ n vs xs → RepL K H ρ n (vs.eraseIdx i) (xs.eraseIdx i)
  | [], _, i, h => by cases h; exact .nil
  | w :: vs, _, i, h => by
    cases h with
    | cons h1 h2 =>
      cases i with
      | zero => exact h2
      | succ i => exact .cons h1 (RepL.erase i h2)
theorem RepL.one {v : AV} {xs : List V} (h : RepL K H ρ n [v] xs) : ∃ x, xs = [x] ∧ Rep K H ρ n v x := by
  cases h with
  | cons h1 h2 => cases h2; exact ⟨_, rfl, h1⟩
theorem RepL.two {v w : AV} {xs : List V} (h : RepL K H ρ n [v, w] xs) : ∃ x y, xs = [x, y] ∧ Rep K H ρ n v x ∧ Rep K H ρ n w y := by
  cases h with
  | cons h1 h2 =>
    obtain ⟨y, rfl, r⟩ := h2.one
    exact ⟨_, _, rfl, h1, r⟩
theorem RepL.three {v w u : AV} {xs : List V} (h : RepL K H ρ n [v, w, u] xs) : ∃ x y z, xs = [x, y, z] ∧ Rep K H ρ n v x ∧ Rep K H ρ n w y ∧ Rep K H ρ n u z := by
  cases h with
  | cons h1 h2 =>
    obtain ⟨y, z, rfl, r, r2⟩ := h2.two
    exact ⟨_, _, _, rfl, h1, r, r2⟩

/-! ### the names -/
def RepE (K : PySem.W.Frag) (H : Hp) (ρ : Nat → Addr) (n : Nat) (env : Ev) (σ : St) : Prop :=
  env.length = σ.length ∧ ∀ (i : Nat) (v : AV), env[i]? = some (some v) → ∃ x, σ[i]? = some (some x) ∧ Rep K H ρ n v x
theorem RepE.ext {env : Ev} {σ : St} (s : RepS G H ρ st) (e : Ext H ρ st.length H1 ρ1 n1) (h : RepE G.K H ρ st.length env σ) : RepE G.K H1 ρ1 n1 env σ :=
  ⟨h.1, fun i v hv => let ⟨x, e1, r⟩ := h.2 i v hv; ⟨x, e1, r.ext s e⟩⟩
theorem RepE.set {env : Ev} {σ : St} {v : AV} {x : V} (h : RepE K H ρ n env σ) (i : Nat) (r : Rep K H ρ n v x) : RepE K H ρ n (env.set i (some v)) (σ.set i (some x)) := by
  refine ⟨by rw [List.length_set, List.length_set]; exact h.1, fun j w hw => ?_⟩
  by_cases e : i = j
  · subst e
    by_cases hi : i < env.length
    · rw [List.getElem?_set_self hi] at hw
      cases hw
      exact ⟨x, List.getElem?_set_self (h.1 ▸ hi), r⟩
    · have z : (env.set i (some v))[i]? = none := List.getElem?_eq_none (by rw [List.length_set]; exact Nat.le_of_not_lt hi)
      rw [z] at hw; cases hw
  · rw [List.getElem?_set_ne e] at hw ⊢
    exact h.2 j w hw
theorem RepE.forget {env : Ev} {σ : St} (h : RepE K H ρ n env σ) (i : Nat) : RepE K H ρ n (env.set i none) (σ.set i none) := by
  refine ⟨by rw [List.length_set, List.length_set]; exact h.1, fun j w hw => ?_⟩
  by_cases e : i = j
  · subst e
    by_cases hi : i < env.length
    · rw [List.getElem?_set_self hi] at hw
      cases hw
    · have z : (env.set i none)[i]? = none := List.getElem?_eq_none (by rw [List.length_set]; exact Nat.le_of_not_lt hi)
      rw [z] at hw; cases hw
  · rw [List.getElem?_set_ne e] at hw ⊢
    exact h.2 j w hw

/-! ### making and changing objects -/
theorem shape_mv {a : Addr} {ys : List V} (e : H1 a = H a) : ∀ {o : Ob}, Shape G H a ys o → Shape G H1 a ys o
  | .lst _, h => e.trans h
  | .dct _, ⟨ks, h, r⟩ => ⟨ks, e.trans h, r⟩
  | .fdc _, ⟨o, ks, h, r⟩ => ⟨o, ks, e.trans h, r⟩
  | .ins _ _, ⟨dx, gs, h, r⟩ => ⟨dx, gs, e.trans h, r⟩
  | .kdc _, ⟨z, o, xs, h, r⟩ => ⟨z, o, xs, e.trans h, r⟩
  | .fkd _, ⟨z, o, xs, h, r⟩ => ⟨z, o, xs, e.trans h, r⟩
  | .exc _, ⟨d, h, r⟩ => ⟨d, e.trans h, r⟩
/-- our objects lie as they lay, what never changes stands -/
theorem RepS.mv (s : RepS G H ρ st) (e : ∀ k, k < st.length → H1 (ρ k) = H (ρ k)) (t : Tups G.K H H1) (tb : LamX.Tabs G.cm.T H1) : RepS G H1 ρ st := by
  refine ⟨fun k ob hk => ?_, s.inj, tb⟩
  obtain ⟨ys, sh, r⟩ := s.ob k ob hk
  exact ⟨ys, shape_mv (e k (List.getElem?_eq_some_iff.mp hk).1) sh, repL_mv t (Nat.le_refl _) (fun _ _ => rfl) _ _ r⟩
theorem tabs_new {p : Addr} {o : HO} (h : H p = none) : ∀ a q, LamX.TabS H a q → LamX.TabS (upd H p o) a q := fun a q t => t.ext fun b u e => by rw [upd_ne (ne_of_none e h)]; exact e
theorem tabs_at {p : Addr} {o u : HO} (h : H p = some u) (n : NotC p u) : ∀ a q, LamX.TabS H a q → LamX.TabS (upd H p o) a q := fun a q t => by
  obtain ⟨ps, h1, h2, h3⟩ := t
  refine ⟨ps, ?_, h2, fun pos cv hc => ?_⟩
  · rw [upd_ne]
    · exact h1
    · intro z
      rw [z, h] at h1
      cases h1
      exact n.1 ps rfl
  · obtain ⟨c, e1, e2⟩ := h3 pos cv hc
    refine ⟨c, e1, ?_⟩
    rw [upd_ne]
    · exact e2
    · intro z
      rw [z, h] at e2
      exact n.2 q (Option.some.inj e2)
theorem tups_new {p : Addr} {o : HO} (h : H p = none) : Tups K H (upd H p o) := tups_of (fun a u q _ => by rw [upd_ne (ne_of_none q h)]; exact q)
theorem tups_at {p : Addr} {o u : HO} (h : H p = some u) (n : NotT u) (nc : NotC p u := by first | exact notC_lst | exact notC_dK | exact notC_ins | exact notC_frz | assumption) : Tups K H (upd H p o) := tups_of (fun a w q nw => by
  rw [upd_ne]
  · exact q
  · intro z
    rw [z, h] at q
    cases q
    exact nw n)
theorem RepS.ne_new (s : RepS G H ρ st) {p : Addr} (hp : H p = none) : ∀ k, k < st.length → ρ k ≠ p := fun k hk z => by
  obtain ⟨u, e, _⟩ := s.notT hk
  rw [z, hp] at e
  cases e
/-- something that is no object of ours is laid -/
theorem RepS.lay {p : Addr} {o : HO} (s : RepS G H ρ st) (hp : H p = none) : RepS G (upd H p o) ρ st :=
  s.mv (fun k hk => upd_ne (s.ne_new hp k hk)) (tups_new hp) fun _ q => tabs_new hp _ _ (s.tb _ q)
theorem Ext.lay {p : Addr} {o : HO} (hp : H p = none) : Ext H ρ n (upd H p o) ρ n :=
  ⟨Nat.le_refl _, fun _ _ => rfl, fun a u h _ _ => by rw [upd_ne (ne_of_none h hp)]; exact h, fun _ h1 h2 => absurd h1 (Nat.not_le.mpr h2), fun a u h => ⟨u, by rw [upd_ne (ne_of_none h hp)]; exact h⟩, fun a ob u h => by rw [upd_ne (ne_of_none h hp)]; exact h⟩
/-- the addresses with one more -/
def more (ρ : Nat → Addr) (n : Nat) (p : Addr) : Nat → Addr := fun k => if k = n then p else ρ k
theorem more_at {p : Addr} : more ρ n p n = p := by unfold more; rw [if_pos rfl]
theorem more_lt {p : Addr} {k : Nat} (h : k < n) : more ρ n p k = ρ k := by unfold more; rw [if_neg (Nat.ne_of_lt h)]
/-- what stands at p is taken in as a new object of ours -/
theorem RepS.take_in {p : Addr} {ob : Ob} {ys : List V} (s : RepS G H ρ st) (hp : ∀ k, k < st.length → ρ k ≠ p) (sh : Shape G H p ys ob) (r : RepL G.K H ρ st.length ob.vals ys) : RepS G H (more ρ st.length p) (st ++ [ob]) := by
  have up : ∀ (vs : List AV) (xs : List V), RepL G.K H ρ st.length vs xs → RepL G.K H (more ρ st.length p) (st ++ [ob]).length vs xs := fun vs xs q =>
    repL_mv ⟨fun _ _ h => h, fun _ _ h => h, fun _ _ h => h⟩ (by simp) (fun k h => more_lt h) _ _ q
  refine ⟨fun k o hk => ?_, fun j k hj hk e => ?_, s.tb⟩
  · rcases Nat.lt_or_ge k st.length with h | h
    · rw [List.getElem?_append_left h] at hk
      obtain ⟨zs, sh', r'⟩ := s.ob k o hk
      exact ⟨zs, by rw [more_lt h]; exact sh', up _ _ r'⟩
    · rw [List.getElem?_append_right h] at hk
      have e0 : k - st.length = 0 := by
        have := (List.getElem?_eq_some_iff.mp hk).1
        simp at this
        exact this
      have ek : k = st.length := by omega
      rw [e0] at hk
      have eo : ob = o := by simpa using hk
      subst eo
      rw [ek, more_at]
      exact ⟨ys, sh, up _ _ r⟩
  · rw [List.length_append] at hj hk
    have hj : j < st.length + 1 := hj
    have hk : k < st.length + 1 := hk
    rcases Nat.lt_or_ge j st.length with h1 | h1 <;> rcases Nat.lt_or_ge k st.length with h2 | h2
    · rw [more_lt h1, more_lt h2] at e
      exact s.inj j k h1 h2 e
    · have : k = st.length := by omega
      rw [more_lt h1, this, more_at] at e
      exact absurd e (hp j h1)
    · have : j = st.length := by omega
      rw [more_lt h2, this, more_at] at e
      exact absurd e.symm (hp k h2)
    · omega
theorem Ext.take_in {p : Addr} (e : Ext H ρ n H1 ρ1 n1) (hp : H p = none) : Ext H ρ n H1 (more ρ1 n1 p) (n1 + 1) where
  le := Nat.le_succ_of_le e.le
  ag := fun k h => by rw [more_lt (Nat.lt_of_lt_of_le h e.le)]; exact e.ag k h
  fr := e.fr
  nw := fun k h1 h2 => by
    rcases Nat.lt_or_ge k n1 with h | h
    · rw [more_lt h]; exact e.nw k h1 h
    · rw [show k = n1 by omega, more_at]; exact hp
  kp := e.kp
  fz := e.fz
/-- a new object is laid -/
theorem RepS.new {p : Addr} {o : HO} {ob : Ob} {ys : List V} (s : RepS G H ρ st) (hp : H p = none) (sh : Shape G (upd H p o) p ys ob) (r : RepL G.K H ρ st.length ob.vals ys) : RepS G (upd H p o) (more ρ st.length p) (st ++ [ob]) :=
  (s.lay hp).take_in (s.ne_new hp) sh (repL_mv (tups_new hp) (Nat.le_refl _) (fun _ _ => rfl) _ _ r)
theorem Ext.new {p : Addr} {o : HO} (hp : H p = none) : Ext H ρ n (upd H p o) (more ρ n p) (n + 1) := (Ext.lay hp).take_in hp
/-- an object of ours is changed -/
theorem RepS.put {k : Nat} {o u : HO} {ob : Ob} {ys : List V} (s : RepS G H ρ st) (hk : k < st.length) (h : H (ρ k) = some u) (sh : Shape G (upd H (ρ k) o) (ρ k) ys ob) (r : RepL G.K H ρ st.length ob.vals ys) : RepS G (upd H (ρ k) o) ρ (st.set k ob) := by
  have nt : NotT u := by
    obtain ⟨w, e, q⟩ := s.notT hk
    rw [h] at e; cases e; exact q
  have nc : NotC (ρ k) u := by
    obtain ⟨w, e, q⟩ := s.notC hk
    rw [h] at e; cases e; exact q
  have t : Tups G.K H (upd H (ρ k) o) := tups_at h nt nc
  have up : ∀ (vs : List AV) (xs : List V), RepL G.K H ρ st.length vs xs → RepL G.K (upd H (ρ k) o) ρ (st.set k ob).length vs xs := fun vs xs q =>
    repL_mv t (by rw [List.length_set]; exact Nat.le_refl _) (fun _ _ => rfl) _ _ q
  refine ⟨fun j w hj => ?_, fun i j hi hj e => s.inj i j (by simpa using hi) (by simpa using hj) e, fun p hp => tabs_at h nc _ _ (s.tb p hp)⟩
  by_cases e : k = j
  · subst e
    rw [List.getElem?_set_self hk] at hj
    cases hj
    exact ⟨ys, sh, up _ _ r⟩
  · rw [List.getElem?_set_ne e] at hj
    obtain ⟨zs, sh', r'⟩ := s.ob j w hj
    exact ⟨zs, shape_mv (upd_ne fun z => e (s.inj j k (List.getElem?_eq_some_iff.mp hj).1 hk z).symm) sh', up _ _ r'⟩
theorem Ext.put {k : Nat} {o u : HO} (hk : k < n) (h : H (ρ k) = some u) (hf : ∀ ob w, u ≠ .frz ob w) (nc : NotC (ρ k) u := by first | exact notC_lst | exact notC_dK | exact notC_ins | exact notC_frz | assumption) : Ext H ρ n (upd H (ρ k) o) ρ n where
  le := Nat.le_refl _
  ag := fun _ _ => rfl
  fr := fun a w q _ ha => by rw [upd_ne fun z => ha k hk z.symm]; exact q
  nw := fun _ h1 h2 => absurd h1 (Nat.not_le.mpr h2)
  kp := fun a w q => by
    by_cases z : a = ρ k
    · exact ⟨o, by rw [z, upd_same]⟩
    · exact ⟨w, by rw [upd_ne z]; exact q⟩
  fz := fun a ob w q => by
    rw [upd_ne]
    · exact q
    · intro z
      rw [z, h] at q
      cases q
      exact hf _ _ rfl

/-! ### what is wanted behind a run -/
abbrev EX := Xn → (Nat → Addr) → Sto → Hp → Prop
def E00 : EX := fun _ _ _ _ => False
abbrev Rl (α χ : Type) := Hp → (Nat → Addr) → Nat → α → χ → Prop
def Post {α χ : Type} (G : GK) (E : EX) (H : Hp) (ρ : Nat → Addr) (n : Nat) (Rel : Rl α χ) (r : R α) (Q : χ → Hp → Prop) : Prop := match r with
  | .ok v st => ∀ H' ρ' x, Ext H ρ n H' ρ' st.length → RepS G H' ρ' st → Rel H' ρ' st.length v x → Q x H'
  | .ex e st => ∀ H' ρ', Ext H ρ n H' ρ' st.length → RepS G H' ρ' st → E e ρ' st H'
  | .bad => False
def PostS (G : GK) (E : EX) (H : Hp) (ρ : Nat → Addr) (n : Nat) (f : Fl) (D : Ends) : Prop := match f with
  | .nx env st => ∀ H' ρ' σ', Ext H ρ n H' ρ' st.length → RepS G H' ρ' st → RepE G.K H' ρ' st.length env σ' → D.nx σ' H'
  | .bk env st => ∀ H' ρ' σ', Ext H ρ n H' ρ' st.length → RepS G H' ρ' st → RepE G.K H' ρ' st.length env σ' → D.bk σ' H'
  | .ct env st => ∀ H' ρ' σ', Ext H ρ n H' ρ' st.length → RepS G H' ρ' st → RepE G.K H' ρ' st.length env σ' → D.ct σ' H'
  | .rt v st => ∀ H' ρ' x, Ext H ρ n H' ρ' st.length → RepS G H' ρ' st → Rep G.K H' ρ' st.length v x → D.rt x H'
  | .ex e st => ∀ H' ρ', Ext H ρ n H' ρ' st.length → RepS G H' ρ' st → E e ρ' st H'
  | .bad => False
variable {E : EX} {α β χ ψ : Type}
theorem Post.lift {Rel : Rl α χ} {r : R α} {Q : χ → Hp → Prop} (e : Ext H ρ n H1 ρ1 n1) (h : Post G E H ρ n Rel r Q) : Post G E H1 ρ1 n1 Rel r Q := by
  cases r with
  | ok v st => exact fun H' ρ' x e' s q => h H' ρ' x (e.trans e') s q
  | ex u st => exact fun H' ρ' e' s => h H' ρ' (e.trans e') s
  | bad => exact h
theorem PostS.lift {f : Fl} {D : Ends} (e : Ext H ρ n H1 ρ1 n1) (h : PostS G E H ρ n f D) : PostS G E H1 ρ1 n1 f D := by
  cases f with
  | nx v st => exact fun H' ρ' x e' s q => h H' ρ' x (e.trans e') s q
  | bk v st => exact fun H' ρ' x e' s q => h H' ρ' x (e.trans e') s q
  | ct v st => exact fun H' ρ' x e' s q => h H' ρ' x (e.trans e') s q
  | rt v st => exact fun H' ρ' x e' s q => h H' ρ' x (e.trans e') s q
  | ex u st => exact fun H' ρ' e' s => h H' ρ' (e.trans e') s
  | bad => exact h
theorem Post.at {Rel : Rl α χ} {v : α} {x : χ} {Q : χ → Hp → Prop} (h : Post G E H ρ st.length Rel (.ok v st) Q) (s : RepS G H ρ st) (q : Rel H ρ st.length v x) : Q x H := h H ρ x .refl s q
/-- first r, then f -/
theorem Post.bindI {RelA : Rl α χ} {RelB : Rl β ψ} {r : R α} {f : α → Sto → R β} {QB : ψ → Hp → Prop} {QA : χ → Hp → Prop} (h : Post G E H ρ n RelB (r.bind f) QB)
    (k : ∀ v st' H' ρ' x, Ext H ρ n H' ρ' st'.length → RepS G H' ρ' st' → RelA H' ρ' st'.length v x → Post G E H' ρ' st'.length RelB (f v st') QB → QA x H') : Post G E H ρ n RelA r QA := by
  cases r with
  | ok v st => exact fun H' ρ' x e s q => k v st H' ρ' x e s q (Post.lift e h)
  | ex u st => exact h
  | bad => exact h
theorem PostS.toI {RelA : Rl α χ} {r : R α} {f : α → Sto → Fl} {D : Ends} {QA : χ → Hp → Prop} (h : PostS G E H ρ n (r.toFl f) D)
    (k : ∀ v st' H' ρ' x, Ext H ρ n H' ρ' st'.length → RepS G H' ρ' st' → RelA H' ρ' st'.length v x → PostS G E H' ρ' st'.length (f v st') D → QA x H') : Post G E H ρ n RelA r QA := by
  cases r with
  | ok v st => exact fun H' ρ' x e s q => k v st H' ρ' x e s q (PostS.lift e h)
  | ex u st => exact h
  | bad => exact h
theorem Post.imp {RelA : Rl α χ} {r : R α} {Q Q' : χ → Hp → Prop} (h : Post G E H ρ n RelA r Q) (k : ∀ v st' H' ρ' x, Ext H ρ n H' ρ' st'.length → RepS G H' ρ' st' → RelA H' ρ' st'.length v x → Q x H' → Q' x H') : Post G E H ρ n RelA r Q' := by
  cases r with
  | ok v st => exact fun H' ρ' x e s q => k v st H' ρ' x e s q (h H' ρ' x e s q)
  | ex u st => exact h
  | bad => exact h
/-- a value, a test, arguments -/
def rV (K : PySem.W.Frag) : Rl AV V := fun H ρ n v x => Rep K H ρ n v x
def rB : Rl Bool Bool := fun _ _ _ b c => c = b
def rVs (K : PySem.W.Frag) : Rl (List AV) (List V) := fun H ρ n v x => RepL K H ρ n v x
def rUn : Rl Unit Unit := fun _ _ _ _ _ => True

/-! ### the readings -/
def tE (G : GK) (E : EX) (m : ME) : TE := fun σ H Q => ∃ ρ st env, RepS G H ρ st ∧ RepE G.K H ρ st.length env σ ∧ Post G E H ρ st.length (rV G.K) (m env st) Q
def tT (G : GK) (E : EX) (m : MT) : TT := fun σ H Q => ∃ ρ st env, RepS G H ρ st ∧ RepE G.K H ρ st.length env σ ∧ Post G E H ρ st.length rB (m env st) Q
def tA (G : GK) (E : EX) (m : MA) : TA := fun σ H Q => ∃ ρ st env, RepS G H ρ st ∧ RepE G.K H ρ st.length env σ ∧ Post G E H ρ st.length (rVs G.K) (m env st) Q
def tS (G : GK) (E : EX) (m : MS) : TS := fun D σ H => ∃ ρ st env, RepS G H ρ st ∧ RepE G.K H ρ st.length env σ ∧ PostS G E H ρ st.length (m env st) D
/-- names stored: what else there is stays -/
def rG (K : PySem.W.Frag) (sl : List Nat) (σ : St) : Rl Ev St := fun H ρ n env σ' => RepE K H ρ n env σ' ∧ σ'.length = σ.length ∧ ∀ (i : Nat), i ∉ sl → σ'[i]? = σ[i]?
def tG (G : GK) (E : EX) (sl : List Nat) (m : MG) : TG := fun x σ H Q => ∃ ρ st env v, RepS G H ρ st ∧ RepE G.K H ρ st.length env σ ∧ Rep G.K H ρ st.length v x ∧ Post G E H ρ st.length (rG G.K sl σ) (m v env st) Q
def tGs (G : GK) (E : EX) (sl : List Nat) (gs : List MG) : TGs := fun xs σ H Q => ∃ ρ st env vs, RepS G H ρ st ∧ RepE G.K H ρ st.length env σ ∧ RepL G.K H ρ st.length vs xs ∧ Post G E H ρ st.length (rG G.K sl σ) (mgs gs vs env st) Q

theorem PE.weak {X : Cx} {e : Expr} {t u : TE} (h : PE X e t) (w : ∀ σ H Q, u σ H Q → t σ H Q) : PE X e u := ⟨fun pins s σ H Q I q => h.run pins s σ H Q I (w _ _ _ q)⟩
theorem PT.weak {X : Cx} {e : Expr} {t u : TT} (h : PT X e t) (w : ∀ σ H Q, u σ H Q → t σ H Q) : PT X e u := ⟨fun pins s σ H Q I q => h.run pins s σ H Q I (w _ _ _ q)⟩
theorem PW.weak {X : Cx} {e : Expr} {t u : TT} (h : PW X e t) (w : ∀ σ H Q, u σ H Q → t σ H Q) : PW X e u := ⟨fun wh pins s σ H Q I q => h.run wh pins s σ H Q I (w _ _ _ q)⟩
theorem PA.weak {X : Cx} {e : List Expr} {t u : TA} (h : PA X e t) (w : ∀ σ H Q, u σ H Q → t σ H Q) : PA X e u := ⟨fun p pins s σ H Q I q => h.run p pins s σ H Q I (w _ _ _ q)⟩
theorem PS.weak {X : Cx} {e : Stmt} {t u : TS} (h : PS X e t) (w : ∀ D σ H, u D σ H → t D σ H) : PS X e u := ⟨fun pins s σ H D I q => h.run pins s σ H D I (w _ _ _ q)⟩
theorem PSs.weak {X : Cx} {e : List Stmt} {t u : TS} (h : PSs X e t) (w : ∀ D σ H, u D σ H → t D σ H) : PSs X e u := ⟨fun pins s σ H D I q => h.run pins s σ H D I (w _ _ _ q)⟩
theorem PG.weak {X : Cx} {e : Expr} {t u : TG} (h : PG X e t) (w : ∀ x σ H Q, u x σ H Q → t x σ H Q) : PG X e u := ⟨fun pins s σ H v z Q I r q => h.run pins s σ H v z Q I r (w _ _ _ _ q)⟩
theorem PGs.weak {X : Cx} {e : List Expr} {t u : TGs} (h : PGs X e t) (w : ∀ x σ H Q, u x σ H Q → t x σ H Q) : PGs X e u := ⟨fun pins s σ H v z Q I r q => h.run pins s σ H v z Q I r (w _ _ _ _ q)⟩
theorem PI.weak {X : Cx} {tg e : Expr} {t u : TI} (h : PI X tg e t) (w : ∀ σ H Q, u σ H Q → t σ H Q) : PI X tg e u := ⟨fun pins s σ H Q I q => h.run pins s σ H Q I (w _ _ _ q)⟩
end
end Y
set_option Elab.async false
set_option linter.all false
set_option maxRecDepth 100000
/-! Y3: cleaning up is sound; the core rules -/
namespace Y
open PySem PySem.Spec L2
open PyProof.Rows hiding St
section
variable {G : GK} {K : PySem.W.Frag} {H H1 H2 : Hp} {ρ ρ1 ρ2 : Nat → Addr} {n n1 n2 : Nat} {st st1 : Sto} {E : EX}
/-! ### gc -/
theorem oldOk_at : ∀ {st0 st : Sto} {k : Nat} {o o' : Ob}, oldOk n st0 st = true → st0[k]? = some o → st[k]? = some o' → o = o' ∨ o'.under n = true
  | [], _, k, o, o', _, h1, _ => by simp at h1
  | a :: r, [], k, o, o', h, _, _ => by simp [oldOk] at h
  | a :: r, b :: q, k, o, o', h, h1, h2 => by
    rw [oldOk, Bool.and_eq_true, Bool.or_eq_true] at h
    cases k with
    | zero =>
      simp at h1 h2
      subst h1 h2
      exact h.1.imp (fun z => Ob.beq_eq _ _ z) id
    | succ k => exact oldOk_at (k := k) h.2 (by simpa using h1) (by simpa using h2)
theorem nodupB_iff : ∀ {l : List Nat}, nodupB l = true → l.Nodup
  | [], _ => List.nodup_nil
  | k :: r, h => by
    rw [nodupB, Bool.and_eq_true] at h
    refine List.nodup_cons.mpr ⟨fun m => ?_, nodupB_iff h.2⟩
    have := h.1
    simp [m] at this
mutual
theorem under_of : ∀ (v : AV) (x : V), Rep K H ρ n v x → AV.under n v = true
  | .non, _, _ => rfl
  | .bl b, _, _ => rfl
  | .int i, _, _ => rfl
  | .str s, _, _ => rfl
  | .loc k, _, h => by
    cases h with
    | loc hk => exact decide_eq_true hk
  | .tup xs, _, h => by
    cases h with
    | tup hs hr => rw [AV.under]; exact underL_of _ _ hr
  | .frl xs, _, h => by
    cases h with
    | frl hs hr => rw [AV.under]; exact underL_of _ _ hr
  | .tmp xs, _, h => by
    cases h with
    | tmp hs hr => rw [AV.under]; exact underL_of _ _ hr
theorem underL_of : ∀ (v : List AV) (x : List V), RepL K H ρ n v x → AV.underL n v = true
  | [], _, _ => rfl
  | v :: vs, _, h => by
    cases h with
    | cons h1 h2 => rw [AV.underL, under_of _ _ h1, underL_of _ _ h2]; rfl
end
mutual
theorem rep_under (hl : n ≤ n2) (ag : ∀ k, k < n → ρ2 k = ρ k) : ∀ (v : AV) (x : V), AV.under n v = true → Rep K H ρ n1 v x → Rep K H ρ2 n2 v x
  | .non, _, _, h => by cases h; exact .non
  | .bl b, _, _, h => by cases h; exact .bl b
  | .int i, _, _, h => by cases h; exact .int i
  | .str s, _, _, h => by cases h; exact .str s
  | .loc k, _, u, h => by
    have hk : k < n := of_decide_eq_true u
    cases h with
    | loc _ =>
      rw [← ag k hk]
      exact .loc (Nat.lt_of_lt_of_le hk hl)
  | .tup xs, _, u, h => by
    rw [AV.under] at u
    cases h with
    | tup hs hr => exact .tup hs (repL_under hl ag _ _ u hr)
  | .frl xs, _, u, h => by
    rw [AV.under] at u
    cases h with
    | frl hs hr => exact .frl hs (repL_under hl ag _ _ u hr)
  | .tmp xs, _, u, h => by
    rw [AV.under] at u
    cases h with
    | tmp hs hr => exact .tmp hs (repL_under hl ag _ _ u hr)
theorem repL_under (hl : n ≤ n2) (ag : ∀ k, k < n → ρ2 k = ρ k) : ∀ (v : List AV) (x : List V), AV.underL n v = true → RepL K H ρ n1 v x → RepL K H ρ2 n2 v x
  | [], _, _, h => by cases h; exact .nil
  | v :: vs, _, u, h => by
    rw [AV.underL, Bool.and_eq_true] at u
    cases h with
    | cons h1 h2 => exact .cons (rep_under hl ag _ _ u.1 h1) (repL_under hl ag _ _ u.2 h2)
end
mutual
theorem ren_rep {f : Nat → Option Nat} (hf : ∀ k j, k < n → f k = some j → j < n2 ∧ ρ2 j = ρ k) : ∀ (v w : AV) (x : V), AV.ren f v = some w → Rep K H ρ n v x → Rep K H ρ2 n2 w x
  | .non, w, _, e, h => by cases h; simp [AV.ren] at e; rw [← e]; exact .non
  | .bl b, w, _, e, h => by cases h; simp [AV.ren] at e; rw [← e]; exact .bl b
  | .int i, w, _, e, h => by cases h; simp [AV.ren] at e; rw [← e]; exact .int i
  | .str s, w, _, e, h => by cases h; simp [AV.ren] at e; rw [← e]; exact .str s
  | .loc k, w, _, e, h => by
    cases h with
    | loc hk =>
      simp only [AV.ren] at e
      cases hfk : f k with
      | none => rw [hfk] at e; cases e
      | some j =>
        rw [hfk] at e
        obtain ⟨h1, h2⟩ := hf k j hk hfk
        cases e
        rw [← h2]
        exact .loc h1
  | .tup xs, w, _, e, h => by
    cases h with
    | tup hs hr =>
      simp only [AV.ren] at e
      cases hx : AV.renL f xs with
      | none => rw [hx] at e; cases e
      | some ws =>
        rw [hx] at e
        cases e
        exact .tup hs (renL_rep hf xs ws _ hx hr)
  | .frl xs, w, _, e, h => by
    cases h with
    | frl hs hr =>
      simp only [AV.ren] at e
      cases hx : AV.renL f xs with
      | none => rw [hx] at e; cases e
      | some ws =>
        rw [hx] at e
        cases e
        exact .frl hs (renL_rep hf xs ws _ hx hr)
  | .tmp xs, w, _, e, h => by
    cases h with
    | tmp hs hr =>
      simp only [AV.ren] at e
      cases hx : AV.renL f xs with
      | none => rw [hx] at e; cases e
      | some ws =>
        rw [hx] at e
        cases e
        exact .tmp hs (renL_rep hf xs ws _ hx hr)
theorem renL_rep {f : Nat → Option Nat} (hf : ∀ k j, k < n → f k = some j → j < n2 ∧ ρ2 j = ρ k) : ∀ (v w : List AV) (x : List V), AV.renL f v = some w → RepL K H ρ n v x → RepL K H ρ2 n2 w x
  | [], w, _, e, h => by cases h; simp [AV.renL] at e; subst e; exact .nil
  | v :: vs, w, _, e, h => by
    cases h with
    | cons h1 h2 =>
      simp only [AV.renL] at e
      cases e1 : AV.ren f v with
      | none => rw [e1] at e; simp at e
      | some y =>
        cases e2 : AV.renL f vs with
        | none => rw [e1, e2] at e; simp at e
        | some ys =>
          rw [e1, e2] at e
          cases e
          exact .cons (ren_rep hf v y _ e1 h1) (renL_rep hf vs ys _ e2 h2)
end
theorem mapO_len {α β : Type} {f : α → Option β} : ∀ {l : List α} {r : List β}, mapO f l = some r → r.length = l.length
  | [], r, h => by simp [mapO] at h; subst h; rfl
  | x :: xs, r, h => by
    simp only [mapO] at h
    split at h
    · rename_i y ys h1 h2
      cases h
      rw [List.length_cons, List.length_cons, mapO_len h2]
    · cases h
theorem mapO_at {α β : Type} {f : α → Option β} : ∀ {l : List α} {r : List β} {i : Nat} {x : α}, mapO f l = some r → l[i]? = some x → ∃ y, r[i]? = some y ∧ f x = some y
  | [], r, i, x, h, e => by simp at e
  | a :: xs, r, i, x, h, e => by
    simp only [mapO] at h
    split at h
    · rename_i y ys h1 h2
      cases h
      cases i with
      | zero => simp at e; subst e; exact ⟨y, rfl, h1⟩
      | succ i =>
        obtain ⟨z, e1, e2⟩ := mapO_at (i := i) h2 (by simpa using e)
        exact ⟨z, by simpa using e1, e2⟩
    · cases h
theorem renL_len {f : Nat → Option Nat} : ∀ {v w : List AV}, AV.renL f v = some w → w.length = v.length
  | [], w, e => by simp [AV.renL] at e; subst e; rfl
  | v :: vs, w, e => by
    simp only [AV.renL] at e
    split at e
    · rename_i y ys h1 h2
      cases e
      rw [List.length_cons, List.length_cons, renL_len h2]
    · cases e
theorem zip_fst {α β : Type} : ∀ {l : List α} {r : List β}, r.length = l.length → (l.zip r).map (·.1) = l
  | [], _, _ => by simp
  | a :: l, [], h => by simp at h
  | a :: l, b :: r, h => by simp; exact zip_fst (by simpa using h)
theorem zip_snd {α β : Type} : ∀ {l : List α} {r : List β}, r.length = l.length → (l.zip r).map (·.2) = r
  | [], [], _ => rfl
  | [], _ :: _, h => by simp at h
  | a :: l, [], h => by simp at h
  | a :: l, b :: r, h => by simp; exact zip_snd (by simpa using h)
theorem renL_app {f : Nat → Option Nat} : ∀ {v w v' w' : List AV}, AV.renL f v = some v' → AV.renL f w = some w' → AV.renL f (v ++ w) = some (v' ++ w')
  | [], w, v', w', h1, h2 => by
    simp [AV.renL] at h1; subst h1; exact h2
  | x :: v, w, v', w', h1, h2 => by
    simp only [AV.renL] at h1
    split at h1
    · rename_i y ys e1 e2
      cases h1
      rw [List.cons_append, AV.renL, e1, renL_app e2 h2]; rfl
    · cases h1
/-- an object pointing elsewhere lies as it lay -/
theorem obRen {f : Nat → Option Nat} {a : Addr} {ys : List V} : ∀ {o w : Ob}, Ob.ren f o = some w → Shape G H a ys o → AV.renL f o.vals = some w.vals ∧ Shape G H a ys w
  | .lst xs, w, e, h => by
    simp only [Ob.ren] at e
    cases hx : AV.renL f xs with
    | none => rw [hx] at e; cases e
    | some ws => rw [hx] at e; cases e; exact ⟨hx, h⟩
  | .dct kvs, w, e, h => by
    simp only [Ob.ren] at e
    cases hx : AV.renL f (kvs.map (·.2)) with
    | none => rw [hx] at e; cases e
    | some ws =>
      rw [hx] at e; cases e
      have hl : ws.length = (kvs.map (·.1)).length := by rw [renL_len hx, List.length_map, List.length_map]
      obtain ⟨ks, h1, h2, h3⟩ := h
      refine ⟨?_, ks, h1, ?_, h3⟩
      · show AV.renL f (kvs.map (·.2)) = some (((kvs.map (·.1)).zip ws).map (·.2))
        rw [zip_snd hl]; exact hx
      · rw [zip_fst hl]; exact h2
  | .fdc kvs, w, e, h => by simp [Ob.ren] at e
  | .ins c fs, w, e, h => by
    simp only [Ob.ren] at e
    cases hx : AV.renL f (fs.map (·.2)) with
    | none => rw [hx] at e; cases e
    | some ws =>
      rw [hx] at e; cases e
      have hl : ws.length = (fs.map (·.1)).length := by rw [renL_len hx, List.length_map, List.length_map]
      obtain ⟨dx, gs, h1, h2, h3⟩ := h
      refine ⟨?_, dx, gs, h1, ?_, h3⟩
      · show AV.renL f (fs.map (·.2)) = some (((fs.map (·.1)).zip ws).map (·.2))
        rw [zip_snd hl]; exact hx
      · rw [zip_fst hl]; exact h2
  | .fkd kvs, w, e, h => by simp [Ob.ren] at e
  | .exc c, w, e, h => by
    simp only [Ob.ren, Option.some.injEq] at e
    subst e
    exact ⟨rfl, h⟩
  | .kdc kvs, w, e, h => by
    simp only [Ob.ren] at e
    split at e
    · rename_i hk
      cases hx : AV.renL f (kvs.map (·.2)) with
      | none => rw [hx] at e; cases e
      | some ws =>
        rw [hx] at e; cases e
        have hl : ws.length = (kvs.map (·.1)).length := by rw [renL_len hx, List.length_map, List.length_map]
        obtain ⟨hs, o, xs, h1, h2, h3, h4⟩ := h
        refine ⟨?_, hs, o, xs, h1, h2, ?_, h4⟩
        · show AV.renL f (kvs.map (·.1) ++ kvs.map (·.2)) = some (((kvs.map (·.1)).zip ws).map (·.1) ++ ((kvs.map (·.1)).zip ws).map (·.2))
          rw [zip_snd hl, zip_fst hl]; exact renL_app hk hx
        · have : ((kvs.map (·.1)).zip ws).map (fun p => kOf p.1) = kvs.map (fun p => kOf p.1) := by
            have e2 : ((kvs.map (·.1)).zip ws).map (fun p => kOf p.1) = (((kvs.map (·.1)).zip ws).map (·.1)).map kOf := by rw [List.map_map]; rfl
            rw [e2, zip_fst hl, List.map_map]; rfl
          rw [this]; exact h3
    · cases e
theorem idxOf_at : ∀ {l : List Nat} {k j : Nat}, l.idxOf? k = some j → l[j]? = some k
  | [], k, j, h => by simp at h
  | a :: l, k, j, h => by
    rw [List.idxOf?_cons] at h
    split at h
    · rename_i e
      cases h
      simp at e
      rw [e]; rfl
    · cases hj : l.idxOf? k with
      | none => rw [hj] at h; cases h
      | some i =>
        rw [hj] at h
        cases h
        simpa using idxOf_at hj
theorem gc_sound {st0 : Sto} {r : R AV} {Q : VK} (s0 : RepS G H ρ st0) (h : Post G E H ρ st0.length (rV G.K) (gc st0 r) Q) : Post G E H ρ st0.length (rV G.K) r Q := by
  cases r with
  | bad => exact h
  | ex u st => exact h
  | ok v st =>
    intro H' ρ' x e s q
    simp only [gc] at h
    by_cases hl : st.length = st0.length
    · rw [if_pos hl] at h
      exact h H' ρ' x e s q
    rw [if_neg hl] at h
    split at h
    · rename_i hc
      rw [Bool.and_eq_true, Bool.and_eq_true] at hc
      obtain ⟨⟨hold, hnd⟩, hall⟩ := hc
      generalize reach st0.length st 3 (addNew st0.length [] v.locs) = ks at h hnd hall
      have hnd := nodupB_iff hnd
      have hge : ∀ k ∈ ks, st0.length ≤ k := fun k hk => by
        have := List.all_eq_true.mp hall k hk
        exact of_decide_eq_true this
      split at h
      · rename_i v' os hv hos
        have hol : os.length = ks.length := mapO_len hos
        have hlt : ∀ (j k : Nat), ks[j]? = some k → k < st.length := fun j k hk => by
          obtain ⟨y, _, e2⟩ := mapO_at hos hk
          cases hz : st[k]? with
          | none => rw [hz] at e2; cases e2
          | some o => exact (List.getElem?_eq_some_iff.mp hz).1
        have htk : (st.take st0.length).length = st0.length := by rw [List.length_take]; exact Nat.min_eq_left e.le
        -- the new addresses
        let ρ2 : Nat → Addr := fun k => if k < st0.length then ρ' k else ρ' (ks.getD (k - st0.length) 0)
        have r2lt : ∀ k, k < st0.length → ρ2 k = ρ' k := fun k hk => if_pos hk
        have r2ge : ∀ (j k : Nat), ks[j]? = some k → ρ2 (st0.length + j) = ρ' k := fun j k hk => by
          show (if st0.length + j < st0.length then _ else _) = _
          rw [if_neg (by omega), Nat.add_sub_cancel_left, List.getD_eq_getElem?_getD, hk]
          rfl
        have hf : ∀ k j, k < st.length → place st0.length ks k = some j → j < (st.take st0.length ++ os).length ∧ ρ2 j = ρ' k := fun k j hk hp => by
          unfold place at hp
          rw [List.length_append, htk, hol]
          split at hp
          · rename_i hkn
            cases hp
            exact ⟨by omega, r2lt _ hkn⟩
          · cases hi : ks.idxOf? k with
            | none => rw [hi] at hp; cases hp
            | some i =>
              rw [hi] at hp
              cases hp
              have hki := idxOf_at hi
              have := (List.getElem?_eq_some_iff.mp hki).1
              exact ⟨show st0.length + i < st0.length + ks.length by omega, r2ge i k hki⟩
        have eLen : (st.take st0.length ++ os).length = st0.length + ks.length := by rw [List.length_append, htk, hol]
        -- indices: where the object of index i stood
        have hidx : ∀ i, i < (st.take st0.length ++ os).length → (i < st0.length ∧ ρ2 i = ρ' i) ∨ (st0.length ≤ i ∧ ∃ k, ks[i - st0.length]? = some k ∧ ρ2 i = ρ' k) := fun i hi => by
          rw [eLen] at hi
          rcases Nat.lt_or_ge i st0.length with h1 | h1
          · exact .inl ⟨h1, r2lt i h1⟩
          · refine .inr ⟨h1, ks[i - st0.length], List.getElem?_eq_getElem (by omega), ?_⟩
            have := r2ge (i - st0.length) _ (List.getElem?_eq_getElem (by omega : i - st0.length < ks.length))
            rw [Nat.add_sub_cancel' h1] at this
            exact this
        refine h H' ρ2 x ⟨?_, fun k hk => (r2lt k hk).trans (e.ag k hk), e.fr, fun k h1 h2 => ?_, e.kp, e.fz⟩ ⟨fun k o hk => ?_, fun i j hi hj eij => ?_, s.tb⟩ (ren_rep hf v v' x hv q)
        · rw [eLen]; omega
        · rcases hidx k h2 with ⟨z, _⟩ | ⟨_, j, hj, ej⟩
          · omega
          · rw [ej]
            exact e.nw j (hge j (List.mem_of_getElem? hj)) (hlt _ j hj)
        · rcases hidx k (List.getElem?_eq_some_iff.mp hk).1 with ⟨hkn, ek⟩ | ⟨hkn, j, hj, ej⟩
          · rw [List.getElem?_append_left (by omega), List.getElem?_take_of_lt hkn] at hk
            obtain ⟨ys, sh, rr⟩ := s.ob k o hk
            refine ⟨ys, by rw [ek]; exact sh, ?_⟩
            have hu : AV.underL st0.length o.vals = true := by
              obtain ⟨zs, sh0, rr0⟩ := s0.ob k st0[k] (List.getElem?_eq_getElem hkn)
              rcases oldOk_at hold (List.getElem?_eq_getElem hkn) hk with z | z
              · rw [← z]; exact underL_of _ _ rr0
              · exact z
            exact repL_under (by rw [eLen]; omega) (fun i hi => r2lt i hi) _ _ hu rr
          · have hk2 : os[k - st0.length]? = some o := by
              rw [List.getElem?_append_right (by omega), htk] at hk
              exact hk
            obtain ⟨y, e1, e2⟩ := mapO_at hos hj
            rw [hk2] at e1
            cases e1
            cases hz : st[j]? with
            | none => rw [hz] at e2; cases e2
            | some oj =>
              rw [hz] at e2
              obtain ⟨ys, sh, rr⟩ := s.ob j oj hz
              obtain ⟨e3, sh'⟩ := obRen (w := o) e2 sh
              exact ⟨ys, by rw [ej]; exact sh', renL_rep hf _ _ _ e3 rr⟩
        · rcases hidx i hi with ⟨h1, e1⟩ | ⟨h1, k1, q1, e1⟩ <;> rcases hidx j hj with ⟨h2, e2⟩ | ⟨h2, k2, q2, e2⟩
          · exact s.inj i j (Nat.lt_of_lt_of_le h1 e.le) (Nat.lt_of_lt_of_le h2 e.le) (by rw [← e1, ← e2]; exact eij)
          · have := s.inj i k2 (Nat.lt_of_lt_of_le h1 e.le) (hlt _ _ q2) (by rw [← e1, ← e2]; exact eij)
            have := hge k2 (List.mem_of_getElem? q2)
            omega
          · have := s.inj k1 j (hlt _ _ q1) (Nat.lt_of_lt_of_le h2 e.le) (by rw [← e1, ← e2]; exact eij)
            have := hge k1 (List.mem_of_getElem? q1)
            omega
          · have ek := s.inj k1 k2 (hlt _ _ q1) (hlt _ _ q2) (by rw [← e1, ← e2]; exact eij)
            subst ek
            have := nd_ix hnd q1 q2
            omega
      · exact h.elim
    · exact h.elim
end
end Y
set_option Elab.async false
set_option linter.all false
set_option maxRecDepth 100000
/-! Y4: the core rules: names, constants, operators, tests, statements, targets, loops, comprehensions, defs -/
namespace Y
open PySem PySem.Spec L2
open PyProof.Rows hiding St
abbrev gX (X : Cx) (cm : CM) : GK := ⟨X.K, cm, X.w⟩
/-- how an operation on abstract values stands to a rule on values -/
def Snd1 (G : GK) (E : EX) (o : O1) (r : V → Hp → VK → Prop) : Prop := ∀ H ρ st a x Q, RepS G H ρ st → Rep G.K H ρ st.length a x → Post G E H ρ st.length (rV G.K) (o a st) Q → r x H Q
def Snd2 (G : GK) (E : EX) (o : O2) (r : R2) : Prop := ∀ H ρ st a b x y Q, RepS G H ρ st → Rep G.K H ρ st.length a x → Rep G.K H ρ st.length b y → Post G E H ρ st.length (rV G.K) (o a b st) Q → r x y H Q
def SndN (G : GK) (E : EX) (o : ON) (r : List V → Hp → VK → Prop) : Prop := ∀ H ρ st vs xs Q, RepS G H ρ st → RepL G.K H ρ st.length vs xs → Post G E H ρ st.length (rV G.K) (o vs st) Q → r xs H Q
def Snd3 (G : GK) (E : EX) (o : O3) (r : TSet) : Prop := ∀ H ρ st a b c x y z Q, RepS G H ρ st → Rep G.K H ρ st.length a x → Rep G.K H ρ st.length b y → Rep G.K H ρ st.length c z → Post G E H ρ st.length rUn (o a b c st) (fun _ H' => Q H') → r x y z H Q
section
variable {X : Cx} {cm : CM} {E : EX} {a b c e : Expr} {es : List Expr} {ma mb mc : ME} {mas : MA} {ta tb tc : MT} {pos : Pos}
/-! ### expressions -/
theorem tVar_of {G : GK} {i : Nat} (σ : St) (H : Hp) (Q : VK) (h : tE G E (mVar i) σ H Q) : tVar i σ H Q := by
  obtain ⟨ρ, st, env, hs, he, hp⟩ := h
  unfold mVar at hp
  split at hp
  · rename_i v hv
    obtain ⟨x, e1, r⟩ := he.2 i v hv
    exact ⟨x, e1, hp.at hs r⟩
  · exact hp.elim
theorem ye_var (i : Nat) {x : Str} (hN : X.N[i]? = some x := by rfl) (hv : Vis X.env.scope x := by first | exact Or.inl rfl | exact Or.inr (Or.inl rfl) | exact Or.inr (Or.inr rfl)) (hd : (x == ("__debug__" : Str)) = false := by decide)
    (hcd : (x == ("__classdict__" : Str)) = false := by decide) : PE X (.Name x pos) (tE (gX X cm) E (mVar i)) := PE.weak (pe_var hN hv hd hcd) tVar_of
theorem tC_of {G : GK} {v : AV} {x : V} (r : ∀ H ρ n, Rep G.K H ρ n v x) (σ : St) (H : Hp) (Q : VK) (h : tE G E (mC v) σ H Q) : tC x σ H Q := by
  obtain ⟨ρ, st, env, hs, he, hp⟩ := h
  exact Post.at (x := x) hp hs (r _ _ _)
theorem ye_int {i j} : PE X (.Constant (.int i) j pos) (tE (gX X cm) E (mC (.int i))) := PE.weak pe_int (tC_of fun _ _ _ => .int i)
theorem ye_bl {i j} : PE X (.Constant (.bool i) j pos) (tE (gX X cm) E (mC (.bl i))) := PE.weak pe_bl (tC_of fun _ _ _ => .bl i)
theorem ye_non {j} : PE X (.Constant .none j pos) (tE (gX X cm) E (mC .non)) := PE.weak pe_non (tC_of fun _ _ _ => .non)
theorem ye_str {i j} : PE X (.Constant (.str i) j pos) (tE (gX X cm) E (mC (.str i))) := PE.weak pe_str (tC_of fun _ _ _ => .str i)
/-- a module's constant -/
theorem ye_glob {x : Str} {v : AV} {y : V} {u : Value} (hg : Gl X x) (hm : X.mg x = some u) (r : RelV y u) (rv : ∀ H ρ n, Rep X.K H ρ n v y) (hd : (x == ("__debug__" : Str)) = false := by decide) : PE X (.Name x pos) (tE (gX X cm) E (mC v)) :=
  PE.weak (pe_glob hg hm r hd) (tC_of rv)
theorem tOp_of {G : GK} {o : O2} {r : R2} (hr : Snd2 G E o r) (σ : St) (H : Hp) (Q : VK) (h : tE G E (mOp o ma mb) σ H Q) : tOp r (tE G E ma) (tE G E mb) σ H Q := by
  obtain ⟨ρ, st, env, hs, he, hp⟩ := h
  exact ⟨ρ, st, env, hs, he, hp.bindI fun v st1 H1 ρ1 x e1 s1 r1 hp1 => ⟨ρ1, st1, env, s1, he.ext hs e1, hp1.bindI fun w st2 H2 ρ2 y e2 s2 r2 hp2 => hr _ _ _ _ _ _ _ _ s2 (Rep.ext s1 e2 r1) r2 hp2⟩⟩
theorem ye_op {op : Operator} {o : O2} {r : R2} (ho : OpR X (binaryOp op) r) (hr : Snd2 (gX X cm) E o r) (ha : PE X a (tE (gX X cm) E ma)) (hb : PE X b (tE (gX X cm) E mb)) :
    PE X (.BinOp a op b pos) (tE (gX X cm) E (mOp o ma mb)) := PE.weak (pe_op ho ha hb) (tOp_of hr)
theorem ye_un {op : UnaryOp} {o : O1} {r : V → Hp → VK → Prop} (ho : UnR X (unaryOp op) r) (hr : Snd1 (gX X cm) E o r) (ha : PE X a (tE (gX X cm) E ma)) :
    PE X (.UnaryOp op a pos) (tE (gX X cm) E (mUn o ma)) := PE.weak (pe_un ho ha) fun σ H Q ⟨ρ, st, env, hs, he, hp⟩ =>
  ⟨ρ, st, env, hs, he, hp.bindI fun v st1 H1 ρ1 x e1 s1 r1 hp1 => hr _ _ _ _ _ _ s1 r1 hp1⟩
theorem ye_cmp {op : CmpOp} {o : O2} {r : R2} (ho : OpR X (compareOp op) r) (hr : Snd2 (gX X cm) E o r) (ha : PE X a (tE (gX X cm) E ma)) (hb : PE X b (tE (gX X cm) E mb)) (hm : behindInMarks op b = false) :
    PE X (.Compare a [op] [b] pos) (tE (gX X cm) E (mOp o ma mb)) := PE.weak (pe_cmpR ho ha hb hm) (tOp_of hr)
theorem tTest_of {G : GK} {m : ME} {t : TE} (w : ∀ σ H Q, tE G E m σ H Q → t σ H Q) (σ : St) (H : Hp) (Q : Bool → Hp → Prop) (h : tT G E (mtV m) σ H Q) : tTest t σ H Q := by
  obtain ⟨ρ, st, env, hs, he, hp⟩ := h
  refine w _ _ _ ⟨ρ, st, env, hs, he, hp.bindI fun v st1 H1 ρ1 x e1 s1 r1 hp1 => ?_⟩
  cases v with
  | bl k =>
    cases (show Rep G.K H1 ρ1 st1.length (.bl k) x from r1)
    exact ⟨k, rfl, hp1.at s1 rfl⟩
  | _ => exact hp1.elim
theorem yt_cmp {op : CmpOp} {o : O2} {r : R2} (ho : OpR X (compareOp op) r) (hr : Snd2 (gX X cm) E o r) (ha : PE X a (tE (gX X cm) E ma)) (hb : PE X b (tE (gX X cm) E mb)) (hm : behindInMarks op b = false) :
    PT X (.Compare a [op] [b] pos) (tT (gX X cm) E (mtV (mOp o ma mb))) := PT.weak (pt_cmpR ho ha hb hm) (tTest_of (tOp_of hr))
theorem yt_val (h : PE X e (tE (gX X cm) E ma)) (he : ∀ whole, isTrue e X.env whole = (do let v ← whole; standAt e.pos; holding [v] (truthy v)) := by intro _; rfl) : PT X e (tT (gX X cm) E (mtV ma)) :=
  PT.weak (pt_val h he) (tTest_of fun _ _ _ q => q)
theorem tChain_of {G : GK} {o o' : O2} {r r' : R2} (hr : Snd2 G E o r) (hr' : Snd2 G E o' r') (σ : St) (H : Hp) (Q : VK) (h : tE G E (mChain o o' ma mb mc) σ H Q) : tChain r r' (tE G E ma) (tE G E mb) (tE G E mc) σ H Q := by
  obtain ⟨ρ, st, env, hs, he, hp⟩ := h
  refine ⟨ρ, st, env, hs, he, hp.bindI fun v st1 H1 ρ1 x e1 s1 r1 hp1 => ⟨ρ1, st1, env, s1, he.ext hs e1, hp1.bindI fun w st2 H2 ρ2 y e2 s2 r2 hp2 => hr _ _ _ _ _ _ _ _ s2 (Rep.ext s1 e2 r1) r2 (hp2.bindI fun z st3 H3 ρ3 q e3 s3 r3 hp3 => ?_)⟩⟩
  cases z with
  | bl k =>
    cases (show Rep G.K H3 ρ3 st3.length (.bl k) q from r3)
    refine ⟨k, rfl, ?_⟩
    cases k with
    | true =>
      rw [if_pos rfl]
      exact ⟨ρ3, st3, env, s3, ((he.ext hs e1).ext s1 e2).ext s2 e3, (show Post _ _ _ _ _ _ (R.bind (mc env st3) _) _ from hp3).bindI fun w4 st4 H4 ρ4 y4 e4 s4 r4 hp4 => hr' _ _ _ _ _ _ _ _ s4 (Rep.ext s3 e4 (Rep.ext s2 e3 r2)) r4 hp4⟩
    | false =>
      rw [if_neg Bool.false_ne_true]
      exact Post.at (x := V.bl false) hp3 s3 (.bl false)
  | _ => exact hp3.elim
theorem ye_chain {op op' : CmpOp} {o o' : O2} {r r' : R2} (ho : OpR X (compareOp op) r) (ho' : OpR X (compareOp op') r') (hr : Snd2 (gX X cm) E o r) (hr' : Snd2 (gX X cm) E o' r') (ha : PE X a (tE (gX X cm) E ma)) (hb : PE X b (tE (gX X cm) E mb)) (hc : PE X c (tE (gX X cm) E mc))
    (h1 : lastMarks [op, op'] [b, c] = false) : PE X (.Compare a [op, op'] [b, c] pos) (tE (gX X cm) E (mChain o o' ma mb mc)) := PE.weak (pe_chain ho ho' ha hb hc h1) (tChain_of hr hr')
theorem yt_chain {op op' : CmpOp} {o o' : O2} {r r' : R2} (ho : OpR X (compareOp op) r) (ho' : OpR X (compareOp op') r') (hr : Snd2 (gX X cm) E o r) (hr' : Snd2 (gX X cm) E o' r') (ha : PE X a (tE (gX X cm) E ma)) (hb : PE X b (tE (gX X cm) E mb)) (hc : PE X c (tE (gX X cm) E mc))
    (h1 : lastMarks [op, op'] [b, c] = false) : PT X (.Compare a [op, op'] [b, c] pos) (tT (gX X cm) E (mtV (mChain o o' ma mb mc))) := PT.weak (pt_chain ho ho' ha hb hc h1) (tTest_of (tChain_of hr hr'))
theorem ye_if (hc : PT X c (tT (gX X cm) E tc)) (ha : PE X a (tE (gX X cm) E ma)) (hb : PE X b (tE (gX X cm) E mb)) : PE X (.IfExp c a b pos) (tE (gX X cm) E (mIf tc ma mb)) :=
  PE.weak (pe_ifExp hc ha hb) fun σ H Q ⟨ρ, st, env, hs, he, hp⟩ => ⟨ρ, st, env, hs, he, hp.bindI fun v st1 H1 ρ1 x e1 s1 r1 hp1 => by
    cases (show x = v from r1)
    cases v with
    | true => exact iteT ⟨ρ1, st1, env, s1, he.ext hs e1, hp1⟩
    | false => exact iteF ⟨ρ1, st1, env, s1, he.ext hs e1, hp1⟩⟩
/-! ### tests -/
theorem yw_one (h : PT X a (tT (gX X cm) E ta)) : PW X (.BoolOp .And [a] pos) (tT (gX X cm) E ta) := pw_and1 h
theorem yw_oner (h : PT X a (tT (gX X cm) E ta)) : PW X (.BoolOp .Or [a] pos) (tT (gX X cm) E ta) := pw_or1 h
theorem yw_and (ha : PT X a (tT (gX X cm) E ta)) (hb : PW X (.BoolOp .And (b :: es) pos) (tT (gX X cm) E tb)) : PW X (.BoolOp .And (a :: b :: es) pos) (tT (gX X cm) E (mtAnd ta tb)) :=
  PW.weak (pw_and ha hb) fun σ H Q ⟨ρ, st, env, hs, he, hp⟩ => ⟨ρ, st, env, hs, he, hp.bindI fun v st1 H1 ρ1 x e1 s1 r1 hp1 => by
    cases (show x = v from r1)
    cases v with
    | true => exact iteT ⟨ρ1, st1, env, s1, he.ext hs e1, hp1⟩
    | false => exact iteF (Post.at (x := false) hp1 s1 rfl)⟩
theorem yw_or (ha : PT X a (tT (gX X cm) E ta)) (hb : PW X (.BoolOp .Or (b :: es) pos) (tT (gX X cm) E tb)) : PW X (.BoolOp .Or (a :: b :: es) pos) (tT (gX X cm) E (mtOr ta tb)) :=
  PW.weak (pw_or ha hb) fun σ H Q ⟨ρ, st, env, hs, he, hp⟩ => ⟨ρ, st, env, hs, he, hp.bindI fun v st1 H1 ρ1 x e1 s1 r1 hp1 => by
    cases (show x = v from r1)
    cases v with
    | true => exact iteT (Post.at (x := true) hp1 s1 rfl)
    | false => exact iteF ⟨ρ1, st1, env, s1, he.ext hs e1, hp1⟩⟩
theorem yt_not (ha : PT X a (tT (gX X cm) E ta)) : PT X (.UnaryOp .Not a pos) (tT (gX X cm) E (mtNot ta)) :=
  PT.weak (pt_not ha) fun σ H Q ⟨ρ, st, env, hs, he, hp⟩ => ⟨ρ, st, env, hs, he, hp.bindI fun v st1 H1 ρ1 x e1 s1 r1 hp1 => by
    cases (show x = v from r1)
    exact Post.at (x := !v) hp1 s1 rfl⟩
/-- .. as values -/
theorem yv_one {op} (h : PE X a (tE (gX X cm) E ma)) : PE X (.BoolOp op [a] pos) (tE (gX X cm) E ma) := pe_one h
theorem yv_and (ha : PE X a (tE (gX X cm) E ma)) (hb : PE X (.BoolOp .And (b :: es) pos) (tE (gX X cm) E mb)) : PE X (.BoolOp .And (a :: b :: es) pos) (tE (gX X cm) E (mAndV ma mb)) :=
  PE.weak (pe_and ha hb) fun σ H Q ⟨ρ, st, env, hs, he, hp⟩ => ⟨ρ, st, env, hs, he, hp.bindI fun v st1 H1 ρ1 x e1 s1 r1 hp1 => by
    cases v with
    | bl k =>
      cases (show Rep X.K H1 ρ1 st1.length (.bl k) x from r1)
      refine ⟨k, rfl, ?_⟩
      cases k with
      | true => exact iteT ⟨ρ1, st1, env, s1, he.ext hs e1, hp1⟩
      | false => exact iteF (Post.at (x := V.bl false) hp1 s1 (.bl false))
    | _ => exact hp1.elim⟩
theorem yv_or (ha : PE X a (tE (gX X cm) E ma)) (hb : PE X (.BoolOp .Or (b :: es) pos) (tE (gX X cm) E mb)) : PE X (.BoolOp .Or (a :: b :: es) pos) (tE (gX X cm) E (mOrV ma mb)) :=
  PE.weak (pe_or ha hb) fun σ H Q ⟨ρ, st, env, hs, he, hp⟩ => ⟨ρ, st, env, hs, he, hp.bindI fun v st1 H1 ρ1 x e1 s1 r1 hp1 => by
    cases v with
    | bl k =>
      cases (show Rep X.K H1 ρ1 st1.length (.bl k) x from r1)
      refine ⟨k, rfl, ?_⟩
      cases k with
      | true => exact iteT (Post.at (x := V.bl true) hp1 s1 (.bl true))
      | false => exact iteF ⟨ρ1, st1, env, s1, he.ext hs e1, hp1⟩
    | _ => exact hp1.elim⟩
theorem yv_not (ha : PE X a (tE (gX X cm) E ma)) : PE X (.UnaryOp .Not a pos) (tE (gX X cm) E (mNotV ma)) :=
  PE.weak (pe_not ha) fun σ H Q ⟨ρ, st, env, hs, he, hp⟩ => ⟨ρ, st, env, hs, he, hp.bindI fun v st1 H1 ρ1 x e1 s1 r1 hp1 => by
    cases v with
    | bl k =>
      cases (show Rep X.K H1 ρ1 st1.length (.bl k) x from r1)
      exact ⟨k, rfl, Post.at (x := V.bl (!k)) hp1 s1 (.bl (!k))⟩
    | _ => exact hp1.elim⟩
/-! ### arguments -/
theorem ya_nil : PA X [] (tA (gX X cm) E maNil) := PA.weak pa_nil fun σ H Q ⟨ρ, st, env, hs, he, hp⟩ => Post.at (x := []) hp hs RepL.nil
theorem ya_cons (ha : PE X a (tE (gX X cm) E ma)) (hb : PA X es (tA (gX X cm) E mas)) (hs : starEach (a :: es) X.env = (false, eval a X.env) :: starEach es X.env := by rfl) : PA X (a :: es) (tA (gX X cm) E (maCons ma mas)) :=
  PA.weak (pa_cons ha hb hs) fun σ H Q ⟨ρ, st, env, hs, he, hp⟩ => ⟨ρ, st, env, hs, he, hp.bindI fun v st1 H1 ρ1 x e1 s1 r1 hp1 => ⟨ρ1, st1, env, s1, he.ext hs e1, hp1.bindI fun ws st2 H2 ρ2 ys e2 s2 r2 hp2 => Post.at (x := x :: ys) hp2 s2 (RepL.cons (Rep.ext s1 e2 r1) r2)⟩⟩
theorem LIM_line : LIM = sizeLine := by rw [sizeLine_eq]; rfl
/-- a plain tuple is laid -/
theorem Inv.lplain {X : Cx} {pins : List (Addr × Obj)} {σ : St} {H : Hp} {s : Shared} {xs : List V} {us : List Value} {t' : Nat} (I : Inv X pins σ H s) (r : Vals xs us) (hz : xs.length ≤ sizeLine) :
    Inv X pins σ (upd H s.heap.objs.size (.frz { cls := .type "tuple", data := .seq us.toArray } (.tup xs))) { s with heap := s.heap.push { cls := .type "tuple", data := .seq us.toArray }, toks := t' } :=
  I.laid (fun b u e => Heap.get?_push_of_some _ e) (Nat.le_refl _) (show ObjOk X.prog X.w _ _ _ (.frz _ (.tup xs)) from ⟨Heap.get?_push_size _ rfl, hz, us, r, IsTup.new _ _⟩)
def tTupP (t : TA) : TE := fun σ H Q => t σ H fun xs H1 => xs.length ≤ sizeLine ∧ ∀ p o, o.cls = .type "tuple" → o.dict = none → H1 p = none → Q (.ref p) (upd H1 p (.frz o (.tup xs)))
theorem pe_tupP {es : List Expr} {t : TA} {x1} (h : PA X es t) : PE X (.Tuple es x1 pos) (tTupP t) := by
  refine ⟨fun pins s σ H Q I hq => ?_⟩
  refine wpAny_Tuple_spliced (thn (h.run pos pins s σ H _ I hq) fun us s1 ⟨xs, H1, I1, r, z, q⟩ => ⟨by rw [← r.length]; exact z, ?_⟩)
  exact ⟨.ref s1.heap.objs.size, _, Inv.lplain (t' := s1.toks) I1 r z, rfl, q _ _ rfl rfl (I1.hok.fresh (Nat.le_refl _))⟩
/-- behind the making of a plain tuple -/
theorem plain_at {G : GK} {H : Hp} {ρ : Nat → Addr} {st : Sto} {vs : List AV} {xs : List V} {p : Addr} {o : Obj} {Q : VK} (hs : RepS G H ρ st) (r : RepL G.K H ρ st.length vs xs) (hc : o.cls = .type "tuple") (hd : o.dict = none) (hp : H p = none)
    (h : Post G E H ρ st.length (rV G.K) (.ok (.tup vs) st) Q) : Q (.ref p) (upd H p (.frz o (.tup xs))) :=
  h _ ρ _ (Ext.lay hp) (hs.lay hp) (.tup (.inl ⟨o, upd_same, hc, hd⟩) (repL_mv (tups_new hp) (Nat.le_refl _) (fun _ _ => rfl) _ _ r))
/-- behind the making of a list -/
theorem list_at {G : GK} {H : Hp} {ρ : Nat → Addr} {st : Sto} {vs : List AV} {xs : List V} {p : Addr} {Q : VK} (hs : RepS G H ρ st) (r : RepL G.K H ρ st.length vs xs) (hp : H p = none)
    (h : Post G E H ρ st.length (rV G.K) (.ok (.loc st.length) (st ++ [.lst vs])) Q) : Q (.ref p) (upd H p (.lst xs)) := by
  have e : (st ++ [Ob.lst vs]).length = st.length + 1 := by simp
  refine h _ (more ρ st.length p) _ (by rw [e]; exact Ext.new hp) (hs.new (ob := .lst vs) hp (show Shape G _ p xs (.lst vs) from upd_same) r) ?_
  have z := Rep.loc (K := G.K) (H := upd H p (.lst xs)) (ρ := more ρ st.length p) (n := (st ++ [Ob.lst vs]).length) (k := st.length) (by rw [e]; exact Nat.lt_succ_self _)
  rw [more_at] at z
  exact z
theorem ye_tup {x1} (h : PA X es (tA (gX X cm) E mas)) : PE X (.Tuple es x1 pos) (tE (gX X cm) E (mN oTup mas)) :=
  PE.weak (pe_tupP h) fun σ H Q ⟨ρ, st, env, hs, he, hp⟩ => ⟨ρ, st, env, hs, he, hp.bindI fun vs st1 H1 ρ1 xs e1 s1 r1 hp1 => by
    have r1 : RepL X.K H1 ρ1 st1.length vs xs := r1
    unfold oTup at hp1
    split at hp1
    · rename_i hl
      exact ⟨by rw [← r1.length, ← LIM_line]; exact hl, fun p o hc hd hn => plain_at s1 r1 hc hd hn hp1⟩
    · exact hp1.elim⟩
theorem ye_lst (h : PA X es (tA (gX X cm) E mas)) : PE X (.List es pos) (tE (gX X cm) E (mN oLst mas)) :=
  PE.weak (pe_lst h) fun σ H Q ⟨ρ, st, env, hs, he, hp⟩ => ⟨ρ, st, env, hs, he, hp.bindI fun vs st1 H1 ρ1 xs e1 s1 r1 hp1 => by
    have r1 : RepL X.K H1 ρ1 st1.length vs xs := r1
    unfold oLst at hp1
    split at hp1
    · rename_i hl
      exact ⟨by rw [← r1.length, ← LIM_line]; exact hl, fun p hn => list_at s1 r1 hn hp1⟩
    · exact hp1.elim⟩
/-- a built-in called -/
theorem tCB_of {G : GK} {o : ON} {r : List V → Hp → VK → Prop} (hr : SndN G E o r) (σ : St) (H : Hp) (Q : VK) (h : tE G E (mN o mas) σ H Q) : tCB r (tA G E mas) σ H Q := by
  obtain ⟨ρ, st, env, hs, he, hp⟩ := h
  exact ⟨ρ, st, env, hs, he, hp.bindI fun vs st1 H1 ρ1 xs e1 s1 r1 hp1 => hr _ _ _ _ _ _ s1 r1 hp1⟩
theorem ye_callB {x : Str} {id : String} {o : ON} {r : List V → Hp → VK → Prop} {p : Pos} (hc : CallR X (.builtin id) r) (hr : SndN (gX X cm) E o r) (hg : Gl X x) (hm : X.mg x = none) (hv : bootBuiltins x = some (.builtin id)) (ha : PA X (a :: es) (tA (gX X cm) E mas)) (hn : x ≠ "__name__" := by decide)
    (hdb : (x == ("__debug__" : Str)) = false := by decide) (hs : starEach (a :: es) X.env = (false, eval a X.env) :: starEach es X.env := by rfl) (hpl : (backTo pos (starEach es X.env)).any (·.1) = false := by rfl) :
    PE X (.Call (.Name x p) (a :: es) [] pos) (tE (gX X cm) E (mN o mas)) := PE.weak (pe_callB hc hg hm hv ha hn hdb hs hpl) (tCB_of hr)
theorem ye_callTy {x : Str} {T : String} {o : ON} {r : List V → Hp → VK → Prop} {p : Pos} (hc : CallR X (.type T) r) (hr : SndN (gX X cm) E o r) (hg : Gl X x) (hm : X.mg x = none) (hv : bootBuiltins x = some (.type T)) (ha : PA X (a :: es) (tA (gX X cm) E mas)) (hn : x ≠ "__name__" := by decide)
    (hdb : (x == ("__debug__" : Str)) = false := by decide) (hs : starEach (a :: es) X.env = (false, eval a X.env) :: starEach es X.env := by rfl) (hpl : (backTo pos (starEach es X.env)).any (·.1) = false := by rfl) :
    PE X (.Call (.Name x p) (a :: es) [] pos) (tE (gX X cm) E (mN o mas)) := PE.weak (pe_callTy hc hg hm hv ha hn hdb hs hpl) (tCB_of hr)
/-- what an expression made and nobody holds is forgotten -/
theorem ye_gc (h : PE X e (tE (gX X cm) E ma)) : PE X e (tE (gX X cm) E (mGc ma)) := PE.weak h fun σ H Q ⟨ρ, st, env, hs, he, hp⟩ => ⟨ρ, st, env, hs, he, gc_sound hs hp⟩
end

/-! ### statements -/
section
variable {X : Cx} {cm : CM} {E : EX} {a b c e : Expr} {es : List Expr} {st : Stmt} {sts sts2 : List Stmt} {ma mb mc : ME} {mas : MA} {tc : MT} {s1 s2 : MS} {pos : Pos}
theorem yss_nil : PSs X [] (tS (gX X cm) E msNext) := PSs.weak pss_nil fun D σ H ⟨ρ, st, env, hs, he, hp⟩ => hp H ρ σ .refl hs he
theorem yss_one (h : PS X st (tS (gX X cm) E s1)) : PSs X [st] (tS (gX X cm) E s1) := pss_one h
theorem yss_cons (h : PS X st (tS (gX X cm) E s1)) (h2 : PSs X sts (tS (gX X cm) E s2)) : PSs X (st :: sts) (tS (gX X cm) E (msSeq s1 s2)) :=
  PSs.weak (pss_cons h h2) fun D σ H ⟨ρ, st, env, hs, he, hp⟩ => by
    refine ⟨ρ, st, env, hs, he, ?_⟩
    unfold msSeq at hp
    cases hf : s1 env st with
    | nx env1 st1 =>
      rw [hf] at hp
      exact fun H' ρ' σ' e1 s' he' => ⟨ρ', st1, env1, s', he', PostS.lift e1 hp⟩
    | rt _ _ => rw [hf] at hp; exact hp
    | bk _ _ => rw [hf] at hp; exact hp
    | ct _ _ => rw [hf] at hp; exact hp
    | ex _ _ => rw [hf] at hp; exact hp
    | bad => rw [hf] at hp; exact hp
theorem ys_expr (h : PE X e (tE (gX X cm) E ma)) (hs : swapsWith e none pos.line X.env = pure false := by rfl) : PS X (.Expr e pos) (tS (gX X cm) E (msExpr ma)) :=
  PS.weak (ps_expr h hs) fun D σ H ⟨ρ, st, env, hs, he, hp⟩ => ⟨ρ, st, env, hs, he, hp.toI fun v st1 H1 ρ1 x e1 s1 r1 hp1 => hp1 H1 ρ1 σ .refl s1 (he.ext hs e1)⟩
theorem ys_ret (h : PE X e (tE (gX X cm) E ma)) : PS X (.Return (some e) pos) (tS (gX X cm) E (msRet ma)) :=
  PS.weak (ps_ret h) fun D σ H ⟨ρ, st, env, hs, he, hp⟩ => ⟨ρ, st, env, hs, he, hp.toI fun v st1 H1 ρ1 x e1 s1 r1 hp1 => hp1 H1 ρ1 x .refl s1 r1⟩
theorem ys_retN : PS X (.Return none pos) (tS (gX X cm) E msRetN) :=
  PS.weak ps_retN fun D σ H ⟨ρ, st, env, hs, he, hp⟩ => hp H ρ .non .refl hs .non
theorem ys_if (hc : PT X c (tT (gX X cm) E tc)) (ha : PSs X sts (tS (gX X cm) E s1)) (hb : PSs X sts2 (tS (gX X cm) E s2)) : PS X (.If c sts sts2 pos) (tS (gX X cm) E (msIf tc s1 s2)) :=
  PS.weak (ps_if hc ha hb) fun D σ H ⟨ρ, st, env, hs, he, hp⟩ => ⟨ρ, st, env, hs, he, hp.toI fun v st1 H1 ρ1 x e1 s1 r1 hp1 => by
    cases (show x = v from r1)
    cases v with
    | true => exact iteT ⟨ρ1, st1, env, s1, he.ext hs e1, hp1⟩
    | false => exact iteF ⟨ρ1, st1, env, s1, he.ext hs e1, hp1⟩⟩
theorem ys_break : PS X (.Break pos) (tS (gX X cm) E msBreak) := PS.weak ps_break fun D σ H ⟨ρ, st, env, hs, he, hp⟩ => hp H ρ σ .refl hs he
theorem ys_cont : PS X (.Continue pos) (tS (gX X cm) E msCont) := PS.weak ps_continue fun D σ H ⟨ρ, st, env, hs, he, hp⟩ => hp H ρ σ .refl hs he
/-- a raise that is never reached -/
theorem ys_raise0 {x : Str} : PS X st (tS (gX X cm) E00 (msRaise x)) := PS.weak ps_never fun D σ H ⟨ρ, st, env, hs, he, hp⟩ => hp H ρ .refl hs
theorem ys_raise1 {x : Str} {v : AV} : PS X st (tS (gX X cm) E00 (msRaise1 x v)) := PS.weak ps_never fun D σ H ⟨ρ, st, env, hs, he, hp⟩ => hp H ρ .refl hs
end
end Y
set_option Elab.async false
set_option linter.all false
set_option maxRecDepth 100000
/-! Y5: assignments, targets, loops, comprehensions, defs -/
namespace Y
open PySem PySem.Spec L2
open PyProof.Rows hiding St
section
variable {X : Cx} {cm : CM} {E : EX} {a b c e tg : Expr} {es : List Expr} {st : Stmt} {sts sts2 : List Stmt} {ma mb mc : ME} {mas : MA} {tc : MT} {s1 s2 : MS} {pos : Pos} {mg : MG} {sl : List Nat}
theorem Post.rel {α χ : Type} {G : GK} {H : Hp} {ρ : Nat → Addr} {n : Nat} {Rel Rel' : Rl α χ} {r : R α} {Q : χ → Hp → Prop} (h : Post G E H ρ n Rel r Q) (k : ∀ H' ρ' n' v x, Rel' H' ρ' n' v x → Rel H' ρ' n' v x) : Post G E H ρ n Rel' r Q := by
  cases r with
  | ok v st => exact fun H' ρ' x e s q => h H' ρ' x e s (k _ _ _ _ _ q)
  | ex u st => exact h
  | bad => exact h
theorem rG_refl {K : PySem.W.Frag} {H : Hp} {ρ : Nat → Addr} {n : Nat} {env : Ev} {σ : St} (h : RepE K H ρ n env σ) : rG K sl σ H ρ n env σ := ⟨h, rfl, fun _ _ => rfl⟩
theorem set_out {σ : St} {i : Nat} {o : Option V} {j : Nat} (h : j ∉ [i]) : (σ.set i o)[j]? = σ[j]? := List.getElem?_set_ne fun e => h (by simp [e])
theorem yg_name (i : Nat) {x : Str} (hN : X.N.Nodup) (hi : X.N[i]? = some x) (hx : Loc X.env.scope x) (hf : X.fn x = true ∨ X.env.scope.names.lookup x = some .local := by first | exact .inl rfl | exact .inr rfl | assumption) : PG X (.Name x pos) (tG (gX X cm) E [i] (mgName i)) :=
  PG.weak (pg_name hN hi hx hf) fun x σ H Q ⟨ρ, st, env, v, hs, he, hv, hp⟩ => hp H ρ _ .refl hs ⟨he.set i hv, List.length_set, fun j hj => set_out hj⟩
theorem ygs_nil : PGs X [] (tGs (gX X cm) E sl []) := PGs.weak pgs_nil fun xs σ H Q ⟨ρ, st, env, vs, hs, he, hv, hp⟩ => by
  cases hv with
  | nil => exact ⟨rfl, hp H ρ σ .refl hs (rG_refl he)⟩
  | cons _ _ => exact hp.elim
theorem ygs_cons {g : MG} {gs : List MG} {sl1 : List Nat} (h1 : PG X tg (tG (gX X cm) E sl1 g)) (h2 : PGs X es (tGs (gX X cm) E sl gs)) (hsub : ∀ i ∈ sl1, i ∈ sl)
    (hs : (assignEach (tg :: es) X.env).map (·.2) = assign tg X.env :: (assignEach es X.env).map (·.2) := by rfl) : PGs X (tg :: es) (tGs (gX X cm) E sl (g :: gs)) :=
  PGs.weak (pgs_cons h1 h2 hs) fun xs σ H Q ⟨ρ, st, env, vs, hs, he, hv, hp⟩ => by
    cases hv with
    | nil => exact hp.elim
    | cons r1 r2 =>
      refine ⟨_, _, rfl, ρ, st, env, _, hs, he, r1, (show Post _ _ _ _ _ _ (R.bind _ _) _ from hp).bindI fun env1 st1 H1 ρ1 σ1 e1 s1 q1 hp1 => ?_⟩
      obtain ⟨he1, hl1, hn1⟩ := q1
      refine ⟨ρ1, st1, env1, _, s1, he1, r2.ext hs e1, Post.rel hp1 fun H' ρ' n' env2 σ2 ⟨z1, z2, z3⟩ => ⟨z1, z2.trans hl1, fun i hi => (z3 i hi).trans (hn1 i fun z => hi (hsub i z))⟩⟩
theorem yg_tup {k : Nat} {gs : List MG} (hc : X.calm = true) (h : PGs X es (tGs (gX X cm) E sl gs)) (hn : (assignEach es X.env).length = gs.length := by rfl) (hst : (assignEach es X.env).findIdx? (·.1) = none := by rfl) : PG X (.Tuple es k pos) (tG (gX X cm) E sl (mgTup gs)) :=
  PG.weak (pg_tup (n := gs.length) hc h hn hst) fun x σ H Q ⟨ρ, st, env, v, hs, he, hv, hp⟩ => by
    cases hv with
    | tup hq hr =>
      simp only [mgTup] at hp
      split at hp
      · rename_i hl
        exact ⟨_, _, rfl, hq.seq, by rw [← hr.length]; exact hl, ρ, st, env, _, hs, he, hr, hp⟩
      · exact hp.elim
    | tmp hq hr =>
      simp only [mgTup] at hp
      split at hp
      · rename_i hl
        exact ⟨_, _, rfl, hq, by rw [← hr.length]; exact hl, ρ, st, env, _, hs, he, hr, hp⟩
      · exact hp.elim
    | _ => exact hp.elim
theorem yg_sub {o i : Expr} {mo mi : ME} {f : O3} {t : TSet} (ho : PE X o (tE (gX X cm) E mo)) (hi : PE X i (tE (gX X cm) E mi)) (hp : PSet X t) (hf : Snd3 (gX X cm) E f t)
    (ha : ∀ v, assign (.Subscript o i pos) X.env v = (do
      let ov ← holding [v] (eval o X.env)
      let iv ← holding [v, ov] (eval i X.env)
      standAt pos
      holding [v, ov, iv] (setItem ov iv v)
      release [v, ov, iv] []) := by intro _; rfl) : PG X (.Subscript o i pos) (tG (gX X cm) E sl (mgSub mo mi f)) :=
  PG.weak (pg_sub ho hi hp ha) fun x σ H Q ⟨ρ, st, env, v, hs, he, hv, hq⟩ => ⟨ρ, st, env, hs, he, hq.bindI fun w st1 H1 ρ1 y e1 s1 r1 hp1 => ⟨ρ1, st1, env, s1, he.ext hs e1, hp1.bindI fun u st2 H2 ρ2 z e2 s2 r2 hp2 =>
    hf _ _ _ _ _ _ _ _ _ _ s2 (Rep.ext s1 e2 r1) r2 ((hv.ext hs e1).ext s1 e2) (hp2.bindI fun _ st3 H3 ρ3 _ e3 s3 _ hp3 => hp3 H3 ρ3 σ .refl s3 (rG_refl (((he.ext hs e1).ext s1 e2).ext s2 e3)))⟩⟩

/-! ### assignments -/
theorem setAll_two {i j : Nat} : ∀ {vs : List AV} {env env2 : Ev}, setAll [i, j] vs env = some env2 → ∃ v w, vs = [v, w] ∧ env2 = (env.set i (some v)).set j (some w)
  | [], _, _, h => nomatch h
  | [_], _, _, h => nomatch h
  | [v, w], _, _, h => ⟨v, w, rfl, (Option.some.inj h).symm⟩
  | _ :: _ :: _ :: _, _, _, h => nomatch h
theorem setAll_three {i j l : Nat} : ∀ {vs : List AV} {env env2 : Ev}, setAll [i, j, l] vs env = some env2 → ∃ v w u, vs = [v, w, u] ∧ env2 = ((env.set i (some v)).set j (some w)).set l (some u)
  | [], _, _, h => nomatch h
  | [_], _, _, h => nomatch h
  | [_, _], _, _, h => nomatch h
  | [v, w, u], _, _, h => ⟨v, w, u, rfl, (Option.some.inj h).symm⟩
  | _ :: _ :: _ :: _ :: _, _, _, h => nomatch h
theorem ys_asg (he : PE X e (tE (gX X cm) E ma)) (hg : PG X tg (tG (gX X cm) E sl mg)) (hs : swapsWithSole [tg] e pos.line X.env = pure false := by rfl) (hw : swappedStores [tg] e X.env = pure none := by rfl)
    (h1 : (assignEach [tg] X.env).map (·.2) = [assign tg X.env] := by rfl) : PS X (.Assign [tg] e pos) (tS (gX X cm) E (msAsg ma mg)) :=
  PS.weak (ps_asg he hg hs hw h1) fun D σ H ⟨ρ, st, env, hs, he, hp⟩ => ⟨ρ, st, env, hs, he, hp.toI fun v st1 H1 ρ1 x e1 s1 r1 hp1 => ⟨ρ1, st1, env, v, s1, he.ext hs e1, r1, hp1.toI fun env2 st2 H2 ρ2 σ2 e2 s2 q2 hp2 => hp2 H2 ρ2 σ2 .refl s2 q2.1⟩⟩
theorem ys_set (i : Nat) {x : Str} {pos' : Pos} (hN : X.N.Nodup) (hi : X.N[i]? = some x) (hx : Loc X.env.scope x) (he : PE X e (tE (gX X cm) E ma)) (hs : swapsWith e (some (.Name x pos')) pos.line X.env = pure false := by rfl)
    (hf : X.fn x = true ∨ X.env.scope.names.lookup x = some .local := by first | exact .inl rfl | exact .inr rfl | assumption) : PS X (.Assign [.Name x pos'] e pos) (tS (gX X cm) E (msAsg ma (mgName i))) :=
  PS.weak (ps_set hN hi hx he hs hf) fun D σ H ⟨ρ, st, env, hs, he, hp⟩ => ⟨ρ, st, env, hs, he, hp.toI fun v st1 H1 ρ1 x e1 s1 r1 hp1 => hp1 H1 ρ1 _ .refl s1 ((he.ext hs e1).set i r1)⟩
theorem ys_par2 {i j : Nat} {x y : Str} {px py pt : Pos} {kt k2 pt2} (hc : X.calm = true) (hN : X.N.Nodup) (hi : X.N[i]? = some x) (hj : X.N[j]? = some y) (hij : i ≠ j)
    (hx : X.env.scope.names.lookup x = some .local) (hy : X.env.scope.names.lookup y = some .local) (ha : PA X [a, b] (tA (gX X cm) E mas))
    (hw : swappedStores [.Tuple [.Name x px, .Name y py] kt pt] (.Tuple [a, b] k2 pt2) X.env = pure (some [x, y]))
    (hs : swapsWithSole [.Tuple [.Name x px, .Name y py] kt pt] (.Tuple [a, b] k2 pt2) pos.line X.env = pure false := by rfl) : PS X (.Assign [.Tuple [.Name x px, .Name y py] kt pt] (.Tuple [a, b] k2 pt2) pos) (tS (gX X cm) E (msPar [i, j] mas)) :=
  PS.weak (ps_par hc hN hi hj hij hx hy ha hw hs) fun D σ H ⟨ρ, st, env, hs, he, hp⟩ => ⟨ρ, st, env, hs, he, hp.toI fun vs st1 H1 ρ1 xs e1 s1 r1 hp1 => by
    split at hp1
    · rename_i env2 h2
      obtain ⟨v, w, rfl, rfl⟩ := setAll_two h2
      obtain ⟨x, y, rfl, q1, q2⟩ := RepL.two (show RepL X.K H1 ρ1 st1.length [v, w] xs from r1)
      exact ⟨_, _, rfl, hp1 H1 ρ1 _ .refl s1 (((he.ext hs e1).set i q1).set j q2)⟩
    · exact hp1.elim⟩
theorem ys_par3 {i j l : Nat} {x y z : Str} {px py pz pt : Pos} {kt k2 pt2} (hc : X.calm = true) (hN : X.N.Nodup) (hi : X.N[i]? = some x) (hj : X.N[j]? = some y) (hl : X.N[l]? = some z) (hij : i ≠ j) (hil : i ≠ l) (hjl : j ≠ l)
    (hx : X.env.scope.names.lookup x = some .local) (hy : X.env.scope.names.lookup y = some .local) (hz : X.env.scope.names.lookup z = some .local) (ha : PA X [a, b, c] (tA (gX X cm) E mas))
    (hw : swappedStores [.Tuple [.Name x px, .Name y py, .Name z pz] kt pt] (.Tuple [a, b, c] k2 pt2) X.env = pure (some [x, y, z]))
    (hs : swapsWithSole [.Tuple [.Name x px, .Name y py, .Name z pz] kt pt] (.Tuple [a, b, c] k2 pt2) pos.line X.env = pure false := by rfl) : PS X (.Assign [.Tuple [.Name x px, .Name y py, .Name z pz] kt pt] (.Tuple [a, b, c] k2 pt2) pos) (tS (gX X cm) E (msPar [i, j, l] mas)) :=
  PS.weak (ps_par3 hc hN hi hj hl hij hil hjl hx hy hz ha hw hs) fun D σ H ⟨ρ, st, env, hs, he, hp⟩ => ⟨ρ, st, env, hs, he, hp.toI fun vs st1 H1 ρ1 xs e1 s1 r1 hp1 => by
    split at hp1
    · rename_i env2 h2
      obtain ⟨v, w, u, rfl, rfl⟩ := setAll_three h2
      obtain ⟨x, y, z, rfl, q1, q2, q3⟩ := RepL.three (show RepL X.K H1 ρ1 st1.length [v, w, u] xs from r1)
      exact ⟨_, _, _, rfl, hp1 H1 ρ1 _ .refl s1 ((((he.ext hs e1).set i q1).set j q2).set l q3)⟩
    · exact hp1.elim⟩
theorem ys_aug (i : Nat) {x : Str} {op : Operator} {o : O2} {r : R2} {pos' : Pos} (hN : X.N.Nodup) (hi : X.N[i]? = some x) (hx : Loc X.env.scope x) (he : PE X e (tE (gX X cm) E ma)) (ho : OpR X (inplaceOp op) r) (hr : Snd2 (gX X cm) E o r)
    (hf : X.fn x = true ∨ X.env.scope.names.lookup x = some .local := by first | exact .inl rfl | exact .inr rfl | assumption) : PS X (.AugAssign (.Name x pos') op e pos) (tS (gX X cm) E (msAug i o ma)) :=
  PS.weak (ps_aug (ti := r) hN hi hx he (fun pins s σ H x y v u Q I rx ry q => ho pins s σ H x y v u Q I rx ry q) hf) fun D σ H ⟨ρ, st, env, hs, he, hp⟩ => by
    simp only [msAug] at hp
    split at hp
    · rename_i v hv
      obtain ⟨x, e1, rv⟩ := he.2 i v hv
      refine ⟨x, e1, ρ, st, env, hs, he, hp.toI fun w st1 H1 ρ1 y e1 s1 r1 hp1 => hr _ _ _ _ _ _ _ _ s1 (rv.ext hs e1) r1 (hp1.toI fun z st2 H2 ρ2 u e2 s2 r2 hp2 => hp2 H2 ρ2 _ .refl s2 (((he.ext hs e1).ext s1 e2).set i r2))⟩
    · exact hp.elim

/-! ### what is walked -/
/-- an iterator as the list, tuple .. that it walks -/
def SeqOk (G : GK) (q : Sq) (J : It) (H : Hp) (ρ : Nat → Addr) (n : Nat) : Prop := ∀ H' ρ' st' i, Ext H ρ n H' ρ' st'.length → RepS G H' ρ' st' →
  (∀ v, q.at st' i = some (some v) → J.go i H' ∧ ∀ x H'', J.yld i H' x H'' → Ext H' ρ' st'.length H'' ρ' st'.length ∧ RepS G H'' ρ' st' ∧ Rep G.K H'' ρ' st'.length v x) ∧
  (q.at st' i = some none → J.stop i H')
def tI (G : GK) (E : EX) (m : MI) : TI := fun σ H R => ∃ ρ st env, RepS G H ρ st ∧ RepE G.K H ρ st.length env σ ∧ Post G E H ρ st.length (fun H' ρ' n' q J => SeqOk G q J H' ρ' n') (m env st) R
theorem ys_for {it : MI} {body : List Stmt} {mb : MS} (hp : PassesOwn (model X.prog X.w) X.A X.env X.xe) (hc : X.calm = true) (hi : PI X tg e (tI (gX X cm) E it)) (hg : PG X tg (tG (gX X cm) E sl mg)) (hb : PSs X body (tS (gX X cm) E mb))
    (hs : ∀ x, foldedSetIterable e X.env x = pure x := by intro _; rfl) : PS X (.For tg e body [] pos) (tS (gX X cm) E (msFor it mg mb)) :=
  PS.weak (ps_for hp hc hi hg hb hs) fun D σ H ⟨ρ, st, env, hs, he, hp⟩ => ⟨ρ, st, env, hs, he, hp.toI fun q st1 H1 ρ1 J e1 s1 ok hp1 => by
    refine ⟨fun i m σ H => ∃ ρ2 st2 env2, Ext H1 ρ1 st1.length H ρ2 st2.length ∧ RepS (gX X cm) H ρ2 st2 ∧ RepE X.K H ρ2 st2.length env2 σ ∧ PostS (gX X cm) E H ρ2 st2.length (turns q mg mb m i env2 st2) D,
      ⟨_, ρ1, st1, env, .refl, s1, he.ext hs e1, hp1⟩, ?_⟩
    rintro i m σ H ⟨ρ2, st2, env2, e2, s2, he2, hp2⟩
    obtain ⟨hgo, hstop⟩ := ok H ρ2 st2 i e2 s2
    cases m with
    | zero => exact hp2.elim
    | succ f =>
      simp only [turns] at hp2
      cases hq : q.at st2 i with
      | none => rw [hq] at hp2; exact hp2.elim
      | some o =>
        rw [hq] at hp2
        cases o with
        | none => exact .inl ⟨hstop hq, hp2 H ρ2 σ .refl s2 he2⟩
        | some v =>
          obtain ⟨go, yl⟩ := hgo v hq
          refine .inr ⟨go, fun σ' H' => ∃ ρ2 st2 env2, Ext H1 ρ1 st1.length H' ρ2 st2.length ∧ RepS (gX X cm) H' ρ2 st2 ∧ RepE X.K H' ρ2 st2.length env2 σ' ∧ PostS (gX X cm) E H' ρ2 st2.length (turns q mg mb f (i + 1) env2 st2) D,
            fun σ' H' hN => ⟨f, Nat.lt_succ_self f, hN⟩, fun x H' hy => ?_⟩
          obtain ⟨e3, s3, r3⟩ := yl x H' hy
          refine ⟨ρ2, st2, env2, v, s3, he2.ext s2 e3, r3, Post.rel ((PostS.lift e3 hp2).toI (RelA := rG X.K sl σ) fun env4 st4 H4 ρ4 σ4 e4 s4 q4 hp4 => ?_) fun _ _ _ _ _ z => z⟩
          refine ⟨ρ4, st4, env4, s4, q4.1, ?_⟩
          have e24 := (e2.trans e3).trans e4
          cases hb : mb env4 st4 with
          | nx env5 st5 => rw [hb] at hp4; exact fun H5 ρ5 σ5 e5 s5 he5 => ⟨ρ5, st5, env5, e24.trans e5, s5, he5, PostS.lift e5 hp4⟩
          | ct env5 st5 => rw [hb] at hp4; exact fun H5 ρ5 σ5 e5 s5 he5 => ⟨ρ5, st5, env5, e24.trans e5, s5, he5, PostS.lift e5 hp4⟩
          | bk env5 st5 => rw [hb] at hp4; exact hp4
          | rt v5 st5 => rw [hb] at hp4; exact hp4
          | ex u5 st5 => rw [hb] at hp4; exact hp4
          | bad => rw [hb] at hp4; exact hp4⟩
theorem ys_while {body : List Stmt} {mb : MS} (hp : PassesOwn (model X.prog X.w) X.A X.env X.xe) (hc : PT X c (tT (gX X cm) E tc)) (hb : PSs X body (tS (gX X cm) E mb)) : PS X (.While c body [] pos) (tS (gX X cm) E (msWhile tc mb)) :=
  PS.weak (ps_while hp hc hb) fun D σ H ⟨ρ, st, env, hs, he, hp⟩ => by
    refine ⟨fun m σ H => ∃ ρ2 st2 env2, RepS (gX X cm) H ρ2 st2 ∧ RepE X.K H ρ2 st2.length env2 σ ∧ PostS (gX X cm) E H ρ2 st2.length (whileN tc mb m env2 st2) D, ⟨FUEL, ρ, st, env, hs, he, hp⟩, ?_⟩
    rintro m σ H ⟨ρ2, st2, env2, s2, he2, hp2⟩
    cases m with
    | zero => exact hp2.elim
    | succ f =>
      simp only [whileN] at hp2
      refine ⟨ρ2, st2, env2, s2, he2, hp2.toI fun k st3 H3 ρ3 b e3 s3 r3 hp3 => ?_⟩
      cases (show b = k from r3)
      cases k with
      | false => exact iteF (hp3 H3 ρ3 σ .refl s3 (he2.ext s2 e3))
      | true =>
        refine iteT ⟨fun σ' H' => ∃ ρ2 st2 env2, RepS (gX X cm) H' ρ2 st2 ∧ RepE X.K H' ρ2 st2.length env2 σ' ∧ PostS (gX X cm) E H' ρ2 st2.length (whileN tc mb f env2 st2) D, fun σ' H' hN => ⟨f, Nat.lt_succ_self f, hN⟩, ρ3, st3, env2, s3, he2.ext s2 e3, ?_⟩
        have hp4 : PostS (gX X cm) E H3 ρ3 st3.length (step (mb env2 st3) (whileN tc mb f)) D := hp3
        cases hb : mb env2 st3 with
        | nx env5 st5 => rw [hb] at hp4; exact fun H5 ρ5 σ5 e5 s5 he5 => ⟨ρ5, st5, env5, s5, he5, PostS.lift e5 hp4⟩
        | ct env5 st5 => rw [hb] at hp4; exact fun H5 ρ5 σ5 e5 s5 he5 => ⟨ρ5, st5, env5, s5, he5, PostS.lift e5 hp4⟩
        | bk env5 st5 => rw [hb] at hp4; exact hp4
        | rt v5 st5 => rw [hb] at hp4; exact hp4
        | ex u5 st5 => rw [hb] at hp4; exact hp4
        | bad => rw [hb] at hp4; exact hp4

/-! ### comprehensions -/
theorem wipeE_len : ∀ (env : Ev) (l : List Nat), (wipeE env l).length = env.length
  | _, [] => rfl
  | env, i :: r => by rw [wipeE, wipeE_len, List.length_set]
theorem wipe_none {σ : St} {i : Nat} : ∀ {vs : List Nat}, i ∈ vs → i < σ.length → (wipe σ vs)[i]? = some none
  | [], h, _ => by simp at h
  | v :: vs, h, hl => by
    show ((wipe σ vs).set v none)[i]? = some none
    by_cases e : v = i
    · subst e
      exact List.getElem?_set_self (by rw [wipe_length]; exact hl)
    · rw [List.getElem?_set_ne e]
      exact wipe_none ((List.mem_cons.mp h).resolve_left fun z => e z.symm) hl
theorem wipe_eq {σ σ2 : St} {vs : List Nat} (hl : σ2.length = σ.length) (h : ∀ (i : Nat), i ∉ vs → σ2[i]? = σ[i]?) : wipe σ2 vs = wipe σ vs := by
  refine List.ext_getElem? fun i => ?_
  by_cases hi : i ∈ vs
  · by_cases hlt : i < σ.length
    · rw [wipe_none hi hlt, wipe_none hi (hl ▸ hlt)]
    · rw [List.getElem?_eq_none (by rw [wipe_length]; omega), List.getElem?_eq_none (by rw [wipe_length]; omega)]
  · rw [wipe_out hi, wipe_out hi]
    exact h i hi
theorem wipeE_none {env : Ev} {i : Nat} {v : AV} : ∀ {vs : List Nat} {env : Ev}, (wipeE env vs)[i]? = some (some v) → env[i]? = some (some v) ∧ i ∉ vs
  | [], env, h => ⟨h, by simp⟩
  | j :: vs, env, h => by
    obtain ⟨h1, h2⟩ := wipeE_none (vs := vs) (env := env.set j none) h
    by_cases e : j = i
    · subst e
      by_cases hj : j < env.length
      · rw [List.getElem?_set_self hj] at h1; cases h1
      · rw [List.getElem?_eq_none (by rw [List.length_set]; omega)] at h1; cases h1
    · rw [List.getElem?_set_ne e] at h1
      exact ⟨h1, fun z => (List.mem_cons.mp z).elim (fun q => e q.symm) h2⟩
theorem RepE.wiped {K : PySem.W.Frag} {H : Hp} {ρ : Nat → Addr} {n : Nat} {env : Ev} {σ : St} (h : RepE K H ρ n env σ) (vs : List Nat) : RepE K H ρ n (wipeE env vs) (wipe σ vs) := by
  refine ⟨by rw [wipeE_len, wipe_length]; exact h.1, fun i v hv => ?_⟩
  obtain ⟨h1, h2⟩ := wipeE_none (env := env) hv
  obtain ⟨x, e1, r⟩ := h.2 i v h1
  exact ⟨x, by rw [wipe_out h2]; exact e1, r⟩
theorem Post.bindB {α β χ ψ : Type} {G : GK} {H0 H : Hp} {ρ0 ρ : Nat → Addr} {n0 n : Nat} {RelA : Rl α χ} {RelB : Rl β ψ} {r : R α} {f : α → Sto → R β} {QB : ψ → Hp → Prop} {QA : χ → Hp → Prop} (h : Post G E H0 ρ0 n0 RelB (r.bind f) QB) (e : Ext H0 ρ0 n0 H ρ n)
    (k : ∀ v st' H' ρ' x, Ext H ρ n H' ρ' st'.length → RepS G H' ρ' st' → RelA H' ρ' st'.length v x → Post G E H0 ρ0 n0 RelB (f v st') QB → QA x H') : Post G E H ρ n RelA r QA := by
  cases r with
  | ok v st => exact fun H' ρ' x e' s q => k v st H' ρ' x e' s q h
  | ex u st => exact fun H' ρ' e' s => h H' ρ' (e.trans e') s
  | bad => exact h
theorem R.bind_assoc {α β γ : Type} (r : R α) (f : α → Sto → R β) (g : β → Sto → R γ) : (r.bind f).bind g = r.bind fun a st => (f a st).bind g := by cases r <;> rfl
/-- the addresses stay apart from a tracked list of none -/
theorem Ext.apart {H H1 : Hp} {ρ ρ1 : Nat → Addr} {n n1 : Nat} {D : Addr} {o : HO} (e : Ext H ρ n H1 ρ1 n1) (h : H D = some o) (hn : ∀ k, k < n → ρ k ≠ D) (nt : ∀ ps, o ≠ .tbl ps := by intro _ z; cases z) : (∀ k, k < n1 → ρ1 k ≠ D) ∧ H1 D = some o := by
  refine ⟨fun k hk z => ?_, e.fr D o h nt hn⟩
  by_cases hk2 : k < n
  · rw [e.ag k hk2] at z
    exact hn k hk2 z
  · have := e.nw k (Nat.le_of_not_lt hk2) hk
    rw [z, h] at this
    cases this
/-- .. which grows -/
theorem RepS.grow {G : GK} {H : Hp} {ρ : Nat → Addr} {st : Sto} {D : Addr} {xs ys : List V} (s : RepS G H ρ st) (h : H D = some (.lst xs)) (hn : ∀ k, k < st.length → ρ k ≠ D) : RepS G (upd H D (.lst ys)) ρ st :=
  s.mv (fun k hk => upd_ne (hn k hk)) (tups_at h .lst) fun _ q => tabs_at h notC_lst _ _ (s.tb _ q)
theorem tLc_of {G : GK} {it : MI} {mt : MT} {me : ME} {vs : List Nat} (hsl : ∀ i ∈ sl, i ∈ vs) (σ : St) (H : Hp) (Q : VK) (h : tE G E (mLc it mg mt me vs) σ H Q) : tLc (tI G E it) (tG G E sl mg) (tT G E mt) (tE G E me) vs σ H Q := by
  obtain ⟨ρ, st, env, hs, he, hp⟩ := h
  refine ⟨ρ, st, env, hs, he, hp.bindI fun q st1 H1 ρ1 J e1 s1 ok hp1 => fun D hD => ?_⟩
  have he1 := he.ext hs e1
  refine ⟨fun i m H => ∃ ρ2 st2 acc ys, Ext H1 ρ1 st1.length H ρ2 st2.length ∧ RepS G H ρ2 st2 ∧ H D = some (.lst ys) ∧ RepL G.K H ρ2 st2.length acc ys ∧ (∀ k, k < st2.length → ρ2 k ≠ D) ∧ RepE G.K H ρ2 st2.length env σ ∧
      Post G E H1 ρ1 st1.length (rV G.K) ((lcTurns q mg mt me (wipeE env vs) m i acc st2).bind fun acc st => oLst acc st) Q,
    ⟨_, ρ1, st1, [], [], Ext.lay hD, s1.lay hD, upd_same, .nil, s1.ne_new hD, he1.ext s1 (Ext.lay hD), hp1⟩, ?_⟩
  rintro i m H ⟨ρ2, st2, acc, ys, e2, s2, hDy, ra, hne, he2, hp2⟩
  obtain ⟨hgo, hstop⟩ := ok H ρ2 st2 i e2 s2
  cases m with
  | zero => exact hp2.elim
  | succ f =>
    simp only [lcTurns] at hp2
    cases hq : q.at st2 i with
    | none => rw [hq] at hp2; exact hp2.elim
    | some o =>
      rw [hq] at hp2
      cases o with
      | none =>
        refine .inl ⟨hstop hq, ?_⟩
        have hp3 : Post G E H1 ρ1 st1.length (rV G.K) (oLst acc st2) Q := hp2
        unfold oLst at hp3
        split at hp3
        · have e : (st2 ++ [Ob.lst acc]).length = st2.length + 1 := by simp
          -- the list's own place: a new one of ours
          refine hp3 H (more ρ2 st2.length D) _ (by rw [e]; exact e2.take_in hD) (s2.take_in (ob := .lst acc) hne hDy ra) ?_
          have z := Rep.loc (K := G.K) (H := H) (ρ := more ρ2 st2.length D) (n := (st2 ++ [Ob.lst acc]).length) (k := st2.length) (by rw [e]; exact Nat.lt_succ_self _)
          rw [more_at] at z
          exact z
        · exact hp3.elim
      | some v =>
        obtain ⟨go, yl⟩ := hgo v hq
        refine .inr ⟨go, fun H => ∃ ρ2 st2 acc ys, Ext H1 ρ1 st1.length H ρ2 st2.length ∧ RepS G H ρ2 st2 ∧ H D = some (.lst ys) ∧ RepL G.K H ρ2 st2.length acc ys ∧ (∀ k, k < st2.length → ρ2 k ≠ D) ∧ RepE G.K H ρ2 st2.length env σ ∧
            Post G E H1 ρ1 st1.length (rV G.K) ((lcTurns q mg mt me (wipeE env vs) f (i + 1) acc st2).bind fun acc st => oLst acc st) Q,
          fun H' hN => ⟨f, Nat.lt_succ_self f, hN⟩, fun x H' hy => ?_⟩
        obtain ⟨e3, s3, r3⟩ := yl x H' hy
        obtain ⟨hne3, hD3⟩ := e3.apart hDy hne
        have he3 := he2.ext s2 e3
        have hp3 : Post G E H1 ρ1 st1.length (rV G.K) ((mg v (wipeE env vs) st2).bind fun env' st => ((mt env' st).bind fun k st => if k then (me env' st).bind fun y st => if acc.length < LIM then lcTurns q mg mt me (wipeE env vs) f (i + 1) (acc ++ [y]) st else .bad
            else lcTurns q mg mt me (wipeE env vs) f (i + 1) acc st).bind fun acc st => oLst acc st) Q := by
          rw [← R.bind_assoc]
          exact hp2
        refine ⟨ρ2, st2, wipeE env vs, v, s3, he3.wiped vs, r3, hp3.bindB (e2.trans e3) fun env4 st4 H4 ρ4 σ4 e4 s4 q4 hp4 => ?_⟩
        obtain ⟨q4, hl4, hn4⟩ := q4
        obtain ⟨hne4, hD4⟩ := e4.apart hD3 hne3
        have e24 := (e2.trans e3).trans e4
        refine ⟨?_, ρ4, st4, env4, s4, q4, ?_⟩
        · rw [wipe_eq hl4 fun i hi => hn4 i fun z => hi (hsl i z)]
          exact wipe_eq (wipe_length σ vs) fun i hi => wipe_out hi
        · rw [R.bind_assoc] at hp4
          refine hp4.bindB e24 fun k st5 H5 ρ5 b e5 s5 r5 hp5 => ?_
          cases (show b = k from r5)
          obtain ⟨hne5, hD5⟩ := e5.apart hD4 hne4
          have e25 := e24.trans e5
          have he5 := (he3.ext s3 e4).ext s4 e5
          have ra5 := (RepL.ext s4 e5 (RepL.ext s3 e4 (RepL.ext s2 e3 ra)))
          cases k with
          | false =>
            refine iteF ?_
            exact ⟨ρ5, st5, acc, ys, e25, s5, hD5, ra5, hne5, he5, hp5⟩
          | true =>
            refine iteT ⟨ρ5, st5, env4, s5, RepE.ext s4 e5 q4, ?_⟩
            rw [if_pos rfl, R.bind_assoc] at hp5
            refine hp5.bindB e25 fun y st6 H6 ρ6 z e6 s6 r6 hp6 => ?_
            obtain ⟨hne6, hD6⟩ := e6.apart hD5 hne5
            have e26 := e25.trans e6
            have he6 := he5.ext s5 e6
            have ra6 := RepL.ext s5 e6 ra5
            split at hp6
            · rename_i hlt
              have hl := ra6.length
              have t := tups_at (o := .lst (ys ++ [z])) (K := G.K) hD6 .lst
              refine ⟨ys, hD6, by rw [← hl, ← LIM_line]; exact hlt, ρ6, st6, acc ++ [y], ys ++ [z], ?_, s6.grow hD6 hne6, upd_same, ?_, hne6, ⟨he6.1, fun i v hv => let ⟨x, h1, h2⟩ := he6.2 i v hv; ⟨x, h1, rep_mv t (Nat.le_refl _) (fun _ _ => rfl) _ _ h2⟩⟩, hp6⟩
              · exact ⟨e26.le, e26.ag, fun a o h nt hk => by rw [upd_ne (ne_of_none h hD)]; exact e26.fr a o h nt hk, e26.nw, fun a o h => by rw [upd_ne (ne_of_none h hD)]; exact e26.kp a o h, fun a ob u h => by rw [upd_ne (ne_of_none h hD)]; exact e26.fz a ob u h⟩
              · exact RepL.append (repL_mv t (Nat.le_refl _) (fun _ _ => rfl) _ _ ra6) (.cons (rep_mv t (Nat.le_refl _) (fun _ _ => rfl) _ _ r6) .nil)
            · exact hp6.elim
/-- a clause's tests -/
theorem yts_nil : PTs X [] (tT (gX X cm) E mtYes) := ⟨fun pins s σ H Q I ⟨ρ, st, env, hs, he, hp⟩ => pts_nil.run pins s σ H Q I (Post.at (x := true) hp hs rfl)⟩
theorem yts_one (h : PT X c (tT (gX X cm) E tc)) : PTs X [c] (tT (gX X cm) E tc) := pts_one h
theorem ye_lc {elt iter : Expr} {ifs : List Expr} {scope : Scope} (own : List (Str × Nat)) {it : MI} {mt : MT} {me : ME} (hc : X.calm = true) (hN : X.N.Nodup) (hi : PI X tg iter (tI (gX X cm) E it)) (ok : BlkOk X.N X.env.scope scope own)
    (hg : ∀ (s : Shared) (H : Hp) (C : Addr) (cl : List (Str × Addr)) (fp : List Addr), PG (X.blk s H scope (compEnvC scope cl C X.env) fp) tg (tG (gX X cm) E sl mg)) (ht : ∀ (s : Shared) (H : Hp) (C : Addr) (cl : List (Str × Addr)) (fp : List Addr), PTs (X.blk s H scope (compEnvC scope cl C X.env) fp) ifs (tT (gX X cm) E mt))
    (he : ∀ (s : Shared) (H : Hp) (C : Addr) (cl : List (Str × Addr)) (fp : List Addr), PE (X.blk s H scope (compEnvC scope cl C X.env) fp) elt (tE (gX X cm) E me)) (hsl : ∀ i ∈ sl, i ∈ own.map (·.2)) (hs : ∀ x, foldedSetIterable iter X.env x = pure x := by intro _; rfl) :
    PE X (.ListComp elt [⟨tg, iter, ifs, 0⟩] scope pos) (tE (gX X cm) E (mLc it mg mt me (own.map (·.2)))) := PE.weak (pe_lc hc hN hi ok hg ht he hs) (tLc_of hsl)
/-- name = [..] -/
theorem ys_setLc (i : Nat) {y : Str} {py spos : Pos} {elt iter : Expr} {ifs : List Expr} {scope : Scope} (own : List (Str × Nat)) {it : MI} {mt : MT} {me : ME} (hc : X.calm = true) (hN : X.N.Nodup) (hy : X.N[i]? = some y) (hyl : X.env.scope.names.lookup y = some .local)
    (hsw : swapsWith (.ListComp elt [⟨tg, iter, ifs, 0⟩] scope pos) (some (.Name y py)) spos.line X.env = pure true) (hi : PI X tg iter (tI (gX X cm) E it)) (ok : BlkOk X.N X.env.scope scope own)
    (hg : ∀ (s : Shared) (H : Hp) (C : Addr) (cl : List (Str × Addr)) (fp : List Addr), PG (X.blk s H scope (compEnvC scope cl C X.env) fp) tg (tG (gX X cm) E sl mg)) (ht : ∀ (s : Shared) (H : Hp) (C : Addr) (cl : List (Str × Addr)) (fp : List Addr), PTs (X.blk s H scope (compEnvC scope cl C X.env) fp) ifs (tT (gX X cm) E mt))
    (he : ∀ (s : Shared) (H : Hp) (C : Addr) (cl : List (Str × Addr)) (fp : List Addr), PE (X.blk s H scope (compEnvC scope cl C X.env) fp) elt (tE (gX X cm) E me)) (hsl : ∀ i ∈ sl, i ∈ own.map (·.2)) (hs : ∀ x, foldedSetIterable iter X.env x = pure x := by intro _; rfl) :
    PS X (.Assign [.Name y py] (.ListComp elt [⟨tg, iter, ifs, 0⟩] scope pos) spos) (tS (gX X cm) E (msAsg (mGc (mLc it mg mt me (own.map (·.2)))) (mgName i))) :=
  PS.weak (ps_setLc hc hN hy hyl hsw hi ok hg ht he hs) fun D σ H ⟨ρ, st, env, hs, he, hp⟩ => by
    refine tLc_of (mt := mt) (me := me) (it := it) hsl σ H _ ⟨ρ, st, env, hs, he, gc_sound hs (hp.toI fun v st1 H1 ρ1 x e1 s1 r1 hp1 => hp1 H1 ρ1 _ .refl s1 ((he.ext hs e1).set i r1))⟩
end
end Y
set_option Elab.async false
set_option linter.all false
set_option maxRecDepth 100000
/-! Y6: operations on values -/
namespace Y
open PySem PySem.Spec L2
open PyProof.Rows hiding St
/-! ### arithmetic -/
def oAdd : O2 := fun x y st => match x, y with
  | .int i, .int j => .ok (.int (i + j)) st
  | .str a, .str b => if a.length + b.length ≤ LIM then .ok (.str (a ++ b)) st else .bad
  | .tup a, .tup b => if a.length + b.length ≤ LIM then .ok (.tup (a ++ b)) st else .bad
  | .loc a, .loc b => match st[a]?, st[b]? with
    | some (.lst xs), some (.lst ys) => if xs.length + ys.length ≤ LIM then .ok (.loc st.length) (st ++ [.lst (xs ++ ys)]) else .bad
    | _, _ => .bad
  | _, _ => .bad
def oSub : O2 := fun x y st => match x, y with
  | .int i, .int j => .ok (.int (i - j)) st
  | _, _ => .bad
/-- one of two factors is small -/
def smallB (i j : Int) : Bool := decide (i.natAbs < 2 ^ 64) || decide (j.natAbs < 2 ^ 64)
def oMul : O2 := fun x y st => match x, y with
  | .int i, .int j => if smallB i j then .ok (.int (i * j)) st else .bad
  | _, _ => .bad
def oMod : O2 := fun x y st => match x, y with
  | .int i, .int j => if 0 < j then .ok (.int (i % j)) st else .bad
  | _, _ => .bad
def oFdiv : O2 := fun x y st => match x, y with
  | .int i, .int j => if 0 < j ∧ j.natAbs < 1073741824 then .ok (.int (i / j)) st else .bad
  | _, _ => .bad
def oPow : O2 := fun x y st => match x, y with
  | .int i, .int j => if 0 ≤ j ∧ j ≤ 1000000 ∧ i.natAbs < 2 ^ 64 then .ok (.int (i ^ j.toNat)) st else .bad
  | _, _ => .bad
def oNeg : O1 := fun x st => match x with
  | .int i => .ok (.int (-i)) st
  | _ => .bad
/-! ### comparisons -/
def oLt : O2 := fun x y st => match x, y with
  | .int i, .int j => .ok (.bl (decide (i < j))) st
  | .str a, .str b => .ok (.bl (decide (a.cps.toList < b.cps.toList))) st
  | _, _ => .bad
def oLe : O2 := fun x y st => match x, y with
  | .int i, .int j => .ok (.bl (decide (i ≤ j))) st
  | .str a, .str b => .ok (.bl (!decide (b.cps.toList < a.cps.toList))) st
  | _, _ => .bad
def oGt : O2 := fun x y st => match x, y with
  | .int i, .int j => .ok (.bl (decide (j < i))) st
  | _, _ => .bad
def oGe : O2 := fun x y st => match x, y with
  | .int i, .int j => .ok (.bl (decide (j ≤ i))) st
  | _, _ => .bad
/-- the data that a value is -/
def den (st : Sto) : Nat → AV → Option PyData
  | 0, _ => none
  | _ + 1, .non => some .none
  | _ + 1, .bl b => some (.bool b)
  | _ + 1, .int i => some (.int i)
  | _ + 1, .str s => some (.str s)
  | f + 1, .tup xs => (mapO (den st f) xs).map .tuple
  | f + 1, .tmp xs => (mapO (den st f) xs).map .tuple
  | f + 1, .frl xs => (mapO (den st f) xs).map .list
  | f + 1, .loc k => match st[k]? with
    | some (.lst xs) => (mapO (den st f) xs).map .list
    | _ => none
def DEEP : Nat := 16
def oEq : O2 := fun x y st => match den st DEEP x, den st DEEP y with
  | some d, some e => .ok (.bl (PyData.eqv d e)) st
  | _, _ => .bad
def oNe : O2 := fun x y st => match den st DEEP x, den st DEEP y with
  | some d, some e => .ok (.bl (!PyData.eqv d e)) st
  | _, _ => .bad
def itemsOf : PyData → Option (List PyData)
  | .list xs => some xs
  | .tuple xs => some xs
  | _ => none
def oIn : O2 := fun x y st => match den st DEEP x, (den st DEEP y).bind itemsOf with
  | some d, some es => .ok (.bl (es.any fun z => PyData.eqv z d)) st
  | _, _ => .bad
def oNotIn : O2 := fun x y st => match den st DEEP x, (den st DEEP y).bind itemsOf with
  | some d, some es => .ok (.bl (!es.any fun z => PyData.eqv z d)) st
  | _, _ => .bad
def isNon : AV → Bool
  | .non => true
  | _ => false
def oIs : O2 := fun x y st => match y with
  | .non => .ok (.bl (isNon x)) st
  | _ => .bad
def oIsNot : O2 := fun x y st => match y with
  | .non => .ok (.bl (!isNon x)) st
  | _ => .bad
def oIsB : O2 := fun x y st => match x, y with
  | .bl a, .bl b => .ok (.bl (decide (a = b))) st
  | _, _ => .bad
def oIsNotB : O2 := fun x y st => match x, y with
  | .bl a, .bl b => .ok (.bl (!decide (a = b))) st
  | _, _ => .bad
/-! ### items -/
def oIx : O2 := fun x y st => match y with
  | .int i => match x with
    | .tup xs => match atI xs i with
      | some v => .ok v st
      | none => .bad
    | .tmp xs => match atI xs i with
      | some v => .ok v st
      | none => .bad
    | .loc k => match rdL st k with
      | some xs => match atI xs i with
        | some v => .ok v st
        | none => .bad
      | none => .bad
    | _ => .bad
  | _ => .bad
def oSetL : O3 := fun x y v st => match x, y with
  | .loc k, .int i => match st[k]? with
    | some (.lst xs) => match ixN xs.length i with
      | some j => .ok () (st.set k (.lst (xs.set j v)))
      | none => .bad
    | _ => .bad
  | _, _ => .bad
def cutA (xs : List AV) (lo hi : Option Int) : List AV := (xs.drop (HT.sIx xs.length 0 lo)).take (HT.sIx xs.length xs.length hi - HT.sIx xs.length 0 lo)
abbrev MO := Ev → Sto → R (Option Int)
def moNone : MO := fun _ st => .ok none st
def moSome (a : ME) : MO := fun env st => (a env st).bind fun x st => match x with
  | .int i => .ok (some i) st
  | _ => .bad
abbrev OS := AV → Option Int → Option Int → Sto → R AV
def mSl (o : OS) (a : ME) (l h : MO) : ME := fun env st => (a env st).bind fun x st => (l env st).bind fun i st => (h env st).bind fun j st => o x i j st
def oSl : OS := fun x i j st => match x with
  | .tup xs => .ok (.tup (cutA xs i j)) st
  | .frl xs => .ok (.loc st.length) (st ++ [.lst (cutA xs i j)])
  | .loc k => match rdL st k with
    | some xs => .ok (.loc st.length) (st ++ [.lst (cutA xs i j)])
    | none => .bad
  | _ => .bad
/-! ### built-ins -/
def oLen : ON := fun vs st => match vs with
  | [.tup xs] => .ok (.int xs.length) st
  | [.tmp xs] => .ok (.int xs.length) st
  | [.loc k] => match rdL st k with
    | some xs => .ok (.int xs.length) st
    | none => .bad
  | [.str s] => if s.length ≤ LIM then .ok (.int s.length) st else .bad
  | _ => .bad
def oMax2 : ON := fun vs st => match vs with
  | [.int i, .int j] => .ok (.int (if j > i then j else i)) st
  | _ => .bad
def oMin2 : ON := fun vs st => match vs with
  | [.int i, .int j] => .ok (.int (if j < i then j else i)) st
  | _ => .bad
def oInt : ON := fun vs st => match vs with
  | [.int i] => .ok (.int i) st
  | [.bl b] => .ok (.int (if b then 1 else 0)) st
  | _ => .bad
/-- list(x) of a list or tuple -/
def oListOf : ON := fun vs st => match vs with
  | [.tup xs] => .ok (.loc st.length) (st ++ [.lst xs])
  | [.loc k] => match rdL st k with
    | some xs => .ok (.loc st.length) (st ++ [.lst xs])
    | none => .bad
  | _ => .bad
def oTupOf : ON := fun vs st => match vs with
  | [.tup xs] => .ok (.tup xs) st
  | [.loc k] => match rdL st k with
    | some xs => .ok (.tup xs) st
    | none => .bad
  | _ => .bad
def intsA : List AV → Option (List Int)
  | [] => some []
  | .int i :: r => (intsA r).map (i :: ·)
  | _ => none
def oSum : ON := fun vs st => match vs with
  | [.loc k] => match (rdL st k).bind intsA with
    | some ns => .ok (.int ns.sum) st
    | none => .bad
  | _ => .bad
/-! ### methods: the receiver's type is looked at ahead of the arguments -/
inductive Ty where | list | tuple | str | dict
def isTy (st : Sto) : Ty → AV → Bool
  | .list, .loc k => match st[k]? with
    | some (.lst _) => true
    | _ => false
  | .tuple, .tup _ => true
  | .str, .str _ => true
  | .dict, .loc k => match st[k]? with
    | some (.dct _) => true
    | some (.fdc _) => true
    | _ => false
  | _, _ => false
abbrev OM := AV → List AV → Sto → R AV
def mMet (T : Ty) (f : OM) (o : ME) (as : MA) : ME := fun env st => (o env st).bind fun x st => if isTy st T x then (as env st).bind fun vs st => f x vs st else .bad
def oAppend : OM := fun x vs st => match x, vs with
  | .loc k, [v] => match st[k]? with
    | some (.lst xs) => if xs.length < LIM then .ok .non (st.set k (.lst (xs ++ [v]))) else .bad
    | _ => .bad
  | _, _ => .bad
def oPopAt : OM := fun x vs st => match x, vs with
  | .loc k, [.int i] => match st[k]? with
    | some (.lst xs) => if i.natAbs < 2 ^ 63 then match ixN xs.length i with
      | some j => match xs[j]? with
        | some v => .ok v (st.set k (.lst (xs.eraseIdx j)))
        | none => .bad
      | none => .bad else .bad
    | _ => .bad
  | _, _ => .bad
def oInsert : OM := fun x vs st => match x, vs with
  | .loc k, [.int i, v] => match st[k]? with
    | some (.lst xs) => if xs.length < LIM ∧ 0 ≤ i ∧ i.natAbs < 2 ^ 63 then .ok .non (st.set k (.lst (xs.take i.toNat ++ [v] ++ xs.drop i.toNat))) else .bad
    | _ => .bad
  | _, _ => .bad
def oCount : OM := fun x vs st => match vs with
  | [v] => match (den st DEEP x).bind itemsOf, den st DEEP v with
    | some es, some d => .ok (.int (es.countP fun y => PyData.eqv y d : Nat)) st
    | _, _ => .bad
  | _ => .bad
def oIndex : OM := fun x vs st => match vs with
  | [v] => match (den st DEEP x).bind itemsOf, den st DEEP v with
    | some es, some d => match es.findIdx? fun y => PyData.eqv y d with
      | some j => .ok (.int (j : Nat)) st
      | none => .bad
    | _, _ => .bad
  | _ => .bad

/-! ### what is walked -/
def miSeq (a : ME) : MI := fun env st => (a env st).bind fun x st => match x with
  | .tup xs => .ok (.tup xs) st
  | .loc k => match rdL st k with
    | some _ => .ok (.list k) st
    | none => .bad
  | _ => .bad
def rngOk (i : Int) : Bool := decide (i.natAbs < 2 ^ 62)
def miR1 (a : MA) : MI := fun env st => (a env st).bind fun vs st => match vs with
  | [.int j] => if rngOk j then .ok (.rng 0 j.toNat) st else .bad
  | _ => .bad
def miR2 (a : MA) : MI := fun env st => (a env st).bind fun vs st => match vs with
  | [.int i, .int j] => if rngOk i && rngOk j then .ok (.rng i (j - i).toNat) st else .bad
  | _ => .bad
/-- range(i, j, -1) -/
def miR3 (a : MA) : MI := fun env st => (a env st).bind fun vs st => match vs with
  | [.int i, .int j, .int (-1)] => if rngOk i && rngOk j then .ok (.rngC i (-1) (i - j).toNat) st else .bad
  | _ => .bad

section
variable {X : Cx} {cm : CM} {E : EX} {G : GK} {K : PySem.W.Frag} {H : Hp} {ρ : Nat → Addr} {n : Nat} {st : Sto}
/-! ### arithmetic: soundness -/
theorem rep_int {i : Int} {x : V} (h : Rep K H ρ n (.int i) x) : x = .int i := by cases h; rfl
theorem rep_str {i : Str} {x : V} (h : Rep K H ρ n (.str i) x) : x = .str i := by cases h; rfl
theorem rep_bl {i : Bool} {x : V} (h : Rep K H ρ n (.bl i) x) : x = .bl i := by cases h; rfl
theorem rep_non {x : V} (h : Rep K H ρ n .non x) : x = .non := by cases h; rfl
theorem rep_loc {k : Nat} {x : V} (h : Rep K H ρ n (.loc k) x) : x = .ref (ρ k) ∧ k < n := by cases h; exact ⟨rfl, ‹_›⟩
theorem rep_tup {xs : List AV} {x : V} (h : Rep K H ρ n (.tup xs) x) : ∃ a ys, x = .ref a ∧ SqP K H a ys ∧ RepL K H ρ n xs ys := by cases h; exact ⟨_, _, rfl, ‹_›, ‹_›⟩
theorem rep_tmp {xs : List AV} {x : V} (h : Rep K H ρ n (.tmp xs) x) : ∃ a ys, x = .ref a ∧ SqT K H a ys ∧ RepL K H ρ n xs ys := by cases h; exact ⟨_, _, rfl, ‹_›, ‹_›⟩
theorem rep_frl {xs : List AV} {x : V} (h : Rep K H ρ n (.frl xs) x) : ∃ a ys, x = .ref a ∧ SqF K H a ys ∧ RepL K H ρ n xs ys := by cases h; exact ⟨_, _, rfl, ‹_›, ‹_›⟩
theorem RepS.lst (s : RepS G H ρ st) {k : Nat} {xs : List AV} (h : st[k]? = some (.lst xs)) : ∃ ys, H (ρ k) = some (.lst ys) ∧ RepL G.K H ρ st.length xs ys := by
  obtain ⟨ys, sh, r⟩ := s.ob k _ h
  exact ⟨ys, sh, r⟩
theorem rdL_some {k : Nat} {xs : List AV} (h : rdL st k = some xs) : st[k]? = some (.lst xs) := by
  unfold rdL at h
  split at h
  · rename_i ys e
    cases h
    exact e
  · cases h
theorem lt_of_at {k : Nat} {o : Ob} (h : st[k]? = some o) : k < st.length := (List.getElem?_eq_some_iff.mp h).1
def pT (o : Obj) (xs : List V) : HO := .frz o (.tup xs)
/-- t + u, the sum a plain tuple -/
def rCatP (K : PySem.W.Frag) : R2 := fun x y H Q => ∃ a b xs ys, x = .ref a ∧ y = .ref b ∧ SqT K H a xs ∧ SqT K H b ys ∧ xs.length + ys.length ≤ sizeLine ∧
  (xs = [] → Q (.ref b) H) ∧ (xs ≠ [] → ys = [] → Q (.ref a) H) ∧ (xs ≠ [] → ys ≠ [] → ∀ p o, o.cls = .type "tuple" → o.dict = none → H p = none → Q (.ref p) (upd H p (pT o (xs ++ ys))))
theorem op_catP : OpR X (binaryOp .Add) (rCatP X.K) := by
  intro pins s σ H x y v u Q I rx ry h
  obtain ⟨a, b, xs, ys, rfl, rfl, ha, hb, hz, q0, q1, q2⟩ := h
  cases rx
  cases ry
  obtain ⟨its, r1, p1, _⟩ := I.tuple ha
  obtain ⟨its2, r2, p2, _⟩ := I.tuple hb
  by_cases hx : xs = []
  · subst hx
    cases r1
    exact cat_tup0 p1 p2 ⟨.ref b, H, I, rfl, q0 rfl⟩
  · refine HT.cat_tup p1 p2 (fun z => hx (r1.nil_iff.mp z)) (fun z => ⟨.ref a, H, I, rfl, q1 hx (r2.nil_iff.mp z)⟩) (fun z => ?_) (by rw [← r1.length, ← r2.length]; exact hz)
    exact ⟨.ref s.heap.objs.size, _, Inv.lplain (t' := s.toks) I (r1.append r2) (by rw [List.length_append]; exact hz), rfl, q2 hx (fun w => z (r2.nil_iff.mpr w)) _ _ rfl rfl (I.hok.fresh (Nat.le_refl _))⟩
theorem or_add : OpR X (binaryOp .Add) (fun x y H Q => rI0 (fun i j => .int (i + j)) x y H Q ∨ (∃ i j, x = .str i ∧ y = .str j ∧ i.length + j.length ≤ sizeLine ∧ Q (.str (i ++ j)) H) ∨ rCatP X.K x y H Q ∨ rCat x y H Q) :=
  op_add.or (op_add_str.or (op_catP.or op_cat))
theorem sn_add : Snd2 (gX X cm) E oAdd (fun x y H Q => rI0 (fun i j => .int (i + j)) x y H Q ∨ (∃ i j, x = .str i ∧ y = .str j ∧ i.length + j.length ≤ sizeLine ∧ Q (.str (i ++ j)) H) ∨ rCatP X.K x y H Q ∨ rCat x y H Q) := by
  intro H ρ st a b x y Q s ra rb h
  unfold oAdd at h
  split at h
  · cases rep_int ra; cases rep_int rb
    exact .inl ⟨_, _, rfl, rfl, Post.at (x := V.int _) h s (.int _)⟩
  · cases rep_str ra; cases rep_str rb
    split at h
    · rename_i hl
      exact .inr (.inl ⟨_, _, rfl, rfl, by rw [← LIM_line]; exact hl, Post.at (x := V.str _) h s (.str _)⟩)
    · exact h.elim
  · obtain ⟨p, xs, rfl, hp, rp⟩ := rep_tup ra
    obtain ⟨q, ys, rfl, hq, rq⟩ := rep_tup rb
    split at h
    · rename_i hl
      refine .inr (.inr (.inl ⟨p, q, xs, ys, rfl, rfl, hp.seq, hq.seq, by rw [← rp.length, ← rq.length, ← LIM_line]; exact hl, fun e => ?_, fun _ e => ?_, fun _ _ p' o hc hd hn => plain_at s (rp.append rq) hc hd hn h⟩))
      · subst e
        cases rp
        exact Post.at (x := V.ref q) h s (.tup hq rq)
      · subst e
        cases rq
        rw [List.append_nil] at h
        exact Post.at (x := V.ref p) h s (.tup hp rp)
    · exact h.elim
  · obtain ⟨rfl, hk⟩ := rep_loc ra
    obtain ⟨rfl, hj⟩ := rep_loc rb
    split at h
    · rename_i xs ys e1 e2
      obtain ⟨zs, h1, r1⟩ := s.lst e1
      obtain ⟨ws, h2, r2⟩ := s.lst e2
      split at h
      · rename_i hl
        exact .inr (.inr (.inr ⟨_, _, zs, ws, rfl, rfl, h1, h2, by rw [← r1.length, ← r2.length, ← LIM_line]; exact hl, fun p hn => list_at s (r1.append r2) hn h⟩))
      · exact h.elim
    · exact h.elim
  · exact h.elim
theorem sn_sub : Snd2 (gX X cm) E oSub (rI0 fun i j => .int (i - j)) := by
  intro H ρ st a b x y Q s ra rb h
  unfold oSub at h
  split at h
  · cases rep_int ra; cases rep_int rb
    exact ⟨_, _, rfl, rfl, Post.at (x := V.int _) h s (.int _)⟩
  · exact h.elim
theorem smallB_ok {i j : Int} (h : smallB i j = true) : CMul i j := by
  unfold smallB at h
  rw [Bool.or_eq_true] at h
  refine h.imp (fun z => ?_) fun z => ?_
  · have := of_decide_eq_true z
    constructor <;> omega
  · have := of_decide_eq_true z
    constructor <;> omega
theorem sn_mul : Snd2 (gX X cm) E oMul (rI CMul fun i j => .int (i * j)) := by
  intro H ρ st a b x y Q s ra rb h
  unfold oMul at h
  split at h
  · cases rep_int ra; cases rep_int rb
    split at h
    · rename_i hs
      exact ⟨_, _, rfl, rfl, smallB_ok hs, Post.at (x := V.int _) h s (.int _)⟩
    · exact h.elim
  · exact h.elim
theorem sn_mod : Snd2 (gX X cm) E oMod (rI (fun _ j => 0 < j) fun i j => .int (i % j)) := by
  intro H ρ st a b x y Q s ra rb h
  unfold oMod at h
  split at h
  · cases rep_int ra; cases rep_int rb
    split at h
    · rename_i hs
      exact ⟨_, _, rfl, rfl, hs, Post.at (x := V.int _) h s (.int _)⟩
    · exact h.elim
  · exact h.elim
theorem sn_fdiv : Snd2 (gX X cm) E oFdiv (rI CDiv fun i j => .int (i / j)) := by
  intro H ρ st a b x y Q s ra rb h
  unfold oFdiv at h
  split at h
  · cases rep_int ra; cases rep_int rb
    split at h
    · rename_i hs
      exact ⟨_, _, rfl, rfl, ⟨hs.1, by have := hs.2; omega⟩, Post.at (x := V.int _) h s (.int _)⟩
    · exact h.elim
  · exact h.elim
theorem sn_pow : Snd2 (gX X cm) E oPow (rI CPow fun i j => .int (i ^ j.toNat)) := by
  intro H ρ st a b x y Q s ra rb h
  unfold oPow at h
  split at h
  · cases rep_int ra; cases rep_int rb
    split at h
    · rename_i hs
      exact ⟨_, _, rfl, rfl, hs, Post.at (x := V.int _) h s (.int _)⟩
    · exact h.elim
  · exact h.elim
theorem sn_neg : Snd1 (gX X cm) E oNeg (rU fun i => .int (-i)) := by
  intro H ρ st a x Q s ra h
  unfold oNeg at h
  split at h
  · cases rep_int ra
    exact ⟨_, rfl, Post.at (x := V.int _) h s (.int _)⟩
  · exact h.elim
/-! ### comparisons: soundness -/
theorem or_lt : OpR X (compareOp .Lt) (fun x y H Q => rI0 (fun i j => .bl (decide (i < j))) x y H Q ∨ ∃ i j, x = .str i ∧ y = .str j ∧ Q (.bl (decide (i.cps.toList < j.cps.toList))) H) := op_lt.or op_lt_str
theorem sn_lt : Snd2 (gX X cm) E oLt (fun x y H Q => rI0 (fun i j => .bl (decide (i < j))) x y H Q ∨ ∃ i j, x = .str i ∧ y = .str j ∧ Q (.bl (decide (i.cps.toList < j.cps.toList))) H) := by
  intro H ρ st a b x y Q s ra rb h
  unfold oLt at h
  split at h
  · cases rep_int ra; cases rep_int rb
    exact .inl ⟨_, _, rfl, rfl, Post.at (x := V.bl _) h s (.bl _)⟩
  · cases rep_str ra; cases rep_str rb
    exact .inr ⟨_, _, rfl, rfl, Post.at (x := V.bl _) h s (.bl _)⟩
  · exact h.elim
theorem or_le : OpR X (compareOp .LtE) (fun x y H Q => rI0 (fun i j => .bl (decide (i ≤ j))) x y H Q ∨ ∃ i j, x = .str i ∧ y = .str j ∧ Q (.bl (!decide (j.cps.toList < i.cps.toList))) H) := op_le.or op_le_str
theorem sn_le : Snd2 (gX X cm) E oLe (fun x y H Q => rI0 (fun i j => .bl (decide (i ≤ j))) x y H Q ∨ ∃ i j, x = .str i ∧ y = .str j ∧ Q (.bl (!decide (j.cps.toList < i.cps.toList))) H) := by
  intro H ρ st a b x y Q s ra rb h
  unfold oLe at h
  split at h
  · cases rep_int ra; cases rep_int rb
    exact .inl ⟨_, _, rfl, rfl, Post.at (x := V.bl _) h s (.bl _)⟩
  · cases rep_str ra; cases rep_str rb
    exact .inr ⟨_, _, rfl, rfl, Post.at (x := V.bl _) h s (.bl _)⟩
  · exact h.elim
theorem sn_gt : Snd2 (gX X cm) E oGt (rI0 fun i j => .bl (decide (j < i))) := by
  intro H ρ st a b x y Q s ra rb h
  unfold oGt at h
  split at h
  · cases rep_int ra; cases rep_int rb
    exact ⟨_, _, rfl, rfl, Post.at (x := V.bl _) h s (.bl _)⟩
  · exact h.elim
theorem sn_ge : Snd2 (gX X cm) E oGe (rI0 fun i j => .bl (decide (j ≤ i))) := by
  intro H ρ st a b x y Q s ra rb h
  unfold oGe at h
  split at h
  · cases rep_int ra; cases rep_int rb
    exact ⟨_, _, rfl, rfl, Post.at (x := V.bl _) h s (.bl _)⟩
  · exact h.elim
/-- a value's data as the layer tells it -/
theorem dps_of {f : AV → Option PyData} {m : Nat} (hf : ∀ v x d, Rep G.K H ρ n v x → f v = some d → Dp G.K H x d ∧ d.plain = true ∧ d.depth ≤ m) : ∀ {vs : List AV} {xs : List V} {ds : List PyData}, RepL G.K H ρ n vs xs → mapO f vs = some ds → DpAll G.K H xs ds ∧ PyData.plainAll ds = true ∧ PyData.depthAll ds ≤ m
  | [], _, ds, h, e => by
    cases h
    simp only [mapO] at e
    cases e
    exact ⟨.nil, rfl, Nat.zero_le _⟩
  | v :: vs, _, ds, h, e => by
    cases h with
    | cons h1 h2 =>
      simp only [mapO] at e
      split at e
      · rename_i d es e1 e2
        cases e
        obtain ⟨a1, a2, a3⟩ := hf v _ d h1 e1
        obtain ⟨b1, b2, b3⟩ := dps_of hf h2 e2
        refine ⟨.cons a1 b1, by rw [PyData.plainAll, a2, b2]; rfl, ?_⟩
        rw [PyData.depthAll]
        omega
      · cases e
theorem dp_of (s : RepS G H ρ st) : ∀ (f : Nat) (v : AV) (x : V) (d : PyData), Rep G.K H ρ st.length v x → den st f v = some d → Dp G.K H x d ∧ d.plain = true ∧ d.depth ≤ f
  | 0, _, _, _, _, e => nomatch e
  | f + 1, .non, _, _, h, e => by cases h; simp only [den] at e; cases e; exact ⟨.non, rfl, Nat.zero_le _⟩
  | f + 1, .bl b, _, _, h, e => by cases h; simp only [den] at e; cases e; exact ⟨.bl b, rfl, Nat.zero_le _⟩
  | f + 1, .int b, _, _, h, e => by cases h; simp only [den] at e; cases e; exact ⟨.int b, rfl, Nat.zero_le _⟩
  | f + 1, .str b, _, _, h, e => by cases h; simp only [den] at e; cases e; exact ⟨.str b, rfl, Nat.zero_le _⟩
  | f + 1, .tup xs, _, d, h, e => by
    simp only [den] at e
    cases hx : mapO (den st f) xs with
    | none => rw [hx] at e; cases e
    | some ds =>
      rw [hx] at e
      cases e
      obtain ⟨a, ys, rfl, hq, hr⟩ := rep_tup h
      obtain ⟨h1, h2, h3⟩ := dps_of (dp_of s f) hr hx
      exact ⟨.tup hq.seq h1, h2, by rw [PyData.depth]; omega⟩
  | f + 1, .tmp xs, _, d, h, e => by
    simp only [den] at e
    cases hx : mapO (den st f) xs with
    | none => rw [hx] at e; cases e
    | some ds =>
      rw [hx] at e
      cases e
      obtain ⟨a, ys, rfl, hq, hr⟩ := rep_tmp h
      obtain ⟨h1, h2, h3⟩ := dps_of (dp_of s f) hr hx
      exact ⟨.tup hq h1, h2, by rw [PyData.depth]; omega⟩
  | f + 1, .frl xs, _, d, h, e => by
    simp only [den] at e
    cases hx : mapO (den st f) xs with
    | none => rw [hx] at e; cases e
    | some ds =>
      rw [hx] at e
      cases e
      obtain ⟨a, ys, rfl, hq, hr⟩ := rep_frl h
      obtain ⟨h1, h2, h3⟩ := dps_of (dp_of s f) hr hx
      exact ⟨.lst hq.seq h1, h2, by rw [PyData.depth]; omega⟩
  | f + 1, .loc k, _, d, h, e => by
    obtain ⟨rfl, hk⟩ := rep_loc h
    simp only [den] at e
    split at e
    · rename_i xs hxs
      obtain ⟨ys, h1, r1⟩ := s.lst hxs
      cases hx : mapO (den st f) xs with
      | none => rw [hx] at e; cases e
      | some ds =>
        rw [hx] at e
        cases e
        obtain ⟨h3, h4, h5⟩ := dps_of (dp_of s f) r1 hx
        exact ⟨.lst (SqL.of h1) h3, h4, by rw [PyData.depth]; omega⟩
    · cases e
def rEqP (K : PySem.W.Frag) : R2 := fun x y H Q => ∃ d e, Dp K H x d ∧ Dp K H y e ∧ d.plain = true ∧ e.plain = true ∧ d.depth ≤ 16 ∧ e.depth ≤ 16 ∧ Q (.bl (PyData.eqv d e)) H
def rNeP (K : PySem.W.Frag) : R2 := fun x y H Q => ∃ d e, Dp K H x d ∧ Dp K H y e ∧ d.plain = true ∧ e.plain = true ∧ d.depth ≤ 16 ∧ e.depth ≤ 16 ∧ Q (.bl (!PyData.eqv d e)) H
theorem op_eqP (hu : X.A.units + 64 < cLine) : OpR X (compareOp .Eq) (rEqP X.K) := by
  intro pins s σ H x y v u Q I rx ry h
  obtain ⟨d, e, hd, he, sd, se, l1, l2, q⟩ := h
  obtain ⟨as, r1⟩ := Dp.reads I d x v hd rx
  obtain ⟨bs, r2⟩ := Dp.reads I e y u he ry
  exact SeqAt.eq_plain r1 r2 sd se (by omega) ⟨.bl _, H, I, rfl, q⟩
theorem op_neP (hu : X.A.units + 64 < cLine) : OpR X (compareOp .NotEq) (rNeP X.K) := by
  intro pins s σ H x y v u Q I rx ry h
  obtain ⟨d, e, hd, he, sd, se, l1, l2, q⟩ := h
  obtain ⟨as, r1⟩ := Dp.reads I d x v hd rx
  obtain ⟨bs, r2⟩ := Dp.reads I e y u he ry
  exact SeqAt.ne_plain r1 r2 sd se (by omega) ⟨.bl _, H, I, rfl, q⟩
theorem sn_eq : Snd2 (gX X cm) E oEq (rEqP X.K) := by
  intro H ρ st a b x y Q s ra rb h
  unfold oEq at h
  split at h
  · rename_i d e h1 h2
    obtain ⟨p1, p2, p3⟩ := dp_of s _ _ _ _ ra h1
    obtain ⟨q1, q2, q3⟩ := dp_of s _ _ _ _ rb h2
    exact ⟨d, e, p1, q1, p2, q2, p3, q3, Post.at (x := V.bl _) h s (.bl _)⟩
  · exact h.elim
theorem sn_ne : Snd2 (gX X cm) E oNe (rNeP X.K) := by
  intro H ρ st a b x y Q s ra rb h
  unfold oNe at h
  split at h
  · rename_i d e h1 h2
    obtain ⟨p1, p2, p3⟩ := dp_of s _ _ _ _ ra h1
    obtain ⟨q1, q2, q3⟩ := dp_of s _ _ _ _ rb h2
    exact ⟨d, e, p1, q1, p2, q2, p3, q3, Post.at (x := V.bl _) h s (.bl _)⟩
  · exact h.elim
/-- x in c, c a list or a tuple -/
def rInP (K : PySem.W.Frag) (neg : Bool) : R2 := fun x y H Q => ∃ d e es, Dp K H x d ∧ Dp K H y e ∧ itemsOf e = some es ∧ d.plain = true ∧ e.plain = true ∧ d.depth ≤ 16 ∧ e.depth ≤ 16 ∧ Q (.bl (if neg then !es.any fun z => PyData.eqv z d else es.any fun z => PyData.eqv z d)) H
theorem op_inP (hu : X.A.units + 64 < cLine) : OpR X (compareOp .In) (rInP X.K false) := by
  intro pins s σ H x y v u Q I rx ry h
  obtain ⟨d, e, es, hd, he, hes, sd, se, l1, l2, q⟩ := h
  obtain ⟨as, r1⟩ := Dp.reads I d x v hd rx
  obtain ⟨bs, r2⟩ := Dp.reads I e y u he ry
  cases e with
  | list xs =>
    cases hes
    rw [PyData.depth] at l2
    exact SeqAt.in_list_data r2 r1 se sd (by omega) ⟨.bl _, H, I, rfl, q⟩
  | tuple xs =>
    cases hes
    rw [PyData.depth] at l2
    exact SeqAt.in_tuple_data r2 r1 se sd (by omega) ⟨.bl _, H, I, rfl, q⟩
  | _ => cases hes
theorem op_notInP (hu : X.A.units + 64 < cLine) : OpR X (compareOp .NotIn) (rInP X.K true) := by
  intro pins s σ H x y v u Q I rx ry h
  obtain ⟨d, e, es, hd, he, hes, sd, se, l1, l2, q⟩ := h
  obtain ⟨as, r1⟩ := Dp.reads I d x v hd rx
  obtain ⟨bs, r2⟩ := Dp.reads I e y u he ry
  cases e with
  | list xs =>
    cases hes
    rw [PyData.depth] at l2
    exact SeqAt.notIn_list_data r2 r1 se sd (by omega) ⟨.bl _, H, I, rfl, q⟩
  | tuple xs =>
    cases hes
    rw [PyData.depth] at l2
    exact SeqAt.notIn_tuple_data r2 r1 se sd (by omega) ⟨.bl _, H, I, rfl, q⟩
  | _ => cases hes
theorem bind_items {o : Option PyData} {es : List PyData} (h : o.bind itemsOf = some es) : ∃ e, o = some e ∧ itemsOf e = some es := by
  cases o with
  | none => cases h
  | some e => exact ⟨e, rfl, h⟩
theorem sn_in : Snd2 (gX X cm) E oIn (rInP X.K false) := by
  intro H ρ st a b x y Q s ra rb h
  unfold oIn at h
  split at h
  · rename_i d es h1 h2
    obtain ⟨e, h3, h4⟩ := bind_items h2
    obtain ⟨p1, p2, p3⟩ := dp_of s _ _ _ _ ra h1
    obtain ⟨q1, q2, q3⟩ := dp_of s _ _ _ _ rb h3
    exact ⟨d, e, es, p1, q1, h4, p2, q2, p3, q3, Post.at (x := V.bl _) h s (.bl _)⟩
  · exact h.elim
theorem sn_notIn : Snd2 (gX X cm) E oNotIn (rInP X.K true) := by
  intro H ρ st a b x y Q s ra rb h
  unfold oNotIn at h
  split at h
  · rename_i d es h1 h2
    obtain ⟨e, h3, h4⟩ := bind_items h2
    obtain ⟨p1, p2, p3⟩ := dp_of s _ _ _ _ ra h1
    obtain ⟨q1, q2, q3⟩ := dp_of s _ _ _ _ rb h3
    exact ⟨d, e, es, p1, q1, h4, p2, q2, p3, q3, Post.at (x := V.bl _) h s (.bl _)⟩
  · exact h.elim
theorem isNon_of {v : AV} {x : V} (h : Rep K H ρ n v x) : decide (x = .non) = isNon v := by
  cases h <;> simp [isNon]
theorem sn_is : Snd2 (gX X cm) E oIs (fun x y H Q => y = .non ∧ Q (.bl (decide (x = .non))) H) := by
  intro H ρ st a b x y Q s ra rb h
  unfold oIs at h
  split at h
  · cases rep_non rb
    rw [isNon_of ra]
    exact ⟨rfl, Post.at (x := V.bl _) h s (.bl _)⟩
  · exact h.elim
theorem sn_isNot : Snd2 (gX X cm) E oIsNot (fun x y H Q => y = .non ∧ Q (.bl (!decide (x = .non))) H) := by
  intro H ρ st a b x y Q s ra rb h
  unfold oIsNot at h
  split at h
  · cases rep_non rb
    rw [isNon_of ra]
    exact ⟨rfl, Post.at (x := V.bl _) h s (.bl _)⟩
  · exact h.elim
theorem sn_isB : Snd2 (gX X cm) E oIsB rIsB := by
  intro H ρ st a b x y Q s ra rb h
  unfold oIsB at h
  split at h
  · cases rep_bl ra; cases rep_bl rb
    exact ⟨_, _, rfl, rfl, Post.at (x := V.bl _) h s (.bl _)⟩
  · exact h.elim
theorem sn_isNotB : Snd2 (gX X cm) E oIsNotB rNotB := by
  intro H ρ st a b x y Q s ra rb h
  unfold oIsNotB at h
  split at h
  · cases rep_bl ra; cases rep_bl rb
    exact ⟨_, _, rfl, rfl, Post.at (x := V.bl _) h s (.bl _)⟩
  · exact h.elim
end
end Y
set_option Elab.async false
set_option linter.all false
set_option maxRecDepth 100000
/-! Y7: items, slices, built-ins, methods, iterators: soundness; defs and calls -/
namespace Y
open PySem PySem.Spec L2
open PyProof.Rows hiding St
section
variable {X : Cx} {cm : CM} {E : EX} {G : GK} {K : PySem.W.Frag} {H : Hp} {ρ : Nat → Addr} {n : Nat} {st : Sto}
/-! ### items -/
theorem RepL.atI : ∀ {vs : List AV} {xs : List V} {i : Int} {v : AV}, RepL K H ρ n vs xs → L2.atI vs i = some v → ∃ x, L2.atI xs i = some x ∧ Rep K H ρ n v x := by
  intro vs xs i v r e
  unfold L2.atI at e ⊢
  rw [← r.length]
  cases h : ixN vs.length i with
  | none => rw [h] at e; cases e
  | some j =>
    rw [h] at e
    exact r.get e
theorem or_ix : IxR X (fun x y H Q => rIxL X.K x y H Q ∨ rIxT X.K x y H Q) := ix_list.or ix_tup
theorem sn_ix : Snd2 (gX X cm) E oIx (fun x y H Q => rIxL X.K x y H Q ∨ rIxT X.K x y H Q) := by
  intro H ρ st a b x y Q s ra rb h
  unfold oIx at h
  split at h
  · cases rep_int rb
    split at h
    · obtain ⟨p, ys, rfl, hp, hr⟩ := rep_tup ra
      split at h
      · rename_i v hv
        obtain ⟨z, e, rz⟩ := hr.atI hv
        exact .inr ⟨p, ys, _, z, rfl, rfl, hp.seq, e, Post.at (x := z) h s rz⟩
      · exact h.elim
    · obtain ⟨p, ys, rfl, hp, hr⟩ := rep_tmp ra
      split at h
      · rename_i v hv
        obtain ⟨z, e, rz⟩ := hr.atI hv
        exact .inr ⟨p, ys, _, z, rfl, rfl, hp, e, Post.at (x := z) h s rz⟩
      · exact h.elim
    · obtain ⟨rfl, hk⟩ := rep_loc ra
      split at h
      · rename_i xs hx
        obtain ⟨ys, h1, r1⟩ := s.lst (rdL_some hx)
        split at h
        · rename_i v hv
          obtain ⟨z, e, rz⟩ := r1.atI hv
          exact .inl ⟨_, ys, _, z, rfl, rfl, SqL.of h1, e, Post.at (x := z) h s rz⟩
        · exact h.elim
      · exact h.elim
    · exact h.elim
  · exact h.elim
theorem ye_ix {a b : Expr} {ma mb : ME} {o : O2} {r : R2} {pos : Pos} (hr : IxR X r) (ho : Snd2 (gX X cm) E o r) (ha : PE X a (tE (gX X cm) E ma)) (hb : PE X b (tE (gX X cm) E mb)) (hs : PlainIx b) : PE X (.Subscript a b pos) (tE (gX X cm) E (mOp o ma mb)) :=
  PE.weak (pe_ix hr ha hb hs) (tOp_of ho)
theorem sn_setL : Snd3 (gX X cm) E oSetL rSetL := by
  intro H ρ st a b c x y z Q s ra rb rc h
  unfold oSetL at h
  split at h
  · obtain ⟨rfl, hk⟩ := rep_loc ra
    cases rep_int rb
    split at h
    · rename_i xs hx
      obtain ⟨ys, h1, r1⟩ := s.lst hx
      split at h
      · rename_i j hj
        refine ⟨_, ys, _, j, rfl, rfl, h1, by rw [← r1.length]; exact hj, ?_⟩
        refine h _ ρ () ?_ (s.put (ob := .lst _) hk h1 (show Shape _ _ _ (ys.set j z) (.lst _) from upd_same) (RepL.set rc j r1)) trivial
        rw [List.length_set]
        exact Ext.put hk h1 fun _ _ z => nomatch z
      · exact h.elim
    · exact h.elim
  · exact h.elim
/-! ### slices -/
def tO (G : GK) (E : EX) (m : MO) : TO := fun σ H Q => ∃ ρ st env, RepS G H ρ st ∧ RepE G.K H ρ st.length env σ ∧ Post G E H ρ st.length (fun _ _ _ (a b : Option Int) => b = a) (m env st) Q
theorem PO.weak {e : Option Expr} {t u : TO} (h : PO X e t) (w : ∀ σ H Q, u σ H Q → t σ H Q) : PO X e u := ⟨fun pins s σ H Q I q => h.run pins s σ H Q I (w _ _ _ q)⟩
theorem yo_none : PO X none (tO (gX X cm) E moNone) := PO.weak po_none fun σ H Q ⟨ρ, st, env, hs, he, hp⟩ => Post.at (x := (none : Option Int)) hp hs rfl
theorem yo_some {e : Expr} {m : ME} (h : PE X e (tE (gX X cm) E m)) : PO X (some e) (tO (gX X cm) E (moSome m)) := PO.weak (po_some h) fun σ H Q ⟨ρ, st, env, hs, he, hp⟩ => ⟨ρ, st, env, hs, he, hp.bindI fun v st1 H1 ρ1 x e1 s1 r1 hp1 => by
  have r1 : Rep X.K H1 ρ1 st1.length v x := r1
  cases v with
  | int i =>
    cases rep_int r1
    exact ⟨i, rfl, Post.at (x := some i) hp1 s1 rfl⟩
  | _ => exact hp1.elim⟩
def SndS (G : GK) (E : EX) (o : OS) (r : V → Option Int → Option Int → Hp → VK → Prop) : Prop := ∀ H ρ st a x i j Q, RepS G H ρ st → Rep G.K H ρ st.length a x → Post G E H ρ st.length (rV G.K) (o a i j st) Q → r x i j H Q
theorem ye_slice {e : Expr} {lo hi : Option Expr} {m : ME} {l h : MO} {o : OS} {r : V → Option Int → Option Int → Hp → VK → Prop} {p2 pos : Pos} (hr : SlR X r) (ho : SndS (gX X cm) E o r) (he : PE X e (tE (gX X cm) E m)) (hl : PO X lo (tO (gX X cm) E l)) (hh : PO X hi (tO (gX X cm) E h)) :
    PE X (.Subscript e (.Slice lo hi none p2) pos) (tE (gX X cm) E (mSl o m l h)) :=
  PE.weak (pe_slice hr he hl hh) fun σ H Q ⟨ρ, st, env, hs, he, hp⟩ => ⟨ρ, st, env, hs, he, hp.bindI fun v st1 H1 ρ1 x e1 s1 r1 hp1 => ⟨ρ1, st1, env, s1, he.ext hs e1, hp1.bindI fun i st2 H2 ρ2 i' e2 s2 r2 hp2 => ⟨ρ2, st2, env, s2, (he.ext hs e1).ext s1 e2, hp2.bindI fun j st3 H3 ρ3 j' e3 s3 r3 hp3 => by
    cases (show i' = i from r2)
    cases (show j' = j from r3)
    exact ho _ _ _ _ _ _ _ _ s3 (Rep.ext s2 e3 (Rep.ext s1 e2 r1)) hp3⟩⟩⟩
/-- t[lo:hi], the part a plain tuple -/
def rSlP (K : PySem.W.Frag) : V → Option Int → Option Int → Hp → VK → Prop := fun x lo hi H Q => ∃ a xs, x = .ref a ∧ SqT K H a xs ∧
  (HT.sIx xs.length 0 lo = 0 ∧ HT.sIx xs.length xs.length hi = xs.length → Q (.ref a) H) ∧ (¬ (HT.sIx xs.length 0 lo = 0 ∧ HT.sIx xs.length xs.length hi = xs.length) → ∀ p o, o.cls = .type "tuple" → o.dict = none → H p = none → Q (.ref p) (upd H p (pT o (cutV xs lo hi))))
theorem sl_tupP : SlR X (rSlP X.K) := by
  intro pins s σ H x v vl vu lo hi sl Q I rx hs pl pu h
  obtain ⟨a, xs, rfl, hx, q1, q2⟩ := h
  cases rx
  obtain ⟨its, r, ht, hz⟩ := I.tuple hx
  have hlen : its.toArray.size = xs.length := by rw [List.size_toArray]; exact r.length.symm
  by_cases hw : HT.sIx xs.length 0 lo = 0 ∧ HT.sIx xs.length xs.length hi = xs.length
  · refine ⟨"tuple", _, PyProof.Rows.slot_tuple_getitem.lookup, ht.typeIs, ?_⟩
    exact getItem_tuple_whole ht hs pl pu (by rw [hlen]; exact hw) ⟨.ref a, H, I, rfl, q1 hw⟩
  · refine ⟨"tuple", _, PyProof.Rows.slot_tuple_getitem.lookup, ht.typeIs, ?_⟩
    refine HT.getItem_tuple_cut ht hs pl pu (by rw [hlen]; exact hw) ?_ (by rw [hlen]; exact hz)
    rw [hlen]
    exact ⟨.ref s.heap.objs.size, _, Inv.lplain (xs := cutV xs lo hi) (t' := s.toks) I ((r.drop (HT.sIx xs.length 0 lo)).take (HT.sIx xs.length xs.length hi - HT.sIx xs.length 0 lo)) (Nat.le_trans (cutV_length xs lo hi) hz), rfl, q2 hw _ _ rfl rfl (I.hok.fresh (Nat.le_refl _))⟩
theorem or_sl : SlR X (fun x lo hi H Q => rSlP X.K x lo hi H Q ∨ rSlL X.K x lo hi H Q) := sl_tupP.or sl_list
theorem cut_rep {vs : List AV} {xs : List V} (r : RepL K H ρ n vs xs) (i j : Option Int) : RepL K H ρ n (cutA vs i j) (cutV xs i j) := by
  unfold cutA cutV
  rw [r.length]
  exact (r.drop _).take _
theorem cut_whole {vs : List AV} {i j : Option Int} (h : HT.sIx vs.length 0 i = 0 ∧ HT.sIx vs.length vs.length j = vs.length) : cutA vs i j = vs := by
  unfold cutA
  rw [h.1, h.2, List.drop_zero, Nat.sub_zero, List.take_length]
theorem sn_sl : SndS (gX X cm) E oSl (fun x lo hi H Q => rSlP X.K x lo hi H Q ∨ rSlL X.K x lo hi H Q) := by
  intro H ρ st a x i j Q s ra h
  unfold oSl at h
  split at h
  · obtain ⟨p, ys, rfl, hp, hr⟩ := rep_tup ra
    refine .inl ⟨p, ys, rfl, hp.seq, fun hw => ?_, fun _ q o hc hd hn => plain_at s (cut_rep hr i j) hc hd hn h⟩
    rw [← hr.length] at hw
    rw [cut_whole hw] at h
    exact Post.at (x := V.ref p) h s (.tup hp hr)
  · obtain ⟨p, ys, rfl, hp, hr⟩ := rep_frl ra
    exact .inr ⟨p, ys, rfl, hp.seq, fun q hn => list_at s (cut_rep hr i j) hn h⟩
  · obtain ⟨rfl, hk⟩ := rep_loc ra
    split at h
    · rename_i xs hx
      obtain ⟨ys, h1, r1⟩ := s.lst (rdL_some hx)
      exact .inr ⟨_, ys, rfl, SqL.of h1, fun q hn => list_at s (cut_rep r1 i j) hn h⟩
    · exact h.elim
  · exact h.elim
/-! ### built-ins -/
theorem cr_len : CallR X (.builtin "len") (fun xs H Q => (∃ p ys, xs = [.ref p] ∧ (SqL X.K H p ys ∨ SqT X.K H p ys) ∧ Q (.int ys.length) H) ∨ ∃ z, xs = [.str z] ∧ z.length ≤ sizeLine ∧ Q (.int z.length) H) := call_len_seq.or call_len_str
theorem sn_len : SndN (gX X cm) E oLen (fun xs H Q => (∃ p ys, xs = [.ref p] ∧ (SqL X.K H p ys ∨ SqT X.K H p ys) ∧ Q (.int ys.length) H) ∨ ∃ z, xs = [.str z] ∧ z.length ≤ sizeLine ∧ Q (.int z.length) H) := by
  intro H ρ st vs xs Q s r h
  unfold oLen at h
  split at h
  · obtain ⟨x, rfl, rx⟩ := r.one
    obtain ⟨p, ys, rfl, hp, hr⟩ := rep_tup rx
    exact .inl ⟨p, ys, rfl, .inr hp.seq, Post.at (x := V.int _) h s (by rw [hr.length]; exact .int _)⟩
  · obtain ⟨x, rfl, rx⟩ := r.one
    obtain ⟨p, ys, rfl, hp, hr⟩ := rep_tmp rx
    exact .inl ⟨p, ys, rfl, .inr hp, Post.at (x := V.int _) h s (by rw [hr.length]; exact .int _)⟩
  · obtain ⟨x, rfl, rx⟩ := r.one
    obtain ⟨rfl, hk⟩ := rep_loc rx
    split at h
    · rename_i zs hx
      obtain ⟨ys, h1, r1⟩ := s.lst (rdL_some hx)
      exact .inl ⟨_, ys, rfl, .inl (SqL.of h1), Post.at (x := V.int _) h s (by rw [r1.length]; exact .int _)⟩
    · exact h.elim
  · obtain ⟨x, rfl, rx⟩ := r.one
    cases rep_str rx
    split at h
    · rename_i hl
      exact .inr ⟨_, rfl, by rw [← LIM_line]; exact hl, Post.at (x := V.int _) h s (.int _)⟩
    · exact h.elim
  · exact h.elim
theorem sn_max2 : SndN (gX X cm) E oMax2 (fun xs H Q => ∃ i j, xs = [.int i, .int j] ∧ Q (.int (if j > i then j else i)) H) := by
  intro H ρ st vs xs Q s r h
  unfold oMax2 at h
  split at h
  · obtain ⟨x, y, rfl, rx, ry⟩ := r.two
    cases rep_int rx; cases rep_int ry
    exact ⟨_, _, rfl, Post.at (x := V.int _) h s (.int _)⟩
  · exact h.elim
theorem sn_min2 : SndN (gX X cm) E oMin2 (fun xs H Q => ∃ i j, xs = [.int i, .int j] ∧ Q (.int (if j < i then j else i)) H) := by
  intro H ρ st vs xs Q s r h
  unfold oMin2 at h
  split at h
  · obtain ⟨x, y, rfl, rx, ry⟩ := r.two
    cases rep_int rx; cases rep_int ry
    exact ⟨_, _, rfl, Post.at (x := V.int _) h s (.int _)⟩
  · exact h.elim
theorem sn_int : SndN (gX X cm) E oInt (fun xs H Q => (∃ i, xs = [.int i] ∧ Q (.int i) H) ∨ ∃ k, xs = [.bl k] ∧ Q (.int (if k then 1 else 0)) H) := by
  intro H ρ st vs xs Q s r h
  unfold oInt at h
  split at h
  · obtain ⟨x, rfl, rx⟩ := r.one
    cases rep_int rx
    exact .inl ⟨_, rfl, Post.at (x := V.int _) h s (.int _)⟩
  · obtain ⟨x, rfl, rx⟩ := r.one
    cases rep_bl rx
    exact .inr ⟨_, rfl, Post.at (x := V.int _) h s (.int _)⟩
  · exact h.elim
theorem sn_listOf : SndN (gX X cm) E oListOf (fun xs H Q => ∃ p ys, xs = [.ref p] ∧ (SqL X.K H p ys ∨ SqT X.K H p ys) ∧ ∀ l, H l = none → Q (.ref l) (upd H l (.lst ys))) := by
  intro H ρ st vs xs Q s r h
  unfold oListOf at h
  split at h
  · obtain ⟨x, rfl, rx⟩ := r.one
    obtain ⟨p, ys, rfl, hp, hr⟩ := rep_tup rx
    exact ⟨p, ys, rfl, .inr hp.seq, fun l hn => list_at s hr hn h⟩
  · obtain ⟨x, rfl, rx⟩ := r.one
    obtain ⟨rfl, hk⟩ := rep_loc rx
    split at h
    · rename_i zs hx
      obtain ⟨ys, h1, r1⟩ := s.lst (rdL_some hx)
      exact ⟨_, ys, rfl, .inl (SqL.of h1), fun l hn => list_at s r1 hn h⟩
    · exact h.elim
  · exact h.elim
/-- tuple(x): of a list a new plain tuple, of a tuple itself -/
def rTupP (K : PySem.W.Frag) : List V → Hp → VK → Prop := fun xs H Q => ∃ p ys, xs = [.ref p] ∧ ((SqL K H p ys ∧ ∀ l o, o.cls = .type "tuple" → o.dict = none → H l = none → Q (.ref l) (upd H l (pT o ys))) ∨ (SqT K H p ys ∧ Q (.ref p) H))
theorem cr_tupP : CallR X (.type "tuple") (rTupP X.K) := by
  intro pins s σ H xs us Q I r h
  obtain ⟨p, ys, rfl, h⟩ := h
  obtain ⟨u, rfl, rx⟩ := vals1 r
  cases rx
  rcases h with ⟨hq, q⟩ | ⟨hq, q⟩
  · obtain ⟨its, r', pl, hz⟩ := I.list hq
    have hlen := r'.length
    refine call_tuple_list pl.isList (fun h' kp => ?_) (by simp only [List.size_toArray] <;> omega)
    have I1 : Inv X pins σ H { s with heap := h' } := I.kept (t' := s.toks) kp
    exact ⟨.ref h'.objs.size, _, Inv.lplain (t' := s.toks) I1 r' hz, rfl, q _ _ rfl rfl (I1.hok.fresh (Nat.le_refl _))⟩
  · obtain ⟨its, r', pl, hz⟩ := I.tuple hq
    exact call_tuple_same pl ⟨.ref p, H, I, rfl, q⟩
theorem sn_tupOf : SndN (gX X cm) E oTupOf (rTupP X.K) := by
  intro H ρ st vs xs Q s r h
  unfold oTupOf at h
  split at h
  · obtain ⟨x, rfl, rx⟩ := r.one
    obtain ⟨p, ys, rfl, hp, hr⟩ := rep_tup rx
    exact ⟨p, ys, rfl, .inr ⟨hp.seq, Post.at (x := V.ref p) h s (.tup hp hr)⟩⟩
  · obtain ⟨x, rfl, rx⟩ := r.one
    obtain ⟨rfl, hk⟩ := rep_loc rx
    split at h
    · rename_i zs hx
      obtain ⟨ys, h1, r1⟩ := s.lst (rdL_some hx)
      exact ⟨_, ys, rfl, .inl ⟨SqL.of h1, fun l o hc hd hn => plain_at s r1 hc hd hn h⟩⟩
    · exact h.elim
  · exact h.elim
theorem intsA_rep : ∀ {vs : List AV} {xs : List V} {ns : List Int}, RepL K H ρ n vs xs → intsA vs = some ns → xs = ns.map V.int
  | [], _, ns, r, e => by cases r; simp only [intsA] at e; cases e; rfl
  | v :: vs, _, ns, r, e => by
    cases r with
    | cons h1 h2 =>
      cases v with
      | int i =>
        cases rep_int h1
        simp only [intsA] at e
        cases hx : intsA vs with
        | none => rw [hx] at e; cases e
        | some ms =>
          rw [hx] at e
          cases e
          rw [intsA_rep h2 hx]
          rfl
      | _ => simp [intsA] at e
theorem sn_sum : SndN (gX X cm) E oSum (rSum X.K) := by
  intro H ρ st vs xs Q s r h
  unfold oSum at h
  split at h
  · obtain ⟨x, rfl, rx⟩ := r.one
    obtain ⟨rfl, hk⟩ := rep_loc rx
    split at h
    · rename_i ns hx
      cases hz : rdL st _ with
      | none => rw [hz] at hx; cases hx
      | some zs =>
        rw [hz] at hx
        obtain ⟨ys, h1, r1⟩ := s.lst (rdL_some hz)
        have e := intsA_rep r1 hx
        subst e
        exact ⟨_, ns, rfl, SqL.of h1, Post.at (x := V.int _) h s (.int _)⟩
    · exact h.elim
  · exact h.elim
/-! ### methods -/
def tyName : Ty → String
  | .list => "list"
  | .tuple => "tuple"
  | .str => "str"
  | .dict => "dict"
/-- the receiver's type, by what is known of it -/
def tyOk (K : PySem.W.Frag) (T : Ty) (x : V) (H : Hp) : Prop := match T with
  | .tuple => ∃ p ys, x = .ref p ∧ SqP K H p ys
  | .list => tyV K "list" x H
  | .str => tyV K "str" x H
  | .dict => ∃ p kvs, x = .ref p ∧ Rd H p (.dK kvs)
theorem tyOk_is {pins : List (Addr × Obj)} {σ : St} {s : Shared} {T : Ty} {x : V} {v : Value} (I : Inv X pins σ H s) (r : RelV x v) (ty : tyOk X.K T x H) :
    s.TypeIs v (tyName T) ∧ ∀ a, v = .ref a → ∃ ob, s.heap.get? a = some ob ∧ ob.dict = none := by
  cases T with
  | list => exact tyV_is I r ty
  | str => exact tyV_is I r ty
  | tuple =>
    obtain ⟨p, ys, rfl, h⟩ := ty
    cases r
    rcases h with ⟨o, h, hc, hd⟩ | ⟨o, its, m, hk, hc, hd, _⟩
    · obtain ⟨e, _⟩ := I.hok p _ h
      refine ⟨⟨o, e, hc⟩, fun a z => ?_⟩
      cases z
      exact ⟨o, e, hd⟩
    · refine ⟨⟨o, I.kIn p o hk, hc⟩, fun a z => ?_⟩
      cases z
      exact ⟨o, I.kIn _ o hk, hd⟩
  | dict =>
    obtain ⟨p, kvs, rfl, h⟩ := ty
    cases r
    obtain ⟨_, _, _, _, o, _, _, e, ex, _⟩ := h.ok I.hok
    refine ⟨⟨o, e, ex.1⟩, fun a z => ?_⟩
    cases z
    exact ⟨o, e, ex.2.1⟩
theorem isTy_ok {T : Ty} {v : AV} {x : V} (s : RepS G H ρ st) (r : Rep G.K H ρ st.length v x) (h : isTy st T v = true) : tyOk G.K T x H := by
  cases T with
  | list =>
    cases v with
    | loc k =>
      obtain ⟨rfl, hk⟩ := rep_loc r
      simp only [isTy] at h
      split at h
      · rename_i xs hx
        obtain ⟨ys, h1, r1⟩ := s.lst hx
        exact .inl ⟨rfl, ys, SqL.of h1⟩
      · cases h
    | _ => cases h
  | tuple =>
    cases v with
    | tup xs =>
      obtain ⟨p, ys, rfl, hp, hr⟩ := rep_tup r
      exact ⟨p, ys, rfl, hp⟩
    | _ => cases h
  | str =>
    cases v with
    | str z => cases rep_str r; exact rfl
    | _ => cases h
  | dict =>
    cases v with
    | loc k =>
      obtain ⟨rfl, hk⟩ := rep_loc r
      simp only [isTy] at h
      split at h
      · rename_i xs hx
        obtain ⟨ys, ⟨ks, h1, _⟩, r1⟩ := s.ob k _ hx
        exact ⟨_, ks, rfl, .inl h1⟩
      · rename_i xs hx
        obtain ⟨ys, ⟨o, ks, h1, _⟩, r1⟩ := s.ob k _ hx
        exact ⟨_, ks, rfl, .inr ⟨o, h1⟩⟩
      · cases h
    | _ => cases h
def tMet (K : PySem.W.Frag) (T : Ty) (r : V → List V → Hp → VK → Prop) (to : TE) (t : TA) : TE := fun σ H Q => to σ H fun x H1 => tyOk K T x H1 ∧ t σ H1 fun xs H2 => r x xs H2 Q
theorem pe_met {o e : Expr} {es : List Expr} {to : TE} {t : TA} {name : Str} {apos cpos : Pos} {T : Ty} {id : String} {r : V → List V → Hp → VK → Prop} (pa : PlainAttrs (tyName T)) (slot : Slot (tyName T) name id) (hty : typeOf (.builtin id) = pure (.type "method_descriptor")) (hm : MtR X id r) (ho : PE X o to) (ha : PA X (e :: es) t)
    (hbase : attributeBase o name X.env (eval o X.env) = eval o X.env := by rfl)
    (hfew : ((backTo cpos (starEach (e :: es) X.env)).all (fun x => !x.1) && (backToKw cpos (keywordEach [] X.env)).all (fun x => x.1.isSome)
      && decide ((e :: es).length + ([] : List Keyword).length + (if ([] : List Keyword).isEmpty then 0 else 1) < 30)) = true := by rfl)
    (hline : (apos.endLine == cpos.line) = true := by rfl) (hs : starEach (e :: es) X.env = (false, eval e X.env) :: starEach es X.env := by rfl) (hplain : (backTo cpos (starEach es X.env)).any (·.1) = false := by rfl) :
    PE X (.Call (.Attribute o name apos) (e :: es) [] cpos) (tMet X.K T r to t) := by
  refine ⟨fun pins s σ H Q I h => ?_⟩
  refine wpAny_Call_method_late hbase hfew hline rfl (thn (ho.run pins s σ H _ I h) fun v s1 ⟨x, H1, I1, r1, ty, q1⟩ => ?_)
  obtain ⟨h1, h2⟩ := tyOk_is I1 r1 ty
  refine ⟨tyName T, id, pa, slot, hty, h1, h2, ?_⟩
  have hA := ha.run cpos pins s1 σ H1 _ I1 q1
  rw [hs] at hA ⊢
  refine Calls.callWith_builtin (by show (false || (backTo cpos (starEach es X.env)).any (·.1)) = false; rw [hplain] <;> rfl) (Calls.evalArgs_plain ?_)
  exact thn hA fun us s2 ⟨vs, H2, I2, r2, q2⟩ => hm pins s2 σ H2 x vs v us Q I2 r1 r2 q2
def SndM (G : GK) (E : EX) (o : OM) (r : V → List V → Hp → VK → Prop) : Prop := ∀ H ρ st a x vs xs Q, RepS G H ρ st → Rep G.K H ρ st.length a x → RepL G.K H ρ st.length vs xs → Post G E H ρ st.length (rV G.K) (o a vs st) Q → r x xs H Q
theorem ye_met {o e : Expr} {es : List Expr} {m : ME} {mas : MA} {f : OM} {name : Str} {apos cpos : Pos} {T : Ty} {id : String} {r : V → List V → Hp → VK → Prop} (pa : PlainAttrs (tyName T)) (slot : Slot (tyName T) name id) (hty : typeOf (.builtin id) = pure (.type "method_descriptor")) (hm : MtR X id r) (hf : SndM (gX X cm) E f r)
    (ho : PE X o (tE (gX X cm) E m)) (ha : PA X (e :: es) (tA (gX X cm) E mas))
    (hbase : attributeBase o name X.env (eval o X.env) = eval o X.env := by rfl)
    (hfew : ((backTo cpos (starEach (e :: es) X.env)).all (fun x => !x.1) && (backToKw cpos (keywordEach [] X.env)).all (fun x => x.1.isSome)
      && decide ((e :: es).length + ([] : List Keyword).length + (if ([] : List Keyword).isEmpty then 0 else 1) < 30)) = true := by rfl)
    (hline : (apos.endLine == cpos.line) = true := by rfl) (hs : starEach (e :: es) X.env = (false, eval e X.env) :: starEach es X.env := by rfl) (hplain : (backTo cpos (starEach es X.env)).any (·.1) = false := by rfl) :
    PE X (.Call (.Attribute o name apos) (e :: es) [] cpos) (tE (gX X cm) E (mMet T f m mas)) :=
  PE.weak (pe_met pa slot hty hm ho ha hbase hfew hline hs hplain) fun σ H Q ⟨ρ, st, env, hs, he, hp⟩ => ⟨ρ, st, env, hs, he, hp.bindI fun v st1 H1 ρ1 x e1 s1 r1 hp1 => by
    cases ht : isTy st1 T v with
    | false => rw [ht] at hp1; exact hp1.elim
    | true =>
      rw [ht, if_pos rfl] at hp1
      exact ⟨isTy_ok s1 r1 ht, ρ1, st1, env, s1, he.ext hs e1, hp1.bindI fun vs st2 H2 ρ2 xs e2 s2 r2 hp2 => hf _ _ _ _ _ _ _ _ s2 (Rep.ext s1 e2 r1) r2 hp2⟩⟩
/-- behind a list's change -/
theorem setL_at {k : Nat} {xs ws : List AV} {ys zs : List V} {v : AV} {x : V} {Q : VK} (s : RepS G H ρ st) (hx : st[k]? = some (.lst xs)) (h1 : H (ρ k) = some (.lst ys)) (r2 : RepL G.K H ρ st.length ws zs) (rv : Rep G.K H ρ st.length v x)
    (h : Post G E H ρ st.length (rV G.K) (.ok v (st.set k (.lst ws))) Q) : Q x (upd H (ρ k) (.lst zs)) := by
  have hk := lt_of_at hx
  refine h _ ρ x ?_ (s.put (ob := .lst ws) hk h1 (show Shape _ _ _ zs (.lst _) from upd_same) r2) ?_
  · rw [List.length_set]
    exact Ext.put hk h1 fun _ _ z => nomatch z
  · rw [List.length_set]
    exact rep_mv (tups_at h1 .lst) (Nat.le_refl _) (fun _ _ => rfl) _ _ rv
theorem sn_append : SndM (gX X cm) E oAppend rAppend := by
  intro H ρ st a x vs xs Q s ra rs h
  unfold oAppend at h
  split at h
  · obtain ⟨rfl, hk⟩ := rep_loc ra
    obtain ⟨y, rfl, ry⟩ := rs.one
    split at h
    · rename_i zs hx
      obtain ⟨ys, h1, r1⟩ := s.lst hx
      split at h
      · rename_i hl
        exact ⟨_, ys, y, rfl, rfl, h1, by rw [← r1.length, ← LIM_line]; exact hl, setL_at s hx h1 (r1.append (.cons ry .nil)) .non h⟩
      · exact h.elim
    · exact h.elim
  · exact h.elim
theorem sn_popAt : SndM (gX X cm) E oPopAt rPopAt := by
  intro H ρ st a x vs xs Q s ra rs h
  unfold oPopAt at h
  split at h
  · obtain ⟨rfl, hk⟩ := rep_loc ra
    obtain ⟨y, rfl, ry⟩ := rs.one
    cases rep_int ry
    split at h
    · rename_i zs hx
      obtain ⟨ys, h1, r1⟩ := s.lst hx
      split at h
      · rename_i hb
        split at h
        · rename_i j hj
          split at h
          · rename_i v hv
            obtain ⟨z, e, rz⟩ := r1.get hv
            rw [r1.length] at hj
            exact ⟨_, ys, _, j, z, rfl, rfl, h1, by omega, by omega, (ixN_seq hj).1, e, setL_at s hx h1 (r1.erase j) rz h⟩
          · exact h.elim
        · exact h.elim
      · exact h.elim
    · exact h.elim
  · exact h.elim
theorem sn_insert : SndM (gX X cm) E oInsert (fun x vs H Q => ∃ (l : Addr) (xs : List V) (i : Int) (y : V), x = .ref l ∧ vs = [.int i, y] ∧ H l = some (.lst xs) ∧ xs.length < sizeLine ∧ 0 ≤ i ∧ i < 2 ^ 63 ∧ Q .non (upd H l (.lst (xs.take i.toNat ++ [y] ++ xs.drop i.toNat)))) := by
  intro H ρ st a x vs xs Q s ra rs h
  unfold oInsert at h
  split at h
  · obtain ⟨rfl, hk⟩ := rep_loc ra
    obtain ⟨y, z, rfl, ry, rz⟩ := rs.two
    cases rep_int ry
    split at h
    · rename_i zs hx
      obtain ⟨ys, h1, r1⟩ := s.lst hx
      split at h
      · rename_i hb
        exact ⟨_, ys, _, z, rfl, rfl, h1, by rw [← r1.length, ← LIM_line]; exact hb.1, hb.2.1, by have := hb.2.2; omega, setL_at s hx h1 (((r1.take _).append (.cons rz .nil)).append (r1.drop _)) .non h⟩
      · exact h.elim
    · exact h.elim
  · exact h.elim
/-- c.count(y) -/
def rCountP (K : PySem.W.Frag) : V → List V → Hp → VK → Prop := fun x xs H Q => ∃ y e d es, xs = [y] ∧ Dp K H x e ∧ Dp K H y d ∧ itemsOf e = some es ∧ d.plain = true ∧ e.plain = true ∧ d.depth ≤ 16 ∧ e.depth ≤ 16 ∧ Q (.int (es.countP fun z => PyData.eqv z d : Nat)) H
theorem mt_countL (hu : X.A.units + 64 < cLine) : MtR X "list.count" (fun x xs H Q => rCountP X.K x xs H Q ∧ ∃ p ys, x = .ref p ∧ SqL X.K H p ys) := by
  intro pins s σ H x xs v us Q I rx rxs h
  obtain ⟨⟨y, e, d, es, rfl, he, hd, hes, sd, se, l1, l2, q⟩, p, ys, rfl, hL⟩ := h
  obtain ⟨u, rfl, ru⟩ := vals1 rxs
  obtain ⟨as, r1⟩ := Dp.reads I d y u hd ru
  obtain ⟨bs, r2⟩ := Dp.reads I e _ v he rx
  cases e with
  | list zs =>
    cases hes
    rw [PyData.depth] at l2
    cases r2 with
    | list g1 g2 g3 g4 => cases rx; exact SeqAt.count_list_data ⟨_, g1, g2, _, g3⟩ g4 r1 se sd (by omega) ⟨.int _, H, I.tok _, ⟨_, rfl⟩, q⟩
  | tuple zs =>
    exfalso
    cases he with
    | tup hT _ =>
      obtain ⟨its, _, ⟨o, n, e1, c1, _⟩, _⟩ := I.list hL
      obtain ⟨its2, _, ⟨o2, e2, c2, _⟩, _⟩ := I.tuple hT
      rw [e1] at e2
      cases e2
      rw [c1] at c2
      injection c2 with z
      exact absurd z (by decide)
  | _ => cases hes
theorem mt_countT (hu : X.A.units + 64 < cLine) : MtR X "tuple.count" (fun x xs H Q => rCountP X.K x xs H Q ∧ ∃ p ys, x = .ref p ∧ SqT X.K H p ys) := by
  intro pins s σ H x xs v us Q I rx rxs h
  obtain ⟨⟨y, e, d, es, rfl, he, hd, hes, sd, se, l1, l2, q⟩, p, ys, rfl, hL⟩ := h
  obtain ⟨u, rfl, ru⟩ := vals1 rxs
  obtain ⟨as, r1⟩ := Dp.reads I d y u hd ru
  obtain ⟨bs, r2⟩ := Dp.reads I e _ v he rx
  cases e with
  | tuple zs =>
    cases hes
    rw [PyData.depth] at l2
    cases r2 with
    | tuple g1 g2 g3 g4 => cases rx; exact SeqAt.count_tuple_data ⟨_, g1, g2, _, g3⟩ g4 r1 se sd (by omega) ⟨.int _, H, I.tok _, ⟨_, rfl⟩, q⟩
  | list zs =>
    exfalso
    cases he with
    | lst hT _ =>
      obtain ⟨its, _, ⟨o, n, e1, c1, _⟩, _⟩ := I.list hT
      obtain ⟨its2, _, ⟨o2, e2, c2, _⟩, _⟩ := I.tuple hL
      rw [e1] at e2
      cases e2
      rw [c1] at c2
      injection c2 with z
      exact absurd z (by decide)
  | _ => cases hes
theorem sn_count {a : AV} {x : V} {vs : List AV} {xs : List V} {Q : VK} (s : RepS G H ρ st) (ra : Rep G.K H ρ st.length a x) (rs : RepL G.K H ρ st.length vs xs) (h : Post G E H ρ st.length (rV G.K) (oCount a vs st) Q) : rCountP G.K x xs H Q := by
  unfold oCount at h
  split at h
  · obtain ⟨y, rfl, ry⟩ := rs.one
    split at h
    · rename_i es d h1 h2
      obtain ⟨e, h3, h4⟩ := bind_items h1
      obtain ⟨p1, p2, p3⟩ := dp_of s _ _ _ _ ra h3
      obtain ⟨q1, q2, q3⟩ := dp_of s _ _ _ _ ry h2
      exact ⟨y, e, d, es, rfl, p1, q1, h4, q2, p2, q3, p3, Post.at (x := V.int _) h s (.int _)⟩
    · exact h.elim
  · exact h.elim
def oCountL : OM := fun x vs st => match x with
  | .loc _ => oCount x vs st
  | _ => .bad
def oCountT : OM := fun x vs st => match x with
  | .tup _ => oCount x vs st
  | _ => .bad
theorem sn_countL : SndM (gX X cm) E oCountL (fun x xs H Q => rCountP X.K x xs H Q ∧ ∃ p ys, x = .ref p ∧ SqL X.K H p ys) := by
  intro H ρ st a x vs xs Q s ra rs h
  unfold oCountL at h
  split at h
  · refine ⟨sn_count s ra rs h, ?_⟩
    unfold oCount at h
    obtain ⟨rfl, hk⟩ := rep_loc ra
    split at h
    · split at h
      · rename_i es d h1 h2
        obtain ⟨e, h3, h4⟩ := bind_items h1
        simp only [DEEP, den] at h3
        split at h3
        · rename_i zs hz
          obtain ⟨ys, h1, r1⟩ := s.lst hz
          exact ⟨_, ys, rfl, SqL.of h1⟩
        · cases h3
      · exact h.elim
    · exact h.elim
  · exact h.elim
theorem sn_countT : SndM (gX X cm) E oCountT (fun x xs H Q => rCountP X.K x xs H Q ∧ ∃ p ys, x = .ref p ∧ SqT X.K H p ys) := by
  intro H ρ st a x vs xs Q s ra rs h
  unfold oCountT at h
  split at h
  · refine ⟨sn_count s ra rs h, ?_⟩
    obtain ⟨p, ys, rfl, hp, hr⟩ := rep_tup ra
    exact ⟨p, ys, rfl, hp.seq⟩
  · exact h.elim
/-! ### what is walked -/
/-- a list or a tuple -/
def iSeq (K : PySem.W.Frag) (tl : TE) : TI := fun σ H R => tl σ H fun x H1 => ∃ a, x = .ref a ∧ (((∃ xs, SqL K H1 a xs) ∧ R (Itl K a) H1) ∨ ((∃ xs, SqT K H1 a xs) ∧ R (Itt K a) H1))
theorem pi_seq {tg l : Expr} {tl : TE} (hl : PE X l tl) : PI X tg l (iSeq X.K tl) := by
  refine ⟨fun pins s σ H R I h => ?_⟩
  refine thn (hl.run pins s σ H _ I h) fun v s1 ⟨x, H1, I1, r1, q1⟩ => ?_
  obtain ⟨a, rfl, q1⟩ := q1
  have fp : ∀ b ∈ [s1.heap.objs.size], FpOk X pins H1 b := fun b hb => by
    obtain rfl : b = s1.heap.objs.size := by simpa using hb
    exact I1.fpOk (Nat.le_refl _) (I1.hok.fresh (Nat.le_refl _))
  cases r1
  rcases q1 with ⟨⟨xs, hq⟩, q⟩ | ⟨⟨xs, hq⟩, q⟩
  · obtain ⟨its, rv, p, hz⟩ := I1.list hq
    exact wpAny_pyIter_list p.isList ⟨s1.heap.objs.size, [s1.heap.objs.size], _, _, H1, rfl, I1.kept (t' := s1.toks) fun b o e => Heap.get?_push_of_some _ e, turn_list a _, ⟨_, Heap.get?_push_size _ rfl, rfl, rfl⟩, fp, q⟩
  · obtain ⟨its, rv, p, hz⟩ := I1.tuple hq
    exact wpAny_pyIter_tuple (show s1.heap.IsTuple a its.toArray from p) ⟨s1.heap.objs.size, [s1.heap.objs.size], _, _, H1, rfl, I1.kept (t' := s1.toks) fun b o e => Heap.get?_push_of_some _ e, turn_tuple a _, ⟨_, Heap.get?_push_size _ rfl, rfl, rfl⟩, fp, q⟩
/-- a list of ours, walked -/
theorem seq_list {k : Nat} {n : Nat} (hk : k < n) : SeqOk G (.list k) (Itl G.K (ρ k)) H ρ n := by
  intro H' ρ' st' i e s
  have ek : ρ' k = ρ k := e.ag k hk
  refine ⟨fun v hv => ?_, fun hv => ?_⟩
  · simp only [Sq.at] at hv
    cases hx : rdL st' k with
    | none => rw [hx] at hv; cases hv
    | some xs =>
      rw [hx] at hv
      have hv : xs[i]? = some v := Option.some.inj hv
      obtain ⟨ys, h1, r1⟩ := s.lst (rdL_some hx)
      rw [ek] at h1
      obtain ⟨x, e1, rx⟩ := r1.get hv
      refine ⟨⟨ys, x, SqL.of h1, e1⟩, fun z H'' hy => ?_⟩
      obtain ⟨rfl, hz⟩ := hy
      have := hz ys (SqL.of h1)
      rw [e1] at this
      cases this
      exact ⟨.refl, s, rx⟩
  · simp only [Sq.at] at hv
    cases hx : rdL st' k with
    | none => rw [hx] at hv; cases hv
    | some xs =>
      rw [hx] at hv
      have hv : xs[i]? = none := Option.some.inj hv
      obtain ⟨ys, h1, r1⟩ := s.lst (rdL_some hx)
      rw [ek] at h1
      exact ⟨ys, SqL.of h1, by rw [← r1.length]; exact List.getElem?_eq_none_iff.mp hv⟩
theorem seq_tup {a : Addr} {xs : List AV} {ys : List V} {st : Sto} (s : RepS G H ρ st) (hq : SqT G.K H a ys) (r : RepL G.K H ρ st.length xs ys) : SeqOk G (.tup xs) (Itt G.K a) H ρ st.length := by
  intro H' ρ' st' i e s'
  have hq' := (e.tups s).t _ _ hq
  have r' := RepL.ext s e r
  refine ⟨fun v hv => ?_, fun hv => ?_⟩
  · have hv : xs[i]? = some v := Option.some.inj hv
    obtain ⟨x, e1, rx⟩ := r'.get hv
    refine ⟨⟨ys, x, hq', e1⟩, fun z H'' hy => ?_⟩
    obtain ⟨rfl, hz⟩ := hy
    have := hz ys hq'
    rw [e1] at this
    cases this
    exact ⟨.refl, s', rx⟩
  · have hv : xs[i]? = none := Option.some.inj hv
    exact ⟨ys, hq', by rw [← r.length]; exact List.getElem?_eq_none_iff.mp hv⟩
theorem yi_seq {tg l : Expr} {m : ME} (h : PE X l (tE (gX X cm) E m)) : PI X tg l (tI (gX X cm) E (miSeq m)) :=
  PI.weak (pi_seq h) fun σ H R ⟨ρ, st, env, hs, he, hp⟩ => ⟨ρ, st, env, hs, he, hp.bindI fun v st1 H1 ρ1 x e1 s1 r1 hp1 => by
    have r1 : Rep X.K H1 ρ1 st1.length v x := r1
    cases v with
    | tup xs =>
      obtain ⟨a, ys, rfl, hq, hr⟩ := rep_tup r1
      exact ⟨a, rfl, .inr ⟨⟨ys, hq.seq⟩, Post.at hp1 s1 (seq_tup s1 hq.seq hr)⟩⟩
    | loc k =>
      obtain ⟨rfl, hk⟩ := rep_loc r1
      simp only at hp1
      cases hx : rdL st1 k with
      | none => rw [hx] at hp1; exact hp1.elim
      | some xs =>
        rw [hx] at hp1
        obtain ⟨ys, h1, _⟩ := s1.lst (rdL_some hx)
        exact ⟨_, rfl, .inl ⟨⟨ys, SqL.of h1⟩, Post.at hp1 s1 (seq_list hk)⟩⟩
    | _ => exact hp1.elim⟩
theorem seq_rng {lo : Int} {m n : Nat} : SeqOk G (.rng lo m) (Itr lo m) H ρ n := by
  intro H' ρ' st' i e s
  simp only [Sq.at]
  refine ⟨fun v hv => ?_, fun hv => ?_⟩
  · split at hv
    · rename_i hi
      cases hv
      refine ⟨hi, fun x H'' hy => ?_⟩
      obtain ⟨rfl, rfl⟩ := hy
      exact ⟨.refl, s, .int _⟩
    · cases hv
  · split at hv
    · cases hv
    · rename_i hi
      exact Nat.le_of_not_lt hi
theorem seq_rngC {lo c : Int} {m n : Nat} : SeqOk G (.rngC lo c m) (Itc lo c m) H ρ n := by
  intro H' ρ' st' i e s
  simp only [Sq.at]
  refine ⟨fun v hv => ?_, fun hv => ?_⟩
  · split at hv
    · rename_i hi
      cases hv
      refine ⟨hi, fun x H'' hy => ?_⟩
      obtain ⟨rfl, rfl⟩ := hy
      exact ⟨.refl, s, .int _⟩
    · cases hv
  · split at hv
    · cases hv
    · rename_i hi
      exact Nat.le_of_not_lt hi
theorem rngOk_iff {i : Int} (h : rngOk i = true) : -(2 ^ 62) ≤ i ∧ i < 2 ^ 62 := by
  unfold rngOk at h
  have := of_decide_eq_true h
  constructor <;> omega
theorem yi_r1 {tg a : Expr} {mas : MA} {p pos : Pos} (hg : Gl X "range") (hm : X.mg "range" = none) (ha : PA X [a] (tA (gX X cm) E mas)) (hs : starEach [a] X.env = [(false, eval a X.env)] := by rfl) : PI X tg (.Call (.Name "range" p) [a] [] pos) (tI (gX X cm) E (miR1 mas)) :=
  PI.weak (pi_range1 hg hm ha hs) fun σ H R ⟨ρ, st, env, hs, he, hp⟩ => ⟨ρ, st, env, hs, he, hp.bindI fun vs st1 H1 ρ1 xs e1 s1 r1 hp1 => by
    have r1 : RepL X.K H1 ρ1 st1.length vs xs := r1
    split at hp1
    · obtain ⟨x, rfl, rx⟩ := r1.one
      cases rep_int rx
      split at hp1
      · rename_i hb
        obtain ⟨b1, b2⟩ := rngOk_iff hb
        exact ⟨_, rfl, b1, b2, Post.at hp1 s1 seq_rng⟩
      · exact hp1.elim
    · exact hp1.elim⟩
theorem yi_r2 {tg a b : Expr} {mas : MA} {p pos : Pos} (hg : Gl X "range") (hm : X.mg "range" = none) (ha : PA X [a, b] (tA (gX X cm) E mas)) (hs : starEach [a, b] X.env = [(false, eval a X.env), (false, eval b X.env)] := by rfl) (hs2 : starEach [b] X.env = [(false, eval b X.env)] := by rfl) :
    PI X tg (.Call (.Name "range" p) [a, b] [] pos) (tI (gX X cm) E (miR2 mas)) :=
  PI.weak (pi_range2 hg hm ha hs hs2) fun σ H R ⟨ρ, st, env, hs, he, hp⟩ => ⟨ρ, st, env, hs, he, hp.bindI fun vs st1 H1 ρ1 xs e1 s1 r1 hp1 => by
    have r1 : RepL X.K H1 ρ1 st1.length vs xs := r1
    split at hp1
    · obtain ⟨x, y, rfl, rx, ry⟩ := r1.two
      cases rep_int rx
      cases rep_int ry
      split at hp1
      · rename_i hb
        rw [Bool.and_eq_true] at hb
        obtain ⟨b1, b2⟩ := rngOk_iff hb.1
        obtain ⟨b3, b4⟩ := rngOk_iff hb.2
        exact ⟨_, _, rfl, ⟨b1, b2, b3, b4⟩, Post.at hp1 s1 seq_rng⟩
      · exact hp1.elim
    · exact hp1.elim⟩

/-! ### defs and calls -/
def spF (G : GK) (m : ON) : Sp := fun vs H Q _ => ∃ ρ st args, RepS G H ρ st ∧ RepL G.K H ρ st.length args vs ∧ Post G E00 H ρ st.length (rV G.K) (m args st) Q
theorem ye_call {f : Addr} {fd : FuncData} {ps : List Str} {k : Nat} {m : ON} {x : Str} {e : Expr} {es : List Expr} {mas : MA} {p pos : Pos} (F : FnOk X.prog X.w X.K X.mg X.base CX0 k f fd ps (spF (gX X cm) m)) (hr : Room k X.A) (hg : Gl X x) (hm : X.mg x = some (.ref f)) (hk : PySem.W.keepIn X.K (.ref f) = true) (hb : Binds X.K fd ps [])
    (ha : PA X (e :: es) (tA (gX X cm) E00 mas)) (hdb : (x == ("__debug__" : Str)) = false := by decide) (he : starEach (e :: es) X.env = (false, eval e X.env) :: starEach es X.env := by rfl) (hpl : (backTo pos (starEach es X.env)).any (·.1) = false := by rfl) :
    PE X (.Call (.Name x p) (e :: es) [] pos) (tE (gX X cm) E00 (mN m mas)) :=
  PE.weak (pe_call F hr hg hm hk hb .nil pass0 ha hdb he hpl) fun σ H Q ⟨ρ, st, env, hs, he, hp⟩ => ⟨ρ, st, env, hs, he, hp.bindI fun vs st1 H1 ρ1 xs e1 s1 r1 hp1 => by
    rw [List.append_nil]
    exact ⟨ρ1, st1, vs, s1, r1, hp1⟩⟩
theorem ye_call0 {f : Addr} {fd : FuncData} {ps : List Str} {k : Nat} {m : ON} {x : Str} {p pos : Pos} (F : FnOk X.prog X.w X.K X.mg X.base CX0 k f fd ps (spF (gX X cm) m)) (hr : Room k X.A) (hg : Gl X x) (hm : X.mg x = some (.ref f)) (hk : PySem.W.keepIn X.K (.ref f) = true) (hb : Binds X.K fd ps [])
    (hdb : (x == ("__debug__" : Str)) = false := by decide) :
    PE X (.Call (.Name x p) [] [] pos) (tE (gX X cm) E00 (mN m maNil)) :=
  PE.weak (pe_call0 F hr hg hm hk hb .nil pass0 hdb) fun σ H Q ⟨ρ, st, env, hs, he, hp⟩ => ⟨ρ, st, [], hs, .nil, hp⟩
theorem repE_start {N : List Str} {args : List AV} {vs : List V} (r : RepL K H ρ n args vs) (hl : args.length ≤ N.length) : RepE K H ρ n (startE N.length args) (L2.start N vs) := by
  refine ⟨?_, fun i v hv => ?_⟩
  · unfold startE L2.start
    simp only [List.length_append, List.length_map, List.length_replicate, r.length]
  · unfold startE at hv
    by_cases hi : i < args.length
    · rw [List.getElem?_append_left (by rw [List.length_map]; exact hi), List.getElem?_map] at hv
      cases e : args[i]? with
      | none => rw [e] at hv; cases hv
      | some w =>
        rw [e] at hv
        cases hv
        obtain ⟨x, e1, rx⟩ := r.get e
        refine ⟨x, ?_, rx⟩
        unfold L2.start
        rw [List.getElem?_append_left (by rw [List.length_map, ← r.length]; exact hi), List.getElem?_map, e1]
        rfl
    · rw [List.getElem?_append_right (by rw [List.length_map]; exact Nat.le_of_not_lt hi), List.getElem?_replicate] at hv
      split at hv
      · cases hv
      · cases hv
theorem fin_post {f : Fl} {Q : VK} (h : Post G E H ρ n (rV G.K) (fin f) Q) : PostS G E H ρ n f { nx := fun _ H' => Q .non H', rt := Q } := by
  cases f with
  | nx env st => exact fun H' ρ' σ' e s _ => h H' ρ' .non e s .non
  | rt v st => exact h
  | bk _ _ => exact h.elim
  | ct _ _ => exact h.elim
  | ex u st => exact h
  | bad => exact h
/-- a def keeps what its meaning says -/
theorem fn_ok {P : Program} {w : World} {K : PySem.W.Frag} {mg : Str → Option Value} {base : Heap} {x qual : Str} {st : Stmt} {f : Addr} {fd : FuncData} {N ps : List Str} {k : Nat} {b : MS} (F : Fun K x qual st f fd) (S : FnScope N ps (defScope st)) (hl : ps.length ≤ N.length)
    (hb : ∀ (cdv : Value) (A : Around) (outer : List Env) (s : Shared) (H : Hp) (E : XK), Room k (A.deeper (envOfC qual (defScope st) s.heap.objs.size f cdv)) →
      PSs (cxOf CX0 P w K mg base N qual (defScope st) f cdv A outer s H E).nox (defBody st) (tS ⟨K, cm, w⟩ E00 b)) : FnOk P w K mg base CX0 (k + 1) f fd ps (spF ⟨K, cm, w⟩ (fn N.length ps.length b)) := by
  refine F.ok S (fun vs H Q E h => ?_) (fun cdv A outer s H vs Q E hr h => ?_)
  · obtain ⟨ρ, st, args, hs, r, hp⟩ := h
    unfold fn at hp
    split at hp
    · rename_i e
      rw [← r.length]
      exact e
    · exact hp.elim
  · obtain ⟨ρ, st, args, hs, r, hp⟩ := h
    unfold fn at hp
    split at hp
    · rename_i e
      exact ⟨_, hb cdv A outer s H E hr, ρ, st, _, hs, repE_start r (by rw [e]; exact hl), fin_post (gc_sound hs hp)⟩
    · exact hp.elim
end
end Y
set_option Elab.async false
set_option linter.all false
set_option maxRecDepth 100000
/-! Y8: dicts of ints and texts; enumerate, zip of lists; the end of a law -/
namespace Y
open PySem PySem.Spec L2
open PyProof.Rows hiding St
def keyOf : AV → Option Key
  | .int i => some (.inl i)
  | .str s => some (.inr s)
  | _ => none
def lookA : List (AV × AV) → AV → Option AV
  | [], _ => none
  | p :: r, k => if p.1 = k then some p.2 else lookA r k
def replA (k v : AV) : List (AV × AV) → List (AV × AV)
  | [] => []
  | p :: r => (if p.1 = k then (p.1, v) else p) :: replA k v r
def putA (kvs : List (AV × AV)) (k v : AV) : List (AV × AV) := match lookA kvs k with
  | some _ => replA k v kvs
  | none => kvs ++ [(k, v)]
def rdK (st : Sto) (k : Nat) : Option (List (AV × AV)) := match st[k]? with
  | some (.dct kvs) => some kvs
  | some (.fdc kvs) => some kvs
  | _ => none
def oDNew : ME := fun _ st => .ok (.loc st.length) (st ++ [.dct []])
def oDGet : O2 := fun x y st => match x, keyOf y with
  | .loc k, some _ => match (rdK st k).bind fun kvs => lookA kvs y with
    | some v => .ok v st
    | none => .bad
  | _, _ => .bad
/-- d.get(k, z) -/
def mGet2 (d k z : ME) : ME := fun env st => (d env st).bind fun x st => if isTy st .dict x then (k env st).bind fun y st => (z env st).bind fun w st => match x, keyOf y with
  | .loc k, some _ => match rdK st k with
    | some kvs => .ok ((lookA kvs y).getD w) st
    | none => .bad
  | _, _ => .bad else .bad
def oDSet : O3 := fun x y v st => match x, keyOf y with
  | .loc k, some _ => match st[k]? with
    | some (.dct kvs) => if kvs.length < LIM then .ok () (st.set k (.dct (putA kvs y v))) else .bad
    | _ => .bad
  | _, _ => .bad
/-- {a: b}, written -/
def mDisp1 (a b : ME) : ME := fun env st => (a env st).bind fun x st => (b env st).bind fun y st => match keyOf x with
  | some _ => .ok (.loc st.length) (st ++ [.dct [(x, y)]])
  | none => .bad
/-- the dict at k is to be written again -/
def unlock (k : Nat) (kvs : List (AV × AV)) : Fl → Fl
  | .nx env st => .nx env (st.set k (.dct kvs))
  | .rt v st => .rt v (st.set k (.dct kvs))
  | .bk env st => .bk env (st.set k (.dct kvs))
  | .ct env st => .ct env (st.set k (.dct kvs))
  | .ex _ _ => .bad
  | .bad => .bad
/-- a statement over the dict in slot i, which is not changed within -/
def msLock (i : Nat) (b : MS) : MS := fun env st => match env[i]? with
  | some (some (.loc k)) => match st[k]? with
    | some (.dct kvs) => unlock k kvs (b env (st.set k (.fdc kvs)))
    | _ => .bad
  | _ => .bad
def miKeys (a : ME) : MI := fun env st => (a env st).bind fun x st => match x with
  | .loc k => match rdD st k with
    | some _ => .ok (.keys k) st
    | none => .bad
  | _ => .bad
def miEnum (a : MA) : MI := fun env st => (a env st).bind fun vs st => match vs with
  | [.loc k] => match rdL st k with
    | some _ => .ok (.enumL k) st
    | none => .bad
  | _ => .bad
section
variable {X : Cx} {cm : CM} {E : EX} {G : GK} {K : PySem.W.Frag} {H : Hp} {ρ : Nat → Addr} {n : Nat} {st : Sto}
theorem keyAV_inj : ∀ {a b : Key}, keyAV a = keyAV b → a = b
  | .inl _, .inl _, h => by cases h; rfl
  | .inr _, .inr _, h => by cases h; rfl
  | .inl _, .inr _, h => by cases h
  | .inr _, .inl _, h => by cases h
theorem keyOf_eq {v : AV} {k : Key} (h : keyOf v = some k) : v = keyAV k := by
  cases v <;> simp only [keyOf] at h <;> cases h <;> rfl
theorem rep_key {k : Key} {x : V} (h : Rep K H ρ n (keyAV k) x) : x = kV k := by
  cases k with
  | inl i => exact rep_int h
  | inr s => exact rep_str h
theorem key_rep (k : Key) : Rep K H ρ n (keyAV k) (kV k) := by
  cases k with
  | inl i => exact .int i
  | inr s => exact .str s
/-- a table of ours and the layer's -/
inductive RepD (K : PySem.W.Frag) (H : Hp) (ρ : Nat → Addr) (n : Nat) : List (AV × AV) → List (Key × V) → Prop
  | nil : RepD K H ρ n [] []
  | cons {k : Key} {v : AV} {x : V} {r : List (AV × AV)} {q : List (Key × V)} : Rep K H ρ n v x → RepD K H ρ n r q → RepD K H ρ n ((keyAV k, v) :: r) ((k, x) :: q)
theorem repD_of : ∀ {kvs : List (AV × AV)} {ks : List (Key × V)}, kvs.map (·.1) = ks.map (fun p => keyAV p.1) → RepL K H ρ n (kvs.map (·.2)) (ks.map (·.2)) → RepD K H ρ n kvs ks
  | [], [], _, _ => .nil
  | [], _ :: _, e, _ => by simp at e
  | _ :: _, [], e, _ => by simp at e
  | (a, v) :: r, (k, x) :: q, e, h => by
    simp only [List.map_cons, List.cons.injEq] at e h
    cases h with
    | cons h1 h2 =>
      obtain ⟨e1, e2⟩ := e
      subst e1
      exact .cons h1 (repD_of e2 h2)
theorem RepD.fst : ∀ {kvs : List (AV × AV)} {ks : List (Key × V)}, RepD K H ρ n kvs ks → kvs.map (·.1) = ks.map (fun p => keyAV p.1)
  | _, _, .nil => rfl
  | _, _, .cons _ h => by simp [h.fst]
theorem RepD.snd : ∀ {kvs : List (AV × AV)} {ks : List (Key × V)}, RepD K H ρ n kvs ks → RepL K H ρ n (kvs.map (·.2)) (ks.map (·.2))
  | _, _, .nil => .nil
  | _, _, .cons r h => .cons r h.snd
theorem RepD.len : ∀ {kvs : List (AV × AV)} {ks : List (Key × V)}, RepD K H ρ n kvs ks → kvs.length = ks.length
  | _, _, .nil => rfl
  | _, _, .cons _ h => by simp [h.len]
theorem RepD.look {k : Key} : ∀ {kvs : List (AV × AV)} {ks : List (Key × V)}, RepD K H ρ n kvs ks → (∃ v x, lookA kvs (keyAV k) = some v ∧ valV ks k = some x ∧ Rep K H ρ n v x) ∨ (lookA kvs (keyAV k) = none ∧ valV ks k = none)
  | _, _, .nil => .inr ⟨rfl, rfl⟩
  | _, _, .cons (k := j) (v := v) (x := x) r h => by
    by_cases e : j = k
    · subst e
      exact .inl ⟨v, x, by simp [lookA], valV_pos rfl, r⟩
    · have ne : ¬ keyAV j = keyAV k := fun z => e (keyAV_inj z)
      have e1 : ∀ {q : List (AV × AV)}, lookA ((keyAV j, v) :: q) (keyAV k) = lookA q (keyAV k) := by intro q; simp [lookA, ne]
      rcases h.look (k := k) with ⟨w, y, h1, h2, h3⟩ | ⟨h1, h2⟩
      · exact .inl ⟨w, y, e1.trans h1, (valV_neg e).trans h2, h3⟩
      · exact .inr ⟨e1.trans h1, (valV_neg e).trans h2⟩
theorem RepD.repl {k : Key} {v : AV} {x : V} (rv : Rep K H ρ n v x) : ∀ {kvs : List (AV × AV)} {ks : List (Key × V)}, RepD K H ρ n kvs ks → RepD K H ρ n (replA (keyAV k) v kvs) (ks.map fun kv => if kv.1 = k then (kv.1, x) else kv)
  | _, _, .nil => .nil
  | _, _, .cons (k := j) r h => by
    by_cases e : j = k
    · subst e
      simp only [replA, List.map_cons, if_true]
      exact .cons rv (h.repl rv)
    · have ne : ¬ keyAV j = keyAV k := fun z => e (keyAV_inj z)
      simp only [replA, List.map_cons, if_neg e, if_neg ne]
      exact .cons r (h.repl rv)
theorem RepD.snoc {k : Key} {v : AV} {x : V} (rv : Rep K H ρ n v x) : ∀ {kvs : List (AV × AV)} {ks : List (Key × V)}, RepD K H ρ n kvs ks → RepD K H ρ n (kvs ++ [(keyAV k, v)]) (ks ++ [(k, x)])
  | _, _, .nil => .cons rv .nil
  | _, _, .cons r h => .cons r (h.snoc rv)
theorem RepD.put {k : Key} {v : AV} {x : V} (rv : Rep K H ρ n v x) {kvs : List (AV × AV)} {ks : List (Key × V)} (h : RepD K H ρ n kvs ks) : RepD K H ρ n (putA kvs (keyAV k) v) (putK ks k x) := by
  unfold putA putK
  have ea := valV_any k ks
  rcases h.look (k := k) with ⟨w, y, h1, h2, h3⟩ | ⟨h1, h2⟩
  · rw [h1, ea, h2]
    simp only [Option.isSome_some, if_true]
    exact h.repl rv
  · rw [h1, ea, h2]
    simp only [Option.isSome_none, Bool.false_eq_true, if_false]
    exact h.snoc rv
theorem RepD.get : ∀ {kvs : List (AV × AV)} {ks : List (Key × V)} {i : Nat} {a b : AV}, RepD K H ρ n kvs ks → kvs[i]? = some (a, b) → ∃ k x, ks[i]? = some (k, x) ∧ a = keyAV k ∧ Rep K H ρ n b x
  | _, _, i, a, b, .nil, e => by simp at e
  | _, _, 0, a, b, .cons (k := j) (x := x) r h, e => by
    simp only [List.getElem?_cons_zero, Option.some.injEq, Prod.mk.injEq] at e
    obtain ⟨rfl, rfl⟩ := e
    exact ⟨j, x, rfl, rfl, r⟩
  | _, _, i + 1, a, b, .cons r h, e => by
    obtain ⟨k, x, e1, e2⟩ := h.get (i := i) (by simpa using e)
    exact ⟨k, x, by simpa using e1, e2⟩
theorem RepS.dct (s : RepS G H ρ st) {k : Nat} {kvs : List (AV × AV)} (h : st[k]? = some (.dct kvs)) : ∃ ks, H (ρ k) = some (.dK ks) ∧ RepD G.K H ρ st.length kvs ks := by
  obtain ⟨ys, ⟨ks, h1, h2, h3⟩, r⟩ := s.ob k _ h
  subst h3
  exact ⟨ks, h1, repD_of h2 r⟩
theorem RepS.fdc (s : RepS G H ρ st) {k : Nat} {kvs : List (AV × AV)} (h : st[k]? = some (.fdc kvs)) : ∃ o ks, H (ρ k) = some (.frz o (.dK ks)) ∧ RepD G.K H ρ st.length kvs ks := by
  obtain ⟨ys, ⟨o, ks, h1, h2, h3⟩, r⟩ := s.ob k _ h
  subst h3
  exact ⟨o, ks, h1, repD_of h2 r⟩
theorem RepS.rdK (s : RepS G H ρ st) {k : Nat} {kvs : List (AV × AV)} (h : rdK st k = some kvs) : ∃ ks, Rd H (ρ k) (.dK ks) ∧ RepD G.K H ρ st.length kvs ks := by
  unfold Y.rdK at h
  split at h
  · rename_i e
    cases h
    obtain ⟨ks, h1, h2⟩ := s.dct e
    exact ⟨ks, .inl h1, h2⟩
  · rename_i e
    cases h
    obtain ⟨o, ks, h1, h2⟩ := s.fdc e
    exact ⟨ks, .inr ⟨o, h1⟩, h2⟩
  · cases h
theorem ye_dnew {pos : Pos} : PE X (.Dict [] [] pos) (tE (gX X cm) E oDNew) := PE.weak pe_dnewK fun σ H Q ⟨ρ, st, env, hs, he, hp⟩ => fun p hn => by
  have e : (st ++ [Ob.dct []]).length = st.length + 1 := by simp
  refine hp _ (more ρ st.length p) _ (by rw [e]; exact Ext.new hn) (hs.new (ob := .dct []) hn ⟨[], upd_same, rfl, rfl⟩ .nil) ?_
  have z := Rep.loc (K := X.K) (H := upd H p (.dK [])) (ρ := more ρ st.length p) (n := (st ++ [Ob.dct []]).length) (k := st.length) (by rw [e]; exact Nat.lt_succ_self _)
  rw [more_at] at z
  exact z
theorem ye_disp1 {a b : Expr} {ma mb : ME} {pos : Pos} (ha : PE X a (tE (gX X cm) E ma)) (hb : PE X b (tE (gX X cm) E mb)) : PE X (.Dict [some a] [b] pos) (tE (gX X cm) E (mDisp1 ma mb)) :=
  PE.weak (pe_disp (pps_cons ha hb pps_nil) rfl rfl (by simp) (by simp)) fun σ H Q ⟨ρ, st, env, hs, he, hp⟩ => fun p hn => by
    -- the new dict stands empty, beside ours, while key and value are made
    have e0 : Ext H ρ st.length (upd H p (.dK [])) ρ st.length := Ext.lay hn
    have s0 := hs.lay (o := .dK []) hn
    refine ⟨ρ, st, env, s0, he.ext hs e0, hp.bindB e0 fun v st1 H1 ρ1 x e1 s1 r1 hp1 => ?_⟩
    have e1' := e0.trans e1
    obtain ⟨n1, d1⟩ := e1.apart upd_same (hs.ne_new hn)
    refine ⟨ρ1, st1, env, s1, he.ext hs e1', hp1.bindB e1' fun w st2 H2 ρ2 y e2 s2 r2 hp2 => ?_⟩
    obtain ⟨n2, d2⟩ := e2.apart d1 n1
    have e2' := e1'.trans e2
    have rv : Rep X.K H2 ρ2 st2.length v x := Rep.ext s1 e2 r1
    have rw' : Rep X.K H2 ρ2 st2.length w y := r2
    split at hp2
    · rename_i k hk
      have hv := keyOf_eq hk
      subst hv
      cases rep_key rv
      refine ⟨d2, [(k, y)], rfl, by simp, ?_⟩
      have e : (st2 ++ [Ob.dct [(keyAV k, w)]]).length = st2.length + 1 := by simp
      have t := tups_at (o := .dK (mergeK [] [(k, y)])) (K := X.K) d2 .dK
      have s3 : RepS (gX X cm) (upd H2 p (.dK (mergeK [] [(k, y)]))) ρ2 st2 := s2.mv (fun j hj => upd_ne (n2 j hj)) t fun _ q => tabs_at d2 notC_dK _ _ (s2.tb _ q)
      refine hp2 _ (more ρ2 st2.length p) _ ?_ (s3.take_in (ob := .dct [(keyAV k, w)]) n2 ⟨[(k, y)], by rw [upd_same]; rfl, rfl, rfl⟩ (.cons (rep_mv t (Nat.le_refl _) (fun _ _ => rfl) _ _ rw') .nil)) ?_
      · rw [e]
        refine Ext.take_in (p := p) ⟨e2'.le, e2'.ag, fun a o h nt hk => by rw [upd_ne (ne_of_none h hn)]; exact e2'.fr a o h nt hk, e2'.nw, fun a o h => by rw [upd_ne (ne_of_none h hn)]; exact e2'.kp a o h, fun a ob u h => by rw [upd_ne (ne_of_none h hn)]; exact e2'.fz a ob u h⟩ hn
      · have z := Rep.loc (K := X.K) (H := upd H2 p (.dK (mergeK [] [(k, y)]))) (ρ := more ρ2 st2.length p) (n := (st2 ++ [Ob.dct [(keyAV k, w)]]).length) (k := st2.length) (by rw [e]; exact Nat.lt_succ_self _)
        rw [more_at] at z
        exact z
    · exact hp2.elim
def rDGet : R2 := fun x y H Q => ∃ a v, x = .ref a ∧ DGet H a y (some v) ∧ Q v H
theorem ye_dget {o i : Expr} {mo mi : ME} {pos : Pos} (hu : X.A.units + 1 < cLine) (ho : PE X o (tE (gX X cm) E mo)) (hi : PE X i (tE (gX X cm) E mi)) (hs : NoSl i) : PE X (.Subscript o i pos) (tE (gX X cm) E (mOp oDGet mo mi)) :=
  PE.weak (pe_dget hu ho hi hs) fun σ H Q h => tOp_of (r := rDGet) (fun H ρ st a b x y Q s ra rb h => by
    unfold oDGet at h
    split at h
    · rename_i k j hj
      obtain ⟨rfl, hk⟩ := rep_loc ra
      have hb := keyOf_eq hj
      subst hb
      cases rep_key rb
      split at h
      · rename_i v hv
        cases hr : rdK st k with
        | none => rw [hr] at hv; cases hv
        | some kvs =>
          rw [hr] at hv
          have hv : lookA kvs (keyAV j) = some v := hv
          obtain ⟨ks, h1, h2⟩ := s.rdK hr
          rcases h2.look (k := j) with ⟨w, y, q1, q2, q3⟩ | ⟨q1, q2⟩
          · rw [hv] at q1
            cases q1
            exact ⟨_, y, rfl, .inl ⟨ks, j, h1, rfl, q2.symm⟩, Post.at (x := y) h s q3⟩
          · rw [hv] at q1; cases q1
      · exact h.elim
    · exact h.elim) σ H Q h
theorem ye_get2 {o e f : Expr} {mo me mf : ME} {apos cpos : Pos} (hu : X.A.units + 1 < cLine) (ho : PE X o (tE (gX X cm) E mo)) (he : PE X e (tE (gX X cm) E me)) (hf : PE X f (tE (gX X cm) E mf)) (m : M2 X o "get" apos e f cpos) :
    PE X (.Call (.Attribute o "get" apos) [e, f] [] cpos) (tE (gX X cm) E (mGet2 mo me mf)) :=
  PE.weak (pe_dget2 hu ho he hf m) fun σ H Q ⟨ρ, st, env, hs, he, hp⟩ => ⟨ρ, st, env, hs, he, hp.bindI fun v st1 H1 ρ1 x e1 s1 r1 hp1 => by
    have r1 : Rep X.K H1 ρ1 st1.length v x := r1
    cases ht : isTy st1 .dict v with
    | false => rw [ht] at hp1; exact hp1.elim
    | true =>
      rw [ht, if_pos rfl] at hp1
      obtain ⟨p, kvs, rfl, hd⟩ := isTy_ok s1 r1 ht
      refine ⟨p, rfl, .inl ⟨kvs, hd⟩, ρ1, st1, env, s1, he.ext hs e1, hp1.bindI fun w st2 H2 ρ2 y e2 s2 r2 hp2 => ⟨ρ2, st2, env, s2, (he.ext hs e1).ext s1 e2, hp2.bindI fun u st3 H3 ρ3 z e3 s3 r3 hp3 => ?_⟩⟩
      have rv : Rep X.K H3 ρ3 st3.length v (.ref p) := Rep.ext s2 e3 (Rep.ext s1 e2 r1)
      have ry : Rep X.K H3 ρ3 st3.length w y := Rep.ext s2 e3 r2
      have rz : Rep X.K H3 ρ3 st3.length u z := r3
      split at hp3
      · rename_i k j hj _
        obtain ⟨ep, hk⟩ := rep_loc rv
        have hb := keyOf_eq hj
        subst hb
        cases rep_key ry
        cases hr : rdK st3 k with
        | none => rw [hr] at hp3; exact hp3.elim
        | some kvs =>
          rw [hr] at hp3
          dsimp only at hp3
          obtain ⟨ks, h1, h2⟩ := s3.rdK hr
          cases ep
          rcases h2.look (k := j) with ⟨w, y, q1, q2, q3⟩ | ⟨q1, q2⟩
          · rw [q1] at hp3
            exact ⟨some y, .inl ⟨ks, j, h1, rfl, q2.symm⟩, Post.at (x := y) hp3 s3 q3⟩
          · rw [q1] at hp3
            exact ⟨none, .inl ⟨ks, j, h1, rfl, q2.symm⟩, Post.at (x := z) hp3 s3 rz⟩
      · exact hp3.elim⟩
theorem setD_at {k : Nat} {kvs kvs' : List (AV × AV)} {ks ks' : List (Key × V)} {Q : Hp → Prop} (s : RepS G H ρ st) (hx : st[k]? = some (.dct kvs)) (h1 : H (ρ k) = some (.dK ks)) (r2 : RepD G.K H ρ st.length kvs' ks')
    (h : Post G E H ρ st.length rUn (.ok () (st.set k (.dct kvs'))) (fun _ H' => Q H')) : Q (upd H (ρ k) (.dK ks')) := by
  have hk := lt_of_at hx
  refine h _ ρ () ?_ (s.put (ob := .dct kvs') hk h1 ⟨ks', upd_same, r2.fst, rfl⟩ r2.snd) trivial
  rw [List.length_set]
  exact Ext.put hk h1 fun _ _ z => nomatch z
theorem sn_setD : Snd3 (gX X cm) E oDSet rSetD := by
  intro H ρ st a b c x y z Q s ra rb rc h
  unfold oDSet at h
  split at h
  · rename_i k j hj
    obtain ⟨rfl, hk⟩ := rep_loc ra
    have hb := keyOf_eq hj
    subst hb
    cases rep_key rb
    split at h
    · rename_i kvs hx
      obtain ⟨ks, h1, h2⟩ := s.dct hx
      split at h
      · rename_i hl
        exact ⟨_, _, rfl, .inl ⟨ks, j, h1, rfl, by rw [← h2.len, ← LIM_line]; exact hl, rfl⟩, setD_at s hx h1 (h2.put rc) h⟩
      · exact h.elim
    · exact h.elim
  · exact h.elim
/-! ### a dict that is walked -/
theorem lock_at {k : Nat} {kvs : List (AV × AV)} {ks : List (Key × V)} {o : Obj} (s : RepS G H ρ st) (hx : st[k]? = some (.dct kvs)) (h1 : H (ρ k) = some (.dK ks)) (h2 : RepD G.K H ρ st.length kvs ks) : RepS G (upd H (ρ k) (.frz o (.dK ks))) ρ (st.set k (.fdc kvs)) :=
  s.put (lt_of_at hx) h1 ⟨o, ks, upd_same, h2.fst, rfl⟩ h2.snd
/-- behind the walk the dict is as it was -/
theorem unlock_at {k n' : Nat} {kvs : List (AV × AV)} {ks : List (Key × V)} {o : Obj} {st' : Sto} {H' : Hp} {ρ' : Nat → Addr} (s : RepS G H ρ st) (hx : st[k]? = some (.dct kvs)) (h1 : H (ρ k) = some (.dK ks)) (h2 : RepD G.K H ρ st.length kvs ks)
    (e : Ext (upd H (ρ k) (.frz o (.dK ks))) ρ st.length H' ρ' st'.length) (s' : RepS G H' ρ' st') :
    H' (ρ k) = some (.frz o (.dK ks)) ∧ Ext H ρ st.length (upd H' (ρ k) (.dK ks)) ρ' (st'.set k (.dct kvs)).length ∧ RepS G (upd H' (ρ k) (.dK ks)) ρ' (st'.set k (.dct kvs)) ∧ Tups G.K H' (upd H' (ρ k) (.dK ks)) := by
  have hk := lt_of_at hx
  have hf := e.fz (ρ k) o (.dK ks) upd_same
  have ek : ρ' k = ρ k := e.ag k hk
  have t1 : Tups G.K H (upd H (ρ k) (.frz o (.dK ks))) := tups_at h1 .dK
  have t2 : Tups G.K H' (upd H' (ρ k) (.dK ks)) := tups_at hf .frzK
  have s0 := lock_at (o := o) s hx h1 h2
  have e0 : Ext (upd H (ρ k) (.frz o (.dK ks))) ρ (st.set k (.fdc kvs)).length H' ρ' st'.length := by rw [List.length_set]; exact e
  have t3 : Tups G.K (upd H (ρ k) (.frz o (.dK ks))) H' := Ext.tups s0 e0
  have rD : RepD G.K H' ρ' st'.length kvs ks := by
    refine repD_of h2.fst (repL_mv t3 e.le e.ag _ _ (repL_mv t1 (Nat.le_refl _) (fun _ _ => rfl) _ _ h2.snd))
  refine ⟨hf, ?_, ?_, t2⟩
  · rw [List.length_set]
    refine ⟨e.le, e.ag, fun a u h nt hn => ?_, fun j h3 h4 => ?_, fun a u h => ?_, fun a ob u h => ?_⟩
    · have ne : a ≠ ρ k := fun z => hn k hk z.symm
      rw [upd_ne ne]
      exact e.fr a u (by rw [upd_ne ne]; exact h) nt hn
    · have := e.nw j h3 h4
      by_cases z : ρ' j = ρ k
      · rw [z, upd_same] at this; cases this
      · rw [upd_ne z] at this; exact this
    · by_cases z : a = ρ k
      · exact ⟨_, by rw [z, upd_same]⟩
      · obtain ⟨u', h'⟩ := e.kp a u (by rw [upd_ne z]; exact h)
        exact ⟨u', by rw [upd_ne z]; exact h'⟩
    · have ne : a ≠ ρ k := fun z => by rw [z, h1] at h; cases h
      rw [upd_ne ne]
      exact e.fz a ob u (by rw [upd_ne ne]; exact h)
  · have := s'.put (k := k) (o := .dK ks) (ob := .dct kvs) (ys := ks.map (·.2)) (Nat.lt_of_lt_of_le hk e.le) (by rw [ek]; exact hf) (show Shape G (upd H' (ρ' k) (.dK ks)) (ρ' k) (ks.map (·.2)) (.dct kvs) from ⟨ks, upd_same, rD.fst, rfl⟩) (show RepL G.K H' ρ' st'.length (Ob.vals (.dct kvs)) (ks.map (·.2)) from rD.snd)
    rw [ek] at this
    exact this
theorem ys_lock {stm : Stmt} {b : MS} (i : Nat) (h : PS X stm (tS (gX X cm) E b)) : PS X stm (tS (gX X cm) E (msLock i b)) :=
  PS.weak (ps_lock h) fun D σ H ⟨ρ, st, env, hs, he, hp⟩ => by
    unfold msLock at hp
    split at hp
    · rename_i k hi
      split at hp
      · rename_i kvs hx
        obtain ⟨ks, h1, h2⟩ := hs.dct hx
        have hk := lt_of_at hx
        have t1 : ∀ o, Tups X.K H (upd H (ρ k) (.frz o (.dK ks))) := fun o => tups_at h1 .dK
        refine ⟨ρ k, .dK ks, h1, trivial, fun od => ⟨ρ, st.set k (.fdc kvs), env, lock_at (o := od) hs hx h1 h2, ?_, ?_⟩⟩
        · rw [List.length_set]
          exact ⟨he.1, fun i v hv => let ⟨x, e1, r⟩ := he.2 i v hv; ⟨x, e1, rep_mv (t1 od) (Nat.le_refl _) (fun _ _ => rfl) _ _ r⟩⟩
        · rw [List.length_set]
          cases hb : b env (st.set k (.fdc kvs)) with
          | nx env' st' =>
            rw [hb] at hp
            intro H' ρ' σ' e s' he'
            obtain ⟨q1, q2, q3, q4⟩ := unlock_at (n' := 0) hs hx h1 h2 e s'
            exact ⟨q1, hp _ ρ' σ' q2 q3 ⟨he'.1, fun i v hv => let ⟨x, e1, r⟩ := he'.2 i v hv; ⟨x, e1, rep_mv q4 (by rw [List.length_set]; exact Nat.le_refl _) (fun _ _ => rfl) _ _ r⟩⟩⟩
          | bk env' st' =>
            rw [hb] at hp
            intro H' ρ' σ' e s' he'
            obtain ⟨q1, q2, q3, q4⟩ := unlock_at (n' := 0) hs hx h1 h2 e s'
            exact ⟨q1, hp _ ρ' σ' q2 q3 ⟨he'.1, fun i v hv => let ⟨x, e1, r⟩ := he'.2 i v hv; ⟨x, e1, rep_mv q4 (by rw [List.length_set]; exact Nat.le_refl _) (fun _ _ => rfl) _ _ r⟩⟩⟩
          | ct env' st' =>
            rw [hb] at hp
            intro H' ρ' σ' e s' he'
            obtain ⟨q1, q2, q3, q4⟩ := unlock_at (n' := 0) hs hx h1 h2 e s'
            exact ⟨q1, hp _ ρ' σ' q2 q3 ⟨he'.1, fun i v hv => let ⟨x, e1, r⟩ := he'.2 i v hv; ⟨x, e1, rep_mv q4 (by rw [List.length_set]; exact Nat.le_refl _) (fun _ _ => rfl) _ _ r⟩⟩⟩
          | rt v' st' =>
            rw [hb] at hp
            intro H' ρ' x e s' r'
            obtain ⟨q1, q2, q3, q4⟩ := unlock_at (n' := 0) hs hx h1 h2 e s'
            exact ⟨q1, hp _ ρ' x q2 q3 (rep_mv q4 (by rw [List.length_set]; exact Nat.le_refl _) (fun _ _ => rfl) _ _ r')⟩
          | ex u st' => rw [hb] at hp; exact hp.elim
          | bad => rw [hb] at hp; exact hp
      · exact hp.elim
    · exact hp.elim
theorem rdD_some {k : Nat} {kvs : List (AV × AV)} (h : rdD st k = some kvs) : st[k]? = some (.fdc kvs) := by
  unfold rdD at h
  split at h
  · rename_i ys e
    cases h
    exact e
  · cases h
theorem seq_keys {k : Nat} {o : Obj} {ks : List (Key × V)} (hk : k < n) (h1 : H (ρ k) = some (.frz o (.dK ks))) : SeqOk G (.keys k) (Itk (ρ k) o ks) H ρ n := by
  intro H' ρ' st' i e s
  have ek : ρ' k = ρ k := e.ag k hk
  have h1' := e.fz _ _ _ h1
  simp only [Sq.at]
  refine ⟨fun v hv => ?_, fun hv => ?_⟩
  · cases hx : rdD st' k with
    | none => rw [hx] at hv; cases hv
    | some kvs =>
      rw [hx] at hv
      obtain ⟨o2, ks2, h2, r2⟩ := s.fdc (rdD_some hx)
      rw [ek, h1'] at h2
      cases h2
      cases hi : kvs[i]? with
      | none =>
        have hv : some (kvs[i]?.map fun p => p.1) = some (some v) := hv
        rw [hi] at hv
        cases hv
      | some p =>
        obtain ⟨a, b⟩ := p
        have hv : some (kvs[i]?.map fun p => p.1) = some (some v) := hv
        rw [hi] at hv
        cases hv
        obtain ⟨j, x, e1, e2, rx⟩ := r2.get hi
        subst e2
        refine ⟨⟨h1', (List.getElem?_eq_some_iff.mp e1).1⟩, fun z H'' hy => ?_⟩
        obtain ⟨rfl, j', v', e3, rfl⟩ := hy
        rw [e1] at e3
        cases e3
        exact ⟨.refl, s, key_rep j⟩
  · cases hx : rdD st' k with
    | none => rw [hx] at hv; cases hv
    | some kvs =>
      rw [hx] at hv
      obtain ⟨o2, ks2, h2, r2⟩ := s.fdc (rdD_some hx)
      rw [ek, h1'] at h2
      cases h2
      have hv : some (kvs[i]?.map fun p => p.1) = some none := hv
      refine ⟨h1', ?_⟩
      cases hi : kvs[i]? with
      | none =>
        rw [← r2.len]
        exact List.getElem?_eq_none_iff.mp hi
      | some p => rw [hi] at hv; cases hv
theorem yi_keys {tg l : Expr} {m : ME} (h : PE X l (tE (gX X cm) E m)) : PI X tg l (tI (gX X cm) E (miKeys m)) :=
  PI.weak (pi_keys h) fun σ H R ⟨ρ, st, env, hs, he, hp⟩ => ⟨ρ, st, env, hs, he, hp.bindI fun v st1 H1 ρ1 x e1 s1 r1 hp1 => by
    have r1 : Rep X.K H1 ρ1 st1.length v x := r1
    cases v with
    | loc k =>
      obtain ⟨rfl, hk⟩ := rep_loc r1
      simp only at hp1
      cases hx : rdD st1 k with
      | none => rw [hx] at hp1; exact hp1.elim
      | some kvs =>
        rw [hx] at hp1
        obtain ⟨o, ks, h1, _⟩ := s1.fdc (rdD_some hx)
        exact ⟨_, o, rfl, .inl ⟨ks, h1, Post.at hp1 s1 (seq_keys hk h1)⟩⟩
    | _ => exact hp1.elim⟩
/-! ### enumerate -/
theorem tmp_at {H : Hp} {T : Addr} {vs : List AV} {xs : List V} (s : RepS G H ρ st) (hT : H T = none) (r : RepL G.K H ρ st.length vs xs) : Ext H ρ st.length (upd H T (.tup xs)) ρ st.length ∧ RepS G (upd H T (.tup xs)) ρ st ∧ Rep G.K (upd H T (.tup xs)) ρ st.length (.tmp vs) (.ref T) :=
  ⟨Ext.lay hT, s.lay hT, .tmp (SqT.of upd_same) (repL_mv (tups_new hT) (Nat.le_refl _) (fun _ _ => rfl) _ _ r)⟩
theorem seq_enum {k : Nat} (hk : k < n) : SeqOk G (.enumL k) (Ite G.K (ρ k)) H ρ n := by
  intro H' ρ' st' i e s
  have ek : ρ' k = ρ k := e.ag k hk
  simp only [Sq.at]
  refine ⟨fun v hv => ?_, fun hv => ?_⟩
  · cases hx : rdL st' k with
    | none => rw [hx] at hv; cases hv
    | some xs =>
      rw [hx] at hv
      have hv : some (xs[i]?.map fun x => AV.tmp [.int i, x]) = some (some v) := hv
      obtain ⟨ys, h1, r1⟩ := s.lst (rdL_some hx)
      rw [ek] at h1
      cases hi : xs[i]? with
      | none => rw [hi] at hv; cases hv
      | some w =>
        rw [hi] at hv
        cases hv
        obtain ⟨x, e1, rx⟩ := r1.get hi
        refine ⟨⟨ys, x, SqL.of h1, e1⟩, fun z H'' hy => ?_⟩
        obtain ⟨T, y, rfl, hT, rfl, hz⟩ := hy
        have := hz ys (SqL.of h1)
        rw [e1] at this
        cases this
        exact tmp_at s hT (.cons (.int _) (.cons rx .nil))
  · cases hx : rdL st' k with
    | none => rw [hx] at hv; cases hv
    | some xs =>
      rw [hx] at hv
      have hv : some (xs[i]?.map fun x => AV.tmp [.int i, x]) = some none := hv
      obtain ⟨ys, h1, r1⟩ := s.lst (rdL_some hx)
      rw [ek] at h1
      refine ⟨ys, SqL.of h1, ?_⟩
      cases hi : xs[i]? with
      | none =>
        rw [← r1.length]
        exact List.getElem?_eq_none_iff.mp hi
      | some p => rw [hi] at hv; cases hv
theorem yi_enum {e : Expr} {mas : MA} {p pos tpos : Pos} {elts : List Expr} {kk : Nat} (hg : Gl X "enumerate") (hm : X.mg "enumerate" = none) (ha : PA X [e] (tA (gX X cm) E mas)) (hs : starEach [e] X.env = [(false, eval e X.env)] := by rfl) :
    PI X (.Tuple elts kk tpos) (.Call (.Name "enumerate" p) [e] [] pos) (tI (gX X cm) E (miEnum mas)) :=
  PI.weak (pi_enum hg hm ha hs) fun σ H R ⟨ρ, st, env, hs, he, hp⟩ => ⟨ρ, st, env, hs, he, hp.bindI fun vs st1 H1 ρ1 xs e1 s1 r1 hp1 => by
    have r1 : RepL X.K H1 ρ1 st1.length vs xs := r1
    split at hp1
    · obtain ⟨x, rfl, rx⟩ := r1.one
      obtain ⟨rfl, hk⟩ := rep_loc rx
      split at hp1
      · rename_i zs hz
        obtain ⟨ys, h1, _⟩ := s1.lst (rdL_some hz)
        exact ⟨_, ys, rfl, SqL.of h1, Post.at hp1 s1 (seq_enum hk)⟩
      · exact hp1.elim
    · exact hp1.elim⟩
/-! ### the end -/
/-- the script, as it comes in -/
theorem law_in {m : ON} {w : World} {a : Addr} {ns : List Int} (hT : LamX.Tabs cm.T H) (hm : ∃ st', m [.frl (ns.map AV.int)] [] = .ok (.bl true) st') (hO : Only H) (hS : SqL K H a (ns.map V.int)) : spF ⟨K, cm, w⟩ m [.ref a] H (fun v _ => v = .bl true) fun _ _ _ => False := by
  have hF : SqF K H a (ns.map V.int) := by
    rcases hS with (h | ⟨o, h⟩) | h
    · rcases hO a with z | ⟨o, xs, z⟩
      · rw [h] at z; cases z
      · rw [h] at z; cases z
    · exact .inl ⟨o, h⟩
    · exact .inr h
  have hr : ∀ ns : List Int, RepL K H (fun _ => 0) 0 (ns.map AV.int) (ns.map V.int) := fun ns => by
    induction ns with
    | nil => exact .nil
    | cons i r ih => exact .cons (.int i) ih
  obtain ⟨st', e⟩ := hm
  refine ⟨fun _ => 0, [], [.frl (ns.map AV.int)], ⟨fun k o h => by simp at h, fun j k h => absurd h (Nat.not_lt_zero _), hT⟩, .cons (.frl hF (hr ns)) .nil, ?_⟩
  rw [e]
  exact fun H' ρ' x _ _ r => rep_bl r
end
end Y
set_option Elab.async false
set_option linter.all false
set_option maxRecDepth 100000
namespace Y
open PySem PySem.Spec L2
open PyProof.Rows hiding St
mutual
theorem under_none' {n : Nat} : ∀ {v : AV}, v.locs = [] → AV.under n v = true
  | .non, _ => rfl
  | .bl _, _ => rfl
  | .int _, _ => rfl
  | .str _, _ => rfl
  | .loc k, h => by simp [AV.locs] at h
  | .tup xs, h => by rw [AV.under]; exact underL_none' (v := xs) (by simpa [AV.locs] using h)
  | .frl xs, h => by rw [AV.under]; exact underL_none' (v := xs) (by simpa [AV.locs] using h)
  | .tmp xs, h => by rw [AV.under]; exact underL_none' (v := xs) (by simpa [AV.locs] using h)
theorem underL_none' {n : Nat} : ∀ {v : List AV}, AV.locsL v = [] → AV.underL n v = true
  | [], _ => rfl
  | x :: xs, h => by
    have h : AV.locs x ++ AV.locsL xs = [] := h
    rw [List.append_eq_nil_iff] at h
    rw [AV.underL, under_none' h.1, underL_none' h.2]; rfl
end
/-- a test whose parts make objects -/
def mtGc (m : MT) : MT := fun env st => (gc st ((m env st).bind fun k st => .ok (.bl k) st)).bind fun v st => match v with
  | .bl k => .ok k st
  | _ => .bad
/-- a def that is handed data and hands back data: it never sees the caller's objects -/
def oIso (m : ON) : ON := fun vs st => if (AV.locsL vs).isEmpty then match m vs [] with
  | .ok v _ => if v.locs.isEmpty then .ok v st else .bad
  | _ => .bad else .bad
section
variable {X : Cx} {cm : CM} {E : EX}
theorem ye_callI {f : Addr} {fd : FuncData} {ps : List Str} {k : Nat} {m : ON} {x : Str} {e : Expr} {es : List Expr} {mas : MA} {p pos : Pos} (F : FnOk X.prog X.w X.K X.mg X.base CX0 k f fd ps (spF (gX X cm) m)) (hr : Room k X.A) (hg : Gl X x) (hm : X.mg x = some (.ref f)) (hk : PySem.W.keepIn X.K (.ref f) = true) (hb : Binds X.K fd ps [])
    (ha : PA X (e :: es) (tA (gX X cm) E mas)) (hdb : (x == ("__debug__" : Str)) = false := by decide) (he : starEach (e :: es) X.env = (false, eval e X.env) :: starEach es X.env := by rfl) (hpl : (backTo pos (starEach es X.env)).any (·.1) = false := by rfl) :
    PE X (.Call (.Name x p) (e :: es) [] pos) (tE (gX X cm) E (mN (oIso m) mas)) :=
  PE.weak (pe_call F hr hg hm hk hb .nil pass0 ha hdb he hpl) fun σ H Q ⟨ρ, st, env, hs, he, hp⟩ => ⟨ρ, st, env, hs, he, hp.bindI fun vs st1 H1 ρ1 xs e1 s1 r1 hp1 => by
    have r1 : RepL X.K H1 ρ1 st1.length vs xs := r1
    rw [List.append_nil]
    unfold oIso at hp1
    split at hp1
    · rename_i hv
      have hv : AV.locsL vs = [] := List.isEmpty_iff.mp hv
      have hu : ∀ {vs : List AV}, AV.locsL vs = [] → AV.underL 0 vs = true := fun h => underL_none' h
      split at hp1
      · rename_i v st' hm'
        split at hp1
        · rename_i hw
          have hw : v.locs = [] := List.isEmpty_iff.mp hw
          refine ⟨ρ1, [], vs, ⟨fun k o h => by simp at h, fun j k h => absurd h (Nat.not_lt_zero _), s1.tb⟩, repL_under (Nat.le_refl _) (fun _ h => absurd h (Nat.not_lt_zero _)) _ _ (hu hv) r1, ?_⟩
          rw [hm']
          intro H' ρ' x e s q
          -- the caller's objects are none of the callee's
          have fr : ∀ a o, H1 a = some o → (∀ ps, o ≠ .tbl ps) → H' a = some o := fun a o h nt => e.fr a o h nt fun k hk => absurd hk (Nat.not_lt_zero _)
          have t : Tups X.K H1 H' := tups_of fun a o h n => fr a o h (notT_tbl n)
          refine hp1 H' ρ1 x ⟨Nat.le_refl _, fun _ _ => rfl, fun a o h nt _ => fr a o h nt, fun _ h1 h2 => absurd h1 (Nat.not_le.mpr h2), e.kp, e.fz⟩ (s1.mv (fun k hk => ?_) t s.tb) ?_
          · obtain ⟨u, h, n⟩ := s1.notC hk
            rw [h]
            exact fr _ _ h n.1
          · exact rep_under (n := 0) (Nat.zero_le _) (fun _ h => absurd h (Nat.not_lt_zero _)) _ _ (under_none' hw) q
        · exact hp1.elim
      · exact hp1.elim
    · exact hp1.elim⟩
theorem yt_gc {e : Expr} {m : MT} (h : PT X e (tT (gX X cm) E m)) : PT X e (tT (gX X cm) E (mtGc m)) := PT.weak h fun σ H Q ⟨ρ, st, env, hs, he, hp⟩ => by
  refine ⟨ρ, st, env, hs, he, ?_⟩
  have h1 : Post (gX X cm) E H ρ st.length (rV X.K) (gc st ((m env st).bind fun k st => .ok (.bl k) st)) (fun x H' => ∃ k, x = .bl k ∧ Q k H') :=
    Post.bindI hp fun v st1 H1 ρ1 x e1 s1 r1 hp1 => by
      have r1 : Rep X.K H1 ρ1 st1.length v x := r1
      cases v with
      | bl k =>
        cases rep_bl r1
        exact ⟨k, rfl, Post.at (x := k) hp1 s1 rfl⟩
      | _ => exact hp1.elim
  exact Post.bindI (gc_sound hs h1) fun v st1 H1 ρ1 x e1 s1 r1 hp1 => by
    obtain ⟨k, e, q⟩ := Post.at (x := V.bl v) hp1 s1 (.bl v)
    cases e
    cases (show x = v from r1)
    exact q
theorem yi_r3 {tg a b c : Expr} {mas : MA} {p pos : Pos} (hg : Gl X "range") (hm : X.mg "range" = none) (ha : PA X [a, b, c] (tA (gX X cm) E mas)) (hs : starEach [a, b, c] X.env = (false, eval a X.env) :: starEach [b, c] X.env := by rfl) (hpl : (backTo pos (starEach [b, c] X.env)).any (·.1) = false := by rfl) :
    PI X tg (.Call (.Name "range" p) [a, b, c] [] pos) (tI (gX X cm) E (miR3 mas)) :=
  PI.weak (pi_range3 hg hm ha hs hpl) fun σ H R ⟨ρ, st, env, hs, he, hp⟩ => ⟨ρ, st, env, hs, he, hp.bindI fun vs st1 H1 ρ1 xs e1 s1 r1 hp1 => by
    have r1 : RepL X.K H1 ρ1 st1.length vs xs := r1
    split at hp1
    · obtain ⟨x, y, z, rfl, rx, ry, rz⟩ := r1.three
      cases rep_int rx
      cases rep_int ry
      cases rep_int rz
      split at hp1
      · rename_i hb
        rw [Bool.and_eq_true] at hb
        obtain ⟨b1, b2⟩ := rngOk_iff hb.1
        obtain ⟨b3, b4⟩ := rngOk_iff hb.2
        exact ⟨_, _, _, _, rfl, RgC.neg b1 b2 b3 b4, Post.at hp1 s1 seq_rngC⟩
      · exact hp1.elim
    · exact hp1.elim⟩
end
end Y
set_option Elab.async false
set_option linter.all false
set_option maxRecDepth 100000
/-! Y10: reckoning with meanings -/
namespace Y
open PySem
section
variable {env : Ev} {st : Sto} {a b c : ME} {as : MA} {t u : MT} {s r : MS}
@[simp] theorem ev_var0 {v : AV} {e : Ev} : mVar 0 (some v :: e) st = .ok v st := rfl
@[simp] theorem ev_varS {i : Nat} {x : Option AV} {e : Ev} : mVar (i + 1) (x :: e) st = mVar i e st := rfl
@[simp low] theorem ev_var {i : Nat} {v : AV} (h : env[i]? = some (some v)) : mVar i env st = .ok v st := by unfold mVar; rw [h]
@[simp] theorem ev_C {v : AV} : mC v env st = .ok v st := rfl
@[simp] theorem ev_op {o : O2} : mOp o a b env st = (a env st).bind fun x st => (b env st).bind fun y st => o x y st := rfl
@[simp] theorem ev_un {o : O1} : mUn o a env st = (a env st).bind fun x st => o x st := rfl
@[simp] theorem ev_if : mIf t a b env st = (t env st).bind fun k st => if k then a env st else b env st := rfl
@[simp] theorem ev_nil : maNil env st = .ok [] st := rfl
@[simp] theorem ev_cons : maCons a as env st = (a env st).bind fun x st => (as env st).bind fun xs st => .ok (x :: xs) st := rfl
@[simp] theorem ev_N {f : ON} : mN f as env st = (as env st).bind fun xs st => f xs st := rfl
@[simp] theorem ev_gc : mGc a env st = gc st (a env st) := rfl
@[simp] theorem ev_tV : mtV a env st = (a env st).bind fun x st => match x with
  | .bl b => .ok b st
  | _ => .bad := rfl
@[simp] theorem ev_tAnd : mtAnd t u env st = (t env st).bind fun k st => if k then u env st else .ok false st := rfl
@[simp] theorem ev_tOr : mtOr t u env st = (t env st).bind fun k st => if k then .ok true st else u env st := rfl
@[simp] theorem ev_tNot : mtNot t env st = (t env st).bind fun k st => .ok (!k) st := rfl
@[simp] theorem ev_tYes : mtYes env st = .ok true st := rfl
@[simp] theorem ev_AndV : mAndV a b env st = (a env st).bind fun x st => match x with
  | .bl k => if k then b env st else .ok (.bl false) st
  | _ => .bad := rfl
@[simp] theorem ev_OrV : mOrV a b env st = (a env st).bind fun x st => match x with
  | .bl k => if k then .ok (.bl true) st else b env st
  | _ => .bad := rfl
@[simp] theorem ev_NotV : mNotV a env st = (a env st).bind fun x st => match x with
  | .bl k => .ok (.bl (!k)) st
  | _ => .bad := rfl
@[simp] theorem ev_chain {o o' : O2} : mChain o o' a b c env st = (a env st).bind fun x st => (b env st).bind fun y st => (o x y st).bind fun z st => match z with
  | .bl k => if k then (c env st).bind fun w st => o' y w st else .ok (.bl false) st
  | _ => .bad := rfl
@[simp] theorem ev_sl {o : OS} {l h : MO} : mSl o a l h env st = (a env st).bind fun x st => (l env st).bind fun i st => (h env st).bind fun j st => o x i j st := rfl
@[simp] theorem ev_oNone : moNone env st = .ok none st := rfl
@[simp] theorem ev_oSome : moSome a env st = (a env st).bind fun x st => match x with
  | .int i => .ok (some i) st
  | _ => .bad := rfl
@[simp] theorem ev_met {T : Ty} {f : OM} : mMet T f a as env st = (a env st).bind fun x st => if isTy st T x then (as env st).bind fun vs st => f x vs st else .bad := rfl
@[simp] theorem ev_dnew : oDNew env st = .ok (.loc st.length) (st ++ [.dct []]) := rfl
@[simp] theorem ev_disp : mDisp1 a b env st = (a env st).bind fun x st => (b env st).bind fun y st => match keyOf x with
  | some _ => .ok (.loc st.length) (st ++ [.dct [(x, y)]])
  | none => .bad := rfl
@[simp] theorem ev_get2 : mGet2 a b c env st = (a env st).bind fun x st => if isTy st .dict x then (b env st).bind fun y st => (c env st).bind fun w st => match x, keyOf y with
  | .loc k, some _ => match rdK st k with
    | some kvs => .ok ((lookA kvs y).getD w) st
    | none => .bad
  | _, _ => .bad else .bad := rfl
/-! statements -/
@[simp] theorem ev_next : msNext env st = .nx env st := rfl
@[simp] theorem ev_expr : msExpr a env st = (a env st).toFl fun _ st => .nx env st := rfl
@[simp] theorem ev_ret : msRet a env st = (a env st).toFl fun v st => .rt v st := rfl
@[simp] theorem ev_retN : msRetN env st = .rt .non st := rfl
@[simp] theorem ev_ifS : msIf t s r env st = (t env st).toFl fun k st => if k then s env st else r env st := rfl
@[simp] theorem ev_asg {g : MG} : msAsg a g env st = (a env st).toFl fun v st => (g v env st).toFl fun env st => .nx env st := rfl
@[simp] theorem ev_aug {i : Nat} {o : O2} {x : AV} (h : env[i]? = some (some x)) : msAug i o a env st = (a env st).toFl fun y st => (o x y st).toFl fun z st => .nx (env.set i (some z)) st := by unfold msAug; rw [h]
@[simp] theorem ev_par {is : List Nat} : msPar is as env st = (as env st).toFl fun vs st => match setAll is vs env with
  | some env => .nx env st
  | none => .bad := rfl
@[simp] theorem ev_for {it : MI} {g : MG} : msFor it g s env st = (it env st).toFl fun q st => turns q g s (q.len st + 1) 0 env st := rfl
@[simp] theorem ev_while : msWhile t s env st = whileN t s FUEL env st := rfl
@[simp] theorem ev_lc {it : MI} {g : MG} {l : List Nat} : mLc it g t a l env st = (it env st).bind fun q st => (lcTurns q g t a (wipeE env l) (q.len st + 1) 0 [] st).bind fun acc st => oLst acc st := rfl
@[simp] theorem ev_gName {i : Nat} {v : AV} : mgName i v env st = .ok (env.set i (some v)) st := rfl
@[simp] theorem ev_gTup {gs : List MG} {xs : List AV} : mgTup gs (.tup xs) env st = if xs.length = gs.length then mgs gs xs env st else .bad := rfl
@[simp] theorem ev_gTmp {gs : List MG} {xs : List AV} : mgTup gs (.tmp xs) env st = if xs.length = gs.length then mgs gs xs env st else .bad := rfl
@[simp] theorem ev_gs0 : mgs [] [] env st = .ok env st := rfl
@[simp] theorem ev_gs1 {g : MG} {gs : List MG} {v : AV} {vs : List AV} : mgs (g :: gs) (v :: vs) env st = (g v env st).bind fun env st => mgs gs vs env st := rfl
@[simp] theorem ev_gSub {f : O3} {v : AV} : mgSub a b f v env st = (a env st).bind fun x st => (b env st).bind fun y st => (f x y v st).bind fun _ st => .ok env st := rfl
theorem ev_seq : msSeq s r env st = match s env st with
  | .nx env st => r env st
  | f => f := rfl
theorem seq_nx {env' : Ev} {st' : Sto} (h : s env st = .nx env' st') : msSeq s r env st = r env' st' := by rw [ev_seq, h]
theorem seq_rt {v : AV} {st' : Sto} (h : s env st = .rt v st') : msSeq s r env st = .rt v st' := by rw [ev_seq, h]
@[simp] theorem ev_iSeqT {xs : List AV} (h : a env st = .ok (.tup xs) st) : miSeq a env st = .ok (.tup xs) st := by unfold miSeq; rw [h]; rfl
theorem ev_iSeq : miSeq a env st = (a env st).bind fun x st => match x with
  | .tup xs => .ok (.tup xs) st
  | .loc k => match rdL st k with
    | some _ => .ok (.list k) st
    | none => .bad
  | _ => .bad := rfl
theorem ev_R1 : miR1 as env st = (as env st).bind fun vs st => match vs with
  | [.int j] => if rngOk j then .ok (.rng 0 j.toNat) st else .bad
  | _ => .bad := rfl
theorem ev_R1i {n : Nat} {j : Int} {st' : Sto} (hr : rngOk j = true) (hn : j.toNat = n) (h : as env st = .ok [.int j] st') : miR1 as env st = .ok (.rng 0 n) st' := by
  unfold miR1
  rw [h]
  simp only [R.bind_ok]
  rw [if_pos hr, hn]
theorem ev_R2 : miR2 as env st = (as env st).bind fun vs st => match vs with
  | [.int i, .int j] => if rngOk i && rngOk j then .ok (.rng i (j - i).toNat) st else .bad
  | _ => .bad := rfl
theorem ev_R3 : miR3 as env st = (as env st).bind fun vs st => match vs with
  | [.int i, .int j, .int (-1)] => if rngOk i && rngOk j then .ok (.rngC i (-1) (i - j).toNat) st else .bad
  | _ => .bad := rfl
/-! values -/
@[simp] theorem add_ii {i j : Int} : oAdd (.int i) (.int j) st = .ok (.int (i + j)) st := rfl
@[simp] theorem sub_ii {i j : Int} : oSub (.int i) (.int j) st = .ok (.int (i - j)) st := rfl
@[simp] theorem neg_i {i : Int} : oNeg (.int i) st = .ok (.int (-i)) st := rfl
theorem mul_ii {i j : Int} (h : smallB i j = true) : oMul (.int i) (.int j) st = .ok (.int (i * j)) st := if_pos h
theorem mod_ii {i j : Int} (h : 0 < j) : oMod (.int i) (.int j) st = .ok (.int (i % j)) st := if_pos h
theorem fdiv_ii {i j : Int} (h : 0 < j ∧ j < 1073741824) : oFdiv (.int i) (.int j) st = .ok (.int (i / j)) st := if_pos ⟨h.1, by omega⟩
theorem pow_ii {i j : Int} (h : 0 ≤ j ∧ j ≤ 1000000 ∧ i.natAbs < 2 ^ 64) : oPow (.int i) (.int j) st = .ok (.int (i ^ j.toNat)) st := if_pos h
@[simp] theorem lt_ii {i j : Int} : oLt (.int i) (.int j) st = .ok (.bl (decide (i < j))) st := rfl
@[simp] theorem le_ii {i j : Int} : oLe (.int i) (.int j) st = .ok (.bl (decide (i ≤ j))) st := rfl
@[simp] theorem gt_ii {i j : Int} : oGt (.int i) (.int j) st = .ok (.bl (decide (j < i))) st := rfl
@[simp] theorem ge_ii {i j : Int} : oGe (.int i) (.int j) st = .ok (.bl (decide (j ≤ i))) st := rfl
@[simp] theorem eq_ii {i j : Int} : oEq (.int i) (.int j) st = .ok (.bl (decide (i = j))) st := by
  show R.ok (AV.bl (i == j)) st = _
  rw [Bool.beq_eq_decide_eq]
@[simp] theorem ne_ii {i j : Int} : oNe (.int i) (.int j) st = .ok (.bl (!decide (i = j))) st := by
  show R.ok (AV.bl (!(i == j))) st = _
  rw [Bool.beq_eq_decide_eq]
@[simp] theorem max_ii {i j : Int} : oMax2 [.int i, .int j] st = .ok (.int (if j > i then j else i)) st := rfl
@[simp] theorem min_ii {i j : Int} : oMin2 [.int i, .int j] st = .ok (.int (if j < i then j else i)) st := rfl
theorem tup_ok {xs : List AV} (h : xs.length ≤ LIM) : oTup xs st = .ok (.tup xs) st := by unfold oTup; rw [if_pos h]
theorem lst_ok {xs : List AV} (h : xs.length ≤ LIM) : oLst xs st = .ok (.loc st.length) (st ++ [.lst xs]) := by unfold oLst; rw [if_pos h]
@[simp] theorem len_t {xs : List AV} : oLen [.tup xs] st = .ok (.int xs.length) st := rfl
theorem len_l {k : Nat} {xs : List AV} (h : st[k]? = some (.lst xs)) : oLen [.loc k] st = .ok (.int xs.length) st := by
  have e : rdL st k = some xs := by unfold rdL; rw [h]
  unfold oLen; simp only [e]
theorem rdL_ok {k : Nat} {xs : List AV} (h : st[k]? = some (.lst xs)) : rdL st k = some xs := by unfold rdL; rw [h]
theorem ix_t {xs : List AV} {i : Int} {v : AV} (h : L2.atI xs i = some v) : oIx (.tup xs) (.int i) st = .ok v st := by unfold oIx; simp only [h]
theorem ix_l {k : Nat} {xs : List AV} {i : Int} {v : AV} (h : st[k]? = some (.lst xs)) (h2 : L2.atI xs i = some v) : oIx (.loc k) (.int i) st = .ok v st := by
  unfold oIx; simp only [rdL_ok h, h2]
theorem setL_ok {k j : Nat} {xs : List AV} {i : Int} {v : AV} (h : st[k]? = some (.lst xs)) (h2 : L2.ixN xs.length i = some j) : oSetL (.loc k) (.int i) v st = .ok () (st.set k (.lst (xs.set j v))) := by
  unfold oSetL; simp only [h, h2]
theorem app_ok {k : Nat} {xs : List AV} {v : AV} (h : st[k]? = some (.lst xs)) (h2 : xs.length < LIM) : oAppend (.loc k) [v] st = .ok .non (st.set k (.lst (xs ++ [v]))) := by
  unfold oAppend; simp only [h, h2, if_true]
theorem isTy_l {k : Nat} {xs : List AV} (h : st[k]? = some (.lst xs)) : isTy st .list (.loc k) = true := by unfold isTy; simp only [h]
@[simp] theorem isTy_t {xs : List AV} : isTy st .tuple (.tup xs) = true := rfl
theorem isTy_d {k : Nat} {xs : List (AV × AV)} (h : st[k]? = some (.dct xs)) : isTy st .dict (.loc k) = true := by unfold isTy; simp only [h]
/-! places -/
theorem rok {x : Int} (h : 0 ≤ x ∧ x < 1000000) : rngOk x = true := by
  unfold rngOk
  exact decide_eq_true (by omega)
theorem lenR {lo : Int} {n : Nat} {st : Sto} : (Sq.rng lo n).len st = n := rfl
theorem small_r {i j : Int} (h : 0 ≤ j ∧ j < 1000000) : smallB i j = true := by
  unfold smallB
  rw [Bool.or_eq_true]
  exact .inr (decide_eq_true (by omega))
theorem small_l {i j : Int} (h : 0 ≤ i ∧ i < 1000000) : smallB i j = true := by
  unfold smallB
  rw [Bool.or_eq_true]
  exact .inl (decide_eq_true (by omega))
theorem at_new {o : Ob} {rest : Sto} : (st ++ o :: rest)[st.length]? = some o := by rw [List.getElem?_append_right (Nat.le_refl _), Nat.sub_self]; rfl
theorem at_old {o : Ob} {rest : Sto} {k : Nat} (h : st[k]? = some o) : (st ++ rest)[k]? = some o := by rw [List.getElem?_append_left (List.getElem?_eq_some_iff.mp h).1]; exact h
theorem at_set {o o' : Ob} {k : Nat} (h : st[k]? = some o) : (st.set k o')[k]? = some o' := List.getElem?_set_self (List.getElem?_eq_some_iff.mp h).1
theorem set_new {o o' : Ob} {rest : Sto} : (st ++ o :: rest).set st.length o' = st ++ o' :: rest := by
  rw [List.set_append_right _ _ (Nat.le_refl _), Nat.sub_self]; rfl
theorem set_old {o' : Ob} {rest : Sto} {k : Nat} (h : k < st.length) : (st ++ rest).set k o' = st.set k o' ++ rest := List.set_append_left _ _ h
/-! cleaning up -/
theorem gc_same {v : AV} {st' : Sto} (h : st'.length = st.length) : gc st (.ok v st') = .ok v st' := by simp only [gc]; rw [if_pos h]
theorem oldOk_app {n : Nat} : ∀ {st g : Sto}, oldOk n st (st ++ g) = true
  | [], g => rfl
  | o :: r, g => by
    show ((Ob.beq o o || o.under n) && oldOk n r (r ++ g)) = true
    rw [Ob.beq_refl, oldOk_app]; rfl
theorem oldOk_set {n : Nat} {o : Ob} (ho : o.under n = true) : ∀ {st g : Sto} {k : Nat}, oldOk n st (st.set k o ++ g) = true
  | [], g, k => rfl
  | a :: r, g, 0 => by
    show ((Ob.beq a o || o.under n) && oldOk n r (r ++ g)) = true
    rw [ho, oldOk_app, Bool.or_true]; rfl
  | a :: r, g, k + 1 => by
    show ((Ob.beq a a || a.under n) && oldOk n r (r.set k o ++ g)) = true
    rw [Ob.beq_refl, oldOk_set ho]; rfl
mutual
theorem ren_none {f : Nat → Option Nat} : ∀ {v : AV}, v.locs = [] → AV.ren f v = some v
  | .non, _ => rfl
  | .bl _, _ => rfl
  | .int _, _ => rfl
  | .str _, _ => rfl
  | .loc k, h => by simp [AV.locs] at h
  | .tup xs, h => by rw [AV.ren, renL_none (v := xs) (by simpa [AV.locs] using h)]; rfl
  | .frl xs, h => by rw [AV.ren, renL_none (v := xs) (by simpa [AV.locs] using h)]; rfl
  | .tmp xs, h => by rw [AV.ren, renL_none (v := xs) (by simpa [AV.locs] using h)]; rfl
theorem renL_none {f : Nat → Option Nat} : ∀ {v : List AV}, AV.locsL v = [] → AV.renL f v = some v
  | [], _ => rfl
  | x :: xs, h => by
    have h : AV.locs x ++ AV.locsL xs = [] := h
    rw [List.append_eq_nil_iff] at h
    rw [AV.renL, ren_none h.1, renL_none h.2]
end
mutual
theorem under_none {n : Nat} : ∀ {v : AV}, v.locs = [] → AV.under n v = true
  | .non, _ => rfl
  | .bl _, _ => rfl
  | .int _, _ => rfl
  | .str _, _ => rfl
  | .loc k, h => by simp [AV.locs] at h
  | .tup xs, h => by rw [AV.under]; exact underL_none (v := xs) (by simpa [AV.locs] using h)
  | .frl xs, h => by rw [AV.under]; exact underL_none (v := xs) (by simpa [AV.locs] using h)
  | .tmp xs, h => by rw [AV.under]; exact underL_none (v := xs) (by simpa [AV.locs] using h)
theorem underL_none {n : Nat} : ∀ {v : List AV}, AV.locsL v = [] → AV.underL n v = true
  | [], _ => rfl
  | x :: xs, h => by
    have h : AV.locs x ++ AV.locsL xs = [] := h
    rw [List.append_eq_nil_iff] at h
    rw [AV.underL, under_none h.1, underL_none h.2]; rfl
end
theorem reach_nil {n : Nat} {st : Sto} : ∀ {f : Nat}, reach n st f [] = []
  | 0 => rfl
  | f + 1 => by
    show reach n st f (addNew n [] []) = []
    exact reach_nil
/-- a value that holds no object: the store is as long as it was -/
theorem gc_val {v : AV} {st' g : Sto} (hv : v.locs = []) (hl : st'.length = st.length) (ho : oldOk st.length st (st' ++ g) = true) : gc st (.ok v (st' ++ g)) = .ok v st' := by
  simp only [gc]
  by_cases hg : (st' ++ g).length = st.length
  · have : g = [] := by
      rw [List.length_append] at hg
      exact List.eq_nil_of_length_eq_zero (by omega)
    rw [if_pos hg, this, List.append_nil]
  · rw [if_neg hg, hv]
    simp only [addNew, reach_nil, ho, nodupB, List.all_nil, Bool.and_self, if_true, ren_none hv, mapO]
    rw [← hl, List.take_left', List.append_nil]
    rfl
theorem gc_drop {v : AV} {g : Sto} (hv : v.locs = []) : gc st (.ok v (st ++ g)) = .ok v st := gc_val hv rfl oldOk_app
theorem locsL_flat {xs : List AV} (h : ∀ v ∈ xs, AV.locs v = []) : AV.locsL xs = [] := by
  induction xs with
  | nil => rfl
  | cons x xs ih =>
    show AV.locs x ++ AV.locsL xs = []
    rw [h x (by simp), ih fun v hv => h v (by simp [hv])]; rfl
/-- a new list that holds no object -/
theorem gc_new {xs : List AV} {st' g : Sto} {j : Nat} (hx : AV.locsL xs = []) (hl : st'.length = st.length) (ho : oldOk st.length st (st' ++ g) = true) (hj : g[j]? = some (.lst xs)) : gc st (.ok (.loc (st.length + j)) (st' ++ g)) = .ok (.loc st.length) (st' ++ [.lst xs]) := by
  simp only [gc]
  have hjl := (List.getElem?_eq_some_iff.mp hj).1
  have hg : ¬ (st' ++ g).length = st.length := by rw [List.length_append]; omega
  rw [if_neg hg]
  have hat : (st' ++ g)[st.length + j]? = some (.lst xs) := by rw [List.getElem?_append_right (by omega), hl, Nat.add_sub_cancel_left]; exact hj
  have h1 : addNew st.length [] (AV.locs (.loc (st.length + j))) = [st.length + j] := by simp [AV.locs, addNew]
  have h2 : ∀ f, reach st.length (st' ++ g) f [st.length + j] = [st.length + j] := by
    intro f
    induction f with
    | zero => rfl
    | succ f ih =>
      rw [reach]
      simp only [List.flatMap_cons, List.flatMap_nil, hat, Ob.vals, hx, addNew, List.append_nil]
      exact ih
  rw [h1, h2, ho]
  have hp : place st.length [st.length + j] (st.length + j) = some st.length := by
    unfold place
    rw [if_neg (by omega)]
    simp
  simp only [nodupB, List.contains_nil, Bool.not_false, Bool.and_self, List.all_cons, List.all_nil, Bool.and_true, decide_eq_true_eq, Bool.true_and, Nat.le_add_right, decide_true, if_true, AV.ren, hp, Option.map_some, mapO, hat, Option.bind_some, Ob.ren, renL_none hx]
  rw [← hl, List.take_left']
  rfl
theorem gc_list {xs : List AV} (hx : AV.locsL xs = []) : gc st (.ok (.loc st.length) (st ++ [.lst xs])) = .ok (.loc st.length) (st ++ [.lst xs]) :=
  gc_new (j := 0) (g := [.lst xs]) hx rfl oldOk_app rfl
end
/-! ### loops -/
theorem iso_ok {m : ON} {vs : List AV} {v : AV} {st st' : Sto} (hv : AV.locsL vs = []) (h : m vs [] = .ok v st') (hw : v.locs = []) : oIso m vs st = .ok v st := by
  unfold oIso
  simp only [hv, h, hw, List.isEmpty_nil, if_true]
/-- a loop: an invariant by the turn; or the body returns -/
theorem turns_its {q : Sq} {g : MG} {b : MS} {xs : List AV} (P : Nat → Ev → Sto → Prop) (T : AV → Sto → Prop) (hq : ∀ i env st, i ≤ xs.length → P i env st → q.at st i = some xs[i]?)
    (hs : ∀ i x env st, xs[i]? = some x → P i env st → (∃ env' st', (g x env st).toFl b = .nx env' st' ∧ P (i + 1) env' st') ∨ ∃ v st', (g x env st).toFl b = .rt v st' ∧ T v st') {env : Ev} {st : Sto} (h0 : P 0 env st) :
    (∃ env' st', turns q g b (xs.length + 1) 0 env st = .nx env' st' ∧ P xs.length env' st') ∨ ∃ v st', turns q g b (xs.length + 1) 0 env st = .rt v st' ∧ T v st' := by
  have go : ∀ f i env st, i + f = xs.length → P i env st → (∃ env' st', turns q g b (f + 1) i env st = .nx env' st' ∧ P xs.length env' st') ∨ ∃ v st', turns q g b (f + 1) i env st = .rt v st' ∧ T v st' := by
    intro f
    induction f with
    | zero =>
      intro i env st e h
      have hi : i = xs.length := by omega
      refine .inl ⟨env, st, ?_, by rw [← hi]; exact h⟩
      simp only [turns, hq i env st (by omega) h]
      rw [List.getElem?_eq_none (by omega)]
    | succ f ih =>
      intro i env st e h
      have hlt : i < xs.length := by omega
      have hat := hq i env st (by omega) h
      rw [List.getElem?_eq_getElem hlt] at hat
      have ht : turns q g b (f + 1 + 1) i env st = (g xs[i] env st).toFl fun env st => step (b env st) (turns q g b (f + 1) (i + 1)) := by
        conv => lhs; unfold turns
        simp only [hat]
      rw [ht]
      rcases hs i xs[i] env st (List.getElem?_eq_getElem hlt) h with ⟨env1, st1, e1, h1⟩ | ⟨v, st1, e1, h1⟩
      · cases hg : g xs[i] env st with
        | ok env' st' =>
          rw [hg] at e1
          simp only [R.toFl_ok] at e1 ⊢
          rw [e1]
          exact ih (i + 1) env1 st1 (by omega) h1
        | ex u st' => rw [hg] at e1; cases e1
        | bad => rw [hg] at e1; cases e1
      · cases hg : g xs[i] env st with
        | ok env' st' =>
          rw [hg] at e1
          simp only [R.toFl_ok] at e1 ⊢
          rw [e1]
          exact .inr ⟨v, st1, rfl, h1⟩
        | ex u st' => rw [hg] at e1; cases e1
        | bad => rw [hg] at e1; cases e1
  exact go xs.length 0 env st (by omega) h0
theorem turns_nx {q : Sq} {g : MG} {b : MS} {xs : List AV} (P : Nat → Ev → Sto → Prop) (hq : ∀ i env st, i ≤ xs.length → P i env st → q.at st i = some xs[i]?)
    (hs : ∀ i x env st, xs[i]? = some x → P i env st → ∃ env' st', (g x env st).toFl b = .nx env' st' ∧ P (i + 1) env' st') {env : Ev} {st : Sto} (h0 : P 0 env st) :
    ∃ env' st', turns q g b (xs.length + 1) 0 env st = .nx env' st' ∧ P xs.length env' st' := by
  rcases turns_its P (fun _ _ => False) hq (fun i x env st h1 h2 => .inl (hs i x env st h1 h2)) h0 with h | ⟨_, _, _, h⟩
  · exact h
  · exact h.elim
/-- the ints of a range -/
def rngA (lo : Int) (n : Nat) : List AV := (List.range n).map fun i => .int (lo + (i : Nat))
theorem rngA_len (lo : Int) (n : Nat) : (rngA lo n).length = n := by simp [rngA]
theorem rngA_at {lo : Int} {n i : Nat} : (rngA lo n)[i]? = if i < n then some (.int (lo + (i : Nat))) else none := by
  unfold rngA
  by_cases h : i < n
  · simp [h]
  · simp [h]
theorem at_rng {lo : Int} {n i : Nat} {st : Sto} : (Sq.rng lo n).at st i = some (rngA lo n)[i]? := by rw [rngA_at]; rfl
/-- a loop over a range -/
theorem turns_rng {g : MG} {b : MS} {lo : Int} {n : Nat} (P : Nat → Ev → Sto → Prop) (hs : ∀ i env st, i < n → P i env st → ∃ env' st', (g (.int (lo + (i : Nat))) env st).toFl b = .nx env' st' ∧ P (i + 1) env' st') {env : Ev} {st : Sto} (h0 : P 0 env st) :
    ∃ env' st', turns (.rng lo n) g b (n + 1) 0 env st = .nx env' st' ∧ P n env' st' := by
  have := turns_nx (q := .rng lo n) (g := g) (b := b) (xs := rngA lo n) P (fun i env st _ _ => at_rng) (fun i x env st hx h => ?_) h0
  · rw [rngA_len] at this; exact this
  · rw [rngA_at] at hx
    split at hx
    · rename_i hi
      cases hx
      exact hs i env st hi h
    · cases hx
theorem at_list {k i : Nat} {xs : List AV} {st : Sto} (h : st[k]? = some (.lst xs)) : (Sq.list k).at st i = some xs[i]? := by
  simp only [Sq.at, rdL_ok h]; rfl
theorem len_list {k : Nat} {xs : List AV} {st : Sto} (h : st[k]? = some (.lst xs)) : (Sq.list k).len st = xs.length := by
  simp only [Sq.len, rdL_ok h]; rfl
/-- a comprehension whose parts change nothing -/
theorem lc_its {q : Sq} {g : MG} {t : MT} {e : ME} {xs : List AV} {env : Ev} {st : Sto} (f : AV → Option AV) (hq : ∀ i, q.at st i = some xs[i]?)
    (h : ∀ x ∈ xs, ((g x env st).bind fun env' st => (t env' st).bind fun k st => if k then (e env' st).bind fun y st => .ok (some y) st else .ok none st) = .ok (f x) st) (hl : xs.length ≤ LIM) :
    lcTurns q g t e env (xs.length + 1) 0 [] st = .ok (xs.filterMap f) st := by
  have go : ∀ m i acc, i + m = xs.length → acc.length ≤ i → lcTurns q g t e env (m + 1) i acc st = .ok (acc ++ (xs.drop i).filterMap f) st := by
    intro m
    induction m with
    | zero =>
      intro i acc e h
      simp only [lcTurns, hq i]
      rw [List.getElem?_eq_none (by omega), List.drop_of_length_le (by omega)]
      simp
    | succ m ih =>
      intro i acc e ha
      have hlt : i < xs.length := by omega
      have hx := h xs[i] (List.getElem_mem hlt)
      have hat := hq i
      rw [List.getElem?_eq_getElem hlt] at hat
      rw [List.drop_eq_getElem_cons hlt, List.filterMap_cons]
      conv => lhs; unfold lcTurns
      simp only [hat]
      cases hg : g xs[i] env st with
      | ok env' st' =>
        rw [hg] at hx
        simp only [R.bind_ok] at hx ⊢
        cases ht : t env' st' with
        | ok k st2 =>
          rw [ht] at hx
          simp only [R.bind_ok] at hx ⊢
          cases k with
          | true =>
            simp only [if_true] at hx ⊢
            rename_i eM
            cases he : eM env' st2 with
            | ok y st3 =>
              rw [he] at hx
              simp only [R.bind_ok, R.ok.injEq] at hx ⊢
              obtain ⟨hx1, hx2⟩ := hx
              rw [← hx1, hx2, if_pos (by omega), ih (i + 1) (acc ++ [y]) (by omega) (by simp; omega)]
              simp
            | ex u st' => rw [he] at hx; cases hx
            | bad => rw [he] at hx; cases hx
          | false =>
            simp only [Bool.false_eq_true, if_false, R.ok.injEq] at hx ⊢
            obtain ⟨hx1, hx2⟩ := hx
            rw [← hx1, hx2, ih (i + 1) acc (by omega) (by omega)]
        | ex u st' => rw [ht] at hx; cases hx
        | bad => rw [ht] at hx; cases hx
      | ex u st' => rw [hg] at hx; cases hx
      | bad => rw [hg] at hx; cases hx
  have := go xs.length 0 [] (by omega) (by simp)
  simpa using this
/-! ### data -/
theorem mapO_map {α β γ : Type} {f : α → Option β} {h : γ → α} {r : γ → β} : ∀ {xs : List γ}, (∀ x ∈ xs, f (h x) = some (r x)) → mapO f (xs.map h) = some (xs.map r)
  | [], _ => rfl
  | x :: xs, hx => by
    simp only [List.map_cons, mapO, hx x (by simp), mapO_map (xs := xs) fun y hy => hx y (by simp [hy])]
theorem den_ints {st : Sto} {f : Nat} {w : List Int} : den st (f + 2) (.tup (w.map .int)) = some (.tuple (w.map .int)) := by
  simp only [den, mapO_map (f := den st (f + 1)) (h := AV.int) (r := PyData.int) (xs := w) fun x _ => rfl, Option.map_some]
theorem count_ints {st : Sto} {w : List Int} {s : Int} : oCountT (.tup (w.map .int)) [.int s] st = .ok (.int (w.count s : Nat)) st := by
  unfold oCountT oCount
  simp only [DEEP, den_ints, Option.bind_some, itemsOf, den]
  congr 3
  rw [List.countP_map, List.count_eq_countP]
  rfl
theorem locs_ints {w : List Int} : AV.locsL (w.map AV.int) = [] := locsL_flat fun v hv => by
  obtain ⟨i, _, rfl⟩ := List.mem_map.mp hv
  rfl
end Y
set_option Elab.async false
set_option linter.all false
set_option maxRecDepth 100000
/-! Y11: the draws -/
namespace Y
open PySem
def cutI (xs : List Int) (lo hi : Option Int) : List Int := (xs.drop (HT.sIx xs.length 0 lo)).take (HT.sIx xs.length xs.length hi - HT.sIx xs.length 0 lo)
theorem cutI_ok {xs : List Int} {lo hi : Option Int} : cutA (xs.map AV.int) lo hi = (cutI xs lo hi).map AV.int := by
  unfold cutA cutI
  rw [List.length_map, List.map_take, List.map_drop]
theorem cutI_len {xs : List Int} {lo hi : Option Int} : (cutI xs lo hi).length ≤ xs.length := by
  unfold cutI
  rw [List.length_take, List.length_drop]
  omega
def b__law_deck : MS := (msSeq (msIf (mtV (mOp oGe (mVar 0) (mOp oPow (mC (.int 10)) (mC (.int 18))))) (msRet (mN oLst (maCons (mOp oSub (mVar 0) (mOp oPow (mC (.int 10)) (mC (.int 18)))) (maCons (mOp oMod (mVar 0) (mC (.int 2147483579))) (maCons (mVar 1) maNil))))) msNext)
    (msRet (mN oLst (maCons (mC (.int 0)) (maCons (mOp oMod (mVar 0) (mC (.int 2147483579))) (maCons (mVar 1) maNil))))))
def m__law_deck : ON := fn 2 2 b__law_deck
def b__law_pick : MS := (msSeq (msIf (mtV (mOp oGt (mOp oIx (mVar 0) (mC (.int 0))) (mC (.int 1)))) (msSeq (msAsg (mOp oMod (mOp oIx (mVar 0) (mC (.int 0))) (mVar 1)) (mgName 2))
    (msSeq (msAsg (mOp oFdiv (mOp oIx (mVar 0) (mC (.int 0))) (mVar 1)) (mgSub (mVar 0) (mC (.int 0)) oSetL))
    (msRet (mVar 2)))) msNext)
    (msSeq (msAsg (mOp oAdd (mOp oIx (mVar 0) (mC (.int 2))) (mC (.int 1))) (mgSub (mVar 0) (mC (.int 2)) oSetL))
    (msSeq (msAsg (mOp oMod (mOp oPow (mOp oAdd (mOp oIx (mVar 0) (mC (.int 1))) (mOp oMul (mC (.int 15485867)) (mOp oIx (mVar 0) (mC (.int 2))))) (mC (.int 5))) (mC (.int 2147483647))) (mgName 3))
    (msSeq (msAsg (mOp oFdiv (mOp oMod (mOp oPow (mOp oAdd (mVar 3) (mOp oMul (mC (.int 7919)) (mOp oIx (mVar 0) (mC (.int 2))))) (mC (.int 3))) (mC (.int 2147483629))) (mC (.int 32))) (mgName 2))
    (msSeq (msIf (mtV (mOp oGt (mVar 1) (mC (.int 1000000)))) (msRet (mOp oMod (mOp oAdd (mOp oMul (mVar 2) (mC (.int 2147483563))) (mVar 3)) (mVar 1))) msNext)
    (msRet (mOp oMod (mVar 2) (mVar 1))))))))
def m__law_pick : ON := fn 4 2 b__law_pick
theorem pow18 {st : Sto} : oPow (.int 10) (.int 18) st = .ok (.int 1000000000000000000) st := rfl
theorem deck_ok (cell t : Int) (st : Sto) : ∃ a b : Int, m__law_deck [.int cell, .int t] st = .ok (.loc st.length) (st ++ [.lst [.int a, .int b, .int t]]) ∧ 0 ≤ a ∧ 0 ≤ b ∧ b < 2147483579 := by
  unfold m__law_deck fn
  by_cases h : (1000000000000000000 : Int) ≤ cell
  · refine ⟨cell - 1000000000000000000, cell % 2147483579, ?_, by omega, by omega, by omega⟩
    simp [b__law_deck, startE, ev_seq, pow18, mod_ii, h, lst_ok, LIM, fin]
    exact gc_list rfl
  · refine ⟨0, cell % 2147483579, ?_, by omega, by omega, by omega⟩
    simp [b__law_deck, startE, ev_seq, pow18, mod_ii, h, lst_ok, LIM, fin]
    exact gc_list rfl
/-- the deck at k: its numbers, the turn at most m -/
def DeckAt (st : Sto) (k : Nat) (m : Int) : Prop := ∃ a b t : Int, st[k]? = some (.lst [.int a, .int b, .int t]) ∧ 0 ≤ a ∧ 0 ≤ b ∧ b < 2147483579 ∧ 0 ≤ t ∧ t ≤ m
theorem DeckAt.mono {st : Sto} {k : Nat} {m m' : Int} (h : DeckAt st k m) (hm : m ≤ m') : DeckAt st k m' :=
  let ⟨a, b, t, h1, h2, h3, h4, h5, h6⟩ := h; ⟨a, b, t, h1, h2, h3, h4, h5, Int.le_trans h6 hm⟩
theorem DeckAt.old {st g : Sto} {k : Nat} {m : Int} (h : DeckAt st k m) : DeckAt (st ++ g) k m :=
  let ⟨a, b, t, h1, h2⟩ := h; ⟨a, b, t, at_old h1, h2⟩
theorem DeckAt.other {st : Sto} {k j : Nat} {m : Int} {o : Ob} (h : DeckAt st k m) (hj : j ≠ k) : DeckAt (st.set j o) k m :=
  let ⟨a, b, t, h1, h2⟩ := h; ⟨a, b, t, by rw [List.getElem?_set_ne hj]; exact h1, h2⟩
theorem DeckAt.lt {st : Sto} {k : Nat} {m : Int} (h : DeckAt st k m) : k < st.length := let ⟨_, _, _, h1, _⟩ := h; (List.getElem?_eq_some_iff.mp h1).1
theorem pick_ok {st : Sto} {k : Nat} {m lim : Int} (h : DeckAt st k m) (hm : m < 1000000) (hl : 0 < lim ∧ lim < 1000) :
    ∃ (r : Int) (xs : List AV), m__law_pick [.loc k, .int lim] st = .ok (.int r) (st.set k (.lst xs)) ∧ 0 ≤ r ∧ r < lim ∧ DeckAt (st.set k (.lst xs)) k (m + 1) ∧ AV.locsL xs = [] := by
  obtain ⟨a, b, t, hk, ha, hb, hb2, ht, htm⟩ := h
  unfold m__law_pick fn
  have i0 : ∀ x y z : AV, L2.atI [x, y, z] 0 = some x := fun _ _ _ => rfl
  have i1 : ∀ x y z : AV, L2.atI [x, y, z] 1 = some y := fun _ _ _ => rfl
  have i2 : ∀ x y z : AV, L2.atI [x, y, z] 2 = some z := fun _ _ _ => rfl
  have j0 : ∀ x y z : AV, L2.ixN [x, y, z].length 0 = some 0 := fun _ _ _ => rfl
  have j2 : ∀ x y z : AV, L2.ixN [x, y, z].length 2 = some 2 := fun _ _ _ => rfl
  by_cases h : (1 : Int) < a
  · refine ⟨a % lim, [.int (a / lim), .int b, .int t], ?_, Int.emod_nonneg _ (by omega), Int.emod_lt_of_pos _ hl.1, ⟨a / lim, b, t, at_set hk, Int.ediv_nonneg ha (by omega), hb, hb2, ht, by omega⟩, rfl⟩
    simp [b__law_pick, startE, ev_seq, ix_l hk (i0 _ _ _), h, mod_ii hl.1, fdiv_ii (show 0 < lim ∧ lim < 1073741824 by omega), setL_ok hk (j0 _ _ _), fin]
    exact gc_same (by simp)
  · have hk2 := at_set (o' := .lst [.int a, .int b, .int (t + 1)]) hk
    have s1 : smallB 15485867 (t + 1) = true := rfl
    have s2 : smallB 7919 (t + 1) = true := rfl
    have p1 : oPow (.int (b + 15485867 * (t + 1))) (.int 5) (st.set k (.lst [.int a, .int b, .int (t + 1)])) = .ok (.int ((b + 15485867 * (t + 1)) ^ 5)) (st.set k (.lst [.int a, .int b, .int (t + 1)])) := pow_ii ⟨by omega, by omega, by omega⟩
    generalize hn : (b + 15485867 * (t + 1)) ^ 5 = n5 at p1
    have p2 : oPow (.int (n5 % 2147483647 + 7919 * (t + 1))) (.int 3) (st.set k (.lst [.int a, .int b, .int (t + 1)])) = .ok (.int ((n5 % 2147483647 + 7919 * (t + 1)) ^ 3)) (st.set k (.lst [.int a, .int b, .int (t + 1)])) := pow_ii ⟨by omega, by omega, by omega⟩
    generalize hq : (n5 % 2147483647 + 7919 * (t + 1)) ^ 3 = n3 at p2
    refine ⟨(n3 % 2147483629 / 32) % lim, [.int a, .int b, .int (t + 1)], ?_, Int.emod_nonneg _ (by omega), Int.emod_lt_of_pos _ hl.1, ⟨a, b, t + 1, hk2, ha, hb, hb2, by omega, by omega⟩, rfl⟩
    simp [b__law_pick, startE, ev_seq, ix_l hk (i0 _ _ _), ix_l hk (i2 _ _ _), h, setL_ok hk (j2 _ _ _), ix_l hk2 (i1 _ _ _), ix_l hk2 (i2 _ _ _), mul_ii s1, mul_ii s2, p1, p2, mod_ii hl.1, mod_ii (show (0 : Int) < 2147483647 by omega), mod_ii (show (0 : Int) < 2147483629 by omega), fdiv_ii (show (0 : Int) < 32 ∧ (32 : Int) < 1073741824 by omega),
      show ¬ (1000000 < lim) by omega, fin]
    exact gc_same (by simp)
end Y
set_option Elab.async false
set_option linter.all false
set_option maxRecDepth 100000
/-! Y12: a tuple or a list times a number, < of data, sorted, a list turned round -/
namespace Y
open PySem PySem.Spec L2
open PyProof.Rows hiding St
theorem tuple_mul1 (l : Addr) (items : Array Value) (n : Nat) (u : Tok) (dd : Option Addr) (sl : Array (Option Value)) :
    Meets (Builtin.«tuple.__mul__» ⟨[.ref l, .int 1 u], []⟩) (fun _ R s => s.heap.get? l = some { cls := .type "tuple", dict := dd, data := .seq items n, slots := sl } ∧ R (.ok (.ret (Value.ref l))) s) :=
  .of_wp fun prog w A R s h => by
    obtain ⟨hp, g, d, tk, os⟩ := s
    obtain ⟨hl, h⟩ := h
    have f1 := AutoSeq1.idx_int
    wp_walk using wpAny_loadPart' hl
    exact ⟨_, rfl, h⟩
theorem tuple_mul0 (l : Addr) (items : Array Value) (n : Nat) (u : Tok) (dd : Option Addr) (sl : Array (Option Value)) (hne : items.isEmpty = false) :
    Meets (Builtin.«tuple.__mul__» ⟨[.ref l, .int 0 u], []⟩) (fun _ R s => s.heap.get? l = some { cls := .type "tuple", dict := dd, data := .seq items n, slots := sl } ∧
      R (.ok (.ret (Value.ref s.heap.objs.size))) { s with heap := s.heap.push { cls := Value.type "tuple", data := Data.seq #[] }, toks := s.toks }) :=
  .of_wp fun prog w A R s h => by
    obtain ⟨hp, g, d, tk, os⟩ := s
    obtain ⟨hl, h⟩ := h
    have f1 := AutoSeq1.idx_int
    wp_walk using wpAny_loadPart' hl
    all_goals exact ⟨_, rfl, h⟩
/-- t * k: one time t is t itself; the product is a plain tuple -/
def rRepA (K : PySem.W.Frag) : R2 := fun x y H Q => ∃ l k xs, x = .ref l ∧ y = .int k ∧ SqT K H l xs ∧ xs ≠ [] ∧ 0 ≤ k ∧ k ≤ 1000 ∧ xs.length ≤ 1000 ∧ (k = 1 → Q (.ref l) H) ∧
  (k ≠ 1 → ∀ p o, o.cls = .type "tuple" → o.dict = none → H p = none → Q (.ref p) (upd H p (pT o (List.replicate k.toNat xs).flatten)))
section
variable {X : Cx}
theorem op_repA : OpR X (binaryOp .Mult) (rRepA X.K) := by
  intro pins s σ H x y v u Q I rx ry h
  obtain ⟨l, k, xs, rfl, rfl, hT, hne, h1, h2, hz, q1, q2⟩ := h
  cases rx
  obtain ⟨t, rfl⟩ := ry
  obtain ⟨its, r, ⟨⟨cls, dd, data, sl⟩, ho, hc, n, hd⟩, hs⟩ := I.tuple hT
  simp only at hc hd
  subst hc hd
  have hle : its.length = xs.length := r.length.symm
  have hi : its.toArray.isEmpty = false := by
    cases its with
    | nil => cases r; exact absurd rfl hne
    | cons a b => rfl
  have road : ∀ {Q' : Value → Shared → Prop}, wpAny (model X.prog X.w) X.A (call (.builtin "tuple.__mul__") [.ref l, .int k t]) Q' X.xe s → wpAny (model X.prog X.w) X.A (binaryOp .Mult (.ref l) (.int k t)) Q' X.xe s := fun {Q'} hq =>
    wpAny_binaryOp_repeat_ref (T := "tuple") (U := "int") (by decide) ⟨_, ho, rfl⟩ (fun s' => typeIs_int s' k t) noFill_tuple_mul F.fills_int_mul F.slot_int_rmul repeat_tuple F.slot_int_index.lookup
      (call_meets F.slot_int_rmul (typeIs_int s k t) F.entry_int_rmul (F.args_int_rmul_2 _ _) (int_rmul_tuple k t l its.toArray n dd sl) ⟨ho, rfl, ⟨_, ho, rfl⟩, hq⟩)
  have flen : (List.replicate k.toNat its).flatten.length ≤ sizeLine := by
    rw [PyProof.Rows.lm_len_rep_flat, hle, sizeLine_eq]
    have a1 : k.toNat * xs.length ≤ 1000 * 1000 := Nat.mul_le_mul (by omega) hz
    omega
  have flen' : (List.replicate k.toNat xs).flatten.length ≤ sizeLine := by
    rw [PyProof.Rows.lm_len_rep_flat, sizeLine_eq]
    have a1 : k.toNat * xs.length ≤ 1000 * 1000 := Nat.mul_le_mul (by omega) hz
    omega
  by_cases hk1 : k = 1
  · subst hk1
    exact road (call_meets F.slot_tuple_mul ⟨_, ho, rfl⟩ F.entry_tuple_mul (F.args_tuple_mul_2 _ _) (tuple_mul1 l its.toArray n t dd sl) ⟨ho, ⟨.ref l, H, I, rfl, q1 rfl⟩⟩)
  by_cases hk : 2 ≤ k
  · have hsz0 : its.toArray.size = xs.length := by rw [List.size_toArray, hle]
    have hm : ((its.toArray.size : Nat) : Int) * k ≤ 1000000 := by
      rw [hsz0]
      have a1 : ((xs.length : Nat) : Int) * k ≤ 1000 * k := Int.mul_le_mul_of_nonneg_right (by omega) (by omega)
      omega
    have c0 : (decide (k < -(2 ^ 63)) || decide (k ≥ 2 ^ 63)) = false := by
      rw [decide_eq_false (by omega), decide_eq_false (by omega)] <;> rfl
    have c1 : (its.toArray.isEmpty || k == 1) = false := by
      rw [hi, Bool.false_or]
      exact beq_eq_false_iff_ne.mpr (by omega)
    have c2 : (decide (k ≤ 0) || its.toArray.isEmpty) = false := by
      rw [hi, Bool.or_false]
      exact decide_eq_false (by omega)
    have c4 : Builtin.Tuple.tupleTooMany (((its.toArray.size : Nat) : Int) * k) = false := by
      unfold Builtin.Tuple.tupleTooMany
      rw [sizeLine_eq]
      exact decide_eq_false (by omega)
    refine road (call_meets F.slot_tuple_mul ⟨_, ho, rfl⟩ F.entry_tuple_mul (F.args_tuple_mul_2 _ _) (tuple_mulW l its.toArray n dd sl k t c0 c1 c2 (by omega) c4 (by rw [size_rep, List.size_toArray]; exact flen)) ⟨ho, ?_⟩)
    rw [size_rep]
    exact ⟨.ref s.heap.objs.size, _, Inv.lplain (t' := s.toks) I (r.rep k.toNat) flen', rfl, q2 hk1 _ _ rfl rfl (I.hok.fresh (Nat.le_refl _))⟩
  · have hk0 : k = 0 := by omega
    subst hk0
    refine road (call_meets F.slot_tuple_mul ⟨_, ho, rfl⟩ F.entry_tuple_mul (F.args_tuple_mul_2 _ _) (tuple_mul0 l its.toArray n t dd sl hi) ⟨ho, ?_⟩)
    exact ⟨.ref s.heap.objs.size, _, Inv.lplain (t' := s.toks) (us := []) I .nil (Nat.zero_le _), rfl, q2 hk1 _ _ rfl rfl (I.hok.fresh (Nat.le_refl _))⟩
end
/-! ### t * k, xs * k -/
def oRepT : O2 := fun x y st => match x, y with
  | .tup xs, .int k => if 0 ≤ k ∧ k.natAbs ≤ 1000 ∧ xs.length ≤ 1000 ∧ xs.isEmpty = false then .ok (.tup (List.replicate k.toNat xs).flatten) st else .bad
  | _, _ => .bad
def oRepL : O2 := fun x y st => match x, y with
  | .loc a, .int k => match st[a]? with
    | some (.lst xs) => if 0 ≤ k ∧ k.natAbs ≤ 1000 ∧ xs.length ≤ 1000 then .ok (.loc st.length) (st ++ [.lst (List.replicate k.toNat xs).flatten]) else .bad
    | _ => .bad
  | _, _ => .bad
section
variable {X : Cx} {cm : CM} {E : EX} {G : GK} {K : PySem.W.Frag} {H : Hp} {ρ : Nat → Addr} {n : Nat} {st : Sto}
theorem RepL.rep {vs : List AV} {xs : List V} (h : RepL K H ρ n vs xs) : ∀ k : Nat, RepL K H ρ n (List.replicate k vs).flatten (List.replicate k xs).flatten
  | 0 => .nil
  | k + 1 => by
    rw [List.replicate_succ, List.replicate_succ, List.flatten_cons, List.flatten_cons]
    exact h.append (h.rep k)
theorem sn_repT : Snd2 (gX X cm) E oRepT (rRepA X.K) := by
  intro H ρ st a b x y Q s ra rb h
  unfold oRepT at h
  split at h
  · rename_i xs k
    obtain ⟨p, zs, rfl, hp, rp⟩ := rep_tup ra
    cases rep_int rb
    split at h
    · rename_i hc
      obtain ⟨c1, c2, c3, c4⟩ := hc
      refine ⟨p, k, zs, rfl, rfl, hp.seq, ?_, c1, by omega, by rw [← rp.length]; exact c3, fun e => ?_, fun _ p' o hcl hd hn => plain_at s (rp.rep k.toNat) hcl hd hn h⟩
      · intro e
        subst e
        cases rp
        cases c4
      · subst e
        have e1 : (List.replicate (1 : Int).toNat xs).flatten = xs := by simp
        rw [e1] at h
        exact Post.at (x := V.ref p) h s (.tup hp rp)
    · exact h.elim
  · exact h.elim
theorem sn_repL : Snd2 (gX X cm) E oRepL rRep := by
  intro H ρ st a b x y Q s ra rb h
  unfold oRepL at h
  split at h
  · rename_i a0 k
    obtain ⟨rfl, hk⟩ := rep_loc ra
    cases rep_int rb
    split at h
    · rename_i xs e1
      obtain ⟨zs, h1, r1⟩ := s.lst e1
      split at h
      · rename_i hc
        obtain ⟨c1, c2, c3⟩ := hc
        refine ⟨_, k, zs, rfl, rfl, h1, by omega, by omega, ?_, fun p hn => list_at s (r1.rep k.toNat) hn h⟩
        rw [sizeLine_eq]
        have a1 : zs.length * k.toNat ≤ 1000 * 1000 := Nat.mul_le_mul (by rw [← r1.length]; exact c3) (by omega)
        omega
      · exact h.elim
    · exact h.elim
  · exact h.elim
end
/-! ### < of data -/
def rLtD (K : PySem.W.Frag) : R2 := fun x y H Q => ∃ d e, Dp K H x d ∧ Dp K H y e ∧ PySem.W.alike d e = true ∧ d ≠ .none ∧ d.depth ≤ 16 ∧ Q (.bl (PySem.W.dataLt d e)) H
theorem op_ltD {X : Cx} (hu : X.A.units + 64 < cLine) : OpR X (compareOp .Lt) (rLtD X.K) := by
  intro pins s σ H x y v u Q I rx ry h
  obtain ⟨d, e, hd, he, al, dn, dd, q⟩ := h
  obtain ⟨as, r1⟩ := Dp.reads I d x v hd rx
  obtain ⟨bs, r2⟩ := Dp.reads I e y u he ry
  exact PySem.W.lt_data r1 r2 al dn (by omega) ⟨.bl _, H, I, rfl, q⟩
def isNone : PyData → Bool
  | .none => true
  | _ => false
def oLtD : O2 := fun x y st => match den st DEEP x, den st DEEP y with
  | some d, some e => if PySem.W.alike d e && !isNone d then .ok (.bl (PySem.W.dataLt d e)) st else .bad
  | _, _ => .bad
section
variable {X : Cx} {cm : CM} {E : EX} {G : GK} {K : PySem.W.Frag} {H : Hp} {ρ : Nat → Addr} {n : Nat} {st : Sto}
theorem sn_ltD : Snd2 (gX X cm) E oLtD (rLtD X.K) := by
  intro H ρ st a b x y Q s ra rb h
  unfold oLtD at h
  split at h
  · rename_i d e h1 h2
    obtain ⟨p1, p2, p3⟩ := dp_of s _ _ _ _ ra h1
    obtain ⟨q1, q2, q3⟩ := dp_of s _ _ _ _ rb h2
    split at h
    · rename_i hc
      rw [Bool.and_eq_true] at hc
      refine ⟨d, e, p1, q1, hc.1, ?_, p3, Post.at (x := V.bl _) h s (.bl _)⟩
      intro z; subst z; exact Bool.noConfusion hc.2
    · exact h.elim
  · exact h.elim
end
end Y
set_option Elab.async false
set_option linter.all false
set_option maxRecDepth 100000
/-! Y13: sorted, of lists of data -/
namespace Y
open PySem PySem.Spec L2
open PyProof.Rows hiding St
section
variable {α : Type} {le : α → α → Bool}
def ins (le : α → α → Bool) (x : α) : List α → List α
  | [] => [x]
  | y :: r => if le x y then x :: y :: r else y :: ins le x r
def isort (le : α → α → Bool) : List α → List α
  | [] => []
  | x :: r => ins le x (isort le r)
theorem ins_perm {x : α} : ∀ {l : List α}, (ins le x l).Perm (x :: l)
  | [] => .refl _
  | y :: r => by
    rw [ins]
    split
    · exact .refl _
    · exact (ins_perm.cons y).trans (.swap x y r)
theorem isort_perm : ∀ {l : List α}, (isort le l).Perm l
  | [] => .refl _
  | x :: r => ins_perm.trans (isort_perm.cons x)
theorem ins_pair (h : PySem.W.TotalLe le) {x : α} : ∀ {l : List α}, l.Pairwise (fun a b => le a b = true) → (ins le x l).Pairwise (fun a b => le a b = true)
  | [], _ => by simp [ins]
  | y :: r, hp => by
    rw [ins]
    rw [List.pairwise_cons] at hp
    split
    · rename_i hxy
      rw [List.pairwise_cons, List.pairwise_cons]
      refine ⟨fun a ha => ?_, hp⟩
      rcases List.mem_cons.mp ha with rfl | ha
      · exact hxy
      · exact h.trans _ _ _ hxy (hp.1 a ha)
    · rename_i hxy
      rw [List.pairwise_cons]
      refine ⟨fun a ha => ?_, ins_pair h hp.2⟩
      rcases List.mem_cons.mp (ins_perm.mem_iff.mp ha) with rfl | ha
      · exact (h.total a y).elim (fun z => absurd z hxy) id
      · exact hp.1 a ha
theorem isort_pair (h : PySem.W.TotalLe le) : ∀ {l : List α}, (isort le l).Pairwise (fun a b => le a b = true)
  | [] => .nil
  | x :: r => ins_pair h (isort_pair h)
theorem ins_filter (h : PySem.W.TotalLe le) {x c : α} : ∀ {l : List α}, (ins le x l).filter (PySem.W.sameRank le c) = (x :: l).filter (PySem.W.sameRank le c)
  | [] => rfl
  | y :: r => by
    rw [ins]
    split
    · rfl
    · rename_i hxy
      rw [List.filter_cons, ins_filter h, List.filter_cons, List.filter_cons, List.filter_cons]
      by_cases h1 : PySem.W.sameRank le c x = true
      · have h2 : ¬ PySem.W.sameRank le c y = true := fun z => by
          unfold PySem.W.sameRank at h1 z
          rw [Bool.and_eq_true] at h1 z
          exact hxy (h.trans _ _ _ h1.2 z.1)
        rw [if_neg h2, if_neg h2]
      · rw [if_neg h1]
        simp only [if_neg h1]
theorem isort_filter (h : PySem.W.TotalLe le) {c : α} : ∀ {l : List α}, (isort le l).filter (PySem.W.sameRank le c) = l.filter (PySem.W.sameRank le c)
  | [] => rfl
  | x :: r => by
    rw [isort, ins_filter h, List.filter_cons, List.filter_cons, isort_filter h]
theorem isort_eq (h : PySem.W.TotalLe le) (l : List α) : l.mergeSort le = isort le l := (PySem.W.sort_unique h (isort_pair h) fun c => isort_filter h).symm
end
def leD {α : Type} (a b : α × PyData) : Bool := !PySem.W.dataLt b.2 a.2
theorem leD_eq {α : Type} : PySem.W.dataLe false (Prod.snd : α × PyData → PyData) = leD := by
  rw [PySem.W.dataLe_eq]; rfl
theorem leD_total {α : Type} : PySem.W.TotalLe (leD (α := α)) := by
  rw [← leD_eq]; exact PySem.W.sortLe_total _ _ _
def alikeB (ds : List PyData) : Bool := ds.all fun d => ds.all fun e => PySem.W.alike d e
theorem alikeB_ok {ds : List PyData} (h : alikeB ds = true) : PySem.W.AllAlike ds := fun d hd e he => List.all_eq_true.mp (List.all_eq_true.mp h d hd) e he
def isTupC : PyData → Bool
  | .tuple (_ :: _) => true
  | _ => false
def isPlain : PyData → Bool
  | .none => false
  | .tuple _ => false
  | _ => true
def sortB (ds : List PyData) : Bool := (ds.all isTupC) || (ds.all isPlain)
theorem sortB_ok {ds : List PyData} (h : sortB ds = true) : PySem.W.Sortable ds := by
  unfold sortB at h
  rw [Bool.or_eq_true] at h
  rcases h with h | h
  · refine .inl fun d hd => ?_
    have := List.all_eq_true.mp h d hd
    unfold isTupC at this
    split at this
    · exact ⟨_, _, rfl⟩
    · cases this
  · refine .inr fun d hd => ?_
    have := List.all_eq_true.mp h d hd
    unfold isPlain at this
    constructor
    · intro z; subst z; cases this
    · intro xs z; subst z; cases this
def rSortedD (K : PySem.W.Frag) : List V → Hp → VK → Prop := fun vs H Q => ∃ a xs ds, vs = [.ref a] ∧ SqL K H a xs ∧ DpAll K H xs ds ∧ PySem.W.AllAlike ds ∧ PySem.W.Sortable ds ∧ PyData.depthAll ds ≤ 16 ∧
  ∀ p, H p = none → Q (.ref p) (upd H p (.lst ((isort leD (xs.zip ds)).map Prod.fst)))
theorem dpAll_len {K : PySem.W.Frag} {H : Hp} : ∀ {xs : List V} {ds : List PyData}, DpAll K H xs ds → xs.length = ds.length
  | _, _, .nil => rfl
  | _, _, .cons _ h => by simp [dpAll_len h]
theorem depth_le {ds : List PyData} {n : Nat} (h : PyData.depthAll ds ≤ n) : ∀ d ∈ ds, d.depth ≤ n := by
  induction ds with
  | nil => intro d hd; cases hd
  | cons e es ih =>
    rw [PyData.depthAll] at h
    intro d hd
    rcases List.mem_cons.mp hd with rfl | hd
    · omega
    · exact ih (by omega) d hd
section
variable {X : Cx}
theorem each_of {pins : List (Addr × Obj)} {σ : St} {H : Hp} {s : Shared} (I : Inv X pins σ H s) : ∀ {xs : List V} {its : List Value} {ds : List PyData}, Vals xs its → DpAll X.K H xs ds →
    PySem.W.EachIs (fun v (b : V × PyData) => RelV b.1 v) its (xs.zip ds) ∧ PySem.W.EachIs (fun v (b : V × PyData) => ∃ as, Reads s.heap v b.2 as) its (xs.zip ds)
  | _, _, _, .nil, .nil => ⟨.nil, .nil⟩
  | _, _, _, .cons r1 r2, .cons h1 h2 => ⟨.cons r1 (each_of I r2 h2).1, .cons (Dp.reads I _ _ _ h1 r1) (each_of I r2 h2).2⟩
theorem vals_each : ∀ {out : List Value} {bs : List (V × PyData)}, PySem.W.EachIs (fun v (b : V × PyData) => RelV b.1 v) out bs → Vals (bs.map Prod.fst) out
  | _, _, .nil => .nil
  | _, _, .cons r h => .cons r (vals_each h)
theorem zipV_snd {xs : List V} {ds : List PyData} (h : xs.length = ds.length) : (xs.zip ds).map Prod.snd = ds := by
  rw [List.map_snd_zip]; omega
theorem cr_sortedD (hu : X.A.units + 64 < cLine) : CallR X (.builtin "sorted") (rSortedD X.K) := by
  intro pins s σ H vs us Q I r h
  obtain ⟨a, xs, ds, rfl, hs, hd, hal, hsr, hdp, q⟩ := h
  obtain ⟨its, rv, hl, hz⟩ := I.list hs
  rw [Vals.ref1 r]
  have hlen := dpAll_len hd
  obtain ⟨e1, e2⟩ := each_of I rv hd
  have hzl : (xs.zip ds).length = xs.length := by rw [List.length_zip, ← hlen, Nat.min_self]
  refine PySem.W.sorted_data (enc := Prod.snd) hl.isList e1 e2 (by rw [zipV_snd hlen]; exact hal) (by rw [zipV_snd hlen]; exact hsr) (by rw [hzl]; exact hz) (fun b hb => ?_) fun out h1 h2 => ?_
  · have : b.2 ∈ ds := by rw [← zipV_snd hlen]; exact List.mem_map.mpr ⟨b, hb, rfl⟩
    have := depth_le hdp b.2 this
    omega
  · rw [leD_eq, isort_eq leD_total] at h2
    obtain ⟨ep, he'⟩ := PyProof.Rows.sortedAll_at s.heap its out.toArray
    have hlen2 : ((isort leD (xs.zip ds)).map Prod.fst).length ≤ sizeLine := by rw [List.length_map, isort_perm.length_eq, hzl]; exact hz
    exact ⟨.ref _, upd H (s.heap.objs.size + 1) (.lst ((isort leD (xs.zip ds)).map Prod.fst)), I.laid (t' := s.toks) (fun _ _ => PyProof.Rows.sortedAll_old) (Nat.le_succ _) ⟨hlen2, out, ep, vals_each h2, he'⟩, rfl, q _ (I.hok.fresh (Nat.le_succ _))⟩
end
/-- sorted(xs) -/
def oSorted : ON := fun vs st => match vs with
  | [.loc k] => match rdL st k with
    | some zs => match mapO (den st DEEP) zs with
      | some ds => if alikeB ds && sortB ds then .ok (.loc st.length) (st ++ [.lst ((isort leD (zs.zip ds)).map Prod.fst)]) else .bad
      | none => .bad
    | none => .bad
  | _ => .bad
section
variable {X : Cx} {cm : CM} {E : EX} {G : GK} {K : PySem.W.Frag} {H : Hp} {ρ : Nat → Addr} {n : Nat} {st : Sto}
inductive RepZ (K : PySem.W.Frag) (H : Hp) (ρ : Nat → Addr) (n : Nat) : List (AV × PyData) → List (V × PyData) → Prop
  | nil : RepZ K H ρ n [] []
  | cons {v : AV} {x : V} {d : PyData} {r : List (AV × PyData)} {q : List (V × PyData)} : Rep K H ρ n v x → RepZ K H ρ n r q → RepZ K H ρ n ((v, d) :: r) ((x, d) :: q)
theorem repZ_of : ∀ {vs : List AV} {xs : List V} {ds : List PyData}, RepL K H ρ n vs xs → RepZ K H ρ n (vs.zip ds) (xs.zip ds)
  | [], _, ds, h => by cases h; cases ds <;> exact .nil
  | v :: vs, _, [], h => by cases h; exact .nil
  | v :: vs, _, d :: ds, h => by
    cases h with
    | cons h1 h2 => exact .cons h1 (repZ_of h2)
theorem RepZ.ins {v : AV} {x : V} {d : PyData} (r : Rep K H ρ n v x) : ∀ {l : List (AV × PyData)} {m : List (V × PyData)}, RepZ K H ρ n l m → RepZ K H ρ n (Y.ins leD (v, d) l) (Y.ins leD (x, d) m)
  | _, _, .nil => .cons r .nil
  | _, _, .cons (d := e) r2 h => by
    rw [Y.ins, Y.ins]
    show RepZ K H ρ n (if (!PySem.W.dataLt e d) = true then _ else _) (if (!PySem.W.dataLt e d) = true then _ else _)
    split
    · exact .cons r (.cons r2 h)
    · exact .cons r2 (h.ins r)
theorem RepZ.isort : ∀ {l : List (AV × PyData)} {m : List (V × PyData)}, RepZ K H ρ n l m → RepZ K H ρ n (Y.isort leD l) (Y.isort leD m)
  | _, _, .nil => .nil
  | _, _, .cons r h => h.isort.ins r
theorem RepZ.fst : ∀ {l : List (AV × PyData)} {m : List (V × PyData)}, RepZ K H ρ n l m → RepL K H ρ n (l.map Prod.fst) (m.map Prod.fst)
  | _, _, .nil => .nil
  | _, _, .cons r h => .cons r h.fst
theorem sn_sorted : SndN (gX X cm) E oSorted (rSortedD X.K) := by
  intro H ρ st vs xs Q s r h
  unfold oSorted at h
  split at h
  · obtain ⟨x, rfl, rx⟩ := r.one
    obtain ⟨rfl, hk⟩ := rep_loc rx
    split at h
    · rename_i zs hx
      obtain ⟨ys, h1, r1⟩ := s.lst (rdL_some hx)
      split at h
      · rename_i ds hd
        split at h
        · rename_i hc
          rw [Bool.and_eq_true] at hc
          obtain ⟨d1, d2, d3⟩ := dps_of (dp_of s DEEP) r1 hd
          exact ⟨_, ys, ds, rfl, SqL.of h1, d1, alikeB_ok hc.1, sortB_ok hc.2, d3, fun p hn => list_at s (repZ_of r1).isort.fst hn h⟩
        · exact h.elim
      · exact h.elim
    · exact h.elim
  · exact h.elim
/-- xs[::-1] -/
def oRev : O1 := fun x st => match x with
  | .loc k => match rdL st k with
    | some zs => .ok (.loc st.length) (st ++ [.lst zs.reverse])
    | none => .bad
  | _ => .bad
end
end Y
set_option Elab.async false
set_option linter.all false
set_option maxRecDepth 100000
/-! Y14: a list turned round; the place of an int -/
namespace Y
open PySem PySem.Spec L2
open PyProof.Rows hiding St
section
variable {X : Cx} {cm : CM} {E : EX} {G : GK} {K : PySem.W.Frag} {H : Hp} {ρ : Nat → Addr} {n : Nat} {st : Sto}
theorem ye_rev {e : Expr} {m : ME} {k : Nat} {p1 p2 p3 pos : Pos} (he : PE X e (tE (gX X cm) E m)) : PE X (.Subscript e (.Slice none none (some (.UnaryOp .USub (.Constant (.int 1) k p1) p2)) p3) pos) (tE (gX X cm) E (mUn oRev m)) :=
  PE.weak (pe_revL he) fun σ H Q ⟨ρ, st, env, hs, he, hp⟩ => ⟨ρ, st, env, hs, he, hp.bindI fun v st1 H1 ρ1 x e1 s1 r1 hp1 => by
    have r1 : Rep X.K H1 ρ1 st1.length v x := r1
    unfold oRev at hp1
    split at hp1
    · obtain ⟨rfl, hk⟩ := rep_loc r1
      split at hp1
      · rename_i zs hz
        obtain ⟨ys, h1, r2⟩ := s1.lst (rdL_some hz)
        exact ⟨_, ys, rfl, SqL.of h1, fun p hn => list_at s1 r2.rev hn hp1⟩
      · exact hp1.elim
    · exact hp1.elim⟩
def isIntA : AV → Bool
  | .int _ => true
  | _ => false
def isI (j : Int) : AV → Bool
  | .int i => decide (i = j)
  | _ => false
/-- xs.index(j), all ints -/
def oIndexI : OM := fun x vs st => match x, vs with
  | .loc k, [.int j] => match rdL st k with
    | some zs => if zs.all isIntA then (match zs.findIdx? (isI j) with
      | some i => .ok (.int (i : Nat)) st
      | none => .bad) else .bad
    | none => .bad
  | _, _ => .bad
theorem ints_of : ∀ {zs : List AV} {ys : List V}, zs.all isIntA = true → RepL K H ρ n zs ys → ∃ ns : List Int, zs = ns.map AV.int ∧ ys = ns.map V.int
  | [], _, _, h => by cases h; exact ⟨[], rfl, rfl⟩
  | z :: zs, _, ha, h => by
    rw [List.all_cons, Bool.and_eq_true] at ha
    cases h with
    | cons h1 h2 =>
      obtain ⟨ns, e1, e2⟩ := ints_of ha.2 h2
      cases z with
      | int i => cases rep_int h1; exact ⟨i :: ns, by rw [e1]; rfl, by rw [e2]; rfl⟩
      | _ => exact absurd ha.1 (by simp [isIntA])
theorem sn_indexI : SndM (gX X cm) E oIndexI (rIndex X.K) := by
  intro H ρ st a x vs xs Q s ra rs h
  unfold oIndexI at h
  split at h
  · rename_i k j
    obtain ⟨y, rfl, ry⟩ := rs.one
    cases rep_int ry
    obtain ⟨rfl, hk⟩ := rep_loc ra
    split at h
    · rename_i zs hz
      split at h
      · rename_i hi
        obtain ⟨ys, h1, r1⟩ := s.lst (rdL_some hz)
        obtain ⟨ns, rfl, rfl⟩ := ints_of hi r1
        split at h
        · rename_i i hf
          rw [List.findIdx?_eq_some_iff_getElem] at hf
          obtain ⟨hl, hp, hno⟩ := hf
          rw [List.length_map] at hl
          have hat : ∀ m (hm : m < ns.length), (ns.map V.int)[m]? = some (V.int ns[m]) := fun m hm => by rw [List.getElem?_map, List.getElem?_eq_getElem hm]; rfl
          refine ⟨_, ns.map V.int, .int j, i, .int ns[i], rfl, rfl, SqL.of h1, rfl, ?_, hat i hl, ?_, ?_, Post.at (x := V.int _) h s (.int _)⟩
          · rw [List.all_map, List.all_eq_true]; intro z _; rfl
          · rw [List.getElem_map] at hp
            simp only [isI, decide_eq_true_eq] at hp
            rw [hp]; simp [eqV]
          · intro m z' hm hz'
            have hml : m < ns.length := by omega
            rw [hat m hml] at hz'
            cases hz'
            have := hno m hm
            rw [List.getElem_map] at this
            simp only [isI, decide_eq_true_eq] at this
            simp [eqV, this]
        · exact h.elim
      · exact h.elim
    · exact h.elim
  · exact h.elim
end
end Y
set_option Elab.async false
set_option linter.all false
set_option maxRecDepth 100000
set_option maxHeartbeats 4000000
/-! Y15: one who comes, sits or goes on -/
namespace Y
open PySem
def b__law_comers : MS := (msSeq (msAsg (mN oLst (maCons (mC (.str "ada")) (maCons (mC (.str "bo")) (maCons (mC (.str "cy")) (maCons (mC (.str "dee")) (maCons (mC (.str "eli")) (maCons (mC (.str "fay")) (maCons (mC (.str "gus")) (maCons (mC (.str "hal")) (maCons (mC (.str "ivo")) (maCons (mC (.str "jan")) (maCons (mC (.str "kit")) (maCons (mC (.str "lou")) maNil))))))))))))) (mgName 3))
    (msSeq (msAsg (mIf (mtV (mOp oIx (mVar 1) (mC (.int 1)))) (mN oMin2 (maCons (mVar 2) (maCons (mOp oIx (mVar 1) (mC (.int 0))) maNil))) (mVar 2)) (mgName 4))
    (msSeq (msAsg (mN m__law_pick (maCons (mVar 0) (maCons (mOp oIx (mVar 1) (mC (.int 0))) maNil))) (mgName 5))
    (msSeq (msAsg (mN oLst maNil) (mgName 6))
    (msSeq (msFor (miR1 (maCons (mOp oIx (mN oLst (maCons (mVar 4) (maCons (mN m__law_pick (maCons (mVar 0) (maCons (mOp oAdd (mVar 4) (mC (.int 1))) maNil))) maNil))) (mN m__law_pick (maCons (mVar 0) (maCons (mC (.int 2)) maNil)))) maNil)) (mgName 7) (msSeq (msAsg (mGc (mOp oIx (mN oLst (maCons (mOp oMod (mOp oAdd (mVar 5) (mN m__law_pick (maCons (mVar 0) (maCons (mC (.int 3)) maNil)))) (mOp oIx (mVar 1) (mC (.int 0)))) (maCons (mN m__law_pick (maCons (mVar 0) (maCons (mOp oIx (mVar 1) (mC (.int 0))) maNil))) maNil))) (mN m__law_pick (maCons (mVar 0) (maCons (mC (.int 2)) maNil))))) (mgName 8))
    (msExpr (mMet .list oAppend (mVar 6) (maCons (mN oTup (maCons (mMet .list oPopAt (mVar 3) (maCons (mN m__law_pick (maCons (mVar 0) (maCons (mN oLen (maCons (mVar 3) maNil)) maNil))) maNil)) (maCons (mVar 8) maNil))) maNil)))))
    (msRet (mVar 6)))))))
def m__law_comers : ON := fn 9 3 b__law_comers
def b_far : MS := (msRet (mOp oMod (mOp oSub (mVar 2) (mOp oIx (mVar 1) (mC (.int 1)))) (mOp oIx (mVar 0) (mC (.int 0)))))
def m_far : ON := fn 3 3 b_far
def b_stays : MS := (msSeq (msIf (mtV (mOp oEq (mOp oIx (mVar 0) (mC (.int 2))) (mC (.str "sits")))) (msRet (mC (.bl true))) msNext)
    (msSeq (msIf (mtV (mOp oEq (mOp oIx (mVar 0) (mC (.int 2))) (mC (.str "takes")))) (msRet (mC (.bl false))) msNext)
    (msRet (mOp oLtD (mN oTup (maCons (mUn oNeg (mN (oIso m_far) (maCons (mVar 0) (maCons (mVar 1) (maCons (mVar 3) maNil))))) (maCons (mOp oIx (mVar 1) (mC (.int 0))) maNil))) (mN oTup (maCons (mUn oNeg (mN (oIso m_far) (maCons (mVar 0) (maCons (mVar 2) (maCons (mVar 3) maNil))))) (maCons (mOp oIx (mVar 2) (mC (.int 0))) maNil)))))))
def m_stays : ON := fn 4 4 b_stays
def b_come : MS := (msSeq (msAsg (mVar 0) (mgTup [(mgName 3), (mgName 4), (mgName 5)]))
    (msSeq (msIf (mtAnd (mtV (mVar 4)) (mtV (mOp oNotIn (mC .non) (mVar 1)))) (msRaise1 "Full" (.str "a full ring")) msNext)
    (msSeq (msAsg (mN oListOf (maCons (mVar 1) maNil)) (mgName 6))
    (msSeq (msAsg (mOp oIx (mVar 2) (mC (.int 1))) (mgName 7))
    (msSeq (msWhile (mtV (mOp oIsNot (mOp oIx (mVar 6) (mVar 7)) (mC .non))) (msSeq (msAsg (mOp oIx (mVar 6) (mVar 7)) (mgName 8))
    (msSeq (msIf (mtNot (mtV (mN (oIso m_stays) (maCons (mVar 0) (maCons (mVar 8) (maCons (mVar 2) (maCons (mVar 7) maNil))))))) (msSeq (msAsg (mVar 2) (mgSub (mVar 6) (mVar 7) oSetL))
    (msAsg (mVar 8) (mgName 2))) msNext)
    (msSeq (msIf (mtAnd (mtNot (mtV (mVar 4))) (mtV (mOp oEq (mVar 7) (mOp oSub (mVar 3) (mC (.int 1)))))) (msRet (mN oTup (maCons (mN oTupOf (maCons (mVar 6) maNil)) (maCons (mVar 2) maNil)))) msNext)
    (msAsg (mOp oMod (mOp oAdd (mVar 7) (mC (.int 1))) (mVar 3)) (mgName 7))))))
    (msSeq (msAsg (mVar 2) (mgSub (mVar 6) (mVar 7) oSetL))
    (msRet (mN oTup (maCons (mN oTupOf (maCons (mVar 6) maNil)) (maCons (mC .non) maNil))))))))))
def m_come : ON := fn 9 3 b_come
def b_seated : MS := (msSeq (msAsg (mOp oRepT (mN oTup (maCons (mC .non) maNil)) (mOp oIx (mVar 0) (mC (.int 0)))) (mgName 2))
    (msSeq (msAsg (mN oLst maNil) (mgName 3))
    (msSeq (msFor (miSeq (mVar 1)) (mgName 4) (msSeq (msAsg (mN (oIso m_come) (maCons (mVar 0) (maCons (mVar 2) (maCons (mVar 4) maNil)))) (mgTup [(mgName 2), (mgName 5)]))
    (msIf (mtV (mOp oIsNot (mVar 5) (mC .non))) (msExpr (mMet .list oAppend (mVar 3) (maCons (mVar 5) maNil))) msNext)))
    (msRet (mN oTup (maCons (mVar 2) (maCons (mVar 3) maNil)))))))
def m_seated : ON := fn 6 2 b_seated
def b__law_hall : MS := (msSeq (msAsg (mGc (mOp oIx (mN oLst (maCons (mVar 1) (maCons (mOp oAdd (mC (.int 1)) (mN m__law_pick (maCons (mVar 0) (maCons (mVar 1) maNil)))) maNil))) (mN m__law_pick (maCons (mVar 0) (maCons (mC (.int 2)) maNil))))) (mgName 2))
    (msRet (mN oTup (maCons (mVar 2) (maCons (mOp oEq (mN m__law_pick (maCons (mVar 0) (maCons (mC (.int 2)) maNil))) (mC (.int 0))) (maCons (mOp oIx (mN oLst (maCons (mC (.str "sits")) (maCons (mC (.str "takes")) (maCons (mC (.str "farther")) maNil)))) (mN m__law_pick (maCons (mVar 0) (maCons (mC (.int 3)) maNil)))) maNil))))))
def m__law_hall : ON := fn 3 2 b__law_hall
def b__law_order : MS := (msSeq (msAsg (mN oLst maNil) (mgName 2))
    (msSeq (msFor (miSeq (mVar 1)) (mgName 3) (msExpr (mMet .list oInsert (mVar 2) (maCons (mN m__law_pick (maCons (mVar 0) (maCons (mOp oAdd (mN oLen (maCons (mVar 2) maNil)) (mC (.int 1))) maNil))) (maCons (mVar 3) maNil)))))
    (msRet (mVar 2))))
def m__law_order : ON := fn 4 2 b__law_order
def b__law_far : MS := (msSeq (msAsg (mC (.int 0)) (mgName 3))
    (msSeq (msWhile (mtV (mOp oNe (mOp oMod (mOp oAdd (mOp oIx (mVar 1) (mC (.int 1))) (mVar 3)) (mOp oIx (mVar 0) (mC (.int 0)))) (mVar 2))) (msAsg (mOp oAdd (mVar 3) (mC (.int 1))) (mgName 3)))
    (msRet (mVar 3))))
def m__law_far : ON := fn 4 3 b__law_far
def b__law_come : MS := (msSeq (msPar [3, 4] (maCons (mN oListOf (maCons (mVar 1) maNil)) (maCons (mOp oIx (mVar 2) (mC (.int 1))) maNil)))
    (msSeq (msWhile (mtV (mOp oLt (mVar 4) (mOp oIx (mVar 0) (mC (.int 0))))) (msSeq (msAsg (mOp oIx (mVar 3) (mVar 4)) (mgName 5))
    (msSeq (msIf (mtV (mOp oIs (mVar 5) (mC .non))) (msSeq (msAsg (mVar 2) (mgSub (mVar 3) (mVar 4) oSetL))
    (msRet (mN oTup (maCons (mN oTupOf (maCons (mVar 3) maNil)) (maCons (mC .non) maNil))))) msNext)
    (msSeq (msPar [6, 7] (maCons (mN (oIso m__law_far) (maCons (mVar 0) (maCons (mVar 5) (maCons (mVar 4) maNil)))) (maCons (mN (oIso m__law_far) (maCons (mVar 0) (maCons (mVar 2) (maCons (mVar 4) maNil)))) maNil)))
    (msSeq (msAsg (mOrV (mOp oEq (mOp oIx (mVar 0) (mC (.int 2))) (mC (.str "sits"))) (mAndV (mOp oEq (mOp oIx (mVar 0) (mC (.int 2))) (mC (.str "farther"))) (mOrV (mOp oGt (mVar 6) (mVar 7)) (mAndV (mOp oEq (mVar 6) (mVar 7)) (mOp oLt (mOp oIx (mVar 5) (mC (.int 0))) (mOp oIx (mVar 2) (mC (.int 0)))))))) (mgName 8))
    (msSeq (msIf (mtNot (mtV (mVar 8))) (msAsg (mN oTup (maCons (mVar 2) (maCons (mVar 5) maNil))) (mgTup [(mgSub (mVar 3) (mVar 4) oSetL), (mgName 2)])) msNext)
    (msSeq (msAsg (mOp oAdd (mVar 4) (mC (.int 1))) (mgName 4))
    (msIf (mtAnd (mtV (mOp oIx (mVar 0) (mC (.int 1)))) (mtV (mOp oEq (mVar 4) (mOp oIx (mVar 0) (mC (.int 0)))))) (msAsg (mC (.int 0)) (mgName 4)) msNext))))))))
    (msRet (mN oTup (maCons (mN oTupOf (maCons (mVar 3) maNil)) (maCons (mVar 2) maNil))))))
def m__law_come : ON := fn 9 3 b__law_come
def b_crossed : MS := (msSeq (msAsg (mN oLst maNil) (mgName 3))
    (msSeq (msFor (miR1 (maCons (mOp oIx (mVar 0) (mC (.int 0))) maNil)) (mgName 4) (msSeq (msAsg (mN oMax2 (maCons (mC (.int 0)) (maCons (mOp oSub (mOp oAdd (mVar 2) (mMet .tuple oCountT (mVar 1) (maCons (mVar 4) maNil))) (mC (.int 1))) maNil))) (mgName 2))
    (msExpr (mMet .list oAppend (mVar 3) (maCons (mVar 2) maNil)))))
    (msRet (mVar 3))))
def m_crossed : ON := fn 5 3 b_crossed
def b_borders : MS := (msSeq (msAsg (mN m_crossed (maCons (mVar 0) (maCons (mVar 1) (maCons (mC (.int 0)) maNil)))) (mgName 2))
    (msRet (mIf (mtV (mOp oIx (mVar 0) (mC (.int 1)))) (mN m_crossed (maCons (mVar 0) (maCons (mVar 1) (maCons (mOp oIx (mVar 2) (mUn oNeg (mC (.int 1)))) maNil)))) (mVar 2))))
def m_borders : ON := fn 3 2 b_borders
/-! ### typed -/
abbrev Cm := Str × Nat
abbrev encC (c : Cm) : AV := .tup [.str c.1, .int c.2]
def encO : Option Cm → AV
  | none => .non
  | some c => encC c
abbrev encS (rows : List (Option Cm)) : AV := .tup (rows.map encO)
abbrev encH (n : Nat) (r : Bool) (w : Str) : AV := .tup [.int n, .bl r, .str w]
theorem locs_C {c : Cm} : (encC c).locs = [] := rfl
theorem locs_O {o : Option Cm} : (encO o).locs = [] := by cases o <;> rfl
theorem locs_S {rows : List (Option Cm)} : (encS rows).locs = [] := by
  show AV.locsL (rows.map encO) = []
  refine locsL_flat fun v hv => ?_
  obtain ⟨o, _, rfl⟩ := List.mem_map.mp hv
  exact locs_O
section
variable {st : Sto}
theorem atI_nat {α : Type} {xs : List α} {i : Nat} {v : α} (h : xs[i]? = some v) : L2.atI xs (i : Int) = some v := by
  have hl := (List.getElem?_eq_some_iff.mp h).1
  unfold L2.atI L2.ixN
  rw [if_pos (by omega), if_pos (by omega)]
  exact h
theorem ixN_nat {n i : Nat} (h : i < n) : L2.ixN n (i : Int) = some i := by
  unfold L2.ixN
  rw [if_pos (by omega), if_pos (by omega)]; rfl
theorem eq_ss {a b : Str} : oEq (.str a) (.str b) st = .ok (.bl (decide (a = b))) st := by
  show R.ok (AV.bl (a == b)) st = _
  rw [Bool.beq_eq_decide_eq]
@[simp] theorem isNot_O {o : Option Cm} : oIsNot (encO o) .non st = .ok (.bl o.isSome) st := by cases o <;> rfl
@[simp] theorem is_O {o : Option Cm} : oIs (encO o) .non st = .ok (.bl o.isNone) st := by cases o <;> rfl
@[simp] theorem isNot_C {c : Cm} : oIsNot (encC c) .non st = .ok (.bl true) st := rfl
theorem ix_at {xs : List AV} {i : Nat} {v : AV} (h : xs[i]? = some v) : oIx (.tup xs) (.int (i : Nat)) st = .ok v st := ix_t (atI_nat h)
@[simp] theorem ix_C0 {a b : AV} : oIx (.tup [a, b]) (.int 0) st = .ok a st := rfl
@[simp] theorem ix_C1 {a b : AV} : oIx (.tup [a, b]) (.int 1) st = .ok b st := rfl
@[simp] theorem ix_H0 {a b c : AV} : oIx (.tup [a, b, c]) (.int 0) st = .ok a st := rfl
@[simp] theorem ix_H1 {a b c : AV} : oIx (.tup [a, b, c]) (.int 1) st = .ok b st := rfl
@[simp] theorem ix_H2 {a b c : AV} : oIx (.tup [a, b, c]) (.int 2) st = .ok c st := rfl
end
/-! ### far -/
def farF (n : Nat) (c : Cm) (s : Nat) : Nat := (s + n - c.2) % n
theorem far_mod {n w s : Nat} (hw : w ≤ n) (hn : 0 < n) : ((s : Int) - (w : Nat)) % (n : Nat) = (((s + n - w) % n : Nat) : Int) := by
  have e : ((s : Int) - (w : Nat)) = ((s + n - w : Nat) : Int) + (n : Nat) * (-1) := by omega
  rw [e, Int.add_mul_emod_self_left, Int.natCast_emod]
theorem far_ok {n : Nat} {r : Bool} {w : Str} {c : Cm} {s : Nat} (hc : c.2 ≤ n) (hn : 0 < n) : m_far [encH n r w, encC c, .int s] [] = .ok (.int (farF n c s)) [] := by
  unfold m_far fn
  have hb : b_far [some (encH n r w), some (encC c), some (.int s)] [] = .rt (.int (farF n c s)) [] := by
    simp only [b_far, ev_ret, ev_op, ev_varS, ev_var0, ev_C, R.bind_ok, ix_C1, ix_H0, sub_ii, mod_ii (show (0 : Int) < n by omega), far_mod hc hn, R.toFl_ok]
    rfl
  show (if 3 = 3 then gc [] (fin (b_far [some (encH n r w), some (encC c), some (.int s)] [])) else .bad) = _
  rw [if_pos rfl, hb]
  exact gc_same rfl
theorem far_iso {n : Nat} {r : Bool} {w : Str} {c : Cm} {s : Nat} {st : Sto} (hc : c.2 ≤ n) (hn : 0 < n) : oIso m_far [encH n r w, encC c, .int s] st = .ok (.int (farF n c s)) st := iso_ok rfl (far_ok hc hn) rfl
/-! ### stays -/
def nmLt (a b : Str) : Bool := decide (a.cps.toList < b.cps.toList)
def sSits : Str := Str.ofString "sits"
def sTakes : Str := Str.ofString "takes"
def staysF (n : Nat) (w : Str) (t c : Cm) (s : Nat) : Bool :=
  if w = sSits then true else if w = sTakes then false else decide (farF n c s < farF n t s ∨ (farF n t s = farF n c s ∧ t.1.cps.toList < c.1.cps.toList))
theorem ltD_pair {a b : Int} {x y : Str} {st : Sto} : oLtD (.tup [.int a, .str x]) (.tup [.int b, .str y]) st = .ok (.bl (decide (a < b ∨ (a = b ∧ x.cps.toList < y.cps.toList)))) st := by
  have h : PySem.W.dataLt (.tuple [.int a, .str x]) (.tuple [.int b, .str y]) = decide (a < b ∨ (a = b ∧ x.cps.toList < y.cps.toList)) := by
    rw [PySem.W.dataLt_pair rfl rfl, PySem.W.dataLt_int, PySem.W.dataLt_str]
    show (if (a == b) = true then if (x == y) = true then false else _ else _) = _
    by_cases e : a = b
    · subst e
      rw [if_pos (by simp)]
      by_cases f : x = y
      · subst f
        rw [if_pos (by simp)]
        simp [List.lt_irrefl]
      · rw [if_neg (by simpa using f)]
        simp
    · rw [if_neg (by simpa using e)]
      simp [e]
  show (if (PySem.W.alike (.tuple [.int a, .str x]) (.tuple [.int b, .str y]) && !isNone (.tuple [.int a, .str x])) = true then R.ok (AV.bl (PySem.W.dataLt (.tuple [.int a, .str x]) (.tuple [.int b, .str y]))) st else .bad) = _
  have e : (PySem.W.alike (.tuple [.int a, .str x]) (.tuple [.int b, .str y]) && !isNone (.tuple [.int a, .str x])) = true := rfl
  rw [if_pos e, h]
theorem stays_ok {n : Nat} {r : Bool} {w : Str} {t c : Cm} {s : Nat} (ht : t.2 ≤ n) (hc : c.2 ≤ n) (hn : 0 < n) : m_stays [encH n r w, encC t, encC c, .int s] [] = .ok (.bl (staysF n w t c s)) [] := by
  have hb : b_stays [some (encH n r w), some (encC t), some (encC c), some (.int s)] [] = .rt (.bl (staysF n w t c s)) [] := by
    unfold b_stays staysF
    rw [ev_seq]
    simp only [ev_ifS, ev_tV, ev_op, ev_varS, ev_var0, ev_C, R.bind_ok, ix_H2, eq_ss, R.toFl_ok, ev_ret, ev_next]
    by_cases h1 : w = sSits
    · rw [show Str.ofString "sits" = sSits from rfl]
      simp only [h1, decide_true, if_true]
    rw [show Str.ofString "sits" = sSits from rfl]
    simp only [h1, decide_false, Bool.false_eq_true, if_false]
    rw [ev_seq]
    simp only [ev_ifS, ev_tV, ev_op, ev_varS, ev_var0, ev_C, R.bind_ok, ix_H2, eq_ss, R.toFl_ok, ev_ret, ev_next]
    rw [show Str.ofString "takes" = sTakes from rfl]
    by_cases h2 : w = sTakes
    · simp only [h2, decide_true, if_true]
    simp only [h2, decide_false, Bool.false_eq_true, if_false]
    have l2 : ∀ a b : AV, ([a, b] : List AV).length ≤ LIM := fun a b => by show 2 ≤ LIM; decide
    simp only [ev_N, ev_cons, ev_nil, ev_un, ev_op, ev_varS, ev_var0, ev_C, R.bind_ok, far_iso ht hn, far_iso hc hn, neg_i, ix_C0, tup_ok (l2 _ _), ltD_pair, R.toFl_ok]
    congr 2
    apply decide_eq_decide.mpr
    constructor
    · rintro (h | ⟨h, h'⟩)
      · exact .inl (by omega)
      · exact .inr ⟨by omega, h'⟩
    · rintro (h | ⟨h, h'⟩)
      · exact .inl (by omega)
      · exact .inr ⟨by omega, h'⟩
  show (if 4 = 4 then gc [] (fin (b_stays [some (encH n r w), some (encC t), some (encC c), some (.int s)] [])) else .bad) = _
  rw [if_pos rfl, hb]
  exact gc_same rfl
theorem stays_iso {n : Nat} {r : Bool} {w : Str} {t c : Cm} {s : Nat} {st : Sto} (ht : t.2 ≤ n) (hc : c.2 ≤ n) (hn : 0 < n) : oIso m_stays [encH n r w, encC t, encC c, .int s] st = .ok (.bl (staysF n w t c s)) st := iso_ok rfl (stays_ok ht hc hn) rfl
/-! ### come -/
def goF (n : Nat) (r : Bool) (w : Str) : Nat → Nat → Cm → List (Option Cm) → Option (List (Option Cm) × Option Cm)
  | 0, _, _, _ => none
  | f + 1, s, c, rows => match rows[s]? with
    | none => none
    | some none => some (rows.set s (some c), none)
    | some (some t) =>
      let c' := if staysF n w t c s then c else t
      let rows' := if staysF n w t c s then rows else rows.set s (some c)
      if r = false ∧ s + 1 = n then some (rows', some c') else goF n r w f ((s + 1) % n) c' rows'
abbrev comeT : MT := (mtV (mOp oIsNot (mOp oIx (mVar 6) (mVar 7)) (mC .non)))
abbrev comeB : MS := (msSeq (msAsg (mOp oIx (mVar 6) (mVar 7)) (mgName 8))
    (msSeq (msIf (mtNot (mtV (mN (oIso m_stays) (maCons (mVar 0) (maCons (mVar 8) (maCons (mVar 2) (maCons (mVar 7) maNil))))))) (msSeq (msAsg (mVar 2) (mgSub (mVar 6) (mVar 7) oSetL))
    (msAsg (mVar 8) (mgName 2))) msNext)
    (msSeq (msIf (mtAnd (mtNot (mtV (mVar 4))) (mtV (mOp oEq (mVar 7) (mOp oSub (mVar 3) (mC (.int 1)))))) (msRet (mN oTup (maCons (mN oTupOf (maCons (mVar 6) maNil)) (maCons (mVar 2) maNil)))) msNext)
    (msAsg (mOp oMod (mOp oAdd (mVar 7) (mC (.int 1))) (mVar 3)) (mgName 7)))))
def Fits (n : Nat) (rows : List (Option Cm)) : Prop := rows.length = n ∧ ∀ t, some t ∈ rows → t.2 ≤ n
theorem Fits.set {n s : Nat} {rows : List (Option Cm)} {c : Cm} (h : Fits n rows) (hc : c.2 ≤ n) : Fits n (rows.set s (some c)) := by
  refine ⟨by rw [List.length_set]; exact h.1, fun t ht => ?_⟩
  rcases List.mem_or_eq_of_mem_set ht with h1 | h1
  · exact h.2 t h1
  · cases h1; exact hc
theorem rows_at {rows : List (Option Cm)} {s : Nat} {o : Option Cm} (h : rows[s]? = some o) : (rows.map encO)[s]? = some (encO o) := by rw [List.getElem?_map, h]; rfl
theorem map_set {rows : List (Option Cm)} {s : Nat} {c : Cm} : (rows.map encO).set s (encC c) = (rows.set s (some c)).map encO := by rw [List.map_set]; rfl
theorem while_ok {n : Nat} {r : Bool} {w : Str} {seating : AV} (hn : 0 < n ∧ n < 1000) : ∀ (f F : Nat) (s : Nat) (c : Cm) (rows : List (Option Cm)) (x8 : Option AV) (R' : List (Option Cm)) (o : Option Cm), f ≤ F → s < n → c.2 ≤ n → Fits n rows → goF n r w f s c rows = some (R', o) →
    (∃ (s' : Nat) (c' : Cm) (rows' : List (Option Cm)) (y8 : Option AV), o = none ∧ s' < n ∧ rows'.length = n ∧ R' = rows'.set s' (some c') ∧
      whileN comeT comeB F [some (encH n r w), some seating, some (encC c), some (.int n), some (.bl r), some (.str w), some (.loc 0), some (.int s), x8] [.lst (rows.map encO)] =
        .nx [some (encH n r w), some seating, some (encC c'), some (.int n), some (.bl r), some (.str w), some (.loc 0), some (.int s'), y8] [.lst (rows'.map encO)]) ∨
    ∃ e, o = some e ∧ whileN comeT comeB F [some (encH n r w), some seating, some (encC c), some (.int n), some (.bl r), some (.str w), some (.loc 0), some (.int s), x8] [.lst (rows.map encO)] =
        .rt (.tup [encS R', encC e]) [.lst (R'.map encO)]
  | 0, _, _, _, _, _, _, _, _, _, _, _, h => by simp [goF] at h
  | f + 1, 0, _, _, _, _, _, _, hF, _, _, _, _ => absurd hF (by omega)
  | f + 1, F + 1, s, c, rows, x8, R', o, hF, hs, hc, hfit, h => by
    have hlen := hfit.1
    have hsl : s < rows.length := by omega
    obtain ⟨o1, ho1⟩ : ∃ o1, rows[s]? = some o1 := ⟨_, List.getElem?_eq_getElem hsl⟩
    rw [goF, ho1] at h
    have hat := rows_at ho1
    have hix : oIx (.loc 0) (.int (s : Nat)) [.lst (rows.map encO)] = .ok (encO o1) [.lst (rows.map encO)] := ix_l (k := 0) rfl (atI_nat hat)
    cases o1 with
    | none =>
      cases h
      refine .inl ⟨s, c, rows, x8, rfl, hs, hlen, rfl, ?_⟩
      rw [whileN]
      simp only [ev_tV, ev_op, ev_varS, ev_var0, ev_C, R.bind_ok, hix, isNot_O, R.toFl_ok, Option.isSome_none, Bool.false_eq_true, if_false]
    | some t =>
      have ht : t.2 ≤ n := hfit.2 t (List.mem_of_getElem? ho1)
      have hix : oIx (.loc 0) (.int (s : Nat)) [.lst (rows.map encO)] = .ok (encC t) [.lst (rows.map encO)] := hix
      have hset : oSetL (.loc 0) (.int (s : Nat)) (encC c) [.lst (rows.map encO)] = .ok () [.lst ((rows.set s (some c)).map encO)] := by
        rw [setL_ok (k := 0) (j := s) rfl (ixN_nat (by rw [List.length_map]; exact hsl)), map_set]; rfl
      -- the body, up to the question of the border
      obtain ⟨c', hc'⟩ : ∃ c', c' = if staysF n w t c s then c else t := ⟨_, rfl⟩
      obtain ⟨rows', hr'⟩ : ∃ rows', rows' = if staysF n w t c s then rows else rows.set s (some c) := ⟨_, rfl⟩
      simp only [← hc', ← hr'] at h
      have hc2 : c'.2 ≤ n := by rw [hc']; split <;> assumption
      have hfit' : Fits n rows' := by
        rw [hr']; split
        · exact hfit
        · exact hfit.set hc
      have hbody : comeB [some (encH n r w), some seating, some (encC c), some (.int n), some (.bl r), some (.str w), some (.loc 0), some (.int s), x8] [.lst (rows.map encO)] =
          if r = false ∧ s + 1 = n then .rt (.tup [encS rows', encC c']) [.lst (rows'.map encO)] else
            .nx [some (encH n r w), some seating, some (encC c'), some (.int n), some (.bl r), some (.str w), some (.loc 0), some (.int ((s + 1) % n : Nat)), some (encC t)] [.lst (rows'.map encO)] := by
        unfold comeB
        rw [ev_seq]
        simp only [ev_asg, ev_op, ev_varS, ev_var0, R.bind_ok, hix, R.toFl_ok, ev_gName, List.set]
        have st2 : (msIf (mtNot (mtV (mN (oIso m_stays) (maCons (mVar 0) (maCons (mVar 8) (maCons (mVar 2) (maCons (mVar 7) maNil))))))) (msSeq (msAsg (mVar 2) (mgSub (mVar 6) (mVar 7) oSetL))
            (msAsg (mVar 8) (mgName 2))) msNext) [some (encH n r w), some seating, some (encC c), some (.int n), some (.bl r), some (.str w), some (.loc 0), some (.int s), some (encC t)] [.lst (rows.map encO)] =
            .nx [some (encH n r w), some seating, some (encC c'), some (.int n), some (.bl r), some (.str w), some (.loc 0), some (.int s), some (encC t)] [.lst (rows'.map encO)] := by
          simp only [ev_ifS, ev_tNot, ev_tV, ev_N, ev_cons, ev_nil, ev_varS, ev_var0, R.bind_ok, stays_iso ht hc hn.1, R.toFl_ok]
          rw [hc', hr']
          cases staysF n w t c s with
          | true => simp only [Bool.not_true, Bool.false_eq_true, if_false, if_true, ev_next]
          | false =>
            simp only [Bool.not_false, if_true, Bool.false_eq_true, if_false]
            rw [ev_seq]
            simp only [ev_asg, ev_varS, ev_var0, R.bind_ok, R.toFl_ok, ev_gSub, hset, ev_gName, List.set]
        rw [ev_seq, st2]
        simp only
        rw [ev_seq]
        have tp : oTupOf [.loc 0] [.lst (rows'.map encO)] = .ok (encS rows') [.lst (rows'.map encO)] := rfl
        have l2 : ∀ a b : AV, ([a, b] : List AV).length ≤ LIM := fun a b => by show 2 ≤ LIM; decide
        simp only [ev_ifS, ev_tAnd, ev_tNot, ev_tV, ev_op, ev_varS, ev_var0, ev_C, R.bind_ok, sub_ii, eq_ii, R.toFl_ok]
        cases r with
        | true =>
          simp only [Bool.not_true, Bool.false_eq_true, if_false, R.toFl_ok, ev_next, ev_asg, ev_op, ev_varS, ev_var0, ev_C, R.bind_ok, add_ii, mod_ii (show (0 : Int) < n by omega), ev_gName, List.set, false_and]
          have : ((s : Int) + 1) % (n : Nat) = (((s + 1) % n : Nat) : Int) := by rw [Int.natCast_emod]; rfl
          rw [this]
          simp
        | false =>
          by_cases hl : s + 1 = n
          · have d1 : decide ((s : Int) = (n : Nat) - 1) = true := decide_eq_true (by omega)
            simp only [Bool.not_false, if_true, d1, R.toFl_ok, ev_ret, ev_N, ev_cons, ev_nil, ev_varS, ev_var0, R.bind_ok, tp, tup_ok (l2 _ _), hl, and_self]
          · have d1 : decide ((s : Int) = (n : Nat) - 1) = false := decide_eq_false (by omega)
            simp only [Bool.not_false, if_true, d1, Bool.false_eq_true, if_false, R.toFl_ok, ev_next, ev_asg, ev_op, ev_varS, ev_var0, ev_C, R.bind_ok, add_ii, mod_ii (show (0 : Int) < n by omega), ev_gName, List.set, hl, and_false]
            have : ((s : Int) + 1) % (n : Nat) = (((s + 1) % n : Nat) : Int) := by rw [Int.natCast_emod]; rfl
            rw [this]
      have ht0 : comeT [some (encH n r w), some seating, some (encC c), some (.int n), some (.bl r), some (.str w), some (.loc 0), some (.int s), x8] [.lst (rows.map encO)] = .ok true [.lst (rows.map encO)] := by
        simp only [ev_tV, ev_op, ev_varS, ev_var0, ev_C, R.bind_ok, hix, isNot_C]
      have hw : whileN comeT comeB (F + 1) [some (encH n r w), some seating, some (encC c), some (.int n), some (.bl r), some (.str w), some (.loc 0), some (.int s), x8] [.lst (rows.map encO)] =
          step (if r = false ∧ s + 1 = n then .rt (.tup [encS rows', encC c']) [.lst (rows'.map encO)] else
            .nx [some (encH n r w), some seating, some (encC c'), some (.int n), some (.bl r), some (.str w), some (.loc 0), some (.int ((s + 1) % n : Nat)), some (encC t)] [.lst (rows'.map encO)]) (whileN comeT comeB F) := by
        rw [whileN, ht0]
        simp only [R.toFl_ok, if_true, hbody]
      by_cases hend : r = false ∧ s + 1 = n
      · rw [if_pos hend] at h hw
        cases h
        exact .inr ⟨c', rfl, hw⟩
      · rw [if_neg hend] at h hw
        have := while_ok (seating := seating) hn f F ((s + 1) % n) c' rows' (some (encC t)) R' o (by omega) (Nat.mod_lt _ hn.1) hc2 hfit' h
        rw [hw]
        exact this
theorem notIn_ok {rows : List (Option Cm)} {st : Sto} : oNotIn .non (encS rows) st = .ok (.bl (!rows.any Option.isNone)) st := by
  have hd : ∀ rows : List (Option Cm), ∃ ds, mapO (den st 15) (rows.map encO) = some ds ∧ (ds.any fun z => PyData.eqv z .none) = rows.any Option.isNone := by
    intro rows
    induction rows with
    | nil => exact ⟨[], rfl, rfl⟩
    | cons o rows ih =>
      obtain ⟨ds, h1, h2⟩ := ih
      cases o with
      | none => exact ⟨.none :: ds, by rw [List.map_cons, mapO, h1]; rfl, by rw [List.any_cons, h2, List.any_cons]; rfl⟩
      | some c => exact ⟨.tuple [.str c.1, .int c.2] :: ds, by rw [List.map_cons, mapO, h1]; rfl, by rw [List.any_cons, h2, List.any_cons]; rfl⟩
  obtain ⟨ds, h1, h2⟩ := hd rows
  unfold oNotIn
  have e1 : den st DEEP .non = some .none := rfl
  have e2 : den st DEEP (encS rows) = some (.tuple ds) := by
    show (mapO (den st 15) (rows.map encO)).map PyData.tuple = _
    rw [h1]; rfl
  rw [e1, e2]
  simp only [Option.bind_some, itemsOf, h2]
theorem come_ok {n : Nat} {r : Bool} {w : Str} {c : Cm} {rows R' : List (Option Cm)} {o : Option Cm} {f : Nat} (hn : 0 < n ∧ n < 1000) (hf : f ≤ 1000) (hc : c.2 < n) (hfit : Fits n rows) (hfree : r = true → none ∈ rows) (h : goF n r w f c.2 c rows = some (R', o)) :
    m_come [encH n r w, encS rows, encC c] [] = .ok (.tup [encS R', encO o]) [] := by
  have l2 : ∀ a b : AV, ([a, b] : List AV).length ≤ LIM := fun a b => by show 2 ≤ LIM; decide
  have hb : ∃ st', b_come [some (encH n r w), some (encS rows), some (encC c), none, none, none, none, none, none] [] = .rt (.tup [encS R', encO o]) st' := by
    unfold b_come
    rw [ev_seq]
    simp only [ev_asg, ev_var0, R.toFl_ok, ev_gTup, List.length_cons, List.length_nil, if_true, ev_gs1, ev_gs0, ev_gName, R.bind_ok, List.set]
    rw [ev_seq]
    have hif : (msIf (mtAnd (mtV (mVar 4)) (mtV (mOp oNotIn (mC .non) (mVar 1)))) (msRaise1 (Str.ofString "Full") (.str (Str.ofString "a full ring"))) msNext) [some (encH n r w), some (encS rows), some (encC c), some (.int n), some (.bl r), some (.str w), none, none, none] [] =
        .nx [some (encH n r w), some (encS rows), some (encC c), some (.int n), some (.bl r), some (.str w), none, none, none] [] := by
      simp only [ev_ifS, ev_tAnd, ev_tV, ev_op, ev_varS, ev_var0, ev_C, R.bind_ok, notIn_ok]
      cases r with
      | false => rfl
      | true =>
        have : rows.any Option.isNone = true := List.any_eq_true.mpr ⟨none, hfree rfl, rfl⟩
        simp only [if_true, this, R.toFl_ok, Bool.not_true, Bool.false_eq_true, if_false, ev_next]
    rw [hif]
    simp only
    rw [ev_seq]
    have hlo : oListOf [encS rows] [] = .ok (.loc 0) [.lst (rows.map encO)] := rfl
    simp only [ev_asg, ev_N, ev_cons, ev_nil, ev_varS, ev_var0, R.bind_ok, hlo, R.toFl_ok, ev_gName, List.set]
    rw [ev_seq]
    simp only [ev_asg, ev_op, ev_C, ev_varS, ev_var0, R.bind_ok, ix_C1, R.toFl_ok, ev_gName, List.set]
    rw [ev_seq]
    have hw := while_ok (r := r) (w := w) (seating := encS rows) hn f FUEL c.2 c rows none R' o hf hc (Nat.le_of_lt hc) hfit h
    rcases hw with ⟨s', c', rows', y8, rfl, hs', hl', rfl, e⟩ | ⟨u, rfl, e⟩
    · have hset : oSetL (.loc 0) (.int (s' : Nat)) (encC c') [.lst (rows'.map encO)] = .ok () [.lst ((rows'.set s' (some c')).map encO)] := by
        rw [setL_ok (k := 0) (j := s') rfl (ixN_nat (by rw [List.length_map]; omega)), map_set]; rfl
      have tp : ∀ rs : List (Option Cm), oTupOf [.loc 0] [.lst (rs.map encO)] = .ok (encS rs) [.lst (rs.map encO)] := fun _ => rfl
      rw [ev_while, e]
      simp only
      rw [ev_seq]
      simp only [ev_asg, ev_varS, ev_var0, R.bind_ok, R.toFl_ok, ev_gSub, hset, ev_ret, ev_N, ev_cons, ev_nil, tp, ev_C, tup_ok (l2 _ _)]
      exact ⟨_, rfl⟩
    · rw [ev_while, e]
      exact ⟨_, rfl⟩
  obtain ⟨st', hb⟩ := hb
  show (if 3 = 3 then gc [] (fin (b_come [some (encH n r w), some (encS rows), some (encC c), none, none, none, none, none, none] [])) else .bad) = _
  rw [if_pos rfl, hb]
  refine gc_drop (st := []) ?_
  show AV.locs (encS R') ++ (AV.locs (encO o) ++ []) = []
  rw [locs_S, locs_O]; rfl
end Y
set_option Elab.async false
set_option linter.all false
set_option maxRecDepth 100000
set_option maxHeartbeats 4000000
/-! Y16: the hall, the comers, an order, drawn; all seated -/
namespace Y
open PySem
/-! ### cleaning up behind a pair -/
theorem locsL_app : ∀ {xs ys : List AV}, AV.locsL (xs ++ ys) = AV.locsL xs ++ AV.locsL ys
  | [], _ => rfl
  | x :: xs, ys => by
    show AV.locs x ++ AV.locsL (xs ++ ys) = (AV.locs x ++ AV.locsL xs) ++ AV.locsL ys
    rw [locsL_app, List.append_assoc]
theorem gc_pair {st : Sto} {a : AV} {xs : List AV} {st' g : Sto} {j : Nat} (ha : a.locs = []) (hx : AV.locsL xs = []) (hl : st'.length = st.length) (ho : oldOk st.length st (st' ++ g) = true) (hj : g[j]? = some (.lst xs)) : gc st (.ok (.tup [a, .loc (st.length + j)]) (st' ++ g)) = .ok (.tup [a, .loc st.length]) (st' ++ [.lst xs]) := by
  simp only [gc]
  have hjl := (List.getElem?_eq_some_iff.mp hj).1
  have hg : ¬ (st' ++ g).length = st.length := by rw [List.length_append]; omega
  rw [if_neg hg]
  have hat : (st' ++ g)[st.length + j]? = some (.lst xs) := by rw [List.getElem?_append_right (by omega), hl, Nat.add_sub_cancel_left]; exact hj
  have h0 : AV.locs (.tup [a, .loc (st.length + j)]) = [st.length + j] := by
    show AV.locs a ++ ([st.length + j] ++ []) = _
    rw [ha]; rfl
  have h1 : addNew st.length [] [st.length + j] = [st.length + j] := by simp [addNew]
  have h2 : ∀ f, reach st.length (st' ++ g) f [st.length + j] = [st.length + j] := by
    intro f
    induction f with
    | zero => rfl
    | succ f ih =>
      rw [reach]
      simp only [List.flatMap_cons, List.flatMap_nil, hat, Ob.vals, hx, addNew, List.append_nil]
      exact ih
  rw [h0, h1, h2, ho]
  have hp : place st.length [st.length + j] (st.length + j) = some st.length := by
    unfold place
    rw [if_neg (by omega)]
    simp
  have hr : AV.ren (place st.length [st.length + j]) (.tup [a, .loc (st.length + j)]) = some (.tup [a, .loc st.length]) := by
    simp only [AV.ren, AV.renL, ren_none ha, hp, Option.map_some]
  simp only [nodupB, List.contains_nil, Bool.not_false, Bool.and_self, List.all_cons, List.all_nil, Bool.and_true, decide_eq_true_eq, Bool.true_and, Nat.le_add_right, decide_true, if_true, hr, mapO, hat, Option.bind_some, Ob.ren, renL_none hx, Option.map_some]
  rw [← hl, List.take_left']
  rfl
theorem under_flat {n : Nat} {xs : List AV} (h : AV.locsL xs = []) : (Ob.lst xs).under n = true := underL_none h
/-! ### a draw that changes the deck alone -/
/-- st' is st, another deck at k -/
def Dk (k : Nat) (m : Int) (st st' : Sto) : Prop := ∃ xs, st' = st.set k (.lst xs) ∧ AV.locsL xs = [] ∧ DeckAt st' k m
theorem Dk.trans {k : Nat} {m m' : Int} {a b c : Sto} (h1 : Dk k m a b) (h2 : Dk k m' b c) : Dk k m' a c := by
  obtain ⟨xs, rfl, e1, d1⟩ := h1
  obtain ⟨ys, rfl, e2, d2⟩ := h2
  exact ⟨ys, List.set_set .., e2, d2⟩
theorem Dk.len {k : Nat} {m : Int} {a b : Sto} (h : Dk k m a b) : b.length = a.length := by
  obtain ⟨xs, rfl, _⟩ := h
  exact List.length_set
theorem Dk.deck {k : Nat} {m : Int} {a b : Sto} (h : Dk k m a b) : DeckAt b k m := h.choose_spec.2.2
theorem Dk.at {k j : Nat} {m : Int} {a b : Sto} {o : Ob} (h : Dk k m a b) (hj : k ≠ j) (e : a[j]? = some o) : b[j]? = some o := by
  obtain ⟨xs, rfl, _⟩ := h
  rw [List.getElem?_set_ne hj]; exact e
theorem Dk.old {k : Nat} {m : Int} {a b : Sto} (h : Dk k m a b) {g : Sto} : oldOk a.length a (b ++ g) = true := by
  obtain ⟨xs, rfl, e, _⟩ := h
  exact oldOk_set (under_flat e)
theorem Dk.app {k : Nat} {m : Int} {a c g : Sto} (hk : k < a.length) (h : Dk k m (a ++ g) c) : ∃ b, Dk k m a b ∧ c = b ++ g := by
  obtain ⟨xs, rfl, e, d⟩ := h
  refine ⟨a.set k (.lst xs), ⟨xs, rfl, e, ?_⟩, set_old hk⟩
  obtain ⟨x, y, t, h1, h2⟩ := d
  refine ⟨x, y, t, ?_, h2⟩
  rw [set_old hk, List.getElem?_append_left (by rw [List.length_set]; exact hk)] at h1
  exact h1
theorem pick_d {st : Sto} {k : Nat} {m : Int} {lim : Nat} (h : DeckAt st k m) (hm : m < 1000000) (hl : 0 < lim ∧ lim < 1000) :
    ∃ (r : Nat) (st' : Sto), m__law_pick [.loc k, .int lim] st = .ok (.int r) st' ∧ r < lim ∧ Dk k (m + 1) st st' := by
  obtain ⟨r, xs, e, h1, h2, h3, h4⟩ := pick_ok (lim := (lim : Nat)) h hm (by omega)
  exact ⟨r.toNat, _, by rw [e, Int.toNat_of_nonneg h1], by omega, xs, rfl, h4, h3⟩
/-- [a, b][i] -/
theorem two_ix {a b : AV} {i : Nat} {st : Sto} (hi : i < 2) : oIx (.loc st.length) (.int (i : Nat)) (st ++ [.lst [a, b]]) = .ok (if i = 0 then a else b) (st ++ [.lst [a, b]]) := by
  refine ix_l at_new (atI_nat ?_)
  match i, hi with
  | 0, _ => rfl
  | 1, _ => rfl
theorem three_ix {a b c : AV} {i : Nat} {st : Sto} (hi : i < 3) : oIx (.loc st.length) (.int (i : Nat)) (st ++ [.lst [a, b, c]]) = .ok (if i = 0 then a else if i = 1 then b else c) (st ++ [.lst [a, b, c]]) := by
  refine ix_l at_new (atI_nat ?_)
  match i, hi with
  | 0, _ => rfl
  | 1, _ => rfl
  | 2, _ => rfl
/-- the same, the deck drawn from in between -/
theorem two_ix' {a b : AV} {i : Nat} {st st' : Sto} {n : Nat} (hi : i < 2) (hl : st'.length = n) : oIx (.loc n) (.int (i : Nat)) (st' ++ [.lst [a, b]]) = .ok (if i = 0 then a else b) (st' ++ [.lst [a, b]]) := by
  subst hl; exact two_ix hi
theorem three_ix' {a b c : AV} {i : Nat} {st st' : Sto} {n : Nat} (hi : i < 3) (hl : st'.length = n) : oIx (.loc n) (.int (i : Nat)) (st' ++ [.lst [a, b, c]]) = .ok (if i = 0 then a else if i = 1 then b else c) (st' ++ [.lst [a, b, c]]) := by
  subst hl; exact three_ix hi
def sFar : Str := Str.ofString "farther"
theorem lim2 {a b : AV} : ([a, b] : List AV).length ≤ LIM := by show 2 ≤ LIM; decide
theorem lim3 {a b c : AV} : ([a, b, c] : List AV).length ≤ LIM := by show 3 ≤ LIM; decide
def IsW (w : Str) : Prop := w = sSits ∨ w = sTakes ∨ w = sFar
theorem hall_ok {st : Sto} {k : Nat} {m : Int} {most : Nat} (h : DeckAt st k m) (hm : m < 900000) (hl : 0 < most ∧ most < 900) :
    ∃ (n : Nat) (r : Bool) (w : Str) (st' : Sto), m__law_hall [.loc k, .int most] st = .ok (encH n r w) st' ∧ 0 < n ∧ n ≤ most ∧ IsW w ∧ Dk k (m + 4) st st' := by
  have hk := h.lt
  obtain ⟨r1, st1, p1, b1, D1⟩ := pick_d (lim := most) h (by omega) (by omega)
  -- the list, then the draw
  obtain ⟨r2, st2', p2', b2, D2'⟩ := pick_d (st := st1 ++ [.lst [.int most, .int (1 + r1 : Nat)]]) (lim := 2) D1.deck.old (by omega) (by omega)
  obtain ⟨st2, D2, rfl⟩ := D2'.app (by rw [D1.len]; exact hk)
  obtain ⟨r3, st3, p3, b3, D3⟩ := pick_d (st := st2) (lim := 2) D2.deck (by omega) (by omega)
  obtain ⟨r4, st4', p4', b4, D4'⟩ := pick_d (st := st3 ++ [.lst [.str sSits, .str sTakes, .str sFar]]) (lim := 3) D3.deck.old (by omega) (by omega)
  obtain ⟨st4, D4, rfl⟩ := D4'.app (by rw [D3.len, D2.len, D1.len]; exact hk)
  have D12 := D1.trans D2
  have D14 := (D12.trans D3).trans D4
  obtain ⟨n, hn⟩ : ∃ n, n = if r2 = 0 then most else 1 + r1 := ⟨_, rfl⟩
  have hn2 : 0 < n ∧ n ≤ most := by rw [hn]; split <;> omega
  obtain ⟨w, hw⟩ : ∃ w, w = if r4 = 0 then sSits else if r4 = 1 then sTakes else sFar := ⟨_, rfl⟩
  have hw2 : IsW w := by
    rw [hw]; unfold IsW
    split
    · exact .inl rfl
    · split
      · exact .inr (.inl rfl)
      · exact .inr (.inr rfl)
  refine ⟨n, decide (r3 = 0), w, st4, ?_, hn2.1, hn2.2, hw2, by
    have e : m + 1 + 1 + 1 + 1 = m + 4 := by omega
    rw [← e]; exact D14⟩
  have c1 : (1 : Int) + (r1 : Nat) = ((1 + r1 : Nat) : Int) := by omega
  have s1 : (msAsg (mGc (mOp oIx (mN oLst (maCons (mVar 1) (maCons (mOp oAdd (mC (.int 1)) (mN m__law_pick (maCons (mVar 0) (maCons (mVar 1) maNil)))) maNil))) (mN m__law_pick (maCons (mVar 0) (maCons (mC (.int 2)) maNil))))) (mgName 2)) [some (.loc k), some (.int most), none] st =
      .nx [some (.loc k), some (.int most), some (.int n)] st2 := by
    have p2 := p2'
    simp only [ev_asg, ev_gc, ev_op, ev_N, ev_cons, ev_nil, ev_varS, ev_var0, ev_C, R.bind_ok, p1, add_ii, c1, lst_ok lim2]
    rw [show ((2 : Nat) : Int) = 2 from rfl] at p2
    rw [p2]
    simp only [R.bind_ok]
    rw [two_ix' (st := st) b2 D2.len]
    have : (if r2 = 0 then AV.int (most : Nat) else .int ((1 + r1 : Nat) : Int)) = .int (n : Nat) := by rw [hn]; split <;> rfl
    rw [this, gc_val rfl D12.len D12.old]
    rfl
  have hb : b__law_hall [some (.loc k), some (.int most), none] st = .rt (encH n (decide (r3 = 0)) w) (st4 ++ [.lst [.str sSits, .str sTakes, .str sFar]]) := by
    unfold b__law_hall
    rw [seq_nx s1]
    have p3' := p3
    have p4 := p4'
    rw [show ((2 : Nat) : Int) = 2 from rfl] at p3'
    rw [show ((3 : Nat) : Int) = 3 from rfl] at p4
    have l3 : oLst [.str (Str.ofString "sits"), .str (Str.ofString "takes"), .str (Str.ofString "farther")] st3 = .ok (.loc st3.length) (st3 ++ [.lst [.str sSits, .str sTakes, .str sFar]]) := lst_ok lim3
    simp only [ev_ret, ev_op, ev_N, ev_cons, ev_nil, ev_varS, ev_var0, ev_C, R.bind_ok, p3', eq_ii, l3, p4]
    rw [three_ix' (st := st) b4 D4.len]
    have e1 : (if r4 = 0 then AV.str sSits else if r4 = 1 then .str sTakes else .str sFar) = .str w := by rw [hw]; split; rfl; split <;> rfl
    have e2 : decide ((r3 : Int) = 0) = decide (r3 = 0) := decide_eq_decide.mpr (by omega)
    rw [e1]
    simp only [R.bind_ok, tup_ok lim3, R.toFl_ok, e2]
  show (if 2 = 2 then gc st (fin (b__law_hall [some (.loc k), some (.int most), none] st)) else .bad) = _
  rw [if_pos rfl, hb]
  exact gc_val rfl D14.len D14.old
end Y
set_option Elab.async false
set_option linter.all false
set_option maxRecDepth 100000
set_option maxHeartbeats 4000000
/-! Y17: the comers drawn, an order drawn -/
namespace Y
open PySem
def names12 : List Str := [Str.ofString "ada", Str.ofString "bo", Str.ofString "cy", Str.ofString "dee", Str.ofString "eli", Str.ofString "fay", Str.ofString "gus", Str.ofString "hal", Str.ofString "ivo", Str.ofString "jan", Str.ofString "kit", Str.ofString "lou"]
theorem names12_nodup : names12.Nodup := by decide +kernel
abbrev wishE : ME := (mGc (mOp oIx (mN oLst (maCons (mOp oMod (mOp oAdd (mVar 5) (mN m__law_pick (maCons (mVar 0) (maCons (mC (.int 3)) maNil)))) (mOp oIx (mVar 1) (mC (.int 0)))) (maCons (mN m__law_pick (maCons (mVar 0) (maCons (mOp oIx (mVar 1) (mC (.int 0))) maNil))) maNil))) (mN m__law_pick (maCons (mVar 0) (maCons (mC (.int 2)) maNil)))))
theorem wish_ok {k n base : Nat} {r : Bool} {w : Str} {m : Int} {S : Sto} {x2 x3 x4 x6 x7 x8 : Option AV} (h : DeckAt S k m) (hm : m < 900000) (hn : 0 < n ∧ n < 900) :
    ∃ (v : Nat) (S' : Sto), wishE [some (.loc k), some (encH n r w), x2, x3, x4, some (.int base), x6, x7, x8] S = .ok (.int v) S' ∧ v < n ∧ Dk k (m + 3) S S' := by
  have hk := h.lt
  obtain ⟨r1, S1, p1, b1, D1⟩ := pick_d (lim := 3) h (by omega) (by omega)
  obtain ⟨r2, S2, p2, b2, D2⟩ := pick_d (lim := n) D1.deck (by omega) (by omega)
  obtain ⟨r3, S3', p3, b3, D3'⟩ := pick_d (st := S2 ++ [.lst [.int (((base + r1) % n : Nat) : Int), .int r2]]) (lim := 2) D2.deck.old (by omega) (by omega)
  obtain ⟨S3, D3, rfl⟩ := D3'.app (by rw [D2.len, D1.len]; exact hk)
  have D := (D1.trans D2).trans D3
  have q1 := p1
  rw [show ((3 : Nat) : Int) = 3 from rfl] at q1
  have q3 := p3
  rw [show ((2 : Nat) : Int) = 2 from rfl] at q3
  have e1 : ((base : Int) + (r1 : Nat)) % (n : Nat) = (((base + r1) % n : Nat) : Int) := by rw [Int.natCast_emod, Int.natCast_add]
  obtain ⟨v, hv⟩ : ∃ v, v = if r3 = 0 then (base + r1) % n else r2 := ⟨_, rfl⟩
  refine ⟨v, S3, ?_, ?_, ?_⟩
  · simp only [ev_gc, ev_op, ev_N, ev_cons, ev_nil, ev_varS, ev_var0, ev_C, R.bind_ok, q1, add_ii, ix_H0, mod_ii (show (0 : Int) < n by omega), e1, p2, lst_ok lim2, q3]
    rw [two_ix' (st := S2) b3 D3.len]
    have : (if r3 = 0 then AV.int (((base + r1) % n : Nat) : Int) else .int (r2 : Nat)) = .int (v : Nat) := by rw [hv]; split <;> rfl
    rw [this]
    exact gc_val rfl D.len D.old
  · rw [hv]
    split
    · exact Nat.mod_lt _ hn.1
    · exact b2
  · have e : m + 1 + 1 + 1 = m + 3 := by omega
    rw [← e]; exact D
theorem erase_map {α β : Type} {f : α → β} : ∀ {l : List α} {i : Nat}, (l.map f).eraseIdx i = (l.eraseIdx i).map f
  | [], _ => rfl
  | _ :: _, 0 => rfl
  | x :: l, i + 1 => by simp [List.eraseIdx, erase_map]
theorem cons_erase_perm {α : Type} : ∀ {l : List α} {i : Nat} (h : i < l.length), (l[i] :: l.eraseIdx i).Perm l
  | [], _, h => absurd h (by simp)
  | x :: l, 0, _ => .refl _
  | x :: l, i + 1, h => by
    have := cons_erase_perm (l := l) (i := i) (by simpa using h)
    exact (List.Perm.swap x _ _).trans (this.cons x)
abbrev appE : MS := (msExpr (mMet .list oAppend (mVar 6) (maCons (mN oTup (maCons (mMet .list oPopAt (mVar 3) (maCons (mN m__law_pick (maCons (mVar 0) (maCons (mN oLen (maCons (mVar 3) maNil)) maNil))) maNil)) (maCons (mVar 8) maNil))) maNil)))
theorem app_step {k p v : Nat} {m : Int} {S : Sto} {L : List Str} {cs : List Cm} {J : Ob} {x1 x2 x4 x5 x7 : Option AV} (hd : DeckAt S k m) (hm : m < 900000) (hp : S.length = p) (hL : 0 < L.length ∧ L.length < 900) (hc : cs.length < 900) :
    ∃ (S' : Sto) (j : Nat) (hj : j < L.length), appE [some (.loc k), x1, x2, some (.loc p), x4, x5, some (.loc (p + 1)), x7, some (.int v)] (S ++ [.lst (L.map AV.str), .lst (cs.map encC), J]) =
      .nx [some (.loc k), x1, x2, some (.loc p), x4, x5, some (.loc (p + 1)), x7, some (.int v)] (S' ++ [.lst ((L.eraseIdx j).map AV.str), .lst ((cs ++ [(L[j], v)]).map encC), J]) ∧ Dk k (m + 1) S S' := by
  subst hp
  have hk := hd.lt
  obtain ⟨j, S1', p1, b1, D1'⟩ := pick_d (st := S ++ [.lst (L.map AV.str), .lst (cs.map encC), J]) (lim := L.length) hd.old (by omega) (by omega)
  obtain ⟨S1, D1, rfl⟩ := D1'.app hk
  have hl := D1.len
  have at0 : ∀ (T : Sto) (a b c : Ob), T.length = S.length → (T ++ [a, b, c])[S.length]? = some a := fun T a b c e => by rw [← e]; exact at_new
  have at1 : ∀ (T : Sto) (a b c : Ob), T.length = S.length → (T ++ [a, b, c])[S.length + 1]? = some b := fun T a b c e => by
    rw [← e, List.getElem?_append_right (by omega), Nat.add_sub_cancel_left]; rfl
  have set0 : ∀ (T : Sto) (a b c d : Ob), T.length = S.length → (T ++ [a, b, c]).set S.length d = T ++ [d, b, c] := fun T a b c d e => by rw [← e]; exact set_new
  have set1 : ∀ (T : Sto) (a b c d : Ob), T.length = S.length → (T ++ [a, b, c]).set (S.length + 1) d = T ++ [a, d, c] := fun T a b c d e => by
    rw [← e, List.set_append_right _ _ (by omega), Nat.add_sub_cancel_left]; rfl
  refine ⟨S1, j, b1, ?_, D1⟩
  have t1 : isTy (S ++ [.lst (L.map AV.str), .lst (cs.map encC), J]) .list (.loc (S.length + 1)) = true := isTy_l (at1 _ _ _ _ rfl)
  have t0 : isTy (S ++ [.lst (L.map AV.str), .lst (cs.map encC), J]) .list (.loc S.length) = true := isTy_l (at0 _ _ _ _ rfl)
  have hlen : oLen [.loc S.length] (S ++ [.lst (L.map AV.str), .lst (cs.map encC), J]) = .ok (.int L.length) (S ++ [.lst (L.map AV.str), .lst (cs.map encC), J]) := by
    rw [len_l (at0 _ _ _ _ rfl), List.length_map]
  have hpop : oPopAt (.loc S.length) [.int j] (S1 ++ [.lst (L.map AV.str), .lst (cs.map encC), J]) = .ok (.str L[j]) (S1 ++ [.lst ((L.eraseIdx j).map AV.str), .lst (cs.map encC), J]) := by
    have g1 : (L.map AV.str)[j]? = some (.str L[j]) := by rw [List.getElem?_map, List.getElem?_eq_getElem b1]; rfl
    unfold oPopAt
    simp only [at0 _ _ _ _ hl]
    rw [if_pos (by omega), List.length_map, ixN_nat b1]
    simp only [g1, set0 _ _ _ _ _ hl, erase_map]
  have happ : oAppend (.loc (S.length + 1)) [.tup [.str L[j], .int v]] (S1 ++ [.lst ((L.eraseIdx j).map AV.str), .lst (cs.map encC), J]) = .ok .non (S1 ++ [.lst ((L.eraseIdx j).map AV.str), .lst ((cs ++ [(L[j], v)]).map encC), J]) := by
    rw [app_ok (at1 _ _ _ _ hl) (by rw [List.length_map]; simp only [LIM]; omega), set1 _ _ _ _ _ hl, List.map_append]
    rfl
  unfold appE
  simp only [ev_expr, ev_met, ev_varS, ev_var0, R.bind_ok, t1, if_true, ev_cons, ev_nil, ev_N, t0, hlen, p1, hpop, tup_ok lim2, happ, R.toFl_ok]
structure Folk (n most : Nat) (r : Bool) (cs : List Cm) : Prop where
  nd : (cs.map (·.1)).Nodup
  lt : ∀ c ∈ cs, c.2 < n
  most : cs.length ≤ most
  ring : r = true → cs.length ≤ n
  names : ∀ c ∈ cs, c.1 ∈ names12
theorem comers_ok {st : Sto} {k n most : Nat} {r : Bool} {w : Str} {m : Int} (h : DeckAt st k m) (hm : m < 800000) (hn : 0 < n ∧ n < 900) (hmost : 0 < most ∧ most ≤ 12) :
    ∃ (cs : List Cm) (st' : Sto), m__law_comers [.loc k, encH n r w, .int most] st = .ok (.loc st.length) (st' ++ [.lst (cs.map encC)]) ∧ Dk k (m + 100) st st' ∧ Folk n most r cs := by
  have hk := h.lt
  obtain ⟨top, htop⟩ : ∃ top, top = if r = true then (if n < most then n else most) else most := ⟨_, rfl⟩
  have htop2 : 0 < top ∧ top ≤ most ∧ (r = true → top ≤ n) := by
    rw [htop]; cases r <;> simp <;> (try split) <;> omega
  -- the draws ahead of the loop
  obtain ⟨base, S1', p1, b1, D1'⟩ := pick_d (st := st ++ [.lst (names12.map AV.str)]) (lim := n) h.old (by omega) (by omega)
  obtain ⟨S1, D1, rfl⟩ := D1'.app hk
  have hk1 : k < S1.length := by rw [D1.len]; exact hk
  obtain ⟨r2, S2', p2, b2, D2'⟩ := pick_d (st := S1 ++ [.lst (names12.map AV.str), .lst []]) (lim := top + 1) D1.deck.old (by omega) (by omega)
  obtain ⟨S2, D2, rfl⟩ := D2'.app hk1
  have hk2 : k < S2.length := by rw [D2.len]; exact hk1
  obtain ⟨r3, S3', p3, b3, D3'⟩ := pick_d (st := S2 ++ [.lst (names12.map AV.str), .lst [], .lst [.int top, .int r2]]) (lim := 2) D2.deck.old (by omega) (by omega)
  obtain ⟨S3, D3, rfl⟩ := D3'.app hk2
  have D13 := (D1.trans D2).trans D3
  have l3 := D13.len
  obtain ⟨N, hN⟩ : ∃ N, N = if r3 = 0 then top else r2 := ⟨_, rfl⟩
  have hN2 : N ≤ top := by rw [hN]; split <;> omega
  obtain ⟨J, hJ⟩ : ∃ J, J = Ob.lst [.int top, .int r2] := ⟨_, rfl⟩
  rw [← hJ] at p3 D3'
  -- the loop
  obtain ⟨env, st', e, ⟨S, L, cs, x7, x8, rfl, rfl, hD, hP, hl, hcs⟩⟩ := turns_rng (lo := 0) (n := N) (g := mgName 7) (b := msSeq (msAsg wishE (mgName 8)) appE)
    (fun i env st' => ∃ (S : Sto) (L : List Str) (cs : List Cm) (x7 x8 : Option AV), env = [some (.loc k), some (encH n r w), some (.int most), some (.loc st.length), some (.int top), some (.int base), some (.loc (st.length + 1)), x7, x8] ∧
      st' = S ++ [.lst (L.map AV.str), .lst (cs.map encC), J] ∧ Dk k (m + 3 + 4 * (i : Nat)) st S ∧ (cs.map (·.1) ++ L).Perm names12 ∧ cs.length = i ∧ ∀ c ∈ cs, c.2 < n)
    (fun i env st' hi ⟨S, L, cs, x7, x8, e1, e2, hD, hP, hl, hcs⟩ => by
      subst e1 e2
      have hlen := hP.length_eq
      rw [List.length_append, List.length_map, hl] at hlen
      have h12 : names12.length = 12 := rfl
      obtain ⟨v, S4', pv, hv, D4'⟩ := wish_ok (S := S ++ [.lst (L.map AV.str), .lst (cs.map encC), J]) (m := m + 3 + 4 * (i : Nat)) (n := n) (base := base) (r := r) (w := w) (x2 := some (.int most)) (x3 := some (.loc st.length)) (x4 := some (.int top)) (x6 := some (.loc (st.length + 1))) (x7 := some (.int (0 + (i : Nat)))) (x8 := x8) hD.deck.old (by omega) hn
      have hkS : k < S.length := by rw [hD.len]; exact hk
      obtain ⟨S4, D4, rfl⟩ := D4'.app hkS
      obtain ⟨S5, j, hj, pa, D5⟩ := app_step (S := S4) (p := st.length) (v := v) (L := L) (cs := cs) (J := J) (x1 := some (encH n r w)) (x2 := some (.int most)) (x4 := some (.int top)) (x5 := some (.int base)) (x7 := some (.int (0 + (i : Nat)))) D4.deck (by omega) (by rw [D4.len, hD.len]) (by omega) (by omega)
      refine ⟨_, _, ?_, S5, L.eraseIdx j, cs ++ [(L[j], v)], some (.int (0 + (i : Nat))), some (.int v), rfl, rfl, ?_, ?_, ?_, ?_⟩
      · simp only [ev_gName, R.toFl_ok, List.set]
        rw [ev_seq, ev_asg, pv]
        simp only [R.toFl_ok, ev_gName, List.set]
        exact pa
      · have := (hD.trans D4).trans D5
        have e : m + 3 + 4 * ((i + 1 : Nat) : Int) = m + 3 + 4 * (i : Nat) + 3 + 1 := by omega
        rw [e]; exact this
      · rw [List.map_append, List.append_assoc]
        refine (List.Perm.append_left _ ?_).trans hP
        exact cons_erase_perm hj
      · rw [List.length_append, hl]; rfl
      · intro c hc
        rcases List.mem_append.mp hc with hc | hc
        · exact hcs c hc
        · rw [List.mem_singleton] at hc; subst hc; exact hv)
    (env := [some (.loc k), some (encH n r w), some (.int most), some (.loc st.length), some (.int top), some (.int base), some (.loc (st.length + 1)), none, none]) (st := S3 ++ [.lst (names12.map AV.str), .lst [], J])
    ⟨S3, names12, [], none, none, rfl, rfl, by
      have e : m + 3 + 4 * ((0 : Nat) : Int) = m + 1 + 1 + 1 := by omega
      rw [e]; exact D13, List.Perm.refl _, rfl, fun c hc => by cases hc⟩
  have hF : Folk n most r cs := by
    have hnd := hP.nodup_iff.mpr names12_nodup
    refine ⟨(List.nodup_append.mp hnd).1, hcs, by omega, fun hr => by have := htop2.2.2 hr; omega, fun c hc => ?_⟩
    exact hP.mem_iff.mp (List.mem_append_left _ (List.mem_map.mpr ⟨c, hc, rfl⟩))
  have hb : b__law_comers [some (.loc k), some (encH n r w), some (.int most), none, none, none, none, none, none] st = .rt (.loc (st.length + 1)) (S ++ [.lst (L.map AV.str), .lst (cs.map encC), J]) := by
    unfold b__law_comers
    have s1 : (msAsg (mN oLst (maCons (mC (.str (Str.ofString "ada"))) (maCons (mC (.str (Str.ofString "bo"))) (maCons (mC (.str (Str.ofString "cy"))) (maCons (mC (.str (Str.ofString "dee"))) (maCons (mC (.str (Str.ofString "eli"))) (maCons (mC (.str (Str.ofString "fay"))) (maCons (mC (.str (Str.ofString "gus"))) (maCons (mC (.str (Str.ofString "hal"))) (maCons (mC (.str (Str.ofString "ivo"))) (maCons (mC (.str (Str.ofString "jan"))) (maCons (mC (.str (Str.ofString "kit"))) (maCons (mC (.str (Str.ofString "lou"))) maNil))))))))))))) (mgName 3)) [some (.loc k), some (encH n r w), some (.int most), none, none, none, none, none, none] st =
        .nx [some (.loc k), some (encH n r w), some (.int most), some (.loc st.length), none, none, none, none, none] (st ++ [.lst (names12.map AV.str)]) := by
      have : oLst (names12.map AV.str) st = .ok (.loc st.length) (st ++ [.lst (names12.map AV.str)]) := lst_ok (by show 12 ≤ LIM; decide)
      simp only [ev_asg, ev_N]
      show (oLst (names12.map AV.str) st).toFl _ = _
      rw [this]
      rfl
    rw [seq_nx s1]
    have tst : ∀ S : Sto, mIf (mtV (mOp oIx (mVar 1) (mC (.int 1)))) (mN oMin2 (maCons (mVar 2) (maCons (mOp oIx (mVar 1) (mC (.int 0))) maNil))) (mVar 2) [some (.loc k), some (encH n r w), some (.int most), some (.loc st.length), none, none, none, none, none] S = .ok (.int top) S := fun S => by
      simp only [ev_if, ev_tV, ev_op, ev_N, ev_cons, ev_nil, ev_varS, ev_var0, ev_C, R.bind_ok, ix_H1, ix_H0, min_ii]
      rw [htop]
      cases r with
      | true =>
        simp only [if_true]
        by_cases hc : n < most
        · rw [if_pos (by omega), if_pos hc]
        · rw [if_neg (by omega), if_neg hc]
      | false => simp
    rw [ev_seq, ev_asg, tst]
    simp only [R.toFl_ok, ev_gName, List.set]
    rw [ev_seq]
    simp only [ev_asg, ev_N, ev_cons, ev_nil, ev_op, ev_C, ev_varS, ev_var0, R.bind_ok, ix_H0, p1, R.toFl_ok, ev_gName, List.set]
    rw [ev_seq]
    have l0 : oLst [] (S1 ++ [.lst (names12.map AV.str)]) = .ok (.loc (st.length + 1)) (S1 ++ [.lst (names12.map AV.str), .lst []]) := by
      rw [lst_ok (by decide), List.length_append, D1.len, List.append_assoc]; rfl
    simp only [ev_asg, ev_N, ev_nil, R.bind_ok, l0, R.toFl_ok, ev_gName, List.set]
    rw [ev_seq, ev_for]
    have c1 : (top : Int) + 1 = ((top + 1 : Nat) : Int) := by omega
    have q3 := p3
    rw [show ((2 : Nat) : Int) = 2 from rfl] at q3
    have l1 : oLst [.int top, .int r2] (S2 ++ [.lst (names12.map AV.str), .lst []]) = .ok (.loc (st.length + 2)) (S2 ++ [.lst (names12.map AV.str), .lst [], J]) := by
      rw [lst_ok lim2, List.length_append, D2.len, D1.len, List.append_assoc, hJ]; rfl
    have ixJ : oIx (.loc (st.length + 2)) (.int (r3 : Nat)) (S3 ++ [.lst (names12.map AV.str), .lst [], J]) = .ok (.int N) (S3 ++ [.lst (names12.map AV.str), .lst [], J]) := by
      have e3 : (S3 ++ [.lst (names12.map AV.str), .lst [], J])[st.length + 2]? = some (.lst [.int top, .int r2]) := by
        rw [← l3, List.getElem?_append_right (by omega), Nat.add_sub_cancel_left, hJ]; rfl
      refine ix_l e3 (atI_nat ?_)
      rw [hN]
      match r3, b3 with
      | 0, _ => rfl
      | 1, _ => rfl
    have hr1 : maCons (mOp oIx (mN oLst (maCons (mVar 4) (maCons (mN m__law_pick (maCons (mVar 0) (maCons (mOp oAdd (mVar 4) (mC (.int 1))) maNil))) maNil))) (mN m__law_pick (maCons (mVar 0) (maCons (mC (.int 2)) maNil)))) maNil [some (.loc k), some (encH n r w), some (.int most), some (.loc st.length), some (.int top), some (.int base), some (.loc (st.length + 1)), none, none] (S1 ++ [.lst (names12.map AV.str), .lst []]) = .ok [.int N] (S3 ++ [.lst (names12.map AV.str), .lst [], J]) := by
      simp only [ev_cons, ev_nil, ev_op, ev_N, ev_varS, ev_var0, ev_C, R.bind_ok, add_ii, c1, p2, l1, q3, ixJ]
    rw [ev_R1i (rok (x := N) (by omega)) (n := N) rfl hr1]
    simp only [R.toFl_ok, lenR]
    rw [e]
    simp only [ev_ret, ev_varS, ev_var0, R.toFl_ok]
  have e3 : (m + 3 + 4 * (N : Nat)) ≤ m + 100 := by omega
  have hD' : Dk k (m + 100) st S := by
    obtain ⟨xs, h1, h2, h3⟩ := hD
    exact ⟨xs, h1, h2, h3.mono e3⟩
  refine ⟨cs, S, ?_, hD', hF⟩
  show (if 3 = 3 then gc st (fin (b__law_comers [some (.loc k), some (encH n r w), some (.int most), none, none, none, none, none, none] st)) else .bad) = _
  rw [if_pos rfl, hb]
  refine gc_new (j := 1) ?_ hD.len hD.old rfl
  refine locsL_flat fun v hv => ?_
  obtain ⟨c, _, rfl⟩ := List.mem_map.mp hv
  rfl
end Y
set_option Elab.async false
set_option linter.all false
set_option maxRecDepth 100000
set_option maxHeartbeats 4000000
/-! Y18: an order drawn; all seated -/
namespace Y
open PySem
theorem set_same {st : Sto} {b : Nat} {o : Ob} (hb : st[b]? = some o) : st.set b o = st := by
  apply List.ext_getElem?
  intro i
  by_cases hi : b = i
  · subst hi; rw [hb, List.getElem?_set_self (List.getElem?_eq_some_iff.mp hb).1]
  · rw [List.getElem?_set_ne hi]
theorem Dk.refl {st : Sto} {k : Nat} {m : Int} (h : DeckAt st k m) : Dk k m st st := by
  have h' := h
  obtain ⟨a, b, t, h1, h2⟩ := h
  exact ⟨[.int a, .int b, .int t], (set_same h1).symm, rfl, h'⟩
theorem locs_Cs {cs : List Cm} : AV.locsL (cs.map encC) = [] := locsL_flat fun v hv => by
  obtain ⟨c, _, rfl⟩ := List.mem_map.mp hv
  rfl
abbrev insE : MS := (msExpr (mMet .list oInsert (mVar 2) (maCons (mN m__law_pick (maCons (mVar 0) (maCons (mOp oAdd (mN oLen (maCons (mVar 2) maNil)) (mC (.int 1))) maNil))) (maCons (mVar 3) maNil))))
theorem order_ok {st : Sto} {k c : Nat} {m : Int} {cs : List Cm} (h : DeckAt st k m) (hm : m < 800000) (hc : st[c]? = some (.lst (cs.map encC))) (hck : k ≠ c) (hl : cs.length < 900) :
    ∃ (os : List Cm) (st' : Sto), m__law_order [.loc k, .loc c] st = .ok (.loc st.length) (st' ++ [.lst (os.map encC)]) ∧ Dk k (m + cs.length) st st' ∧ os.Perm cs := by
  have hk := h.lt
  have hcl := (List.getElem?_eq_some_iff.mp hc).1
  have ln : ∀ (T : Sto) (o : Ob), T.length = st.length → (T ++ [o])[st.length]? = some o := fun T o e => by rw [← e]; exact at_new
  obtain ⟨env, st', e, ⟨S, os, x3, rfl, rfl, hD, hP⟩⟩ := turns_nx (q := .list c) (g := mgName 3) (b := insE) (xs := cs.map encC)
    (fun i env st' => ∃ (S : Sto) (os : List Cm) (x3 : Option AV), env = [some (.loc k), some (.loc c), some (.loc st.length), x3] ∧ st' = S ++ [.lst (os.map encC)] ∧ Dk k (m + (i : Nat)) st S ∧ os.Perm (cs.take i))
    (fun i env st' hi ⟨S, os, x3, e1, e2, hD, hP⟩ => by
      subst e1 e2
      exact at_list (at_old (hD.at hck hc)))
    (fun i x env st' hx ⟨S, os, x3, e1, e2, hD, hP⟩ => by
      subst e1 e2
      rw [List.getElem?_map, Option.map_eq_some_iff] at hx
      obtain ⟨w, hw, rfl⟩ := hx
      have hi := (List.getElem?_eq_some_iff.mp hw).1
      have hlen : os.length = i := by rw [hP.length_eq, List.length_take]; omega
      have hkS : k < S.length := by rw [hD.len]; exact hk
      obtain ⟨j, S1', p1, b1, D1'⟩ := pick_d (st := S ++ [.lst (os.map encC)]) (lim := os.length + 1) hD.deck.old (by omega) (by omega)
      obtain ⟨S1, D1, rfl⟩ := D1'.app hkS
      have l1 : S1.length = st.length := by rw [D1.len, hD.len]
      have t1 : isTy (S ++ [.lst (os.map encC)]) .list (.loc st.length) = true := isTy_l (ln _ _ hD.len)
      have hln : oLen [.loc st.length] (S ++ [.lst (os.map encC)]) = .ok (.int os.length) (S ++ [.lst (os.map encC)]) := by rw [len_l (ln _ _ hD.len), List.length_map]
      have c1 : (os.length : Int) + 1 = ((os.length + 1 : Nat) : Int) := by omega
      have hins : oInsert (.loc st.length) [.int j, encC w] (S1 ++ [.lst (os.map encC)]) = .ok .non (S1 ++ [.lst ((os.take j ++ [w] ++ os.drop j).map encC)]) := by
        unfold oInsert
        simp only [ln _ _ l1]
        rw [if_pos (by rw [List.length_map]; simp only [LIM]; omega)]
        have : (S1 ++ [Ob.lst (os.map encC)]).set st.length (.lst ((os.map encC).take (j : Int).toNat ++ [encC w] ++ (os.map encC).drop (j : Int).toNat)) = S1 ++ [.lst ((os.take j ++ [w] ++ os.drop j).map encC)] := by
          rw [← l1, set_new]
          simp [List.map_take, List.map_drop]
        rw [this]
      refine ⟨_, _, ?_, S1, os.take j ++ [w] ++ os.drop j, some (encC w), rfl, rfl, ?_, ?_⟩
      · simp only [ev_gName, R.toFl_ok, List.set]
        unfold insE
        simp only [ev_expr, ev_met, ev_varS, ev_var0, R.bind_ok, t1, if_true, ev_cons, ev_nil, ev_N, ev_op, ev_C, hln, add_ii, c1, p1, hins, R.toFl_ok]
      · have := hD.trans D1
        have e : m + ((i + 1 : Nat) : Int) = m + (i : Nat) + 1 := by omega
        rw [e]; exact this
      · rw [List.take_succ, hw]
        have p1 : (os.take j ++ [w] ++ os.drop j).Perm (w :: os) := by
          rw [List.append_assoc]
          refine List.perm_append_comm.trans ?_
          rw [List.append_assoc]
          refine List.Perm.cons w ?_
          have q : (os.drop j ++ os.take j).Perm os := List.perm_append_comm.trans (by rw [List.take_append_drop])
          exact q
        refine p1.trans ((hP.cons w).trans ?_)
        show (w :: cs.take i).Perm (cs.take i ++ [w])
        exact List.perm_append_comm (l₁ := [w])) (env := [some (.loc k), some (.loc c), some (.loc st.length), none]) (st := st ++ [.lst []])
      ⟨st, [], none, rfl, rfl, by
        have e : m + ((0 : Nat) : Int) = m := by omega
        rw [e]; exact Dk.refl h, List.Perm.refl _⟩
  rw [List.length_map, List.take_length] at *
  refine ⟨os, S, ?_, hD, hP⟩
  have hb : b__law_order [some (.loc k), some (.loc c), none, none] st = .rt (.loc st.length) (S ++ [.lst (os.map encC)]) := by
    unfold b__law_order
    have l0 : oLst [] st = .ok (.loc st.length) (st ++ [.lst []]) := lst_ok (by decide)
    rw [ev_seq]
    simp only [ev_asg, ev_N, ev_nil, R.bind_ok, l0, R.toFl_ok, ev_gName, List.set]
    rw [ev_seq, ev_for, ev_iSeq]
    have hc' : (st ++ [Ob.lst []])[c]? = some (.lst (cs.map encC)) := at_old hc
    simp only [ev_varS, ev_var0, R.bind_ok, rdL_ok hc', R.toFl_ok, len_list hc', List.length_map, e, ev_ret]
  show (if 2 = 2 then gc st (fin (b__law_order [some (.loc k), some (.loc c), none, none] st)) else .bad) = _
  rw [if_pos rfl, hb]
  exact gc_new (j := 0) locs_Cs hD.len hD.old rfl
/-! ### all seated -/
/-- one comes: the rows behind it, who is out -/
def comeF (n : Nat) (r : Bool) (w : Str) (rows : List (Option Cm)) (c : Cm) : List (Option Cm) × Option Cm := (goF n r w (n + 1) c.2 c rows).getD (rows, none)
theorem go_lane {n : Nat} {w : Str} : ∀ (d s : Nat) (c : Cm) (rows : List (Option Cm)), s + d = n → 0 < d → rows.length = n → ∃ x, goF n false w (d + 1) s c rows = some x
  | 0, _, _, _, _, h, _ => absurd h (by omega)
  | d + 1, s, c, rows, hs, _, hl => by
    rw [goF]
    have hsl : s < rows.length := by omega
    rw [List.getElem?_eq_getElem hsl]
    cases rows[s] with
    | none => exact ⟨_, rfl⟩
    | some t =>
      simp only
      split
      · exact ⟨_, rfl⟩
      · rename_i hne
        have hne : s + 1 ≠ n := fun z => hne ⟨trivial, z⟩
        have e : (s + 1) % n = s + 1 := Nat.mod_eq_of_lt (by omega)
        rw [e]
        refine go_lane d (s + 1) _ _ (by omega) (by omega) ?_
        split
        · exact hl
        · rw [List.length_set]; exact hl
theorem go_ring {n : Nat} {w : Str} : ∀ (d s : Nat) (c : Cm) (rows : List (Option Cm)), rows.length = n → s < n → rows[(s + d) % n]? = some none → ∃ x, goF n true w (d + 1) s c rows = some x
  | d, s, c, rows, hl, hs, hf => by
    rw [goF]
    have hsl : s < rows.length := by omega
    rw [List.getElem?_eq_getElem hsl]
    cases ht : rows[s] with
    | none => exact ⟨_, rfl⟩
    | some t =>
      simp only
      rw [if_neg (by simp)]
      cases d with
      | zero =>
        rw [Nat.add_zero, Nat.mod_eq_of_lt hs, List.getElem?_eq_getElem hsl, ht] at hf
        cases hf
      | succ d =>
        refine go_ring d ((s + 1) % n) _ _ ?_ (Nat.mod_lt _ (by omega)) ?_
        · split
          · exact hl
          · rw [List.length_set]; exact hl
        · have e : ((s + 1) % n + d) % n = (s + (d + 1)) % n := by rw [Nat.mod_add_mod]; congr 1; omega
          rw [e]
          split
          · exact hf
          · rw [List.getElem?_set_ne ?_]
            · exact hf
            · intro z
              rw [← z, List.getElem?_eq_getElem hsl, ht] at hf
              cases hf
theorem go_more {n : Nat} {r : Bool} {w : Str} : ∀ (f g s : Nat) (c : Cm) (rows : List (Option Cm)) x, f ≤ g → goF n r w f s c rows = some x → goF n r w g s c rows = some x
  | 0, _, _, _, _, _, _, h => by cases h
  | f + 1, 0, _, _, _, _, h, _ => absurd h (by omega)
  | f + 1, g + 1, s, c, rows, x, hfg, h => by
    rw [goF] at h ⊢
    split at h
    · cases h
    · exact h
    · simp only at h ⊢
      split at h
      · rename_i hc; rw [if_pos hc]; exact h
      · rename_i hc; rw [if_neg hc]; exact go_more f g _ _ _ _ (by omega) h
theorem go_ex {n : Nat} {r : Bool} {w : Str} {rows : List (Option Cm)} {c : Cm} (hc : c.2 < n) (hl : rows.length = n) (hr : r = true → none ∈ rows) : goF n r w (n + 1) c.2 c rows = some (comeF n r w rows c) := by
  have : ∃ x, goF n r w (n + 1) c.2 c rows = some x := by
    cases r with
    | false =>
      obtain ⟨x, e⟩ := go_lane (w := w) (n - c.2) c.2 c rows (by omega) (by omega) hl
      exact ⟨x, go_more _ _ _ _ _ _ (by omega) e⟩
    | true =>
      obtain ⟨q, hq⟩ := List.getElem?_of_mem (hr rfl)
      have hqn := (List.getElem?_eq_some_iff.mp hq).1
      have e : (c.2 + (q + n - c.2) % n) % n = q := by
        rw [Nat.add_mod_mod]
        rw [show c.2 + (q + n - c.2) = q + n by omega, Nat.add_mod_right, Nat.mod_eq_of_lt (by omega)]
      obtain ⟨x, e2⟩ := go_ring (w := w) ((q + n - c.2) % n) c.2 c rows hl hc (by rw [e]; exact hq)
      have := Nat.mod_lt (q + n - c.2) (show 0 < n by omega)
      exact ⟨x, go_more _ _ _ _ _ _ (by omega) e2⟩
  obtain ⟨x, e⟩ := this
  unfold comeF
  rw [e]; rfl
theorem come_iso {n : Nat} {r : Bool} {w : Str} {c : Cm} {rows : List (Option Cm)} {st : Sto} (hn : 0 < n ∧ n < 900) (hc : c.2 < n) (hfit : Fits n rows) (hfree : r = true → none ∈ rows) :
    oIso m_come [encH n r w, encS rows, encC c] st = .ok (.tup [encS (comeF n r w rows c).1, encO (comeF n r w rows c).2]) st := by
  refine iso_ok ?_ (come_ok (f := n + 1) (by omega) (by omega) hc hfit hfree (go_ex hc hfit.1 hfree)) ?_
  · show AV.locs (encH n r w) ++ (AV.locs (encS rows) ++ (AV.locs (encC c) ++ [])) = []
    rw [locs_S]; rfl
  · show AV.locs (encS _) ++ (AV.locs (encO _) ++ []) = []
    rw [locs_S, locs_O]; rfl
/-- what come keeps -/
theorem go_fits {n : Nat} {r : Bool} {w : Str} : ∀ (f s : Nat) (c : Cm) (rows : List (Option Cm)) x, Fits n rows → c.2 ≤ n → goF n r w f s c rows = some x → Fits n x.1 ∧ ∀ o, x.2 = some o → o.2 ≤ n
  | 0, _, _, _, _, _, _, h => by cases h
  | f + 1, s, c, rows, x, hf, hc, h => by
    rw [goF] at h
    split at h
    · cases h
    · cases h; exact ⟨hf.set hc, fun o e => by cases e⟩
    · rename_i t e
      have ht : t.2 ≤ n := hf.2 t (List.mem_of_getElem? e)
      simp only at h
      have h1 : Fits n (if staysF n w t c s = true then rows else rows.set s (some c)) := by split; exact hf; exact hf.set hc
      have h2 : (if staysF n w t c s = true then c else t).2 ≤ n := by split <;> assumption
      split at h
      · cases h
        exact ⟨h1, fun o e => by cases e; exact h2⟩
      · exact go_fits f _ _ _ _ h1 h2 h
/-- how many seats are free -/
def free (rows : List (Option Cm)) : Nat := rows.countP Option.isNone
theorem free_set {rows : List (Option Cm)} {s : Nat} {t c : Cm} (h : rows[s]? = some (some t)) : free (rows.set s (some c)) = free rows := by
  unfold free
  obtain ⟨hl, he⟩ := List.getElem?_eq_some_iff.mp h
  rw [List.countP_set hl, he]; simp
theorem free_fill {rows : List (Option Cm)} {s : Nat} {c : Cm} (h : rows[s]? = some none) : free (rows.set s (some c)) + 1 = free rows := by
  unfold free
  obtain ⟨hl, he⟩ := List.getElem?_eq_some_iff.mp h
  have hp : 0 < rows.countP Option.isNone := List.countP_pos_iff.mpr ⟨none, List.mem_of_getElem? h, rfl⟩
  rw [List.countP_set hl, he]; simp; omega
theorem go_free {n : Nat} {r : Bool} {w : Str} : ∀ (f s : Nat) (c : Cm) (rows : List (Option Cm)) x, goF n r w f s c rows = some x → free rows ≤ free x.1 + 1 ∧ (r = true → x.2 = none)
  | 0, _, _, _, _, h => by cases h
  | f + 1, s, c, rows, x, h => by
    rw [goF] at h
    split at h
    · cases h
    · rename_i e
      cases h
      have := free_fill (c := c) e
      exact ⟨by show free rows ≤ free (rows.set s (some c)) + 1; omega, fun _ => rfl⟩
    · rename_i t e
      simp only at h
      have h1 : free (if staysF n w t c s = true then rows else rows.set s (some c)) = free rows := by split; rfl; exact free_set e
      split at h
      · rename_i hc
        cases h
        refine ⟨by show free rows ≤ free (if _ then _ else _) + 1; rw [h1]; omega, fun hr => by rw [hc.1] at hr; cases hr⟩
      · obtain ⟨a, b⟩ := go_free f _ _ _ _ h
        exact ⟨by omega, b⟩
/-- all come -/
def seatF (n : Nat) (r : Bool) (w : Str) : List Cm → List (Option Cm) → List Cm → List (Option Cm) × List Cm
  | [], rows, outs => (rows, outs)
  | c :: cs, rows, outs => seatF n r w cs (comeF n r w rows c).1 (match (comeF n r w rows c).2 with | none => outs | some o => outs ++ [o])
theorem seat_app {n : Nat} {r : Bool} {w : Str} : ∀ (as bs : List Cm) (rows : List (Option Cm)) (outs : List Cm), seatF n r w (as ++ bs) rows outs = seatF n r w bs (seatF n r w as rows outs).1 (seatF n r w as rows outs).2
  | [], _, _, _ => rfl
  | a :: as, bs, rows, outs => by
    rw [List.cons_append, seatF, seatF]
    exact seat_app as bs _ _
def emptyR (n : Nat) : List (Option Cm) := List.replicate n none
abbrev seatE : MS := (msSeq (msAsg (mN (oIso m_come) (maCons (mVar 0) (maCons (mVar 2) (maCons (mVar 4) maNil)))) (mgTup [(mgName 2), (mgName 5)]))
    (msIf (mtV (mOp oIsNot (mVar 5) (mC .non))) (msExpr (mMet .list oAppend (mVar 3) (maCons (mVar 5) maNil))) msNext))
theorem seat_inv {n : Nat} {r : Bool} {w : Str} {cs : List Cm} (hn : 0 < n) (hw : ∀ c ∈ cs, c.2 < n) (hr : r = true → cs.length ≤ n) : ∀ i, i ≤ cs.length → Fits n (seatF n r w (cs.take i) (emptyR n) []).1 ∧ n ≤ free (seatF n r w (cs.take i) (emptyR n) []).1 + i ∧ (seatF n r w (cs.take i) (emptyR n) []).2.length ≤ i ∧ (r = true → (seatF n r w (cs.take i) (emptyR n) []).2 = [])
  | 0, _ => by
    refine ⟨⟨List.length_replicate, fun t ht => by simp [seatF, emptyR] at ht⟩, ?_, Nat.zero_le _, fun _ => rfl⟩
    show n ≤ free (emptyR n) + 0
    have : free (emptyR n) = n := by
      unfold free emptyR
      rw [List.countP_replicate]; rfl
    omega
  | i + 1, hi => by
    obtain ⟨h1, h2, h3, h4⟩ := seat_inv hn hw hr i (by omega)
    have hlt : i < cs.length := by omega
    rw [List.take_succ, List.getElem?_eq_getElem hlt, Option.toList_some, seat_app]
    generalize seatF n r w (cs.take i) (emptyR n) [] = p at *
    have hc := hw cs[i] (List.getElem_mem hlt)
    have hfree : r = true → none ∈ p.1 := fun e => by
      have := hr e
      have hp : 0 < p.1.countP Option.isNone := by unfold free at h2; omega
      obtain ⟨o, ho, hn⟩ := List.countP_pos_iff.mp hp
      cases o with
      | none => exact ho
      | some _ => cases hn
    have hg := go_ex (w := w) hc h1.1 hfree
    obtain ⟨g1, g2⟩ := go_fits _ _ _ _ _ h1 (Nat.le_of_lt hc) hg
    obtain ⟨g3, g4⟩ := go_free _ _ _ _ _ hg
    rw [seatF, seatF]
    refine ⟨g1, by show n ≤ free (comeF n r w p.1 cs[i]).1 + (i + 1); omega, ?_, fun e => ?_⟩
    · cases (comeF n r w p.1 cs[i]).2 with
      | none => exact Nat.le_succ_of_le h3
      | some o => simp only [List.length_append, List.length_cons, List.length_nil]; omega
    · rw [g4 e]; exact h4 e
theorem rep_non' : ∀ n : Nat, (List.replicate n [AV.non]).flatten = List.replicate n AV.non
  | 0 => rfl
  | n + 1 => by rw [List.replicate_succ, List.flatten_cons, rep_non' n, List.replicate_succ]; rfl
theorem rep_nonR {n : Nat} : (List.replicate ((n : Int).toNat) [AV.non]).flatten = (emptyR n).map encO := by
  unfold emptyR
  rw [List.map_replicate, Int.toNat_natCast, rep_non']; rfl
theorem seated_ok {n : Nat} {r : Bool} {w : Str} {cs : List Cm} {st : Sto} {k : Nat} (hn : 0 < n ∧ n < 900) (hk : st[k]? = some (.lst (cs.map encC))) (hl : cs.length < 900) (hw : ∀ c ∈ cs, c.2 < n) (hr : r = true → cs.length ≤ n) :
    m_seated [encH n r w, .loc k] st = .ok (.tup [encS (seatF n r w cs (emptyR n) []).1, .loc st.length]) (st ++ [.lst ((seatF n r w cs (emptyR n) []).2.map encC)]) := by
  have ln : ∀ (o : Ob), (st ++ [o])[st.length]? = some o := fun o => at_new
  have hkl := (List.getElem?_eq_some_iff.mp hk).1
  obtain ⟨env, st', e, ⟨x4, x5, rfl, rfl⟩⟩ := turns_nx (q := .list k) (g := mgName 4) (b := seatE) (xs := cs.map encC)
    (fun i env st' => ∃ (x4 x5 : Option AV), env = [some (encH n r w), some (.loc k), some (encS (seatF n r w (cs.take i) (emptyR n) []).1), some (.loc st.length), x4, x5] ∧ st' = st ++ [.lst ((seatF n r w (cs.take i) (emptyR n) []).2.map encC)])
    (fun i env st' hi ⟨x4, x5, e1, e2⟩ => by
      subst e1 e2
      exact at_list (at_old hk))
    (fun i x env st' hx ⟨x4, x5, e1, e2⟩ => by
      subst e1 e2
      rw [List.getElem?_map, Option.map_eq_some_iff] at hx
      obtain ⟨c, hc, rfl⟩ := hx
      obtain ⟨hi, hci⟩ := List.getElem?_eq_some_iff.mp hc
      obtain ⟨h1, h2, h3, h4⟩ := seat_inv (w := w) hn.1 hw hr i (by omega)
      rw [List.take_succ, hc, Option.toList_some, seat_app]
      generalize seatF n r w (cs.take i) (emptyR n) [] = p at *
      have hcn := hw c (List.mem_of_getElem? hc)
      have hfree : r = true → none ∈ p.1 := fun e => by
        have := hr e
        have hp : 0 < p.1.countP Option.isNone := by unfold free at h2; omega
        obtain ⟨o, ho, hn⟩ := List.countP_pos_iff.mp hp
        cases o with
        | none => exact ho
        | some _ => cases hn
      have hco := come_iso (w := w) (st := st ++ [.lst (p.2.map encC)]) hn hcn h1 hfree
      rw [seatF, seatF]
      generalize comeF n r w p.1 c = q at *
      refine ⟨_, _, ?_, some (encC c), some (encO q.2), rfl, rfl⟩
      simp only [ev_gName, R.toFl_ok, List.set]
      unfold seatE
      rw [ev_seq]
      simp only [ev_asg, ev_N, ev_cons, ev_nil, ev_varS, ev_var0, R.bind_ok, hco, R.toFl_ok, ev_gTup, List.length_cons, List.length_nil, if_true, ev_gs1, ev_gs0, ev_gName, List.set, ev_ifS, ev_tV, ev_op, ev_C, isNot_O]
      cases q.2 with
      | none => simp only [Option.isSome_none, Bool.false_eq_true, if_false, ev_next]
      | some o =>
        have t1 : isTy (st ++ [.lst (p.2.map encC)]) .list (.loc st.length) = true := isTy_l (ln _)
        have hap : oAppend (.loc st.length) [encO (some o)] (st ++ [.lst (p.2.map encC)]) = .ok .non (st ++ [.lst ((p.2 ++ [o]).map encC)]) := by
          rw [app_ok (ln _) (by rw [List.length_map]; simp only [LIM]; omega), set_new, List.map_append]; rfl
        simp only [Option.isSome_some, if_true, ev_expr, ev_met, ev_varS, ev_var0, R.bind_ok, t1, ev_cons, ev_nil, hap, R.toFl_ok])
    (env := [some (encH n r w), some (.loc k), some (encS (emptyR n)), some (.loc st.length), none, none]) (st := st ++ [.lst []])
    ⟨none, none, rfl, rfl⟩
  rw [List.length_map, List.take_length] at *
  have hrep : oRepT (.tup [.non]) (.int n) st = .ok (encS (emptyR n)) st := by
    unfold oRepT
    simp only
    rw [if_pos ⟨by omega, by omega, by decide, rfl⟩]
    rw [rep_nonR]
  have hb : b_seated [some (encH n r w), some (.loc k), none, none, none, none] st = .rt (.tup [encS (seatF n r w cs (emptyR n) []).1, .loc st.length]) (st ++ [.lst ((seatF n r w cs (emptyR n) []).2.map encC)]) := by
    unfold b_seated
    rw [ev_seq]
    simp only [ev_asg, ev_op, ev_N, ev_cons, ev_nil, ev_C, ev_varS, ev_var0, R.bind_ok, tup_ok (show ([AV.non] : List AV).length ≤ LIM by show 1 ≤ LIM; decide), ix_H0, hrep, R.toFl_ok, ev_gName, List.set]
    rw [ev_seq]
    have l0 : oLst [] st = .ok (.loc st.length) (st ++ [.lst []]) := lst_ok (by decide)
    simp only [ev_asg, ev_N, ev_nil, R.bind_ok, l0, R.toFl_ok, ev_gName, List.set]
    rw [ev_seq, ev_for, ev_iSeq]
    have hk' : (st ++ [Ob.lst []])[k]? = some (.lst (cs.map encC)) := at_old hk
    simp only [ev_varS, ev_var0, R.bind_ok, rdL_ok hk', R.toFl_ok, len_list hk', List.length_map, e, ev_ret, ev_N, ev_cons, ev_nil, tup_ok lim2]
  show (if 2 = 2 then gc st (fin (b_seated [some (encH n r w), some (.loc k), none, none, none, none] st)) else .bad) = _
  rw [if_pos rfl, hb]
  exact gc_pair (j := 0) locs_S locs_Cs rfl oldOk_app rfl
end Y
set_option Elab.async false
set_option linter.all false
set_option maxRecDepth 100000
set_option maxHeartbeats 4000000
/-! Y19: the third courtesy makes one seating (plain law) -/
namespace Y
open PySem
theorem countP_lt {α : Type} {p q : α → Bool} {x : α} : ∀ {l : List α}, x ∈ l → (∀ e, p e = true → q e = true) → p x = false → q x = true → l.countP p < l.countP q
  | [], h, _, _, _ => by cases h
  | y :: l, h, h1, h2, h3 => by
    have le : l.countP p ≤ l.countP q := List.countP_mono_left fun e _ => h1 e
    rw [List.countP_cons, List.countP_cons]
    rcases List.mem_cons.mp h with rfl | h
    · rw [if_neg (by rw [h2]; exact Bool.false_ne_true), if_pos h3]; omega
    · have := countP_lt h h1 h2 h3
      by_cases hy : p y = true
      · rw [if_pos hy, if_pos (h1 y hy)]; omega
      · rw [if_neg hy]; split <;> omega
section
variable (n b : Nat)
/-- how far behind the border b a wish is -/
def away (c : Cm) : Nat := (c.2 + n - b) % n
def atP (rows : List (Option Cm)) (p : Nat) : Option Cm := (rows[(p + b) % n]?).getD none
def ltK (c d : Cm) : Prop := away n b c < away n b d ∨ (away n b c = away n b d ∧ c.1.cps.toList < d.1.cps.toList)
end
theorem mod2 {x n : Nat} (h : x < 2 * n) : x % n = if x < n then x else x - n := by
  split
  · rename_i h1; exact Nat.mod_eq_of_lt h1
  · rename_i h1
    rw [Nat.mod_eq_sub_mod (by omega), Nat.mod_eq_of_lt (by omega)]
section
variable {n b : Nat}
theorem away_lt (hn : 0 < n) {c : Cm} : away n b c < n := Nat.mod_lt _ hn
theorem ltK_irrefl {c : Cm} : ¬ ltK n b c c := fun h => by
  rcases h with h | ⟨_, h⟩
  · omega
  · exact List.lt_irrefl _ h
theorem ltK_trans {c d e : Cm} (h1 : ltK n b c d) (h2 : ltK n b d e) : ltK n b c e := by
  rcases h1 with h1 | ⟨h1, g1⟩ <;> rcases h2 with h2 | ⟨h2, g2⟩
  · exact .inl (by omega)
  · exact .inl (by omega)
  · exact .inl (by omega)
  · exact .inr ⟨by omega, List.lt_trans g1 g2⟩
theorem str_inj {x y : Str} (h : x.cps.toList = y.cps.toList) : x = y := PySem.W.str_of_cps h
theorem ltK_total {c d : Cm} (h : c.1 ≠ d.1) : ltK n b c d ∨ ltK n b d c := by
  by_cases h1 : away n b c < away n b d
  · exact .inl (.inl h1)
  · by_cases h2 : away n b d < away n b c
    · exact .inr (.inl h2)
    · have e : away n b c = away n b d := by omega
      by_cases h3 : c.1.cps.toList < d.1.cps.toList
      · exact .inl (.inr ⟨e, h3⟩)
      · refine .inr (.inr ⟨e.symm, ?_⟩)
        rw [List.not_lt] at h3
        rcases List.le_iff_lt_or_eq.mp h3 with h4 | h4
        · exact h4
        · exact absurd (str_inj h4.symm) h
theorem far_rot {c : Cm} {p : Nat} (hb : b < n) (hc : c.2 < n) (hp : p < n) (ha : away n b c ≤ p) : farF n c ((p + b) % n) = p - away n b c := by
  unfold farF
  unfold away at *
  rw [mod2 (x := c.2 + n - b) (by omega)] at *
  rw [mod2 (x := p + b) (by omega)]
  rw [mod2 (by split <;> omega)]
  split <;> split at ha <;> split <;> omega
theorem stays_rot {t c : Cm} {p : Nat} (hb : b < n) (hc : c.2 < n) (ht : t.2 < n) (hp : p < n) (ha : away n b c ≤ p) (hb' : away n b t ≤ p) : staysF n sFar t c ((p + b) % n) = true ↔ ltK n b t c := by
  unfold staysF
  rw [if_neg (by decide +kernel), if_neg (by decide +kernel), far_rot hb hc hp ha, far_rot hb ht hp hb', decide_eq_true_eq]
  unfold ltK
  constructor
  · rintro (h | ⟨h, h'⟩)
    · exact .inl (by omega)
    · exact .inr ⟨by omega, h'⟩
  · rintro (h | ⟨h, h'⟩)
    · exact .inl (by omega)
    · exact .inr ⟨by omega, h'⟩
theorem seat_inj {p q : Nat} (hb : b < n) (hp : p < n) (hq : q < n) (h : (p + b) % n = (q + b) % n) : p = q := by
  rw [mod2 (x := p + b) (by omega), mod2 (x := q + b) (by omega)] at h
  split at h <;> split at h <;> omega
theorem at_put {rows : List (Option Cm)} {p q : Nat} {c : Cm} (hb : b < n) (hl : rows.length = n) (hp : p < n) (hq : q < n) : atP n b (rows.set ((p + b) % n) (some c)) q = if q = p then some c else atP n b rows q := by
  unfold atP
  split
  · rename_i e; subst e
    rw [List.getElem?_set_self (by rw [hl]; exact Nat.mod_lt _ (by omega))]; rfl
  · rename_i e
    rw [List.getElem?_set_ne fun z => e (seat_inj hb hp hq z).symm]
theorem at_some {rows : List (Option Cm)} {p : Nat} {c : Cm} : atP n b rows p = some c ↔ rows[(p + b) % n]? = some (some c) := by
  unfold atP
  cases rows[(p + b) % n]? with
  | none => simp
  | some o => simp
structure Inv (n b : Nat) (U A : Cm → Prop) (rows : List (Option Cm)) (outs : List Cm) : Prop where
  len : rows.length = n
  sub : ∀ c, A c → U c
  seat : ∀ p, p < n → ∀ c, atP n b rows p = some c → A c ∧ away n b c ≤ p ∧ ∀ t, away n b c ≤ t → t < p → ∃ d, atP n b rows t = some d ∧ ltK n b d c
  out : ∀ c ∈ outs, A c ∧ ∀ t, away n b c ≤ t → t < n → ∃ d, atP n b rows t = some d ∧ ltK n b d c
  all : ∀ c, A c → (∃ p, p < n ∧ atP n b rows p = some c) ∨ c ∈ outs
  nd : outs.Nodup
structure Univ (n : Nat) (U : Cm → Prop) : Prop where
  ne : ∀ c d, U c → U d → c ≠ d → c.1 ≠ d.1
  lt : ∀ c, U c → c.2 < n
variable {U A : Cm → Prop} {rows : List (Option Cm)} {outs : List Cm}
theorem Inv.inj (I : Inv n b U A rows outs) {p q : Nat} {c : Cm} (hp : p < n) (hq : q < n) (h1 : atP n b rows p = some c) (h2 : atP n b rows q = some c) : p = q := by
  rcases Nat.lt_trichotomy p q with h | h | h
  · obtain ⟨d, e1, e2⟩ := (I.seat q hq c h2).2.2 p (I.seat p hp c h1).2.1 h
    rw [h1] at e1; cases e1
    exact absurd e2 ltK_irrefl
  · exact h
  · obtain ⟨d, e1, e2⟩ := (I.seat p hp c h1).2.2 q (I.seat q hq c h2).2.1 h
    rw [h2] at e1; cases e1
    exact absurd e2 ltK_irrefl
theorem Inv.notOut (I : Inv n b U A rows outs) {p : Nat} {c : Cm} (hp : p < n) (h1 : atP n b rows p = some c) : c ∉ outs := fun ho => by
  obtain ⟨d, e1, e2⟩ := (I.out c ho).2 p (I.seat p hp c h1).2.1 hp
  rw [h1] at e1; cases e1
  exact absurd e2 ltK_irrefl
theorem Inv.congr {A' : Cm → Prop} (I : Inv n b U A rows outs) (h : ∀ c, A c ↔ A' c) : Inv n b U A' rows outs := by
  have e : A = A' := funext fun c => propext (h c)
  subst e; exact I
/-- e sits down at a free seat -/
theorem Inv.place (I : Inv n b U A rows outs) (hb : b < n) {p : Nat} {e : Cm} (hp : p < n) (hU : U e) (ha : away n b e ≤ p) (hpre : ∀ t, away n b e ≤ t → t < p → ∃ d, atP n b rows t = some d ∧ ltK n b d e)
    (hfree : atP n b rows p = none) : Inv n b U (fun c => A c ∨ c = e) (rows.set ((p + b) % n) (some e)) outs := by
  have keep : ∀ t, t < n → ∀ d, atP n b rows t = some d → atP n b (rows.set ((p + b) % n) (some e)) t = some d := fun t ht d hd => by
    rw [at_put hb I.len hp ht, if_neg]
    · exact hd
    · intro z; rw [z, hfree] at hd; cases hd
  refine ⟨by rw [List.length_set]; exact I.len, fun c hc => ?_, fun q hq c hc => ?_, fun c hc => ?_, fun c hc => ?_, I.nd⟩
  · rcases hc with hc | rfl
    · exact I.sub c hc
    · exact hU
  · rw [at_put hb I.len hp hq] at hc
    split at hc
    · rename_i z; subst z; cases hc
      exact ⟨.inr rfl, ha, fun t h1 h2 => by obtain ⟨d, g1, g2⟩ := hpre t h1 h2; exact ⟨d, keep t (by omega) d g1, g2⟩⟩
    · obtain ⟨g1, g2, g3⟩ := I.seat q hq c hc
      exact ⟨.inl g1, g2, fun t h1 h2 => by obtain ⟨d, k1, k2⟩ := g3 t h1 h2; exact ⟨d, keep t (by omega) d k1, k2⟩⟩
  · obtain ⟨g1, g2⟩ := I.out c hc
    exact ⟨.inl g1, fun t h1 h2 => by obtain ⟨d, k1, k2⟩ := g2 t h1 h2; exact ⟨d, keep t h2 d k1, k2⟩⟩
  · rcases hc with hc | rfl
    · rcases I.all c hc with ⟨q, hq, g⟩ | g
      · exact .inl ⟨q, hq, keep q hq c g⟩
      · exact .inr g
    · exact .inl ⟨p, hp, by rw [at_put hb I.len hp hp, if_pos rfl]⟩
/-- e takes the seat of one who is nearer -/
theorem Inv.swap (I : Inv n b U A rows outs) (hb : b < n) {p : Nat} {e t0 : Cm} (hp : p < n) (hU : U e) (ha : away n b e ≤ p) (hpre : ∀ t, away n b e ≤ t → t < p → ∃ d, atP n b rows t = some d ∧ ltK n b d e)
    (ht : atP n b rows p = some t0) (hlt : ltK n b e t0) : Inv n b U (fun c => (A c ∧ c ≠ t0) ∨ c = e) (rows.set ((p + b) % n) (some e)) outs := by
  have keep : ∀ t, t < n → ∀ d, atP n b rows t = some d → ∀ c, ltK n b d c → ∃ d', atP n b (rows.set ((p + b) % n) (some e)) t = some d' ∧ ltK n b d' c := fun t htn d hd c hdc => by
    rw [at_put hb I.len hp htn]
    split
    · rename_i z; subst z
      rw [ht] at hd; cases hd
      exact ⟨e, rfl, ltK_trans hlt hdc⟩
    · exact ⟨d, hd, hdc⟩
  refine ⟨by rw [List.length_set]; exact I.len, fun c hc => ?_, fun q hq c hc => ?_, fun c hc => ?_, fun c hc => ?_, I.nd⟩
  · rcases hc with hc | rfl
    · exact I.sub c hc.1
    · exact hU
  · rw [at_put hb I.len hp hq] at hc
    split at hc
    · rename_i z; subst z; cases hc
      refine ⟨.inr rfl, ha, fun t h1 h2 => ?_⟩
      obtain ⟨d, g1, g2⟩ := hpre t h1 h2
      exact ⟨d, by rw [at_put hb I.len hp (by omega), if_neg (by omega)]; exact g1, g2⟩
    · rename_i z
      obtain ⟨g1, g2, g3⟩ := I.seat q hq c hc
      refine ⟨.inl ⟨g1, fun y => ?_⟩, g2, fun t h1 h2 => ?_⟩
      · subst y; exact z (I.inj hq hp hc ht)
      · obtain ⟨d, k1, k2⟩ := g3 t h1 h2
        exact keep t (by omega) d k1 c k2
  · obtain ⟨g1, g2⟩ := I.out c hc
    refine ⟨.inl ⟨g1, fun y => ?_⟩, fun t h1 h2 => ?_⟩
    · subst y; exact I.notOut hp ht hc
    · obtain ⟨d, k1, k2⟩ := g2 t h1 h2
      exact keep t h2 d k1 c k2
  · rcases hc with ⟨hc, hne⟩ | rfl
    · rcases I.all c hc with ⟨q, hq, g⟩ | g
      · refine .inl ⟨q, hq, ?_⟩
        rw [at_put hb I.len hp hq, if_neg]
        · exact g
        · intro z; subst z; rw [ht] at g; cases g; exact hne rfl
      · exact .inr g
    · exact .inl ⟨p, hp, by rw [at_put hb I.len hp hp, if_pos rfl]⟩
/-- e goes out -/
theorem Inv.goOut (I : Inv n b U A rows outs) {e : Cm} (hU : U e) (hn : ¬ A e) (hpre : ∀ t, away n b e ≤ t → t < n → ∃ d, atP n b rows t = some d ∧ ltK n b d e) : Inv n b U (fun c => A c ∨ c = e) rows (outs ++ [e]) := by
  refine ⟨I.len, fun c hc => ?_, fun q hq c hc => ?_, fun c hc => ?_, fun c hc => ?_, ?_⟩
  · rcases hc with hc | rfl
    · exact I.sub c hc
    · exact hU
  · obtain ⟨g1, g2⟩ := I.seat q hq c hc
    exact ⟨.inl g1, g2⟩
  · rcases List.mem_append.mp hc with hc | hc
    · exact ⟨.inl (I.out c hc).1, (I.out c hc).2⟩
    · rw [List.mem_singleton] at hc; subst hc
      exact ⟨.inr rfl, hpre⟩
  · rcases hc with hc | rfl
    · rcases I.all c hc with g | g
      · exact .inl g
      · exact .inr (List.mem_append_left _ g)
    · exact .inr (List.mem_append_right _ (by simp))
  · rw [List.nodup_append]
    refine ⟨I.nd, by simp, fun a h1 c h2 => ?_⟩
    rw [List.mem_singleton] at h2; subst h2
    intro z; subst z; exact hn (I.out a h1).1
/-- one comes -/
theorem go_inv (hb : b < n) {r : Bool} (hr0 : r = false → b = 0) (X : Univ n U) : ∀ (f p : Nat) (e : Cm) (A : Cm → Prop) (rows : List (Option Cm)) (outs : List Cm) x, goF n r sFar f ((p + b) % n) e rows = some x → p < n → Inv n b U A rows outs → U e → ¬ A e → away n b e ≤ p →
    (∀ t, away n b e ≤ t → t < p → ∃ d, atP n b rows t = some d ∧ ltK n b d e) → (r = true → ∃ q, p ≤ q ∧ q < n ∧ atP n b rows q = none) →
    Inv n b U (fun c => A c ∨ c = e) x.1 (match x.2 with | none => outs | some o => outs ++ [o])
  | 0, _, _, _, _, _, _, h, _, _, _, _, _, _, _ => by cases h
  | f + 1, p, e, A, rows, outs, x, h, hp, I, hU, hA, ha, hpre, hq => by
    rw [goF] at h
    split at h
    · cases h
    · rename_i e1
      cases h
      have hfree : atP n b rows p = none := by unfold atP; rw [e1]; rfl
      exact I.place hb hp hU ha hpre hfree
    · rename_i t0 e1
      have ht : atP n b rows p = some t0 := at_some.mpr e1
      obtain ⟨hAt, hat, hpt⟩ := I.seat p hp t0 ht
      have hUt := I.sub t0 hAt
      have hst := stays_rot (t := t0) (c := e) hb (X.lt e hU) (X.lt t0 hUt) hp ha hat
      have hne : e ≠ t0 := fun z => hA (z ▸ hAt)
      have hs1 : r = false → (p + b) % n = p := fun hr => by rw [hr0 hr, Nat.add_zero]; exact Nat.mod_eq_of_lt hp
      simp only at h
      -- behind the question who stays
      have step : ∀ (rows' : List (Option Cm)) (c' : Cm) (A' : Cm → Prop), Inv n b U A' rows' outs → U c' → ¬ A' c' → (∀ c, (A' c ∨ c = c') ↔ (A c ∨ c = e)) → away n b c' ≤ p → (∀ t, away n b c' ≤ t → t < p + 1 → ∃ d, atP n b rows' t = some d ∧ ltK n b d c') → (∀ q, q < n → atP n b rows q = none → atP n b rows' q = none) →
          (if r = false ∧ (p + b) % n + 1 = n then some (rows', some c') else goF n r sFar f (((p + b) % n + 1) % n) c' rows') = some x → Inv n b U (fun c => A c ∨ c = e) x.1 (match x.2 with | none => outs | some o => outs ++ [o]) := by
        intro rows' c' A' I' hU' hA' hiff ha' hpre' hk h
        split at h
        · rename_i hc
          cases h
          have := hs1 hc.1
          refine (I'.goOut hU' hA' fun t h1 h2 => hpre' t h1 (by omega)).congr fun c => hiff c
        · rename_i hc
          have hp1 : p + 1 < n := by
            cases hr : r with
            | false =>
              have := hs1 hr
              rcases Nat.lt_or_ge (p + 1) n with z | z
              · exact z
              · exact absurd ⟨hr, by omega⟩ hc
            | true =>
              obtain ⟨q, q1, q2, q3⟩ := hq hr
              have : q ≠ p := fun z => by rw [z, ht] at q3; cases q3
              omega
          have em : ((p + b) % n + 1) % n = (p + 1 + b) % n := by rw [Nat.mod_add_mod]; congr 1; omega
          rw [em] at h
          refine (go_inv hb hr0 X f (p + 1) c' A' rows' outs x h hp1 I' hU' hA' (by omega) hpre' fun hr => ?_).congr fun c => hiff c
          obtain ⟨q, q1, q2, q3⟩ := hq hr
          have : q ≠ p := fun z => by rw [z, ht] at q3; cases q3
          exact ⟨q, by omega, q2, hk q q2 q3⟩
      by_cases hs : staysF n sFar t0 e ((p + b) % n) = true
      · rw [if_pos hs, if_pos hs] at h
        have hlt := hst.mp hs
        refine step rows e A I hU hA (fun c => Iff.rfl) ha (fun t h1 h2 => ?_) (fun q _ h => h) h
        rcases Nat.lt_or_ge t p with z | z
        · exact hpre t h1 z
        · have : t = p := by omega
          subst this
          exact ⟨t0, ht, hlt⟩
      · rw [if_neg hs, if_neg hs] at h
        have hlt : ltK n b e t0 := (ltK_total (X.ne e t0 hU hUt hne)).elim id fun z => absurd (hst.mpr z) hs
        refine step _ t0 _ (I.swap hb hp hU ha hpre ht hlt) hUt ?_ (fun c => ?_) hat (fun t h1 h2 => ?_) (fun q hqn hfr => ?_) h
        · rintro (⟨_, z⟩ | z)
          · exact z rfl
          · exact hne z.symm
        · constructor
          · rintro ((⟨z, _⟩ | z) | z)
            · exact .inl z
            · exact .inr z
            · subst z; exact .inl hAt
          · rintro (z | z)
            · by_cases y : c = t0
              · exact .inr y
              · exact .inl (.inl ⟨z, y⟩)
            · exact .inl (.inr z)
        · rcases Nat.lt_or_ge t p with z | z
          · obtain ⟨d, g1, g2⟩ := hpt t h1 z
            exact ⟨d, by rw [at_put hb I.len hp (by omega), if_neg (by omega)]; exact g1, g2⟩
          · have : t = p := by omega
            subst this
            exact ⟨e, by rw [at_put hb I.len hp hp, if_pos rfl], hlt⟩
        · rw [at_put hb I.len hp hqn, if_neg]
          · exact hfr
          · intro z; subst z; rw [ht] at hfr; cases hfr
noncomputable def belowB (n b : Nat) (A : Cm → Prop) (c d : Cm) : Bool := @decide (A d ∧ ltK n b d c) (Classical.propDecidable _)
theorem belowB_iff {c d : Cm} : belowB n b A c d = true ↔ A d ∧ ltK n b d c := by
  unfold belowB
  exact @decide_eq_true_iff _ (Classical.propDecidable _)
/-- one seating -/
theorem Inv.unique {rows2 : List (Option Cm)} {outs2 : List Cm} (I : Inv n b U A rows outs) (J : Inv n b U A rows2 outs2) (l : List Cm) (hl : ∀ c, A c → c ∈ l) : (∀ p, p < n → atP n b rows p = atP n b rows2 p) ∧ ∀ c, c ∈ outs ↔ c ∈ outs2 := by
  -- one direction, from those below
  have dir : ∀ {rows rows2 : List (Option Cm)} {outs outs2 : List Cm}, Inv n b U A rows outs → Inv n b U A rows2 outs2 → ∀ c, (∀ d, ltK n b d c → ∀ p, p < n → (atP n b rows p = some d ↔ atP n b rows2 p = some d)) → ∀ p, p < n → atP n b rows p = some c → atP n b rows2 p = some c := by
    intro rows rows2 outs outs2 I J c ih p hp hc
    obtain ⟨g1, g2, g3⟩ := I.seat p hp c hc
    rcases J.all c g1 with ⟨q, hq, hcq⟩ | ho
    · obtain ⟨k1, k2, k3⟩ := J.seat q hq c hcq
      rcases Nat.lt_trichotomy p q with h | h | h
      · obtain ⟨d, e1, e2⟩ := k3 p g2 h
        have := (ih d e2 p hp).mpr e1
        rw [hc] at this; cases this
        exact absurd e2 ltK_irrefl
      · rw [h]; exact hcq
      · obtain ⟨d, e1, e2⟩ := g3 q k2 h
        have := (ih d e2 q hq).mp e1
        rw [hcq] at this; cases this
        exact absurd e2 ltK_irrefl
    · obtain ⟨d, e1, e2⟩ := (J.out c ho).2 p g2 hp
      have := (ih d e2 p hp).mpr e1
      rw [hc] at this; cases this
      exact absurd e2 ltK_irrefl
  have same : ∀ m (c : Cm), l.countP (belowB n b A c) ≤ m → ∀ p, p < n → (atP n b rows p = some c ↔ atP n b rows2 p = some c) := by
    intro m
    induction m with
    | zero =>
      intro c hc p hp
      have hz : ∀ d, ltK n b d c → ∀ p, p < n → (atP n b rows p = some d ↔ atP n b rows2 p = some d) := by
        intro d hd p hp
        have no : ¬ A d := fun hA => by
          have := List.countP_pos_iff.mpr ⟨d, hl d hA, belowB_iff.mpr ⟨hA, hd⟩⟩
          omega
        exact ⟨fun h => absurd (I.seat p hp d h).1 no, fun h => absurd (J.seat p hp d h).1 no⟩
      exact ⟨dir I J c hz p hp, dir J I c (fun d hd q hq => (hz d hd q hq).symm) p hp⟩
    | succ m ih =>
      intro c hc p hp
      have hz : ∀ d, ltK n b d c → ∀ p, p < n → (atP n b rows p = some d ↔ atP n b rows2 p = some d) := by
        intro d hd q hq
        by_cases hA : A d
        · refine ih d ?_ q hq
          have : l.countP (belowB n b A d) < l.countP (belowB n b A c) := by
            refine countP_lt (x := d) (hl d hA) (fun e he => ?_) ?_ ?_
            · have he := belowB_iff.mp he
              exact belowB_iff.mpr ⟨he.1, ltK_trans he.2 hd⟩
            · rw [Bool.eq_false_iff]; exact fun z => ltK_irrefl (belowB_iff.mp z).2
            · exact belowB_iff.mpr ⟨hA, hd⟩
          omega
        · exact ⟨fun h => absurd (I.seat q hq d h).1 hA, fun h => absurd (J.seat q hq d h).1 hA⟩
      exact ⟨dir I J c hz p hp, dir J I c (fun d hd q hq => (hz d hd q hq).symm) p hp⟩
  have same' : ∀ c p, p < n → (atP n b rows p = some c ↔ atP n b rows2 p = some c) := fun c p hp => same _ c (Nat.le_refl _) p hp
  refine ⟨fun p hp => ?_, fun c => ⟨fun hc => ?_, fun hc => ?_⟩⟩
  · cases h : atP n b rows p with
    | some c => exact ((same' c p hp).mp h).symm
    | none =>
      cases h2 : atP n b rows2 p with
      | none => rfl
      | some c => rw [(same' c p hp).mpr h2] at h; cases h
  · rcases J.all c (I.out c hc).1 with ⟨p, hp, h⟩ | h
    · exact absurd hc (I.notOut hp ((same' c p hp).mpr h))
    · exact h
  · rcases I.all c (J.out c hc).1 with ⟨p, hp, h⟩ | h
    · exact absurd hc (J.notOut hp ((same' c p hp).mp h))
    · exact h
theorem rows_ext {rows2 : List (Option Cm)} (hb : b < n) (h1 : rows.length = n) (h2 : rows2.length = n) (h : ∀ p, p < n → atP n b rows p = atP n b rows2 p) : rows = rows2 := by
  refine List.ext_getElem (by omega) fun s hs hs' => ?_
  have := h ((s + n - b) % n) (Nat.mod_lt _ (by omega))
  have e : ((s + n - b) % n + b) % n = s := by
    rw [Nat.mod_add_mod, show s + n - b + b = s + n by omega, Nat.add_mod_right, Nat.mod_eq_of_lt (by omega)]
  unfold atP at this
  rw [e, List.getElem?_eq_getElem hs, List.getElem?_eq_getElem hs'] at this
  exact this
end
end Y
set_option Elab.async false
set_option linter.all false
set_option maxRecDepth 100000
set_option maxHeartbeats 4000000
/-! Y20: the third courtesy: a free seat ahead of the border; all come; the law's own seating -/
namespace Y
open PySem
theorem nodup_len {α : Type} [BEq α] [LawfulBEq α] : ∀ {l m : List α}, l.Nodup → (∀ x ∈ l, x ∈ m) → l.length ≤ m.length
  | [], _, _, _ => Nat.zero_le _
  | x :: l, m, hn, h => by
    rw [List.nodup_cons] at hn
    have hx := h x (by simp)
    have := nodup_len (l := l) (m := m.erase x) hn.2 fun y hy => by
      rw [List.mem_erase_of_ne]
      · exact h y (List.mem_cons_of_mem _ hy)
      · intro z; subst z; exact hn.1 hy
    rw [List.length_erase_of_mem hx] at this
    have := List.length_pos_of_mem hx
    simp only [List.length_cons]; omega
theorem perm_of_mem {α : Type} [DecidableEq α] : ∀ {l m : List α}, l.Nodup → m.Nodup → (∀ x, x ∈ l ↔ x ∈ m) → l.Perm m
  | [], m, _, _, h => by
    cases m with
    | nil => exact .refl _
    | cons y m => exact absurd ((h y).mpr (by simp)) (by simp)
  | x :: l, m, hl, hm, h => by
    rw [List.nodup_cons] at hl
    have hx := (h x).mp (by simp)
    have p := List.perm_cons_erase hx
    refine (List.Perm.cons x (perm_of_mem hl.2 (hm.erase x) fun y => ?_)).trans p.symm
    constructor
    · intro hy
      rw [List.mem_erase_of_ne fun (z : y = x) => hl.1 (z ▸ hy)]
      exact (h y).mp (List.mem_cons_of_mem _ hy)
    · intro hy
      rw [hm.mem_erase_iff] at hy
      rcases List.mem_cons.mp ((h y).mpr hy.2) with z | z
      · exact absurd z hy.1
      · exact z
section
variable {n b : Nat} {U A : Cm → Prop} {rows : List (Option Cm)} {outs : List Cm}
/-- not more wish from m on than there are seats from m on -/
def Room (n b : Nat) (cs : List Cm) : Prop := ∀ m, m < n → (cs.filter fun c => decide (m ≤ away n b c)).length ≤ n - m
theorem free_ahead (I : Inv n b U A rows outs) (hb : b < n) {cs : List Cm} (hA : ∀ c, A c → c ∈ cs) (hR : Room n b cs) {e : Cm} (he : e ∈ cs) (hn : ¬ A e) : ∃ q, away n b e ≤ q ∧ q < n ∧ atP n b rows q = none := by
  apply Classical.byContradiction
  intro hno
  have full : ∀ q, away n b e ≤ q → q < n → ∃ c, atP n b rows q = some c := fun q h1 h2 => by
    cases h : atP n b rows q with
    | none => exact absurd ⟨q, h1, h2, h⟩ hno
    | some c => exact ⟨c, rfl⟩
  -- the least m from which on all are taken
  obtain ⟨m, hm1, hm2, hm3⟩ : ∃ m, m ≤ away n b e ∧ (∀ q, m ≤ q → q < n → ∃ c, atP n b rows q = some c) ∧ (m = 0 ∨ atP n b rows (m - 1) = none) := by
    have go : ∀ k, k ≤ away n b e → (∀ q, k ≤ q → q < n → ∃ c, atP n b rows q = some c) → ∃ m, m ≤ away n b e ∧ (∀ q, m ≤ q → q < n → ∃ c, atP n b rows q = some c) ∧ (m = 0 ∨ atP n b rows (m - 1) = none) := by
      intro k
      induction k with
      | zero => intro h1 h2; exact ⟨0, h1, h2, .inl rfl⟩
      | succ k ih =>
        intro h1 h2
        cases h : atP n b rows k with
        | none => exact ⟨k + 1, h1, h2, .inr h⟩
        | some c =>
          refine ih (by omega) fun q g1 g2 => ?_
          rcases Nat.lt_or_ge k q with z | z
          · exact h2 q z g2
          · have : q = k := by omega
            subst this; exact ⟨c, h⟩
    exact go _ (Nat.le_refl _) full
  have hae : away n b e < n := away_lt (by omega)
  -- who sits there
  have who : ∀ q, m ≤ q → q < n → ∃ c, atP n b rows q = some c ∧ A c ∧ m ≤ away n b c := fun q h1 h2 => by
    obtain ⟨c, hc⟩ := hm2 q h1 h2
    obtain ⟨g1, g2, g3⟩ := I.seat q h2 c hc
    refine ⟨c, hc, g1, ?_⟩
    rcases hm3 with z | z
    · omega
    · rcases Nat.lt_or_ge (away n b c) m with y | y
      · obtain ⟨d, k1, _⟩ := g3 (m - 1) (by omega) (by omega)
        rw [z] at k1; cases k1
      · exact y
  have key : ∀ d, d ≤ n - m → ∃ l : List Cm, l.length = d ∧ l.Nodup ∧ (∀ c ∈ l, A c ∧ m ≤ away n b c) ∧ ∀ c ∈ l, ∃ q, m ≤ q ∧ q < m + d ∧ atP n b rows q = some c := by
    intro d
    induction d with
    | zero => intro _; exact ⟨[], rfl, .nil, fun c hc => (by cases hc), fun c hc => (by cases hc)⟩
    | succ d ih =>
      intro hd
      obtain ⟨l, l1, l2, l3, l4⟩ := ih (by omega)
      obtain ⟨c, c1, c2, c3⟩ := who (m + d) (by omega) (by omega)
      refine ⟨c :: l, by simp [l1], List.nodup_cons.mpr ⟨fun hc => ?_, l2⟩, fun x hx => ?_, fun x hx => ?_⟩
      · obtain ⟨q, q1, q2, q3⟩ := l4 c hc
        have := I.inj (by omega) (by omega) q3 c1
        omega
      · rcases List.mem_cons.mp hx with rfl | hx
        · exact ⟨c2, c3⟩
        · exact l3 x hx
      · rcases List.mem_cons.mp hx with rfl | hx
        · exact ⟨m + d, by omega, by omega, c1⟩
        · obtain ⟨q, q1, q2, q3⟩ := l4 x hx
          exact ⟨q, q1, by omega, q3⟩
  obtain ⟨l, l1, l2, l3, _⟩ := key (n - m) (Nat.le_refl _)
  have := nodup_len (l := e :: l) (m := cs.filter fun c => decide (m ≤ away n b c)) (List.nodup_cons.mpr ⟨fun h => hn (l3 e h).1, l2⟩) fun x hx => by
    rw [List.mem_filter]
    rcases List.mem_cons.mp hx with rfl | hx
    · exact ⟨he, decide_eq_true hm1⟩
    · exact ⟨hA x (l3 x hx).1, decide_eq_true (l3 x hx).2⟩
  have h2 := hR m (by omega)
  simp only [List.length_cons] at this
  omega
theorem inv_empty (hn : 0 < n) : Inv n b U (fun _ => False) (emptyR n) [] := by
  have no : ∀ p, p < n → atP n b (emptyR n) p = none := fun p hp => by
    unfold atP emptyR
    rw [List.getElem?_replicate]
    split <;> rfl
  refine ⟨List.length_replicate, fun c h => h.elim, fun p hp c h => ?_, fun c h => (by cases h), fun c h => h.elim, .nil⟩
  rw [no p hp] at h; cases h
/-- all come, one by one -/
theorem seat_inv3 {r : Bool} (hb : b < n) (hr0 : r = false → b = 0) {cs os : List Cm} (X : Univ n (· ∈ cs)) (hR : r = true → Room n b cs) : ∀ (as : List Cm) (A : Cm → Prop) (rows : List (Option Cm)) (outs : List Cm), (∀ c ∈ as, c ∈ cs) → as.Nodup → (∀ c ∈ as, ¬ A c) → Inv n b (· ∈ cs) A rows outs → (r = true → outs = []) →
    Inv n b (· ∈ cs) (fun c => A c ∨ c ∈ as) (seatF n r sFar as rows outs).1 (seatF n r sFar as rows outs).2
  | [], A, rows, outs, _, _, _, I, _ => I.congr fun c => by simp
  | e :: as, A, rows, outs, hs, hd, hA, I, ho => by
    rw [List.nodup_cons] at hd
    have he := hs e (by simp)
    have hn : 0 < n := by omega
    have hfa : r = true → ∃ q, away n b e ≤ q ∧ q < n ∧ atP n b rows q = none := fun hr => free_ahead I hb I.sub (hR hr) he (hA e (by simp))
    have hc := X.lt e he
    have hfree : r = true → none ∈ rows := fun hr => by
      obtain ⟨q, q1, q2, q3⟩ := hfa hr
      have hl : (q + b) % n < rows.length := by rw [I.len]; exact Nat.mod_lt _ hn
      unfold atP at q3
      rw [List.getElem?_eq_getElem hl] at q3
      rw [← show rows[(q + b) % n] = none from q3]
      exact List.getElem_mem hl
    have hg := go_ex (w := sFar) hc I.len hfree
    have hs0 : (away n b e + b) % n = e.2 := by
      unfold away
      rw [Nat.mod_add_mod, show e.2 + n - b + b = e.2 + n by omega, Nat.add_mod_right, Nat.mod_eq_of_lt hc]
    rw [← hs0] at hg
    have hg' : goF n r sFar (n + 1) ((away n b e + b) % n) e rows = some (comeF n r sFar rows e) := by
      rw [hs0] at hg ⊢; exact hg
    have J := go_inv hb hr0 X (n + 1) (away n b e) e A rows outs _ hg' (away_lt hn) I he (hA e (by simp)) (Nat.le_refl _) (fun t h1 h2 => absurd h2 (by omega)) hfa
    have hout : r = true → (comeF n r sFar rows e).2 = none := (go_free _ _ _ _ _ hg').2
    rw [seatF]
    refine (seat_inv3 hb hr0 (os := os) X hR as _ _ _ (fun c h => hs c (List.mem_cons_of_mem _ h)) hd.2 (fun c h => ?_) J fun hr => ?_).congr fun c => ?_
    · rintro (z | z)
      · exact hA c (List.mem_cons_of_mem _ h) z
      · subst z; exact hd.1 h
    · rw [hout hr]; exact ho hr
    · rw [List.mem_cons]
      constructor
      · rintro ((z | z) | z)
        · exact .inl z
        · exact .inr (.inl z)
        · exact .inr (.inr z)
      · rintro (z | z | z)
        · exact .inl (.inl z)
        · exact .inl (.inr z)
        · exact .inr z
/-! ### the law's own: one behind the one ahead -/
def oneF (n b : Nat) : List Cm → Nat → List (Option Cm) → List Cm → List (Option Cm) × List Cm
  | [], _, rows, outs => (rows, outs)
  | c :: cs, next, rows, outs =>
    let p := if away n b c < next then next else away n b c
    if p < n then oneF n b cs (p + 1) (rows.set ((p + b) % n) (some c)) outs else oneF n b cs (p + 1) rows (outs ++ [c])
theorem one_inv (hb : b < n) (hU : ∀ c, U c → c.2 < n) : ∀ (cs : List Cm) (next lo : Nat) (A : Cm → Prop) (rows : List (Option Cm)) (outs : List Cm), Inv n b U A rows outs → (∀ c ∈ cs, U c) → (∀ c ∈ cs, ¬ A c) → cs.Pairwise (fun c d => ltK n b c d) → (∀ c, A c → ∀ d ∈ cs, ltK n b c d) →
    (∀ c ∈ cs, lo ≤ away n b c) → (∀ t, lo ≤ t → t < next → t < n → ∃ d, atP n b rows t = some d) → (∀ t, next ≤ t → t < n → atP n b rows t = none) →
    Inv n b U (fun c => A c ∨ c ∈ cs) (oneF n b cs next rows outs).1 (oneF n b cs next rows outs).2
  | [], _, _, A, rows, outs, I, _, _, _, _, _, _, _ => I.congr fun c => by simp
  | e :: cs, next, lo, A, rows, outs, I, hu, hA, hp, hAll, hlo, hocc, hfr => by
    rw [List.pairwise_cons] at hp
    have hn : 0 < n := by omega
    have hae : away n b e < n := away_lt hn
    have hle := hlo e (by simp)
    have iff' : ∀ c, ((A c ∨ c = e) ∨ c ∈ cs) ↔ (A c ∨ c ∈ e :: cs) := fun c => by
      rw [List.mem_cons]
      constructor
      · rintro ((z | z) | z)
        · exact .inl z
        · exact .inr (.inl z)
        · exact .inr (.inr z)
      · rintro (z | z | z)
        · exact .inl (.inl z)
        · exact .inl (.inr z)
        · exact .inr z
    have hA' : ∀ c ∈ cs, ¬ (A c ∨ c = e) := fun c hc z => by
      rcases z with z | z
      · exact hA c (List.mem_cons_of_mem _ hc) z
      · subst z; exact ltK_irrefl (hp.1 c hc)
    have hAll' : ∀ c, (A c ∨ c = e) → ∀ d ∈ cs, ltK n b c d := fun c hc d hd => by
      rcases hc with z | z
      · exact hAll c z d (List.mem_cons_of_mem _ hd)
      · subst z; exact hp.1 d hd
    have hlo' : ∀ c ∈ cs, away n b e ≤ away n b c := fun c hc => by
      rcases hp.1 c hc with z | z
      · omega
      · omega
    obtain ⟨p, hpe⟩ : ∃ p, p = if away n b e < next then next else away n b e := ⟨_, rfl⟩
    have hpp : away n b e ≤ p ∧ next ≤ p := by rw [hpe]; split <;> omega
    -- what stands from the wish to p
    have pre : ∀ t, away n b e ≤ t → t < p → t < n → ∃ d, atP n b rows t = some d ∧ ltK n b d e := fun t h1 h2 h3 => by
      have : t < next := by rw [hpe] at h2; split at h2 <;> omega
      obtain ⟨d, hd⟩ := hocc t (by omega) this h3
      exact ⟨d, hd, hAll d (I.seat t h3 d hd).1 e (by simp)⟩
    rw [oneF]
    simp only [← hpe]
    split
    · rename_i hpn
      have J := I.place hb hpn (hu e (by simp)) hpp.1 (fun t h1 h2 => pre t h1 h2 (by omega)) (hfr p hpp.2 hpn)
      refine (one_inv hb hU cs (p + 1) (away n b e) _ _ _ J (fun c h => hu c (List.mem_cons_of_mem _ h)) hA' hp.2 hAll' hlo' (fun t h1 h2 h3 => ?_) fun t h1 h2 => ?_).congr iff'
      · rw [at_put hb I.len hpn h3]
        split
        · exact ⟨e, rfl⟩
        · obtain ⟨d, g, _⟩ := pre t h1 (by omega) h3
          exact ⟨d, g⟩
      · rw [at_put hb I.len hpn h2, if_neg (by omega)]
        exact hfr t (by omega) h2
    · rename_i hpn
      have J := I.goOut (hu e (by simp)) (hA e (by simp)) fun t h1 h2 => pre t h1 (by omega) h2
      refine (one_inv hb hU cs (p + 1) (away n b e) _ _ _ J (fun c h => hu c (List.mem_cons_of_mem _ h)) hA' hp.2 hAll' hlo' (fun t h1 h2 h3 => ?_) fun t h1 h2 => ?_).congr iff'
      · obtain ⟨d, g, _⟩ := pre t h1 (by omega) h3
        exact ⟨d, g⟩
      · omega
/-- the third courtesy makes one seating -/
theorem one_seating {r : Bool} (hb : b < n) (hr0 : r = false → b = 0) {cs os ss : List Cm} (X : Univ n (· ∈ cs)) (hcd : cs.Nodup) (hR : r = true → Room n b cs) (ho : os.Perm cs) (hs : ss.Perm cs) (hsort : ss.Pairwise (fun c d => ltK n b c d)) :
    (seatF n r sFar os (emptyR n) []).1 = (oneF n b ss 0 (emptyR n) []).1 ∧ (seatF n r sFar os (emptyR n) []).2.Perm (oneF n b ss 0 (emptyR n) []).2 ∧ (seatF n r sFar os (emptyR n) []).2.Nodup ∧ ∀ c ∈ (seatF n r sFar os (emptyR n) []).2, c ∈ cs := by
  have hn : 0 < n := by omega
  have I := seat_inv3 (os := os) (r := r) hb hr0 X hR os (fun _ => False) (emptyR n) [] (fun c h => ho.mem_iff.mp h) (ho.nodup_iff.mpr hcd) (fun _ _ h => h) (inv_empty hn) (fun _ => rfl)
  have hne : ∀ t, t < n → atP n b (emptyR n) t = none := fun p hp => by
    unfold atP emptyR
    rw [List.getElem?_replicate]
    split <;> rfl
  have J := one_inv (U := (· ∈ cs)) hb X.lt ss 0 0 (fun _ => False) (emptyR n) [] (inv_empty hn) (fun c h => hs.mem_iff.mp h) (fun _ _ h => h) hsort (fun c h => h.elim) (fun c _ => Nat.zero_le _) (fun t _ h _ => absurd h (by omega)) (fun t _ h => hne t h)
  have I' := I.congr (A' := (· ∈ cs)) fun c => by rw [false_or, ho.mem_iff]
  have J' := J.congr (A' := (· ∈ cs)) fun c => by rw [false_or, hs.mem_iff]
  obtain ⟨u1, u2⟩ := I'.unique J' cs fun c h => h
  exact ⟨rows_ext hb I'.len J'.len u1, perm_of_mem I'.nd J'.nd u2, I'.nd, fun c h => (I'.out c h).1⟩
end
end Y
set_option Elab.async false
set_option linter.all false
set_option maxRecDepth 100000
set_option maxHeartbeats 4000000
/-! Y21: who goes over the borders of a ring; lists sorted -/
namespace Y
open PySem
section
variable {n : Nat}
/-- how many go on, seat by seat, round and round -/
def hereN (n : Nat) (w : Nat → Nat) : Nat → Nat
  | 0 => 0
  | k + 1 => hereN n w k + w (k % n) - 1
def wishN (cs : List Cm) (s : Nat) : Nat := cs.countP fun c => decide (c.2 = s)
theorem away_iff {b : Nat} (hb : b < n) {c : Cm} (hc : c.2 < n) {j : Nat} (hj : j < n) : away n b c = j ↔ c.2 = (b + j) % n := by
  unfold away
  rw [mod2 (x := c.2 + n - b) (by omega), mod2 (x := b + j) (by omega)]
  split <;> split <;> omega
theorem countP_or {α : Type} {p q r : α → Bool} : ∀ {l : List α}, (∀ x ∈ l, r x = (p x || q x)) → (∀ x ∈ l, ¬ (p x = true ∧ q x = true)) → l.countP r = l.countP p + l.countP q
  | [], _, _ => rfl
  | x :: l, h1, h2 => by
    rw [List.countP_cons, List.countP_cons, List.countP_cons, countP_or (fun y hy => h1 y (List.mem_cons_of_mem _ hy)) (fun y hy => h2 y (List.mem_cons_of_mem _ hy)), h1 x (by simp)]
    have := h2 x (by simp)
    cases hp : p x <;> cases hq : q x <;> simp_all <;> omega
theorem room_of {s : Nat} (hs : s < n) {cs : List Cm} (hcs : ∀ c ∈ cs, c.2 < n) (h : hereN n (wishN cs) (n + s + 1) = 0) : Room n ((s + 1) % n) cs := by
  intro m hm
  have hn : 0 < n := by omega
  obtain ⟨b, hb⟩ : ∃ b, b = (s + 1) % n := ⟨_, rfl⟩
  have hbn : b < n := by rw [hb]; exact Nat.mod_lt _ hn
  rw [← hb]
  have claim : ∀ d, m + d ≤ n → cs.countP (fun c => decide (m ≤ away n b c ∧ away n b c < m + d)) ≤ hereN n (wishN cs) (s + 1 + (m + d)) + d := by
    intro d
    induction d with
    | zero =>
      intro _
      have : cs.countP (fun c => decide (m ≤ away n b c ∧ away n b c < m + 0)) = 0 := by
        rw [List.countP_eq_zero]
        intro c _ z
        have := of_decide_eq_true z
        omega
      omega
    | succ d ih =>
      intro hd
      have i1 := ih (by omega)
      have e1 : cs.countP (fun c => decide (m ≤ away n b c ∧ away n b c < m + (d + 1))) = cs.countP (fun c => decide (m ≤ away n b c ∧ away n b c < m + d)) + cs.countP (fun c => decide (away n b c = m + d)) := by
        refine countP_or (fun c _ => ?_) fun c _ z => ?_
        · rw [← Bool.decide_or]
          exact decide_eq_decide.mpr ⟨fun h => by omega, fun h => by omega⟩
        · have z1 := of_decide_eq_true z.1
          have z2 := of_decide_eq_true z.2
          omega
      have e2 : cs.countP (fun c => decide (away n b c = m + d)) = wishN cs ((s + 1 + (m + d)) % n) := by
        unfold wishN
        refine List.countP_congr fun c hc => ?_
        rw [decide_eq_true_eq, decide_eq_true_eq, away_iff hbn (hcs c hc) (by omega), hb, Nat.mod_add_mod]
      rw [e1, e2]
      have e3 : s + 1 + (m + (d + 1)) = (s + 1 + (m + d)) + 1 := by omega
      rw [e3, hereN]
      omega
  have c1 := claim (n - m) (by omega)
  rw [show s + 1 + (m + (n - m)) = n + s + 1 by omega, h] at c1
  rw [← List.countP_eq_length_filter]
  have e4 : cs.countP (fun c => decide (m ≤ away n b c ∧ away n b c < m + (n - m))) = cs.countP (fun c => decide (m ≤ away n b c)) := by
    refine List.countP_congr fun c _ => ?_
    rw [decide_eq_true_eq, decide_eq_true_eq]
    have := away_lt (b := b) hn (c := c)
    constructor
    · exact fun h => h.1
    · exact fun h => ⟨h, by omega⟩
  omega
def sumN (n : Nat) (w : Nat → Nat) : Nat → Int
  | 0 => 0
  | k + 1 => sumN n w k + (w (k % n) : Nat) - 1
theorem here_sum {w : Nat → Nat} : ∀ k, ∃ j, j ≤ k ∧ (hereN n w k : Int) = sumN n w k - sumN n w j
  | 0 => ⟨0, Nat.le_refl _, by simp [hereN]⟩
  | k + 1 => by
    obtain ⟨j, h1, h2⟩ := here_sum (w := w) k
    rw [hereN, sumN]
    by_cases h : 1 ≤ hereN n w k + w (k % n)
    · exact ⟨j, by omega, by omega⟩
    · exact ⟨k + 1, Nat.le_refl _, by rw [sumN]; omega⟩
theorem sum_per {w : Nat → Nat} : ∀ j, sumN n w (j + n) = sumN n w j + sumN n w n
  | 0 => by rw [Nat.zero_add, sumN]; omega
  | j + 1 => by
    rw [show j + 1 + n = (j + n) + 1 by omega, sumN, sum_per j, Nat.add_mod_right, sumN]
    omega
theorem sum_all {cs : List Cm} (hcs : ∀ c ∈ cs, c.2 < n) : sumN n (wishN cs) n = (cs.length : Int) - n := by
  have claim : ∀ j, j ≤ n → sumN n (wishN cs) j = (cs.countP fun c => decide (c.2 < j) : Nat) - (j : Int) := by
    intro j
    induction j with
    | zero =>
      intro _
      have : cs.countP (fun c => decide (c.2 < 0)) = 0 := by
        rw [List.countP_eq_zero]; intro c _ z; exact absurd (of_decide_eq_true z) (by omega)
      rw [sumN, this]; rfl
    | succ j ih =>
      intro hj
      have e1 : cs.countP (fun c => decide (c.2 < j + 1)) = cs.countP (fun c => decide (c.2 < j)) + wishN cs j := by
        refine countP_or (fun c _ => ?_) fun c _ z => ?_
        · rw [← Bool.decide_or]
          exact decide_eq_decide.mpr ⟨fun h => by omega, fun h => by omega⟩
        · have z1 := of_decide_eq_true z.1
          have z2 := of_decide_eq_true z.2
          omega
      rw [sumN, ih (by omega), Nat.mod_eq_of_lt (by omega), e1]
      omega
  rw [claim n (Nat.le_refl _)]
  have : cs.countP (fun c => decide (c.2 < n)) = cs.length := by
    rw [List.countP_eq_length]; intro c hc; exact decide_eq_true (hcs c hc)
  rw [this]
theorem arg_min (f : Nat → Int) (a : Nat) : ∀ d, ∃ k, a < k ∧ k ≤ a + d + 1 ∧ ∀ j, a < j → j ≤ a + d + 1 → f k ≤ f j
  | 0 => ⟨a + 1, by omega, by omega, fun j h1 h2 => by have : j = a + 1 := by omega
                                                       rw [this]; exact Int.le_refl _⟩
  | d + 1 => by
    obtain ⟨k, h1, h2, h3⟩ := arg_min f a d
    by_cases h : f k ≤ f (a + d + 2)
    · refine ⟨k, h1, by omega, fun j g1 g2 => ?_⟩
      rcases Nat.lt_or_ge j (a + d + 2) with z | z
      · exact h3 j g1 (by omega)
      · have : j = a + d + 2 := by omega
        rw [this]; exact h
    · refine ⟨a + d + 2, by omega, by omega, fun j g1 g2 => ?_⟩
      rcases Nat.lt_or_ge j (a + d + 2) with z | z
      · have := h3 j g1 (by omega); omega
      · have : j = a + d + 2 := by omega
        rw [this]; exact Int.le_refl _
/-- a ring has a border that nobody goes over -/
theorem here_zero {cs : List Cm} (hn : 0 < n) (hcs : ∀ c ∈ cs, c.2 < n) (hl : cs.length ≤ n) : ∃ s, s < n ∧ hereN n (wishN cs) (n + s + 1) = 0 := by
  obtain ⟨k, h1, h2, h3⟩ := arg_min (sumN n (wishN cs)) n (n - 1)
  have hs := sum_all hcs
  refine ⟨k - n - 1, by omega, ?_⟩
  rw [show n + (k - n - 1) + 1 = k by omega]
  obtain ⟨j, g1, g2⟩ := here_sum (n := n) (w := wishN cs) k
  have : sumN n (wishN cs) k ≤ sumN n (wishN cs) j := by
    rcases Nat.lt_or_ge n j with z | z
    · exact h3 j z (by omega)
    · have p := sum_per (n := n) (w := wishN cs) j
      rcases Nat.eq_zero_or_pos j with y | y
      · subst y
        have p2 := sum_per (n := n) (w := wishN cs) n
        have := h3 (n + n) (by omega) (by omega)
        rw [sumN]; omega
      · have := h3 (j + n) (by omega) (by omega)
        omega
  omega
end
/-! ### sorted -/
section
variable {α β : Type}
theorem ins_map {f : α → β} {le : β → β → Bool} {x : α} : ∀ {l : List α}, ins le (f x) (l.map f) = (ins (fun a c => le (f a) (f c)) x l).map f
  | [] => rfl
  | y :: l => by
    rw [List.map_cons, ins, ins]
    split
    · rfl
    · rw [ins_map]; rfl
theorem isort_map {f : α → β} {le : β → β → Bool} : ∀ {l : List α}, isort le (l.map f) = (isort (fun a c => le (f a) (f c)) l).map f
  | [] => rfl
  | x :: l => by rw [List.map_cons, isort, isort_map, ins_map]; rfl
end
def dC (c : Cm) : PyData := .tuple [.str c.1, .int c.2]
def leC (c d : Cm) : Bool := !PySem.W.dataLt (dC d) (dC c)
theorem den_C {st : Sto} {c : Cm} {f : Nat} : den st (f + 2) (encC c) = some (dC c) := rfl
theorem mapO_C {st : Sto} {f : Nat} : ∀ {cs : List Cm}, mapO (den st (f + 2)) (cs.map encC) = some (cs.map dC)
  | [] => rfl
  | c :: cs => by rw [List.map_cons, mapO, mapO_C (cs := cs)]; rfl
theorem zip_map' {α β γ : Type} {f : α → β} {g : α → γ} : ∀ {l : List α}, (l.map f).zip (l.map g) = l.map fun x => (f x, g x)
  | [] => rfl
  | x :: l => by rw [List.map_cons, List.map_cons, List.zip_cons_cons, zip_map']; rfl
theorem alikeB_map {α : Type} {f : α → PyData} {l : List α} (h : ∀ x y, PySem.W.alike (f x) (f y) = true) : alikeB (l.map f) = true := by
  unfold alikeB
  rw [List.all_map, List.all_eq_true]
  intro x _
  show ((l.map f).all fun e => PySem.W.alike (f x) e) = true
  rw [List.all_map, List.all_eq_true]
  intro y _
  exact h x y
theorem sortB_map {α : Type} {f : α → PyData} {l : List α} (h : ∀ x, isTupC (f x) = true) : sortB (l.map f) = true := by
  unfold sortB
  rw [Bool.or_eq_true]
  refine .inl ?_
  rw [List.all_map, List.all_eq_true]
  intro x _
  exact h x
/-- a list of data, sorted -/
theorem sorted_g {α : Type} {enc : α → AV} {d : α → PyData} {st : Sto} {k : Nat} {cs : List α} (hk : st[k]? = some (.lst (cs.map enc))) (hd : mapO (den st DEEP) (cs.map enc) = some (cs.map d)) (ha : ∀ x y, PySem.W.alike (d x) (d y) = true) (ht : ∀ x, isTupC (d x) = true) :
    oSorted [.loc k] st = .ok (.loc st.length) (st ++ [.lst ((isort (fun a c => !PySem.W.dataLt (d c) (d a)) cs).map enc)]) := by
  unfold oSorted
  simp only [rdL_ok hk, hd, alikeB_map ha, sortB_map ht, Bool.and_self, if_true, zip_map', isort_map, List.map_map]
  rfl
theorem sorted_C {st : Sto} {k : Nat} {cs : List Cm} (hk : st[k]? = some (.lst (cs.map encC))) : oSorted [.loc k] st = .ok (.loc st.length) (st ++ [.lst ((isort leC cs).map encC)]) :=
  sorted_g hk (mapO_C (f := 14)) (fun _ _ => rfl) fun _ => rfl
theorem lt_C {c d : Cm} : PySem.W.dataLt (dC c) (dC d) = if c.1 = d.1 then decide (c.2 < d.2) else decide (c.1.cps.toList < d.1.cps.toList) := by
  unfold dC
  rw [PySem.W.dataLt_pair rfl rfl, PySem.W.dataLt_int, PySem.W.dataLt_str]
  show (if (c.1 == d.1) = true then if ((c.2 : Int) == (d.2 : Nat)) = true then false else _ else _) = _
  by_cases h : c.1 = d.1
  · rw [if_pos (by simpa using h), if_pos h]
    by_cases h2 : c.2 = d.2
    · rw [if_pos (by simp [h2])]
      exact (decide_eq_false (by omega)).symm
    · rw [if_neg (by simp; omega)]
      exact decide_eq_decide.mpr (by omega)
  · rw [if_neg (by simpa using h), if_neg h]
theorem leC_total : PySem.W.TotalLe leC :=
  ⟨fun a b c => (leD_total (α := Cm)).trans (a, dC a) (b, dC b) (c, dC c), fun a b => (leD_total (α := Cm)).total (a, dC a) (b, dC b)⟩
theorem leC_anti {c d : Cm} (h1 : leC c d = true) (h2 : leC d c = true) : c = d := by
  unfold leC at h1 h2
  rw [Bool.not_eq_true', lt_C] at h1 h2
  by_cases h : d.1 = c.1
  · rw [if_pos h] at h1
    rw [if_pos h.symm] at h2
    have := of_decide_eq_false h1
    have := of_decide_eq_false h2
    exact Prod.ext h.symm (by omega)
  · rw [if_neg h] at h1
    rw [if_neg fun z => h z.symm] at h2
    have h1 := of_decide_eq_false h1
    have h2 := of_decide_eq_false h2
    exact absurd (str_inj (List.le_antisymm (List.not_lt.mp h2) (List.not_lt.mp h1))) h
theorem sortC_perm {cs ds : List Cm} (h : cs.Perm ds) : isort leC cs = isort leC ds :=
  List.Perm.eq_of_pairwise (le := fun a b => leC a b = true) (fun _ _ _ _ h1 h2 => leC_anti h1 h2) (isort_pair leC_total) (isort_pair leC_total) (isort_perm.trans (h.trans isort_perm.symm))
end Y
set_option Elab.async false
set_option linter.all false
set_option maxRecDepth 100000
/-! Y22: enumerate over a tuple -/
namespace Y
open PySem PySem.Spec L2
open PyProof.Rows hiding St
theorem meets_enumT (l : Addr) (items : Array Value) (n : Nat) (dct : Option Addr) (sl : Array (Option Value)) :
    Meets (Builtin.«enumerate.__new__» ⟨[.type "enumerate", .ref l], []⟩) (fun _ R s => s.heap.get? l = some { cls := .type "tuple", dict := dct, data := .seq items n, slots := sl } ∧
      R (.ok (.ret (.ref (s.heap.push { cls := .type "tuple_iterator", data := .fields #[.ref l, .int 0 0] }).objs.size)))
        { s with heap := (s.heap.push { cls := .type "tuple_iterator", data := .fields #[.ref l, .int 0 0] }).push { cls := .type "enumerate", data := .fields #[.none, .bool false, .ref s.heap.objs.size, rawInt 0, .none, .none] } }) :=
  .of_wp fun prog w A R s h => by
    obtain ⟨hp, g, d, tk, os⟩ := s; obtain ⟨hl, h⟩ := h
    have hsub := sub_enumerate
    have hL : Heap.IsTuple (Shared.heap ⟨hp, g, d, tk, os⟩) l items := ⟨_, hl, rfl, n, rfl⟩
    wp_walk using AutoSeq1.wpAny_loadPart' hl
    refine wpAny_stack_any fun st => wpAny_pure ?_
    split
    · rename_i c _ _ _ _ _
      cases (c == Value.type "enumerate")
      · wp_walk using AutoSeq1.wpAny_loadPart' hl, wpAny_pyIter_tuple hL
        exact ⟨_, rfl, h⟩
      · wp_walk using AutoSeq1.wpAny_loadPart' hl, wpAny_pyIter_tuple hL
        exact ⟨_, rfl, h⟩
    · wp_walk using AutoSeq1.wpAny_loadPart' hl, wpAny_pyIter_tuple hL
      exact ⟨_, rfl, h⟩
section
variable {prog : Program} {w : World} {A : Around} {E : Value → Shared → Prop} {s : Shared}
theorem call_enumT {l : Addr} {items : Array Value} {Q : Value → Shared → Prop} (hL : s.heap.IsTuple l items)
    (h : ∀ h', IsEnum h' (s.heap.objs.size + 1) s.heap.objs.size 0 .none → h'.IsTupleIter s.heap.objs.size l 0 → h'.objs.size = s.heap.objs.size + 2 →
      (∀ b o, s.heap.get? b = some o → h'.get? b = some o) → Q (.ref (s.heap.objs.size + 1)) { s with heap := h' }) :
    wpAny (model prog w) A (call (.type "enumerate") [.ref l]) Q E s := by
  obtain ⟨⟨c, dct, dt, sl⟩, hl, hc, n, hd⟩ := hL
  replace hc : c = .type "tuple" := hc
  replace hd : dt = .seq items n := hd
  subst hc hd
  refine callType_new F.called_enumerate (by decide) (F.typeCall_enumerate_1 _) (F.newCall_enumerate_1 _) (fun obj => F.args_object_init_2 obj _) F.entry_enumerate_new
    (meets_enumT l items n dct sl) ⟨hl, ?_⟩
  have hz : (s.heap.push { cls := .type "tuple_iterator", data := .fields #[.ref l, .int 0 0] }).objs.size = s.heap.objs.size + 1 := Heap.size_push ..
  show _ ∧ _
  rw [hz]
  have he : IsEnum ((s.heap.push { cls := .type "tuple_iterator", data := .fields #[.ref l, .int 0 0] }).push
      { cls := .type "enumerate", data := .fields #[.none, .bool false, .ref s.heap.objs.size, rawInt 0, .none, .none] }) (s.heap.objs.size + 1) s.heap.objs.size 0 .none := by
    have := Heap.get?_push_size (s.heap.push { cls := .type "tuple_iterator", data := .fields #[.ref l, .int 0 0] })
      (o := { cls := .type "enumerate", data := .fields #[.none, .bool false, .ref s.heap.objs.size, rawInt 0, .none, .none] }) rfl
    rw [hz] at this; exact this
  refine ⟨⟨_, he, rfl⟩, h _ he ⟨_, Heap.get?_push_of_some _ (Heap.get?_push_size _ rfl), rfl, rfl⟩ (by rw [Heap.size_push, hz]) fun b o x => Heap.get?_push_of_some _ (Heap.get?_push_of_some _ x)⟩
end
theorem enumT_end {prog : Program} {w : World} {A : Around} {E : Value → Shared → Prop} {s : Shared} {e it l : Addr} {n : Nat} {items : Array Value} {i : Int} {old : Value} {Q : Option Value → Shared → Prop}
    (hh : A.handled = none) (he : IsEnum s.heap e it i old) (hit : s.heap.IsTupleIter it l n) (ht : s.heap.IsTuple l items) (hx : items[n]? = none)
    (hQ : ∀ h', Heap.ExtBut it s.heap h' → Q none { s with heap := h' }) : wpAny (model prog w) A (pyNext (.ref e)) Q E s := by
  have hT : s.TypeIs (.ref e) "enumerate" := ⟨_, he, rfl⟩
  unfold pyNext
  refine wpAny_bind (wpAny_attempt (wpAny_callSpecial?_slot (name := Str.ofString "__next__") hT F.slot_enumerate_next
    (wpAny_call_entry F.slot_enumerate_next hT F.entry_enumerate_next ?_ (F.args_enumerate_next_1 _))))
  show wpAny _ _ (field (.ref e) 2 >>= _) _ _ _
  refine wpAny_bind (wpAny_field he rfl (x := .ref it) rfl ?_)
  refine wpAny_bind (wpAny_nextOf_tuple_end (by exact hh) hit ht hx fun h' x he' hx' => ?_)
  obtain ⟨o, ho, hc⟩ := hx'
  refine wpAny_bind (wpAny_isInstance (T := "StopIteration") (b := true) ⟨o, ho, hc⟩ isSubtype_stop ?_)
  exact wpAny_pure (hQ _ he')
/-- the tuple at a, each item in a new pair -/
def IteT (K : PySem.W.Frag) (a : Addr) : It :=
  ⟨fun i H => ∃ (xs : List V) (x : V), SqT K H a xs ∧ xs[i]? = some x, fun i H v H' => ∃ T x, v = .ref T ∧ H T = none ∧ H' = upd H T (.tup [.int (i : Nat), x]) ∧ ∀ xs, SqT K H a xs → xs[i]? = some x, fun i H => ∃ xs : List V, SqT K H a xs ∧ xs.length ≤ i⟩
theorem turn_enumT {P : Program} {w : World} {K : PySem.W.Frag} {elts : List Expr} {kk : Nat} {tpos : Pos} (a e it : Addr) :
    Turn P w K (.Tuple elts kk tpos) (IteT K a) [e, it] e (fun i h => (∃ old, IsEnum h e it ((i : Nat) : Int) old) ∧ h.IsTupleIter it a i ∧ e ≠ it ∧ e ≠ a ∧ a ≠ it) where
  mem := by simp
  obj := fun i h st b hb => by
    obtain ⟨⟨old, he⟩, ⟨o, ho, hc, hd⟩, _⟩ := st
    have e' : b = e ∨ b = it := by simpa using hb
    rcases e' with z | z
    · rw [z]; exact ⟨_, he, fun v q => nomatch q⟩
    · rw [z]; exact ⟨o, ho, fun v q => by rw [hd] at q; cases q⟩
  keep := fun i h h' st k => let ⟨⟨old, he⟩, hi, hne⟩ := st; ⟨⟨old, k e (by simp) _ he⟩, hi.at fun o q => k it (by simp) o q, hne⟩
  item := by
    intro X hP hw hK hc i pins s σ H E I hf st hg
    subst hP hw hK
    obtain ⟨⟨old, he⟩, hit, hne, hea, hai⟩ := st
    obtain ⟨xs, x, hq, hx⟩ := hg
    obtain ⟨its, rv, p, hz⟩ := I.tuple hq
    obtain ⟨u, hu, ru⟩ := rv.get hx
    have hel : e < s.heap.objs.size := Heap.lt_size he
    have hil : it < s.heap.objs.size := by obtain ⟨_, q, _⟩ := hit; exact Heap.lt_size q
    have hui : its.toArray[i]? = some u := by simpa using hu
    have hli : i < its.toArray.size := (Array.getElem?_eq_some_iff.mp hui).1
    have D : Draws X.prog X.w X.A.in1 it [it, a] its.toArray.size (fun i v => its.toArray[i]? = some v) (fun i h => h.IsTupleIter it a i ∧ h.IsTuple a its.toArray) := Draws.tuple (A := X.A.in1) (show X.A.in1.handled = none from I.ok.hd hc) it a hai its.toArray
    refine wpAny_pyNext_enum_itemD (n := its.toArray.size) (i := i) D he ⟨hit, p⟩ hli hne (by simp [hne, hea]) fun x' h' tk hPx ho hit' hT hsz hk => ?_
    have hxu : x' = u := by rw [hui] at hPx; exact (Option.some.inj hPx).symm
    subst hxu
    refine ⟨_, rfl, wpAny_letOwnedTupleGo_enum (s := { s with heap := h', toks := tk + 1 }) ho fun h'' he' sb => ?_⟩
    have hT2 : h''.get? s.heap.objs.size = some { cls := .type "tuple", data := .seq #[.int i tk, x'] } := (sb.2 _ (Nat.ne_of_gt hel)).trans hT
    have new : ObjOk X.prog X.w (upd H s.heap.objs.size (.tup [.int (i : Nat), x])) h'' s.heap.objs.size (.tup [.int (i : Nat), x]) :=
      ⟨by show 2 ≤ sizeLine; decide, [.int i tk, x'], .cons ⟨_, rfl⟩ (.cons ru .nil), ⟨_, hT2, rfl, _, rfl⟩⟩
    have I1 : L2.Inv X pins σ (upd H s.heap.objs.size (.tup [.int (i : Nat), x])) { s with heap := h'', toks := tk + 1 } :=
      I.turnedNew (ch := [e, it]) (fun b ob hb q => (sb.2 b (fun z => hb (by simp [z]))).trans (hk b ob (fun z => hb (by simp [z])) (fun z => hb (by simp [z])) q)) hf (Nat.le_refl _) new
    refine ⟨.ref s.heap.objs.size, _, I1, rfl, ⟨_, x, rfl, I.hok.fresh (Nat.le_refl _), rfl, fun ys hy => by rw [I.tuple_inj hy hq]; exact hx⟩, ⟨⟨x', ?_⟩, hit'.1.at fun o q => (sb.2 it (Ne.symm hne)).trans q, hne, hea, hai⟩, fun b hb => ?_⟩
    · have e1 : ((i + 1 : Nat) : Int) = (i : Int) + 1 := by omega
      rw [e1]; exact he'
    · have hb' : b < s.heap.objs.size := by
        have e' : b = e ∨ b = it := by simpa using hb
        rcases e' with z | z
        · rw [z]; exact hel
        · rw [z]; exact hil
      rw [upd_ne (Nat.ne_of_lt hb')]
      exact (hf b hb).1
  done := by
    intro X hP hw hK hc i pins s σ H E I hf st hg
    subst hP hw hK
    obtain ⟨⟨old, he⟩, hit, hne, hea, hai⟩ := st
    obtain ⟨xs, hq, hx⟩ := hg
    obtain ⟨its, rv, p, hz⟩ := I.tuple hq
    obtain ⟨f0, f1, f2, f3, f4, f5⟩ := hf it (by simp)
    have hl := rv.length
    exact enumT_end (I.ok.hd hc) he hit p (by simp; omega) fun h' eb => ⟨rfl, I.turned (t' := s.toks) (fun b o hb q => eb b o hb q) f0 f1 f3 f4 f5⟩
  self := fun A i s Q E st h => let ⟨⟨_, he⟩, _⟩ := st; wpAny_pyIter_enum he h
def iEnumA (K : PySem.W.Frag) (ta : TA) : TI := fun σ H R => ta σ H fun vs H1 => ∃ a xs, vs = [.ref a] ∧ SqT K H1 a xs ∧ R (IteT K a) H1
theorem pi_enumT {X : Cx} {e : Expr} {ta : TA} {p pos tpos : Pos} {elts : List Expr} {kk : Nat} (hg : Gl X "enumerate") (hm : X.mg "enumerate" = none) (ha : PA X [e] ta) (hs : starEach [e] X.env = [(false, eval e X.env)] := by rfl) :
    PI X (.Tuple elts kk tpos) (.Call (.Name "enumerate" p) [e] [] pos) (iEnumA X.K ta) := by
  refine ⟨fun pins s σ H R I h => ?_⟩
  refine Call_ (ld_blt I hg hm boot_enumerate (PyProof.Rows.callWith_type1 (thn (ha.run pos pins s σ H _ I h) fun us s1 ⟨vs, H1, I1, r1, q1⟩ => ?_) hs rfl))
  obtain ⟨a, xs, ex, hq, q⟩ := q1
  subst ex
  cases r1 with
  | cons r rr =>
    cases rr
    cases r
    obtain ⟨its, rv, p', hz⟩ := I1.tuple hq
    have la : a < s1.heap.objs.size := by obtain ⟨o, ho, _⟩ := p'; exact Heap.lt_size ho
    refine call_enumT p' fun h' he hit hsz hk => wpAny_pyIter_enum he ?_
    have I2 : L2.Inv X pins σ H1 { s1 with heap := h' } := I1.kept (t' := s1.toks) hk
    refine ⟨s1.heap.objs.size + 1, [s1.heap.objs.size + 1, s1.heap.objs.size], _, _, H1, rfl, I2, turn_enumT a (s1.heap.objs.size + 1) s1.heap.objs.size, ⟨⟨.none, he⟩, hit, Nat.succ_ne_self _, Nat.ne_of_gt (Nat.lt_succ_of_lt la), Nat.ne_of_lt la⟩, fun b hb => ?_, q⟩
    have e' : b = s1.heap.objs.size + 1 ∨ b = s1.heap.objs.size := by simpa using hb
    have hle : s1.heap.objs.size ≤ b := by
      rcases e' with z | z
      · rw [z]; exact Nat.le_add_right _ _
      · rw [z]; exact Nat.le_refl _
    exact I1.fpOk hle (I1.hok.fresh hle)
section
variable {X : Cx} {cm : CM} {E : EX} {G : GK} {K : PySem.W.Frag} {H : Hp} {ρ : Nat → Addr} {n : Nat} {st : Sto}
theorem seq_enumT {a : Addr} {xs : List AV} {ys : List V} {st : Sto} (s : RepS G H ρ st) (hq : SqT G.K H a ys) (r : RepL G.K H ρ st.length xs ys) : SeqOk G (.enumT xs) (IteT G.K a) H ρ st.length := by
  intro H' ρ' st' i e s'
  have hq' := (e.tups s).t _ _ hq
  have r' := RepL.ext s e r
  simp only [Sq.at]
  refine ⟨fun v hv => ?_, fun hv => ?_⟩
  · cases hi : xs[i]? with
    | none => rw [hi] at hv; cases hv
    | some w =>
      rw [hi] at hv
      cases hv
      obtain ⟨x, e1, rx⟩ := r'.get hi
      refine ⟨⟨ys, x, hq', e1⟩, fun z H'' hy => ?_⟩
      obtain ⟨T, y, rfl, hT, rfl, hz⟩ := hy
      have := hz ys hq'
      rw [e1] at this
      cases this
      exact tmp_at s' hT (.cons (.int _) (.cons rx .nil))
  · refine ⟨ys, hq', ?_⟩
    cases hi : xs[i]? with
    | none => rw [← r.length]; exact List.getElem?_eq_none_iff.mp hi
    | some p => rw [hi] at hv; cases hv
def miEnumT (a : MA) : MI := fun env st => (a env st).bind fun vs st => match vs with
  | [.tup xs] => .ok (.enumT xs) st
  | _ => .bad
theorem yi_enumT {e : Expr} {mas : MA} {p pos tpos : Pos} {elts : List Expr} {kk : Nat} (hg : Gl X "enumerate") (hm : X.mg "enumerate" = none) (ha : PA X [e] (tA (gX X cm) E mas)) (hs : starEach [e] X.env = [(false, eval e X.env)] := by rfl) :
    PI X (.Tuple elts kk tpos) (.Call (.Name "enumerate" p) [e] [] pos) (tI (gX X cm) E (miEnumT mas)) :=
  PI.weak (pi_enumT hg hm ha hs) fun σ H R ⟨ρ, st, env, hs, he, hp⟩ => ⟨ρ, st, env, hs, he, hp.bindI fun vs st1 H1 ρ1 xs e1 s1 r1 hp1 => by
    have r1 : RepL X.K H1 ρ1 st1.length vs xs := r1
    split at hp1
    · obtain ⟨x, rfl, rx⟩ := r1.one
      obtain ⟨a, ys, rfl, hq, hr⟩ := rep_tup rx
      exact ⟨a, ys, rfl, hq.seq, Post.at hp1 s1 (seq_enumT s1 hq.seq hr)⟩
    · exact hp1.elim⟩
end
end Y
set_option Elab.async false
set_option linter.all false
set_option maxRecDepth 100000
set_option maxHeartbeats 4000000
/-! Y23: the ways that folk go, whatever the courtesy -/
namespace Y
open PySem
section
variable {n : Nat}
theorem far_seat {c : Cm} {s : Nat} (hc : c.2 < n) (hs : s < n) : (c.2 + farF n c s) % n = s := by
  unfold farF
  rw [Nat.add_mod_mod, show c.2 + (s + n - c.2) = s + n by omega, Nat.add_mod_right, Nat.mod_eq_of_lt hs]
theorem far_lt {c : Cm} {s : Nat} (hn : 0 < n) : farF n c s < n := Nat.mod_lt _ hn
theorem far_next {c : Cm} {s : Nat} (hc : c.2 < n) (hs : s < n) (h : farF n c s + 1 < n) : farF n c ((s + 1) % n) = farF n c s + 1 := by
  unfold farF at *
  rw [mod2 (x := s + n - c.2) (by omega)] at *
  rw [mod2 (x := s + 1) (by omega), mod2 (by split <;> omega)]
  split <;> split at h <;> split <;> (try split) <;> omega
def Occ (rows : List (Option Cm)) (s : Nat) : Prop := ∃ d, rows[s]? = some (some d)
structure Pth (n : Nat) (r : Bool) (rows : List (Option Cm)) (outs : List Cm) : Prop where
  len : rows.length = n
  occ : ∀ s c, rows[s]? = some (some c) → c.2 < n ∧ (r = false → c.2 ≤ s) ∧ ∀ k, k < farF n c s → Occ rows ((c.2 + k) % n)
  out : ∀ o ∈ outs, o.2 < n ∧ r = false ∧ ∀ t, o.2 ≤ t → t < n → Occ rows t
/-- a border that nobody goes over -/
def Zero (n : Nat) (rows : List (Option Cm)) : Prop := ∃ q, q < n ∧ ∀ s c, rows[s]? = some (some c) → ∀ k, k < farF n c s → (c.2 + k) % n ≠ q
theorem occ_set {rows : List (Option Cm)} {s t : Nat} {e : Cm} (hs : s < rows.length) (h : Occ rows t) : Occ (rows.set s (some e)) t := by
  by_cases z : s = t
  · subst z; exact ⟨e, List.getElem?_set_self hs⟩
  · obtain ⟨d, hd⟩ := h
    exact ⟨d, by rw [List.getElem?_set_ne z]; exact hd⟩
theorem set_at {rows : List (Option Cm)} {s t : Nat} {e c : Cm} (h : (rows.set s (some e))[t]? = some (some c)) : (t = s ∧ c = e) ∨ (t ≠ s ∧ rows[t]? = some (some c)) := by
  by_cases z : s = t
  · subst z
    have hl := (List.getElem?_eq_some_iff.mp h).1
    rw [List.length_set] at hl
    rw [List.getElem?_set_self hl] at h
    cases h
    exact .inl ⟨rfl, rfl⟩
  · rw [List.getElem?_set_ne z] at h
    exact .inr ⟨fun y => z y.symm, h⟩
theorem go_path {r : Bool} {w : Str} (hn : 0 < n) : ∀ (f s : Nat) (e : Cm) (rows : List (Option Cm)) (outs : List Cm) x, goF n r w f s e rows = some x → Pth n r rows outs → s < n → e.2 < n → (r = false → e.2 ≤ s) → (∀ k, k < farF n e s → Occ rows ((e.2 + k) % n)) → (r = true → none ∈ rows) →
    Pth n r x.1 (match x.2 with | none => outs | some o => outs ++ [o]) ∧ (r = true → Zero n x.1)
  | 0, _, _, _, _, _, h, _, _, _, _, _, _ => by cases h
  | f + 1, s, e, rows, outs, x, h, P, hs, he, hle, hpath, hfree => by
    have hsl : s < rows.length := by rw [P.len]; exact hs
    rw [goF] at h
    split at h
    · cases h
    · rename_i e1
      cases h
      refine ⟨⟨by rw [List.length_set]; exact P.len, fun t c hc => ?_, fun o ho => ?_⟩, fun _ => ⟨s, hs, fun t c hc k hk z => ?_⟩⟩
      · rcases set_at hc with ⟨rfl, rfl⟩ | ⟨_, hc⟩
        · exact ⟨he, hle, fun k hk => occ_set hsl (hpath k hk)⟩
        · obtain ⟨a, b, d⟩ := P.occ t c hc
          exact ⟨a, b, fun k hk => occ_set hsl (d k hk)⟩
      · obtain ⟨a, b, d⟩ := P.out o ho
        exact ⟨a, b, fun t h1 h2 => occ_set hsl (d t h1 h2)⟩
      · have : Occ rows s := by
          rcases set_at hc with ⟨rfl, rfl⟩ | ⟨_, hc⟩
          · rw [← z]; exact hpath k hk
          · rw [← z]; exact (P.occ t c hc).2.2 k hk
        obtain ⟨d, hd⟩ := this
        rw [e1] at hd; cases hd
    · rename_i t0 e1
      obtain ⟨ht1, ht2, ht3⟩ := P.occ s t0 e1
      simp only at h
      have step : ∀ (rows' : List (Option Cm)) (c' : Cm), Pth n r rows' outs → c'.2 < n → (r = false → c'.2 ≤ s) → (∀ k, k < farF n c' s → Occ rows' ((c'.2 + k) % n)) → Occ rows' s → (r = true → none ∈ rows') →
          (if r = false ∧ s + 1 = n then some (rows', some c') else goF n r w f ((s + 1) % n) c' rows') = some x →
          Pth n r x.1 (match x.2 with | none => outs | some o => outs ++ [o]) ∧ (r = true → Zero n x.1) := by
        intro rows' c' P' hc' hle' hp' hos hfr h
        split at h
        · rename_i hcond
          cases h
          refine ⟨⟨P'.len, P'.occ, fun o ho => ?_⟩, fun hr => by rw [hcond.1] at hr; cases hr⟩
          rcases List.mem_append.mp ho with ho | ho
          · exact P'.out o ho
          · rw [List.mem_singleton] at ho
            subst ho
            refine ⟨hc', hcond.1, fun t h1 h2 => ?_⟩
            have hle2 := hle' hcond.1
            rcases Nat.lt_or_ge t s with z | z
            · have hf : farF n o s = s - o.2 := by unfold farF; rw [mod2 (by omega), if_neg (by omega)]; omega
              have := hp' (t - o.2) (by omega)
              rw [show o.2 + (t - o.2) = t by omega, Nat.mod_eq_of_lt h2] at this
              exact this
            · have : t = s := by omega
              subst this; exact hos
        · rename_i hcond
          have hF : farF n c' s + 1 < n := by
            cases hr : r with
            | false =>
              have hne : s + 1 ≠ n := fun z => hcond ⟨hr, z⟩
              have hle2 := hle' hr
              unfold farF; rw [mod2 (by omega)]; split <;> omega
            | true =>
              have hlt := far_lt (n := n) (c := c') (s := s) hn
              rcases Nat.lt_or_ge (farF n c' s + 1) n with z | z
              · exact z
              · exfalso
                obtain ⟨q, hq⟩ := List.getElem?_of_mem (hfr hr)
                have hqn := (List.getElem?_eq_some_iff.mp hq).1
                rw [P'.len] at hqn
                have hsq := far_seat hc' hqn
                have hqlt := far_lt (n := n) (c := c') (s := q) hn
                have : Occ rows' q := by
                  rcases Nat.lt_or_ge (farF n c' q) (farF n c' s) with y | y
                  · have := hp' _ y; rw [hsq] at this; exact this
                  · have e2 : farF n c' q = farF n c' s := by omega
                    have h3 := far_seat hc' hs
                    rw [← e2, hsq] at h3
                    rw [h3]; exact hos
                obtain ⟨d, hd⟩ := this
                rw [hq] at hd; cases hd
          have hnx := far_next hc' hs hF
          refine go_path hn f ((s + 1) % n) c' rows' outs x h P' (Nat.mod_lt _ hn) hc' (fun hr => ?_) (fun k hk => ?_) hfr
          · have hne : s + 1 ≠ n := fun z => hcond ⟨hr, z⟩
            rw [Nat.mod_eq_of_lt (by omega)]
            have := hle' hr
            omega
          · rw [hnx] at hk
            rcases Nat.lt_or_ge k (farF n c' s) with z | z
            · exact hp' k z
            · have : k = farF n c' s := by omega
              subst this
              rw [far_seat hc' hs]; exact hos
      have hfr' : r = true → none ∈ rows.set s (some e) := fun hr => by
        obtain ⟨q, hq⟩ := List.getElem?_of_mem (hfree hr)
        have hne : s ≠ q := fun z => by subst z; rw [e1] at hq; cases hq
        have : (rows.set s (some e))[q]? = some none := by rw [List.getElem?_set_ne hne]; exact hq
        exact List.mem_of_getElem? this
      by_cases hst : staysF n w t0 e s = true
      · rw [if_pos hst, if_pos hst] at h
        exact step rows e P he hle hpath ⟨t0, e1⟩ hfree h
      · rw [if_neg hst, if_neg hst] at h
        refine step _ t0 ⟨by rw [List.length_set]; exact P.len, fun t c hc => ?_, fun o ho => ?_⟩ ht1 ht2 (fun k hk => occ_set hsl (ht3 k hk)) ⟨e, List.getElem?_set_self hsl⟩ hfr' h
        · rcases set_at hc with ⟨rfl, rfl⟩ | ⟨_, hc⟩
          · exact ⟨he, hle, fun k hk => occ_set hsl (hpath k hk)⟩
          · obtain ⟨a, b, d⟩ := P.occ t c hc
            exact ⟨a, b, fun k hk => occ_set hsl (d k hk)⟩
        · obtain ⟨a, b, d⟩ := P.out o ho
          exact ⟨a, b, fun t h1 h2 => occ_set hsl (d t h1 h2)⟩
/-- who sits -/
def folkOf (rows : List (Option Cm)) : List Cm := rows.filterMap id
theorem folk_fill : ∀ {rows : List (Option Cm)} {s : Nat} {e : Cm}, rows[s]? = some none → (folkOf (rows.set s (some e))).Perm (e :: folkOf rows)
  | [], s, e, h => by simp at h
  | o :: rows, 0, e, h => by
    simp at h; subst h
    exact .refl _
  | o :: rows, s + 1, e, h => by
    have := folk_fill (rows := rows) (s := s) (e := e) (by simpa using h)
    cases o with
    | none => exact this
    | some c => exact (this.cons c).trans (.swap e c _)
theorem folk_swap : ∀ {rows : List (Option Cm)} {s : Nat} {e t : Cm}, rows[s]? = some (some t) → (t :: folkOf (rows.set s (some e))).Perm (e :: folkOf rows)
  | [], s, e, t, h => by simp at h
  | o :: rows, 0, e, t, h => by
    simp at h; subst h
    exact .swap e t _
  | o :: rows, s + 1, e, t, h => by
    have := folk_swap (rows := rows) (s := s) (e := e) (by simpa using h)
    cases o with
    | none => exact this
    | some c => exact (List.Perm.swap c t _).trans ((this.cons c).trans (.swap e c _))
theorem go_perm {r : Bool} {w : Str} : ∀ (f s : Nat) (e : Cm) (rows : List (Option Cm)) (outs : List Cm) x, goF n r w f s e rows = some x → (folkOf x.1 ++ (match x.2 with | none => outs | some o => outs ++ [o])).Perm (e :: (folkOf rows ++ outs))
  | 0, _, _, _, _, _, h => by cases h
  | f + 1, s, e, rows, outs, x, h => by
    rw [goF] at h
    split at h
    · cases h
    · rename_i e1
      cases h
      exact (folk_fill e1).append_right outs
    · rename_i t0 e1
      simp only at h
      have key : ∀ (rows' : List (Option Cm)) (c' : Cm), (c' :: folkOf rows').Perm (e :: folkOf rows) → (if r = false ∧ s + 1 = n then some (rows', some c') else goF n r w f ((s + 1) % n) c' rows') = some x →
          (folkOf x.1 ++ (match x.2 with | none => outs | some o => outs ++ [o])).Perm (e :: (folkOf rows ++ outs)) := by
        intro rows' c' hp h
        have hp2 := hp.append_right outs
        split at h
        · cases h
          refine List.Perm.trans ?_ hp2
          show (folkOf rows' ++ (outs ++ [c'])).Perm (c' :: (folkOf rows' ++ outs))
          rw [← List.append_assoc]
          exact List.perm_append_comm
        · exact (go_perm f _ c' rows' outs x h).trans hp2
      by_cases hst : staysF n w t0 e s = true
      · rw [if_pos hst, if_pos hst] at h
        exact key rows e (.refl _) h
      · rw [if_neg hst, if_neg hst] at h
        exact key _ t0 (folk_swap e1) h
end
end Y
set_option Elab.async false
set_option linter.all false
set_option maxRecDepth 100000
set_option maxHeartbeats 4000000
/-! Y24: how many go over each border -/
namespace Y
open PySem
section
variable {n : Nat}
theorem folk_len : ∀ {rows : List (Option Cm)}, (folkOf rows).length + free rows = rows.length
  | [] => rfl
  | none :: rows => by
    have := folk_len (rows := rows)
    unfold folkOf free at *
    simp only [List.filterMap_cons, List.countP_cons, List.length_cons, id, Option.isNone_none, if_true]
    omega
  | some c :: rows => by
    have := folk_len (rows := rows)
    unfold folkOf free at *
    simp only [List.filterMap_cons, List.countP_cons, List.length_cons, id, Option.isNone_some, Bool.false_eq_true, if_false]
    omega
theorem free_mem {rows : List (Option Cm)} (h : (folkOf rows).length < rows.length) : none ∈ rows := by
  have := folk_len (rows := rows)
  have hp : 0 < rows.countP Option.isNone := by unfold free at this; omega
  obtain ⟨o, ho, hn⟩ := List.countP_pos_iff.mp hp
  cases o with
  | none => exact ho
  | some _ => cases hn
structure Way (n : Nat) (r : Bool) (cs : List Cm) (rows : List (Option Cm)) (outs : List Cm) : Prop where
  path : Pth n r rows outs
  perm : (folkOf rows ++ outs).Perm cs
  zero : r = true → outs = [] ∧ Zero n rows
theorem seat_way {r : Bool} {w : Str} (hn : 0 < n) : ∀ (as bs : List Cm) (rows : List (Option Cm)) (outs : List Cm), (∀ c ∈ as, c.2 < n) → (r = true → bs.length + as.length ≤ n) → Way n r bs rows outs → Way n r (bs ++ as) (seatF n r w as rows outs).1 (seatF n r w as rows outs).2
  | [], bs, rows, outs, _, _, W => by rw [List.append_nil]; exact W
  | e :: as, bs, rows, outs, hw, hl, W => by
    have he := hw e (by simp)
    have hfree : r = true → none ∈ rows := fun hr => by
      have h1 := hl hr
      have h2 := W.perm.length_eq
      rw [(W.zero hr).1, List.append_nil] at h2
      refine free_mem ?_
      rw [h2, W.path.len]
      simp only [List.length_cons] at h1; omega
    have hg := go_ex (w := w) he W.path.len hfree
    have hfar : farF n e e.2 = 0 := by unfold farF; rw [show e.2 + n - e.2 = n by omega, Nat.mod_self]
    obtain ⟨g1, g2⟩ := go_path hn _ _ _ _ _ _ hg W.path he he (fun _ => Nat.le_refl _) (fun k hk => by rw [hfar] at hk; omega) hfree
    have g3 := go_perm _ _ _ _ outs _ hg
    have g4 := (go_free _ _ _ _ _ hg).2
    have W' : Way n r (bs ++ [e]) (comeF n r w rows e).1 (match (comeF n r w rows e).2 with | none => outs | some o => outs ++ [o]) :=
      ⟨g1, g3.trans ((W.perm.cons e).trans (List.perm_append_comm (l₁ := [e]))), fun hr => ⟨by rw [g4 hr]; exact (W.zero hr).1, g2 hr⟩⟩
    have := seat_way (w := w) hn as (bs ++ [e]) _ _ (fun c hc => hw c (List.mem_cons_of_mem _ hc)) (fun hr => by have := hl hr; simp only [List.length_append, List.length_cons, List.length_nil] at *; omega) W'
    rw [List.append_assoc] at this
    rw [seatF]
    exact this
theorem way_empty {r : Bool} (hn : 0 < n) : Way n r [] (emptyR n) [] := by
  have no : ∀ s c, (emptyR n)[s]? = some (some c) → False := fun s c h => by
    unfold emptyR at h
    rw [List.getElem?_replicate] at h
    split at h
    · cases h
    · cases h
  refine ⟨⟨List.length_replicate, fun s c h => (no s c h).elim, fun o h => (by cases h)⟩, ?_, fun _ => ⟨rfl, 0, hn, fun s c h => (no s c h).elim⟩⟩
  have : folkOf (emptyR n) = [] := by
    unfold folkOf emptyR
    rw [List.filterMap_eq_nil_iff]
    intro a ha
    rw [List.mem_replicate] at ha
    exact ha.2
  rw [this]; exact .refl _
theorem seated_way {r : Bool} {w : Str} (hn : 0 < n) {cs : List Cm} (hw : ∀ c ∈ cs, c.2 < n) (hr : r = true → cs.length ≤ n) : Way n r cs (seatF n r w cs (emptyR n) []).1 (seatF n r w cs (emptyR n) []).2 := by
  have := seat_way (w := w) (r := r) hn cs [] (emptyR n) [] hw (fun h => by have := hr h; simp only [List.length_nil]; omega) (way_empty hn)
  exact this
/-! ### who goes over a border -/
/-- seat and comer, from seat i on -/
def placedF : Nat → List (Option Cm) → List (Nat × Cm)
  | _, [] => []
  | i, none :: r => placedF (i + 1) r
  | i, some c :: r => (i, c) :: placedF (i + 1) r
theorem placed_mem : ∀ {rows : List (Option Cm)} {i t : Nat} {c : Cm}, (t, c) ∈ placedF i rows ↔ i ≤ t ∧ rows[t - i]? = some (some c)
  | [], i, t, c => by simp [placedF]
  | none :: r, i, t, c => by
    rw [placedF, placed_mem]
    constructor
    · rintro ⟨h1, h2⟩
      refine ⟨by omega, ?_⟩
      rw [show t - i = (t - (i + 1)) + 1 by omega, List.getElem?_cons_succ]; exact h2
    · rintro ⟨h1, h2⟩
      rcases Nat.eq_or_lt_of_le h1 with z | z
      · subst z; rw [Nat.sub_self] at h2; cases h2
      · rw [show t - i = (t - (i + 1)) + 1 by omega, List.getElem?_cons_succ] at h2
        exact ⟨z, h2⟩
  | some d :: r, i, t, c => by
    rw [placedF, List.mem_cons, placed_mem]
    constructor
    · rintro (h | ⟨h1, h2⟩)
      · cases h; exact ⟨Nat.le_refl _, by rw [Nat.sub_self]; rfl⟩
      · refine ⟨by omega, ?_⟩
        rw [show t - i = (t - (i + 1)) + 1 by omega, List.getElem?_cons_succ]; exact h2
    · rintro ⟨h1, h2⟩
      rcases Nat.eq_or_lt_of_le h1 with z | z
      · subst z; rw [Nat.sub_self] at h2
        have h2 : some (some d) = some (some c) := h2
        cases h2; exact .inl rfl
      · rw [show t - i = (t - (i + 1)) + 1 by omega, List.getElem?_cons_succ] at h2
        exact .inr ⟨z, h2⟩
theorem placed_folk : ∀ {rows : List (Option Cm)} {i : Nat}, (placedF i rows).map Prod.snd = folkOf rows
  | [], _ => rfl
  | none :: r, i => by rw [placedF, placed_folk]; rfl
  | some c :: r, i => by rw [placedF, List.map_cons, placed_folk]; rfl
def occB (rows : List (Option Cm)) (s : Nat) : Bool := match rows[s]? with
  | some (some _) => true
  | _ => false
theorem occB_iff {rows : List (Option Cm)} {s : Nat} : occB rows s = true ↔ Occ rows s := by
  unfold occB Occ
  split
  · rename_i d e; exact ⟨fun _ => ⟨d, e⟩, fun _ => rfl⟩
  · rename_i h
    exact ⟨fun z => (by cases z), fun ⟨d, hd⟩ => absurd hd (h d)⟩
theorem placed_lt {rows : List (Option Cm)} {i s : Nat} (h : s < i) : (placedF i rows).countP (fun p => decide (p.1 = s)) = 0 := by
  rw [List.countP_eq_zero]
  intro p hp z
  have := (placed_mem (t := p.1) (c := p.2).mp hp).1
  have := of_decide_eq_true z
  omega
theorem placed_seat : ∀ {rows : List (Option Cm)} {i k : Nat}, (placedF i rows).countP (fun p => decide (p.1 = i + k)) = if occB rows k = true then 1 else 0
  | [], i, k => by simp [placedF, occB]
  | none :: r, i, 0 => by rw [placedF, placed_lt (by omega)]; rfl
  | none :: r, i, k + 1 => by
    rw [placedF, show i + (k + 1) = (i + 1) + k by omega, placed_seat]; rfl
  | some d :: r, i, 0 => by
    rw [placedF, List.countP_cons, placed_lt (by omega), if_pos (by simp)]; rfl
  | some d :: r, i, k + 1 => by
    have hne : decide ((i, d).1 = i + 1 + k) = false := decide_eq_false (by show ¬ (i = i + 1 + k); omega)
    rw [placedF, List.countP_cons, show i + (k + 1) = (i + 1) + k by omega, placed_seat, hne]
    rfl
def overF (n : Nat) (rows : List (Option Cm)) (outs : List Cm) (s : Nat) : Nat := (placedF 0 rows).countP (fun p => decide (farF n p.2 s < farF n p.2 p.1)) + outs.countP fun o => decide (o.2 ≤ s)
/-- of one: who comes up to s or wishes it, sits there or goes on -/
theorem one_way {c : Cm} {t s : Nat} (hc : c.2 < n) (ht : t < n) (hs : s < n) :
    (if farF n c ((s + n - 1) % n) < farF n c t then 1 else 0) + (if c.2 = s then 1 else 0) = (if t = s then 1 else 0) + (if farF n c s < farF n c t then 1 else 0) := by
  have hn : 0 < n := by omega
  have e1 := far_lt (n := n) (c := c) (s := t) hn
  have e4 : farF n c s = farF n c t ↔ s = t := by
    constructor
    · intro z
      have h1 := far_seat hc hs
      rw [z, far_seat hc ht] at h1
      exact h1.symm
    · intro z; rw [z]
  by_cases h : c.2 = s
  · subst h
    have f0 : farF n c c.2 = 0 := by unfold farF; rw [show c.2 + n - c.2 = n by omega, Nat.mod_self]
    have fp : farF n c ((c.2 + n - 1) % n) = n - 1 := by
      unfold farF
      rw [mod2 (x := c.2 + n - 1) (by omega), mod2 (by split <;> omega)]
      split <;> split <;> omega
    rw [fp, if_neg (by omega), if_pos rfl, f0]
    rw [f0] at e4
    by_cases z : t = c.2
    · rw [if_pos z, if_neg (by rw [← e4.mpr z.symm]; omega)]
    · rw [if_neg z, if_pos (by have : ¬ (0 = farF n c t) := fun y => z (e4.mp y).symm
                               omega)]
  · have fs : farF n c s = farF n c ((s + n - 1) % n) + 1 := by
      unfold farF
      rw [mod2 (x := s + n - 1) (by omega), mod2 (x := s + n - c.2) (by omega), mod2 (by split <;> omega)]
      split <;> split <;> split <;> omega
    rw [if_neg h, fs]
    rw [fs] at e4
    by_cases z : t = s
    · have := e4.mpr z.symm
      rw [if_pos z, if_pos (by omega), if_neg (by omega)]
    · have hne : ¬ (farF n c ((s + n - 1) % n) + 1 = farF n c t) := fun y => z (e4.mp y).symm
      rw [if_neg z]
      by_cases y : farF n c ((s + n - 1) % n) < farF n c t
      · rw [if_pos y, if_pos (by omega)]
      · rw [if_neg y, if_neg (by omega)]
theorem all_ways {s : Nat} (hs : s < n) : ∀ {l : List (Nat × Cm)}, (∀ p ∈ l, p.2.2 < n ∧ p.1 < n) → l.countP (fun p => decide (farF n p.2 ((s + n - 1) % n) < farF n p.2 p.1)) + l.countP (fun p => decide (p.2.2 = s)) = l.countP (fun p => decide (p.1 = s)) + l.countP (fun p => decide (farF n p.2 s < farF n p.2 p.1))
  | [], _ => rfl
  | p :: l, h => by
    have ih := all_ways hs (l := l) fun q hq => h q (List.mem_cons_of_mem _ hq)
    have h1 := one_way (h p (by simp)).1 (h p (by simp)).2 hs
    simp only [List.countP_cons, decide_eq_true_eq]
    omega
theorem folk_count {rows : List (Option Cm)} {outs cs : List Cm} {s : Nat} (h : (folkOf rows ++ outs).Perm cs) : (placedF 0 rows).countP (fun p => decide (p.2.2 = s)) + outs.countP (fun c => decide (c.2 = s)) = wishN cs s := by
  unfold wishN
  rw [← h.countP_eq, List.countP_append, ← placed_folk (rows := rows) (i := 0), List.countP_map]
  rfl
theorem placed_ok {r : Bool} {rows : List (Option Cm)} {outs : List Cm} (P : Pth n r rows outs) : ∀ p ∈ placedF 0 rows, p.2.2 < n ∧ p.1 < n ∧ rows[p.1]? = some (some p.2) := fun p hp => by
  have h := (placed_mem (t := p.1) (c := p.2).mp hp).2
  rw [Nat.sub_zero] at h
  refine ⟨(P.occ _ _ h).1, ?_, h⟩
  rw [← P.len]; exact (List.getElem?_eq_some_iff.mp h).1
/-- what comes up, wishes, sits, goes on -/
theorem over_rec {r : Bool} {cs outs : List Cm} {rows : List (Option Cm)} (W : Way n r cs rows outs) {s : Nat} (hs : s < n) :
    (if s = 0 ∧ r = false then 0 else overF n rows outs ((s + n - 1) % n)) + wishN cs s = (if occB rows s = true then 1 else 0) + overF n rows outs s := by
  have h1 := all_ways hs (l := placedF 0 rows) fun p hp => ⟨(placed_ok W.path p hp).1, (placed_ok W.path p hp).2.1⟩
  have h2 := folk_count (s := s) W.perm
  have h3 := placed_seat (rows := rows) (i := 0) (k := s)
  rw [Nat.zero_add] at h3
  have h4 : (if s = 0 ∧ r = false then 0 else outs.countP fun o => decide (o.2 ≤ (s + n - 1) % n)) + outs.countP (fun c => decide (c.2 = s)) = outs.countP fun o => decide (o.2 ≤ s) := by
    cases r with
    | true => rw [(W.zero rfl).1]; simp
    | false =>
      by_cases hz : s = 0
      · subst hz
        rw [if_pos ⟨rfl, rfl⟩, Nat.zero_add]
        refine List.countP_congr fun c _ => ?_
        rw [decide_eq_true_eq, decide_eq_true_eq]; omega
      · rw [if_neg fun z => hz z.1, show (s + n - 1) % n = s - 1 by rw [show s + n - 1 = (s - 1) + n by omega, Nat.add_mod_right, Nat.mod_eq_of_lt (by omega)]]
        exact (countP_or (fun c _ => by
          rw [← Bool.decide_or]
          exact decide_eq_decide.mpr ⟨fun h => by omega, fun h => by omega⟩) fun c _ z => by
          have z1 := of_decide_eq_true z.1
          have z2 := of_decide_eq_true z.2
          omega).symm
  have h5 : s = 0 → r = false → (placedF 0 rows).countP (fun p => decide (farF n p.2 ((s + n - 1) % n) < farF n p.2 p.1)) = 0 := fun hz hr => by
    subst hz
    rw [List.countP_eq_zero]
    intro p hp z
    have z := of_decide_eq_true z
    obtain ⟨a1, a2, a3⟩ := placed_ok W.path p hp
    have a4 := (W.path.occ _ _ a3).2.1 hr
    unfold farF at z
    rw [Nat.zero_add, Nat.mod_eq_of_lt (show n - 1 < n by omega), mod2 (by omega), mod2 (by omega)] at z
    split at z <;> split at z <;> omega
  unfold overF
  by_cases hz : s = 0 ∧ r = false
  · have := h5 hz.1 hz.2
    rw [if_pos hz] at h4 ⊢
    omega
  · rw [if_neg hz] at h4 ⊢
    omega
theorem over_free {r : Bool} {cs outs : List Cm} {rows : List (Option Cm)} (W : Way n r cs rows outs) {s : Nat} (hs : s < n) (h : occB rows s = false) : overF n rows outs s = 0 := by
  have hno : ¬ Occ rows s := fun z => by rw [occB_iff.mpr z] at h; cases h
  unfold overF
  have e1 : (placedF 0 rows).countP (fun p => decide (farF n p.2 s < farF n p.2 p.1)) = 0 := by
    rw [List.countP_eq_zero]
    intro p hp z
    have z := of_decide_eq_true z
    obtain ⟨a1, a2, a3⟩ := placed_ok W.path p hp
    have := (W.path.occ _ _ a3).2.2 _ z
    rw [far_seat a1 hs] at this
    exact hno this
  have e2 : outs.countP (fun o => decide (o.2 ≤ s)) = 0 := by
    rw [List.countP_eq_zero]
    intro o ho z
    exact hno ((W.path.out o ho).2.2 s (of_decide_eq_true z) hs)
  rw [e1, e2]
theorem over_step {r : Bool} {cs outs : List Cm} {rows : List (Option Cm)} (W : Way n r cs rows outs) {s : Nat} (hs : s < n) :
    overF n rows outs s = (if s = 0 ∧ r = false then 0 else overF n rows outs ((s + n - 1) % n)) + wishN cs s - 1 := by
  have h1 := over_rec W hs
  cases h : occB rows s with
  | true => rw [h, if_pos rfl] at h1; omega
  | false =>
    have := over_free W hs h
    rw [h, if_neg Bool.false_ne_true] at h1
    omega
/-- the borders, told -/
def bordF (n : Nat) (r : Bool) (cs : List Cm) (s : Nat) : Nat := hereN n (wishN cs) ((if r = true then n else 0) + s + 1)
theorem over_bord {r : Bool} {cs outs : List Cm} {rows : List (Option Cm)} (W : Way n r cs rows outs) {s : Nat} (hs : s < n) : overF n rows outs s = bordF n r cs s := by
  unfold bordF
  cases hr : r with
  | false =>
    rw [if_neg Bool.false_ne_true, Nat.zero_add]
    have go : ∀ s, s < n → overF n rows outs s = hereN n (wishN cs) (s + 1) := by
      intro s
      induction s with
      | zero =>
        intro h
        rw [over_step W h, if_pos ⟨rfl, hr⟩, hereN, hereN, Nat.mod_eq_of_lt h]
      | succ s ih =>
        intro h
        rw [over_step W h, if_neg (by omega), show (s + 1 + n - 1) % n = s by rw [show s + 1 + n - 1 = s + n by omega, Nat.add_mod_right, Nat.mod_eq_of_lt (by omega)], ih (by omega)]
        conv => rhs; rw [hereN]
        rw [Nat.mod_eq_of_lt h]
    exact go s hs
  | true =>
    rw [if_pos rfl]
    have hn : 0 < n := by omega
    have st : ∀ k, overF n rows outs (k % n) = overF n rows outs ((k + n - 1) % n) + wishN cs (k % n) - 1 := fun k => by
      rw [over_step W (Nat.mod_lt _ hn), if_neg (by rw [hr]; simp)]
      congr 3
      have : (k % n + n - 1) % n = (k + n - 1) % n := by
        rw [show k % n + n - 1 = k % n + (n - 1) by omega, Nat.mod_add_mod, show k + (n - 1) = k + n - 1 by omega]
      rw [this]
    obtain ⟨q, hq, hz⟩ := (W.zero hr).2
    have hq0 : overF n rows outs q = 0 := by
      unfold overF
      rw [(W.zero hr).1, List.countP_nil, Nat.add_zero, List.countP_eq_zero]
      intro p hp z
      have z := of_decide_eq_true z
      obtain ⟨a1, a2, a3⟩ := placed_ok W.path p hp
      exact hz _ _ a3 _ z (far_seat a1 hq)
    -- below, all the way
    have below : ∀ k, hereN n (wishN cs) (k + 1) ≤ overF n rows outs (k % n) := by
      intro k
      induction k with
      | zero =>
        rw [st 0, hereN, hereN]; omega
      | succ k ih =>
        have h := st (k + 1)
        rw [show (k + 1 + n - 1) = k + n by omega, Nat.add_mod_right] at h
        rw [hereN, h]; omega
    have same : ∀ d, hereN n (wishN cs) (q + d + 1) = overF n rows outs ((q + d) % n) := by
      intro d
      induction d with
      | zero =>
        have := below q
        rw [Nat.mod_eq_of_lt hq] at this
        show hereN n (wishN cs) (q + 1) = overF n rows outs (q % n)
        rw [Nat.mod_eq_of_lt hq]; omega
      | succ d ih =>
        have h := st (q + d + 1)
        rw [show (q + d + 1 + n - 1) = (q + d) + n by omega, Nat.add_mod_right] at h
        rw [show q + (d + 1) + 1 = (q + d + 1) + 1 by omega, hereN, ih, show q + (d + 1) = q + d + 1 by omega, h]
    have := same (n + s - q)
    rw [show q + (n + s - q) = n + s by omega, Nat.add_mod_left, Nat.mod_eq_of_lt hs] at this
    rw [← this]
end
end Y
set_option Elab.async false
set_option linter.all false
set_option maxRecDepth 100000
set_option maxHeartbeats 4000000
/-! Y25: the borders, evaluated -/
namespace Y
open PySem
abbrev wishT (cs : List Cm) : AV := .tup (cs.map fun c => AV.int c.2)
theorem locs_wish {cs : List Cm} : AV.locsL (cs.map fun c => AV.int c.2) = [] := locsL_flat fun v hv => by
  obtain ⟨c, _, rfl⟩ := List.mem_map.mp hv
  rfl
theorem count_W {st : Sto} {s : Nat} {cs : List Cm} : oCountT (wishT cs) [.int s] st = .ok (.int (wishN cs s : Nat)) st := by
  have h1 : den st DEEP (wishT cs) = some (.tuple (cs.map fun c => PyData.int c.2)) := by
    show (mapO (den st 15) (cs.map fun c => AV.int c.2)).map PyData.tuple = _
    rw [mapO_map (f := den st 15) (h := fun c : Cm => AV.int c.2) (r := fun c : Cm => PyData.int c.2) (fun c _ => rfl)]; rfl
  have h2 : den st DEEP (.int s) = some (.int s) := rfl
  unfold oCountT oCount
  simp only [h1, h2, Option.bind_some, itemsOf, List.countP_map]
  congr 3
  unfold wishN
  refine List.countP_congr fun c _ => ?_
  show (((c.2 : Int) == (s : Nat)) = true) ↔ _
  rw [beq_iff_eq, decide_eq_true_eq]
  omega
def hereG (n : Nat) (w : Nat → Nat) (z : Nat) : Nat → Nat
  | 0 => z
  | k + 1 => hereG n w z k + w (k % n) - 1
theorem hereG_zero {n : Nat} {w : Nat → Nat} : ∀ k, hereG n w 0 k = hereN n w k
  | 0 => rfl
  | k + 1 => by rw [hereG, hereN, hereG_zero k]
theorem hereG_next {n : Nat} {w : Nat → Nat} : ∀ k, hereG n w (hereN n w n) k = hereN n w (n + k)
  | 0 => rfl
  | k + 1 => by rw [hereG, hereG_next k, ← Nat.add_assoc, hereN, Nat.add_mod_left]
def lineG (n : Nat) (cs : List Cm) (z i : Nat) : List AV := (List.range i).map fun s => AV.int (hereG n (wishN cs) z (s + 1) : Nat)
theorem locs_line {n z i : Nat} {cs : List Cm} : AV.locsL (lineG n cs z i) = [] := locsL_flat fun v hv => by
  unfold lineG at hv
  obtain ⟨c, _, rfl⟩ := List.mem_map.mp hv
  rfl
abbrev crossB : MS := (msSeq (msAsg (mN oMax2 (maCons (mC (.int 0)) (maCons (mOp oSub (mOp oAdd (mVar 2) (mMet .tuple oCountT (mVar 1) (maCons (mVar 4) maNil))) (mC (.int 1))) maNil))) (mgName 2))
    (msExpr (mMet .list oAppend (mVar 3) (maCons (mVar 2) maNil))))
theorem crossed_ok {n z : Nat} {r : Bool} {w : Str} {cs : List Cm} {st : Sto} (hn : 0 < n ∧ n < 900) : m_crossed [encH n r w, wishT cs, .int z] st = .ok (.loc st.length) (st ++ [.lst (lineG n cs z n)]) := by
  obtain ⟨env, st', e, ⟨x4, rfl, rfl⟩⟩ := turns_rng (lo := 0) (n := n) (g := mgName 4) (b := crossB)
    (fun i env st' => ∃ (x4 : Option AV), env = [some (encH n r w), some (wishT cs), some (.int (hereG n (wishN cs) z i : Nat)), some (.loc st.length), x4] ∧ st' = st ++ [.lst (lineG n cs z i)])
    (fun i env st' hi ⟨x4, e1, e2⟩ => by
      subst e1 e2
      have t2 : isTy (st ++ [.lst (lineG n cs z i)]) .list (.loc st.length) = true := isTy_l at_new
      have e3 : (if (hereG n (wishN cs) z i : Int) + (wishN cs i : Nat) - 1 > 0 then (hereG n (wishN cs) z i : Int) + (wishN cs i : Nat) - 1 else 0) = (hereG n (wishN cs) z (i + 1) : Nat) := by
        rw [hereG, Nat.mod_eq_of_lt hi]
        split <;> omega
      have ap : oAppend (.loc st.length) [.int (hereG n (wishN cs) z (i + 1) : Nat)] (st ++ [.lst (lineG n cs z i)]) = .ok .non (st ++ [.lst (lineG n cs z (i + 1))]) := by
        rw [app_ok at_new (by unfold lineG; rw [List.length_map, List.length_range]; simp only [LIM]; omega), set_new]
        unfold lineG
        rw [List.range_succ, List.map_append]; rfl
      refine ⟨_, _, ?_, some (.int (0 + (i : Nat))), rfl, rfl⟩
      simp only [ev_gName, R.toFl_ok, List.set]
      unfold crossB
      rw [ev_seq]
      simp only [Int.zero_add]
      simp only [ev_asg, ev_N, ev_cons, ev_nil, ev_op, ev_met, ev_C, ev_varS, ev_var0, R.bind_ok, isTy_t, if_true, count_W, add_ii, sub_ii, max_ii, e3, R.toFl_ok, ev_gName, List.set, ev_expr, t2, ap])
    (env := [some (encH n r w), some (wishT cs), some (.int (hereG n (wishN cs) z 0 : Nat)), some (.loc st.length), none]) (st := st ++ [.lst []]) ⟨none, rfl, rfl⟩
  have hb : b_crossed [some (encH n r w), some (wishT cs), some (.int z), none, none] st = .rt (.loc st.length) (st ++ [.lst (lineG n cs z n)]) := by
    unfold b_crossed
    have l0 : oLst [] st = .ok (.loc st.length) (st ++ [.lst []]) := lst_ok (by decide)
    rw [ev_seq]
    simp only [ev_asg, ev_N, ev_nil, R.bind_ok, l0, R.toFl_ok, ev_gName, List.set]
    rw [ev_seq, ev_for, ev_R1i (rok (x := n) (by omega)) (n := n) rfl (st' := st ++ [.lst []]) (by simp only [ev_cons, ev_nil, ev_op, ev_C, ev_var0, R.bind_ok, ix_H0])]
    simp only [R.toFl_ok, lenR]
    have e' : turns (.rng 0 n) (mgName 4) crossB (n + 1) 0 [some (encH n r w), some (wishT cs), some (.int z), some (.loc st.length), none] (st ++ [.lst []]) = _ := e
    rw [e']
    simp only [ev_ret, ev_varS, ev_var0, R.toFl_ok]
  show (if 3 = 3 then gc st (fin (b_crossed [some (encH n r w), some (wishT cs), some (.int z), none, none] st)) else .bad) = _
  rw [if_pos rfl, hb]
  exact gc_list locs_line
def bordL (n : Nat) (r : Bool) (cs : List Cm) : List AV := (List.range n).map fun s => AV.int (bordF n r cs s : Nat)
theorem locs_bord {n : Nat} {r : Bool} {cs : List Cm} : AV.locsL (bordL n r cs) = [] := locsL_flat fun v hv => by
  unfold bordL at hv
  obtain ⟨c, _, rfl⟩ := List.mem_map.mp hv
  rfl
theorem atI_last {xs : List AV} {v : AV} (h : xs.getLast? = some v) : L2.atI xs (-1) = some v := by
  have hne : xs ≠ [] := fun z => by rw [z] at h; cases h
  have hl : 0 < xs.length := List.length_pos_iff.mpr hne
  unfold L2.atI L2.ixN
  rw [if_neg (by omega), if_pos (by omega)]
  simp only [Option.bind_some]
  rw [List.getLast?_eq_getElem?] at h
  rw [show ((-1 : Int) + (xs.length : Nat)).toNat = xs.length - 1 by omega]
  exact h
theorem borders_ok {n : Nat} {r : Bool} {w : Str} {cs : List Cm} {st : Sto} (hn : 0 < n ∧ n < 900) : m_borders [encH n r w, wishT cs] st = .ok (.loc st.length) (st ++ [.lst (bordL n r cs)]) := by
  have h1 := crossed_ok (n := n) (z := 0) (r := r) (w := w) (cs := cs) (st := st) hn
  have hlast : (lineG n cs 0 n).getLast? = some (.int (hereN n (wishN cs) n : Nat)) := by
    unfold lineG
    rw [List.getLast?_eq_getElem?, List.length_map, List.length_range, List.getElem?_map, List.getElem?_range (by omega)]
    show some (AV.int (hereG n (wishN cs) 0 (n - 1 + 1) : Nat)) = _
    rw [hereG_zero, show n - 1 + 1 = n by omega]
  have hix : oIx (.loc st.length) (.int (-1)) (st ++ [.lst (lineG n cs 0 n)]) = .ok (.int (hereN n (wishN cs) n : Nat)) (st ++ [.lst (lineG n cs 0 n)]) := ix_l at_new (atI_last hlast)
  have h2 := crossed_ok (n := n) (z := hereN n (wishN cs) n) (r := r) (w := w) (cs := cs) (st := st ++ [.lst (lineG n cs 0 n)]) hn
  rw [List.append_assoc, List.length_append, List.length_singleton] at h2
  have s1 : (msAsg (mN m_crossed (maCons (mVar 0) (maCons (mVar 1) (maCons (mC (.int 0)) maNil)))) (mgName 2)) [some (encH n r w), some (wishT cs), none] st = .nx [some (encH n r w), some (wishT cs), some (.loc st.length)] (st ++ [.lst (lineG n cs 0 n)]) := by
    have h1' : m_crossed [encH n r w, wishT cs, .int 0] st = _ := h1
    simp only [ev_asg, ev_N, ev_cons, ev_nil, ev_varS, ev_var0, ev_C, R.bind_ok, h1', R.toFl_ok, ev_gName, List.set]
  show (if 2 = 2 then gc st (fin (b_borders [some (encH n r w), some (wishT cs), none] st)) else .bad) = _
  rw [if_pos rfl]
  unfold b_borders
  rw [seq_nx s1]
  cases r with
  | false =>
    have e1 : bordL n false cs = lineG n cs 0 n := by
      unfold bordL lineG bordF
      refine List.map_congr_left fun s _ => ?_
      rw [hereG_zero, if_neg Bool.false_ne_true, Nat.zero_add]
    simp only [ev_ret, ev_if, ev_tV, ev_op, ev_varS, ev_var0, ev_C, R.bind_ok, ix_H1, Bool.false_eq_true, if_false, R.toFl_ok, fin]
    rw [e1]
    exact gc_list locs_line
  | true =>
    have e1 : bordL n true cs = lineG n cs (hereN n (wishN cs) n) n := by
      unfold bordL lineG bordF
      refine List.map_congr_left fun s _ => ?_
      rw [hereG_next, if_pos rfl, Nat.add_assoc]
    simp only [ev_ret, ev_if, ev_tV, ev_op, ev_un, ev_N, ev_cons, ev_nil, ev_varS, ev_var0, ev_C, R.bind_ok, ix_H1, if_true, neg_i, hix, h2, R.toFl_ok, fin]
    rw [e1]
    exact gc_new (j := 1) (st' := st) (g := [.lst (lineG n cs 0 n), .lst (lineG n cs (hereN n (wishN cs) n) n)]) locs_line rfl oldOk_app rfl
end Y
set_option Elab.async false
set_option linter.all false
set_option maxRecDepth 100000
/-! Y26: all, any, max and min of a list of data, isinstance of a built-in type, zip -/
namespace Y
open PySem PySem.Spec L2
open PyProof.Rows hiding St
/-! ### max, min of a list of data -/
def bestG {α : Type} (z : α × PyData) (r : List (α × PyData)) : α × PyData := r.foldl (fun a y => if PySem.W.dataLt a.2 y.2 then y else a) z
def bestL {α : Type} (z : α × PyData) (r : List (α × PyData)) : α × PyData := r.foldl (fun a y => if PySem.W.dataLt y.2 a.2 then y else a) z
def noNone (ds : List PyData) : Bool := ds.all fun d => !isNone d
theorem noNone_ok {ds : List PyData} (h : noNone ds = true) : ∀ d ∈ ds, d ≠ .none := fun d hd z => by
  have := List.all_eq_true.mp h d hd
  rw [z] at this
  exact Bool.noConfusion this
theorem zip_getD : ∀ {xs : List V} {ds : List PyData}, xs.length = ds.length → ∀ i : Nat, (xs.zip ds).getD i (V.non, PyData.none) = (xs.getD i .non, ds.getD i .none)
  | [], [], _, i => rfl
  | x :: xs, d :: ds, _, 0 => rfl
  | x :: xs, d :: ds, h, i + 1 => by
    rw [List.zip_cons_cons, List.getD_cons_succ, List.getD_cons_succ, List.getD_cons_succ]
    exact zip_getD (by simpa using h) i
  | [], _ :: _, h, _ => by cases h
  | _ :: _, [], h, _ => by cases h
theorem vals_getD {xs : List V} {us : List Value} {i : Nat} {v : Value} (r : Vals xs us) (h : us[i]? = some v) : RelV (xs.getD i .non) v := by
  have hl := r.length
  obtain ⟨hi, _⟩ := List.getElem?_eq_some_iff.mp h
  have hx : xs[i]? = some xs[i] := List.getElem?_eq_getElem (by omega)
  obtain ⟨u, e, ru⟩ := r.get hx
  rw [h] at e
  cases e
  rw [List.getD_eq_getElem?_getD, hx]
  exact ru
def rMaxA (K : PySem.W.Frag) : List V → Hp → VK → Prop := fun vs H Q => ∃ a x xs d ds, vs = [.ref a] ∧ SqL K H a (x :: xs) ∧ DpAll K H (x :: xs) (d :: ds) ∧ PySem.W.AlikeAll (d :: ds) ∧ PyData.depthAll (d :: ds) ≤ 16 ∧ Q (bestG (x, d) (xs.zip ds)).1 H
def rMinA (K : PySem.W.Frag) : List V → Hp → VK → Prop := fun vs H Q => ∃ a x xs d ds, vs = [.ref a] ∧ SqL K H a (x :: xs) ∧ DpAll K H (x :: xs) (d :: ds) ∧ PySem.W.AlikeAll (d :: ds) ∧ PyData.depthAll (d :: ds) ≤ 16 ∧ Q (bestL (x, d) (xs.zip ds)).1 H
section
variable {X : Cx}
theorem cr_maxA (hc : X.calm = true) (hu : X.A.units + 64 < cLine) : CallR X (.builtin "max") (rMaxA X.K) := by
  intro pins s σ H vs us Q I r h
  obtain ⟨a, x, xs, d, ds, rfl, hs, hd, hal, hdp, q⟩ := h
  obtain ⟨its, rv, hl, _⟩ := I.list hs
  rw [Vals.ref1 r]
  have hlen := dpAll_len hd
  obtain ⟨as, hr⟩ := Dp.readsAll I _ _ _ hd rv
  have hr : ReadsAll s.heap its.toArray.toList (d :: ds) as := hr
  have hn : its.toArray.size = ds.length + 1 := PySem.W.readsAll_len hr
  refine PySem.call_max_walkH (PySem.W.iter_listW (A := X.A.in1) (I.ok.hd hc) hl.isList fun s₂ e W st hfp hw hk => ?_)
  refine ⟨_, _, _, _, _, _, _, s.heap, _, rfl, W, st, hfp, by omega, hw, hk, PySem.W.cmpIn_gt (A := X.A.in1) hr hal (by show X.A.units + 1 + _ < _; omega), fun v s' hP m => ?_⟩
  obtain ⟨h', tk, rfl, hk'⟩ := PySem.W.moved_old e rfl m
  have e1 : its.toArray.size - 1 = (xs.zip ds).length := by
    simp only [List.length_cons] at hlen
    rw [List.length_zip]
    omega
  have e2 := (PySem.W.argBest_fold (fun (b a : V × PyData) => PySem.W.dataLt a.2 b.2) (V.non, PyData.none) (x, d) (xs.zip ds) (xs.zip ds).length (Nat.le_refl _)).2
  have e3 : (x, d) :: xs.zip ds = (x :: xs).zip (d :: ds) := rfl
  simp only [e3, zip_getD hlen, List.take_length] at e2
  rw [e1] at hP
  have rv' := vals_getD (i := PySem.argBest (fun i j => PySem.W.dataLt ((d :: ds).getD j .none) ((d :: ds).getD i .none)) (xs.zip ds).length) (v := v) rv (by rw [← List.getElem?_toArray]; exact hP)
  have e4 : (bestG (x, d) (xs.zip ds)).1 = (x :: xs).getD (PySem.argBest (fun i j => PySem.W.dataLt ((d :: ds).getD j .none) ((d :: ds).getD i .none)) (xs.zip ds).length) .non := by
    unfold bestG
    rw [← e2]
  rw [← e4] at rv'
  exact ⟨_, H, I.kept hk', rv', q⟩
theorem cr_minA (hc : X.calm = true) (hu : X.A.units + 64 < cLine) : CallR X (.builtin "min") (rMinA X.K) := by
  intro pins s σ H vs us Q I r h
  obtain ⟨a, x, xs, d, ds, rfl, hs, hd, hal, hdp, q⟩ := h
  obtain ⟨its, rv, hl, _⟩ := I.list hs
  rw [Vals.ref1 r]
  have hlen := dpAll_len hd
  obtain ⟨as, hr⟩ := Dp.readsAll I _ _ _ hd rv
  have hr : ReadsAll s.heap its.toArray.toList (d :: ds) as := hr
  have hn : its.toArray.size = ds.length + 1 := PySem.W.readsAll_len hr
  refine PySem.call_min_walkH (PySem.W.iter_listW (A := X.A.in1) (I.ok.hd hc) hl.isList fun s₂ e W st hfp hw hk => ?_)
  refine ⟨_, _, _, _, _, _, _, s.heap, _, rfl, W, st, hfp, by omega, hw, hk, PySem.W.cmpIn_lt (A := X.A.in1) hr hal (by show X.A.units + 1 + _ < _; omega), fun v s' hP m => ?_⟩
  obtain ⟨h', tk, rfl, hk'⟩ := PySem.W.moved_old e rfl m
  have e1 : its.toArray.size - 1 = (xs.zip ds).length := by
    simp only [List.length_cons] at hlen
    rw [List.length_zip]
    omega
  have e2 := (PySem.W.argBest_fold (fun (b a : V × PyData) => PySem.W.dataLt b.2 a.2) (V.non, PyData.none) (x, d) (xs.zip ds) (xs.zip ds).length (Nat.le_refl _)).2
  have e3 : (x, d) :: xs.zip ds = (x :: xs).zip (d :: ds) := rfl
  simp only [e3, zip_getD hlen, List.take_length] at e2
  rw [e1] at hP
  have rv' := vals_getD (i := PySem.argBest (fun i j => PySem.W.dataLt ((d :: ds).getD i .none) ((d :: ds).getD j .none)) (xs.zip ds).length) (v := v) rv (by rw [← List.getElem?_toArray]; exact hP)
  have e4 : (bestL (x, d) (xs.zip ds)).1 = (x :: xs).getD (PySem.argBest (fun i j => PySem.W.dataLt ((d :: ds).getD i .none) ((d :: ds).getD j .none)) (xs.zip ds).length) .non := by
    unfold bestL
    rw [← e2]
  rw [← e4] at rv'
  exact ⟨_, H, I.kept hk', rv', q⟩
end
/-- max(xs), min(xs), xs a list of alike data -/
def oMaxA : ON := fun vs st => match vs with
  | [.loc k] => match rdL st k with
    | some (z :: zs) => match mapO (den st DEEP) (z :: zs) with
      | some (d :: ds) => if alikeB (d :: ds) && noNone (d :: ds) then .ok (bestG (z, d) (zs.zip ds)).1 st else .bad
      | _ => .bad
    | _ => .bad
  | _ => .bad
def oMinA : ON := fun vs st => match vs with
  | [.loc k] => match rdL st k with
    | some (z :: zs) => match mapO (den st DEEP) (z :: zs) with
      | some (d :: ds) => if alikeB (d :: ds) && noNone (d :: ds) then .ok (bestL (z, d) (zs.zip ds)).1 st else .bad
      | _ => .bad
    | _ => .bad
  | _ => .bad
def blsA : List AV → Option (List Bool)
  | [] => some []
  | .bl b :: r => (blsA r).map (b :: ·)
  | _ => none
def oAll : ON := fun vs st => match vs with
  | [.loc k] => match (rdL st k).bind blsA with
    | some bs => .ok (.bl (bs.all id)) st
    | none => .bad
  | _ => .bad
def oAny : ON := fun vs st => match vs with
  | [.loc k] => match (rdL st k).bind blsA with
    | some bs => .ok (.bl (bs.any id)) st
    | none => .bad
  | _ => .bad
section
variable {X : Cx} {cm : CM} {E : EX} {G : GK} {K : PySem.W.Frag} {H : Hp} {ρ : Nat → Addr} {n : Nat} {st : Sto}
theorem repZ_best {f : PyData → PyData → Bool} : ∀ {l : List (AV × PyData)} {m : List (V × PyData)} {v : AV} {x : V} {d : PyData}, Rep K H ρ n v x → RepZ K H ρ n l m →
    Rep K H ρ n (l.foldl (fun a y => if f a.2 y.2 then y else a) (v, d)).1 (m.foldl (fun a y => if f a.2 y.2 then y else a) (x, d)).1
  | _, _, _, _, _, r, .nil => r
  | _, _, _, _, d, r, .cons (d := e) r2 h => by
    rw [List.foldl_cons, List.foldl_cons]
    cases hf : f d e with
    | true => simp only [hf, if_true]; exact repZ_best r2 h
    | false => simp only [hf, Bool.false_eq_true, if_false]; exact repZ_best r h
theorem sn_maxA : SndN (gX X cm) E oMaxA (rMaxA X.K) := by
  intro H ρ st vs xs Q s r h
  unfold oMaxA at h
  split at h
  · obtain ⟨x, rfl, rx⟩ := r.one
    obtain ⟨rfl, hk⟩ := rep_loc rx
    split at h
    · rename_i z zs hx
      obtain ⟨ys, h1, r1⟩ := s.lst (rdL_some hx)
      split at h
      · rename_i d ds hd
        split at h
        · rename_i hc
          rw [Bool.and_eq_true] at hc
          obtain ⟨d1, d2, d3⟩ := dps_of (dp_of s DEEP) r1 hd
          cases r1 with
          | @cons _ y _ ys ry rys =>
            exact ⟨_, y, ys, d, ds, rfl, SqL.of h1, d1, ⟨alikeB_ok hc.1, noNone_ok hc.2⟩, d3, Post.at h s (repZ_best (f := PySem.W.dataLt) ry (repZ_of rys))⟩
        · exact h.elim
      · exact h.elim
    · exact h.elim
  · exact h.elim
theorem sn_minA : SndN (gX X cm) E oMinA (rMinA X.K) := by
  intro H ρ st vs xs Q s r h
  unfold oMinA at h
  split at h
  · obtain ⟨x, rfl, rx⟩ := r.one
    obtain ⟨rfl, hk⟩ := rep_loc rx
    split at h
    · rename_i z zs hx
      obtain ⟨ys, h1, r1⟩ := s.lst (rdL_some hx)
      split at h
      · rename_i d ds hd
        split at h
        · rename_i hc
          rw [Bool.and_eq_true] at hc
          obtain ⟨d1, d2, d3⟩ := dps_of (dp_of s DEEP) r1 hd
          cases r1 with
          | @cons _ y _ ys ry rys =>
            exact ⟨_, y, ys, d, ds, rfl, SqL.of h1, d1, ⟨alikeB_ok hc.1, noNone_ok hc.2⟩, d3, Post.at h s (repZ_best (f := fun a b => PySem.W.dataLt b a) ry (repZ_of rys))⟩
        · exact h.elim
      · exact h.elim
    · exact h.elim
  · exact h.elim
theorem blsA_rep : ∀ {vs : List AV} {xs : List V} {bs : List Bool}, RepL K H ρ n vs xs → blsA vs = some bs → xs = bs.map V.bl
  | [], _, ns, r, e => by cases r; simp only [blsA] at e; cases e; rfl
  | v :: vs, _, ns, r, e => by
    cases r with
    | cons h1 h2 =>
      cases v with
      | bl i =>
        cases rep_bl h1
        simp only [blsA] at e
        cases hx : blsA vs with
        | none => rw [hx] at e; cases e
        | some ms =>
          rw [hx] at e
          cases e
          rw [blsA_rep h2 hx]
          rfl
      | _ => simp [blsA] at e
theorem sn_all : SndN (gX X cm) E oAll (rAll X.K) := by
  intro H ρ st vs xs Q s r h
  unfold oAll at h
  split at h
  · obtain ⟨x, rfl, rx⟩ := r.one
    obtain ⟨rfl, hk⟩ := rep_loc rx
    split at h
    · rename_i ns hx
      cases hz : rdL st _ with
      | none => rw [hz] at hx; cases hx
      | some zs =>
        rw [hz] at hx
        obtain ⟨ys, h1, r1⟩ := s.lst (rdL_some hz)
        have e := blsA_rep r1 hx
        subst e
        exact ⟨_, ns, rfl, SqL.of h1, Post.at (x := V.bl _) h s (.bl _)⟩
    · exact h.elim
  · exact h.elim
theorem sn_any : SndN (gX X cm) E oAny (rAny X.K) := by
  intro H ρ st vs xs Q s r h
  unfold oAny at h
  split at h
  · obtain ⟨x, rfl, rx⟩ := r.one
    obtain ⟨rfl, hk⟩ := rep_loc rx
    split at h
    · rename_i ns hx
      cases hz : rdL st _ with
      | none => rw [hz] at hx; cases hx
      | some zs =>
        rw [hz] at hx
        obtain ⟨ys, h1, r1⟩ := s.lst (rdL_some hz)
        have e := blsA_rep r1 hx
        subst e
        exact ⟨_, ns, rfl, SqL.of h1, Post.at (x := V.bl _) h s (.bl _)⟩
    · exact h.elim
  · exact h.elim
end
/-! ### isinstance(x, T), T a built-in type -/
def tyStr (st : Sto) : AV → Option String
  | .non => some "NoneType"
  | .bl _ => some "bool"
  | .int _ => some "int"
  | .str _ => some "str"
  | .tup _ => some "tuple"
  | .tmp _ => some "tuple"
  | .frl _ => none
  | .loc k => match st[k]? with
    | some (.lst _) => some "list"
    | some (.dct _) => some "dict"
    | _ => none
def isaB (t T : String) : Option Bool := if ((Value.type t) == (Value.type T)) = true then some true else if PySem.W.kitMeta T = true then (fastBuiltinMro t).map (·.contains (.type T)) else none
theorem isaB_kit {K : PySem.W.Frag} {t T : String} : PySem.W.kitOne K (.type t) (.type T) = isaB t T := rfl
def tyKnown : List String := ["NoneType", "bool", "int", "str", "tuple", "list", "dict"]
def tyAsked : List String := ["bool", "int", "str", "tuple", "list", "dict"]
def isaV (t T : String) : Bool := decide (t = T) || (decide (t = "bool") && decide (T = "int"))
theorem isaB_all : ∀ t ∈ tyKnown, ∀ T ∈ tyAsked, isaB t T = some (isaV t T) := by decide +kernel
theorem tyStr_known {st : Sto} {x : AV} {t : String} (h : tyStr st x = some t) : t ∈ tyKnown := by
  unfold tyStr at h
  split at h <;> (first | (cases h; decide) | cases h | (split at h <;> first | (cases h; decide) | cases h))
def oIsi (T : String) : O1 := fun x st => match tyStr st x with
  | some t => .ok (.bl (isaV t T)) st
  | none => .bad
section
variable {X : Cx} {cm : CM} {E : EX} {G : GK} {K : PySem.W.Frag} {H : Hp} {ρ : Nat → Addr} {n : Nat} {st : Sto}
theorem sqt_ty {K : PySem.W.Frag} {H : Hp} {a : Addr} {xs : List V} (h : SqT K H a xs) : TyX K H (.ref a) (.type "tuple") := by
  rcases h with (h | ⟨o, h⟩) | ⟨o, _, _, h, c, _⟩
  · exact .base (.tup h)
  · exact .fTuple h
  · exact .kTuple h c
theorem tyStr_ok (s : RepS G H ρ st) {v : AV} {x : V} {t : String} (r : Rep G.K H ρ st.length v x) (h : tyStr st v = some t) : TyX G.K H x (.type t) := by
  cases v with
  | non => cases rep_non r; cases h; exact .base .non
  | bl b => cases rep_bl r; cases h; exact .base (.bl b)
  | int i => cases rep_int r; cases h; exact .base (.int i)
  | str y => cases rep_str r; cases h; exact .base (.str y)
  | tup xs => obtain ⟨a, ys, rfl, hq, _⟩ := rep_tup r; cases h; exact sqt_ty hq.seq
  | tmp xs => obtain ⟨a, ys, rfl, hq, _⟩ := rep_tmp r; cases h; exact sqt_ty hq
  | frl xs => cases h
  | loc k =>
    obtain ⟨rfl, hk⟩ := rep_loc r
    simp only [tyStr] at h
    split at h
    · rename_i xs hx
      cases h
      obtain ⟨ys, h1, r1⟩ := s.lst hx
      exact .base (.lst h1)
    · rename_i xs hx
      cases h
      obtain ⟨ks, h1, _⟩ := s.dct hx
      exact .base (.dK h1)
    · cases h
theorem ye_isi {e : Expr} {m : ME} {x : Str} {T : String} {p q pos : Pos} (hg : Gl X "isinstance") (hm : X.mg "isinstance" = none) (hi : bootBuiltins "isinstance" = some (.builtin "isinstance")) (hg2 : Gl X x) (hm2 : X.mg x = none) (hv : bootBuiltins x = some (.type T)) (hT : T ∈ tyAsked)
    (he : PE X e (tE (gX X cm) E m)) (hn : x ≠ "__name__" := by decide) (hd : (x == ("__debug__" : Str)) = false := by decide)
    (na : starEach [e, .Name x q] X.env = (false, eval e X.env) :: starEach [.Name x q] X.env := by rfl) (nb : starEach [.Name x q] X.env = (false, eval (.Name x q) X.env) :: starEach [] X.env := by rfl) (hpl : (backTo pos (starEach [.Name x q] X.env)).any (·.1) = false := by rfl) :
    PE X (.Call (.Name "isinstance" p) [e, .Name x q] [] pos) (tE (gX X cm) E (mUn (oIsi T) m)) :=
  PE.weak (pe_callB (X := X) (r := rIsi X.K) call_isi hg hm hi (pa_cons he (pa_cons (pe_bltn (v := .ty T) hg2 hm2 hv rfl hn hd) pa_nil nb) na) (by decide) (by decide) na hpl) fun σ H Q ⟨ρ, st, env, hs, he, hp⟩ => ⟨ρ, st, env, hs, he, hp.bindI fun v st1 H1 ρ1 x e1 s1 r1 hp1 => by
    have r1 : Rep X.K H1 ρ1 st1.length v x := r1
    unfold oIsi at hp1
    split at hp1
    · rename_i t ht
      exact ⟨_, _, _, _, _, rfl, .ty T, tyStr_ok s1 r1 ht, (isaB_kit.trans (isaB_all t (tyStr_known ht) T hT)), Post.at (x := V.bl _) hp1 s1 (.bl _)⟩
    · exact hp1.elim⟩
end
/-! ### zip -/
def miZip (a : MA) : MI := fun env st => (a env st).bind fun vs st => match vs with
  | [.tup xs, .tup ys] => .ok (.zipT xs ys) st
  | [.loc j, .loc k] => match rdL st j, rdL st k with
    | some _, some _ => .ok (.zipL j k) st
    | _, _ => .bad
  | _ => .bad
section
variable {X : Cx} {cm : CM} {E : EX} {G : GK} {K : PySem.W.Frag} {H : Hp} {ρ : Nat → Addr} {n : Nat} {st : Sto}
theorem seq_zipT {a b : Addr} {xs ys : List AV} {us ws : List V} {st : Sto} (s : RepS G H ρ st) (ha : SqT G.K H a us) (hb : SqT G.K H b ws) (ra : RepL G.K H ρ st.length xs us) (rb : RepL G.K H ρ st.length ys ws) : SeqOk G (.zipT xs ys) (RZ.ItzT G.K a b) H ρ st.length := by
  intro H' ρ' st' i e s'
  have ha' := (e.tups s).t _ _ ha
  have hb' := (e.tups s).t _ _ hb
  have ra' := RepL.ext s e ra
  have rb' := RepL.ext s e rb
  simp only [Sq.at]
  refine ⟨fun v hv => ?_, fun hv => ?_⟩
  · split at hv
    · rename_i w z hi hj
      cases hv
      obtain ⟨x, e1, rx⟩ := ra'.get hi
      obtain ⟨y, e2, ry⟩ := rb'.get hj
      refine ⟨⟨us, ws, x, y, ha', hb', e1, e2⟩, fun u H'' hy => ?_⟩
      obtain ⟨T, x', y', rfl, hT, rfl, hx1, hy1⟩ := hy
      have q1 := hx1 _ ha'
      have q2 := hy1 _ hb'
      rw [e1] at q1
      rw [e2] at q2
      cases q1; cases q2
      exact tmp_at s' hT (.cons rx (.cons ry .nil))
    · cases hv
  · refine ⟨us, ws, ha', hb', ?_⟩
    rw [← ra'.length, ← rb'.length]
    split at hv
    · cases hv
    · rename_i hno
      cases hi : xs[i]? with
      | none => exact .inl (List.getElem?_eq_none_iff.mp hi)
      | some w =>
        cases hj : ys[i]? with
        | none => exact .inr (List.getElem?_eq_none_iff.mp hj)
        | some z => exact absurd hj (by intro z'; exact hno w z hi z')
theorem seq_zipL {j k : Nat} (hj : j < n) (hk : k < n) : SeqOk G (.zipL j k) (Itz G.K (ρ j) (ρ k)) H ρ n := by
  intro H' ρ' st' i e s'
  have ej : ρ' j = ρ j := e.ag j hj
  have ek : ρ' k = ρ k := e.ag k hk
  simp only [Sq.at]
  cases hx : rdL st' j with
  | none => exact ⟨fun v hv => (by cases hv), fun hv => (by cases hv)⟩
  | some xs =>
  cases hy : rdL st' k with
  | none => exact ⟨fun v hv => (by cases hv), fun hv => (by cases hv)⟩
  | some ys =>
  obtain ⟨us, h1, ra'⟩ := s'.lst (rdL_some hx)
  obtain ⟨ws, h2, rb'⟩ := s'.lst (rdL_some hy)
  rw [ej] at h1
  rw [ek] at h2
  simp only [Option.bind_some]
  refine ⟨fun v hv => ?_, fun hv => ?_⟩
  · split at hv
    · rename_i w z hi hj
      cases hv
      obtain ⟨x, e1, rx⟩ := ra'.get hi
      obtain ⟨y, e2, ry⟩ := rb'.get hj
      refine ⟨⟨us, ws, x, y, SqL.of h1, SqL.of h2, e1, e2⟩, fun u H'' hy => ?_⟩
      obtain ⟨T, x', y', rfl, hT, rfl, hx1, hy1⟩ := hy
      have q1 := hx1 _ (SqL.of h1)
      have q2 := hy1 _ (SqL.of h2)
      rw [e1] at q1
      rw [e2] at q2
      cases q1; cases q2
      exact tmp_at s' hT (.cons rx (.cons ry .nil))
    · cases hv
  · refine ⟨us, ws, SqL.of h1, SqL.of h2, ?_⟩
    rw [← ra'.length, ← rb'.length]
    split at hv
    · cases hv
    · rename_i hno
      cases hi : xs[i]? with
      | none => exact .inl (List.getElem?_eq_none_iff.mp hi)
      | some w =>
        cases hj : ys[i]? with
        | none => exact .inr (List.getElem?_eq_none_iff.mp hj)
        | some z => exact absurd hj (by intro z'; exact hno w z hi z')
theorem yi_zip {e e2 : Expr} {mas : MA} {p pos tpos : Pos} {elts : List Expr} {kk : Nat} (hg : Gl X "zip") (hm : X.mg "zip" = none) (ha : PA X [e, e2] (tA (gX X cm) E mas))
    (hs : starEach [e, e2] X.env = (false, eval e X.env) :: starEach [e2] X.env := by rfl) (hpl : (backTo pos (starEach [e2] X.env)).any (·.1) = false := by rfl) :
    PI X (.Tuple elts kk tpos) (.Call (.Name "zip" p) [e, e2] [] pos) (tI (gX X cm) E (miZip mas)) :=
  PI.weak (RZ.pi_zipA hg hm ha hs hpl) fun σ H R ⟨ρ, st, env, hs, he, hp⟩ => ⟨ρ, st, env, hs, he, hp.bindI fun vs st1 H1 ρ1 xs e1 s1 r1 hp1 => by
    have r1 : RepL X.K H1 ρ1 st1.length vs xs := r1
    split at hp1
    · obtain ⟨x, y, rfl, rx, ry⟩ := r1.two
      obtain ⟨a, us, rfl, hq, hr⟩ := rep_tup rx
      obtain ⟨b, ws, rfl, hq2, hr2⟩ := rep_tup ry
      exact ⟨a, b, us, ws, rfl, .inr ⟨hq.seq, hq2.seq, Post.at hp1 s1 (seq_zipT s1 hq.seq hq2.seq hr hr2)⟩⟩
    · obtain ⟨x, y, rfl, rx, ry⟩ := r1.two
      obtain ⟨rfl, hj⟩ := rep_loc rx
      obtain ⟨rfl, hk⟩ := rep_loc ry
      split at hp1
      · rename_i us ws h1 h2
        obtain ⟨us', g1, _⟩ := s1.lst (rdL_some h1)
        obtain ⟨ws', g2, _⟩ := s1.lst (rdL_some h2)
        exact ⟨_, _, us', ws', rfl, .inl ⟨SqL.of g1, SqL.of g2, Post.at hp1 s1 (seq_zipL hj hk)⟩⟩
      · exact hp1.elim
    · exact hp1.elim⟩
end
end Y
set_option Elab.async false
set_option linter.all false
set_option maxRecDepth 100000
set_option maxHeartbeats 4000000
/-! Y27: rows of whole numbers: comprehensions over them, all rows -/
namespace Y
open PySem
def wtL (ws : List Nat) : List AV := ws.map fun w => AV.int (w : Nat)
abbrev wt (ws : List Nat) : AV := .tup (wtL ws)
theorem wtL_len {ws : List Nat} : (wtL ws).length = ws.length := List.length_map _
theorem locs_wt {ws : List Nat} : AV.locsL (wtL ws) = [] := locsL_flat fun v hv => by
  obtain ⟨c, _, rfl⟩ := List.mem_map.mp hv
  rfl
theorem locs_wtT {ws : List Nat} : (wt ws).locs = [] := locs_wt
theorem mapO_wt {st : Sto} {f : Nat} {ws : List Nat} : mapO (den st (f + 1)) (wtL ws) = some (ws.map fun w => PyData.int (w : Nat)) :=
  mapO_map (f := den st (f + 1)) (h := fun w : Nat => AV.int w) (r := fun w : Nat => PyData.int w) fun x _ => rfl
/-- wishes as those of folk without names -/
def cz (ws : List Nat) : List Cm := ws.map fun w => (sSits, w)
theorem wishT_cz {ws : List Nat} : wishT (cz ws) = wt ws := by
  show AV.tup _ = AV.tup _
  unfold cz wtL
  rw [List.map_map]; rfl
theorem wt_cs {cs : List Cm} : wishT cs = wt (cs.map (·.2)) := by
  show AV.tup _ = AV.tup _
  unfold wtL
  rw [List.map_map]; rfl
theorem wishN_cz {ws : List Nat} {s : Nat} : wishN (cz ws) s = ws.countP fun w => decide (w = s) := by
  unfold wishN cz
  rw [List.countP_map]; rfl
section
variable {st : Sto}
theorem count_wt {ws : List Nat} {s : Nat} : oCountT (wt ws) [.int s] st = .ok (.int (ws.countP fun w => decide (w = s) : Nat)) st := by
  have := count_W (st := st) (s := s) (cs := cz ws)
  rw [wishT_cz, wishN_cz] at this
  exact this
/-- [x for x in ws if x >= s] -/
theorem lc_ge {env : Ev} {i j s : Nat} {ws : List Nat} (hi : env[i]? = some (some (.int s))) (hij : i ≠ j) (hj : j < env.length) (hl : ws.length < 900) :
    mLc (fun env st => .ok (.tup (wtL ws)) st) (mgName j) (mtV (mOp oGe (mVar j) (mVar i))) (mVar j) [j] env st = .ok (.loc st.length) (st ++ [.lst (wtL (ws.filter fun w => decide (s ≤ w)))]) := by
  have h := lc_its (q := .tup (wtL ws)) (g := mgName j) (t := mtV (mOp oGe (mVar j) (mVar i))) (e := mVar j) (xs := wtL ws) (env := env.set j none) (st := st)
    (fun x => match x with | .int w => if (s : Int) ≤ w then some x else none | _ => none) (fun i => rfl)
    (fun x hx => by
      obtain ⟨w, _, rfl⟩ := List.mem_map.mp hx
      have h1 : ((env.set j none).set j (some (.int (w : Nat))))[j]? = some (some (.int (w : Nat))) := List.getElem?_set_self (by rw [List.length_set]; exact hj)
      have h2 : ((env.set j none).set j (some (.int (w : Nat))))[i]? = some (some (.int s)) := by rw [List.getElem?_set_ne (Ne.symm hij), List.getElem?_set_ne (Ne.symm hij)]; exact hi
      simp only [ev_gName, R.bind_ok, ev_tV, ev_op, ev_var h1, ev_var h2, ge_ii]
      by_cases hs : (s : Int) ≤ w
      · rw [if_pos hs, decide_eq_true hs]; rfl
      · rw [if_neg hs, decide_eq_false hs]; rfl) (by rw [wtL_len]; simp only [LIM]; omega)
  have e : (wtL ws).filterMap (fun x => match x with | .int w => if (s : Int) ≤ w then some x else none | _ => none) = wtL (ws.filter fun w => decide (s ≤ w)) := by
    clear h hl
    induction ws with
    | nil => rfl
    | cons w ws ih =>
      unfold wtL at ih ⊢
      rw [List.map_cons, List.filterMap_cons, ih, List.filter_cons]
      by_cases hs : s ≤ w
      · simp only [show (s : Int) ≤ (w : Nat) by omega, if_true, decide_eq_true hs, List.map_cons]
      · simp only [show ¬ (s : Int) ≤ (w : Nat) by omega, if_false, decide_eq_false hs, Bool.false_eq_true]
  rw [e] at h
  have hlen : (wtL (ws.filter fun w => decide (s ≤ w))).length ≤ LIM := by
    have := List.length_filter_le (fun w => decide (s ≤ w)) ws
    rw [wtL_len]; simp only [LIM]; omega
  unfold mLc
  simp only [R.bind_ok, wipeE]
  show (lcTurns (.tup (wtL ws)) (mgName j) _ _ (env.set j none) ((wtL ws).length + 1) 0 [] st).bind _ = _
  rw [h]
  simp only [R.bind_ok, lst_ok hlen]
/-! ### the data -/
theorem lt_II {a b c d : Int} : PySem.W.dataLt (.tuple [.int a, .int b]) (.tuple [.int c, .int d]) = decide (a < c ∨ (a = c ∧ b < d)) := by
  rw [PySem.W.dataLt_pair rfl rfl, PySem.W.dataLt_int, PySem.W.dataLt_int]
  show (if (a == c) = true then if (b == d) = true then false else _ else _) = _
  by_cases e : a = c
  · subst e
    rw [if_pos (by simp)]
    by_cases f : b = d
    · subst f
      rw [if_pos (by simp)]
      simp [Int.lt_irrefl]
    · rw [if_neg (by simpa using f)]
      simp
  · rw [if_neg (by simpa using e)]
    simp [e]
theorem in_ints {l : List Nat} {k i : Nat} (hk : st[k]? = some (.lst (wtL l))) : oIn (.int i) (.loc k) st = .ok (.bl (decide (i ∈ l))) st := by
  have h : den st DEEP (.loc k) = some (.list (l.map fun w => PyData.int (w : Nat))) := by
    show (match st[k]? with | some (.lst xs) => (mapO (den st 15) xs).map PyData.list | _ => none) = _
    rw [hk]
    simp only [mapO_wt]; rfl
  have h2 : den st DEEP (.int i) = some (.int i) := rfl
  unfold oIn
  simp only [h, h2, Option.bind_some, itemsOf, List.any_map]
  have e : (l.any ((fun z => PyData.eqv z (.int i)) ∘ fun w => PyData.int (w : Nat))) = decide (i ∈ l) := by
    rw [Bool.eq_iff_iff, List.any_eq_true, decide_eq_true_eq]
    constructor
    · rintro ⟨w, hw, e⟩
      have e : ((w : Int) == (i : Nat)) = true := e
      rw [beq_iff_eq] at e
      rw [show i = w by omega]; exact hw
    · intro h
      exact ⟨i, h, by show ((i : Int) == (i : Nat)) = true; exact beq_self_eq_true _⟩
  rw [e]
theorem eq_wt {a b : List Nat} : oEq (wt a) (wt b) st = .ok (.bl (decide (a = b))) st := by
  have h : ∀ l : List Nat, den st DEEP (wt l) = some (.tuple (l.map fun w => PyData.int (w : Nat))) := fun l => by
    show (mapO (den st 15) (wtL l)).map PyData.tuple = _
    rw [mapO_wt]; rfl
  have e : ∀ a b : List Nat, PyData.eqv (.tuple (a.map fun w => PyData.int (w : Nat))) (.tuple (b.map fun w => PyData.int (w : Nat))) = decide (a = b) := by
    intro a
    induction a with
    | nil => intro b; cases b <;> rfl
    | cons x a ih =>
      intro b
      cases b with
      | nil => rfl
      | cons y b =>
        have := ih b
        show (((x : Int) == (y : Nat)) && PyData.eqv (.tuple (a.map fun w => PyData.int (w : Nat))) (.tuple (b.map fun w => PyData.int (w : Nat)))) = _
        rw [this, Bool.eq_iff_iff, Bool.and_eq_true, beq_iff_eq, decide_eq_true_eq, decide_eq_true_eq, List.cons.injEq]
        exact and_congr ⟨fun h => by omega, fun h => by omega⟩ Iff.rfl
  unfold oEq
  simp only [h, e]
theorem cut_take {xs : List AV} {k : Nat} : cutA xs none (some (k : Int)) = xs.take k := by
  unfold cutA
  have e1 : HT.sIx xs.length 0 none = 0 := rfl
  rw [e1, List.drop_zero]
  have e2 : HT.sIx xs.length xs.length (some (k : Int)) = min k xs.length := HT.sIx_nat _ _ _
  rw [e2, Nat.sub_zero]
  rcases Nat.le_total k xs.length with h | h
  · rw [Nat.min_eq_left h]
  · rw [Nat.min_eq_right h, List.take_of_length_le (Nat.le_refl _), List.take_of_length_le h]
/-! ### enumerate, zip over tuples -/
def enL : Nat → List AV → List AV
  | _, [] => []
  | i, x :: xs => .tmp [.int i, x] :: enL (i + 1) xs
theorem enL_len : ∀ {xs : List AV} {i : Nat}, (enL i xs).length = xs.length
  | [], _ => rfl
  | x :: xs, i => by rw [enL, List.length_cons, enL_len]; rfl
theorem enL_at : ∀ {xs : List AV} {i k : Nat}, (enL i xs)[k]? = xs[k]?.map fun x => .tmp [.int ((i + k : Nat) : Int), x]
  | [], _, _ => rfl
  | x :: xs, i, 0 => rfl
  | x :: xs, i, k + 1 => by
    rw [enL, List.getElem?_cons_succ, List.getElem?_cons_succ, enL_at, show i + 1 + k = i + (k + 1) by omega]
theorem at_enumT {xs : List AV} {i : Nat} : (Sq.enumT xs).at st i = some (enL 0 xs)[i]? := by
  rw [enL_at, Nat.zero_add]; rfl
def zipL' (xs ys : List AV) : List AV := (xs.zip ys).map fun p => .tmp [p.1, p.2]
theorem at_zipT {xs ys : List AV} {i : Nat} : (Sq.zipT xs ys).at st i = some (zipL' xs ys)[i]? := by
  unfold zipL'
  rw [List.getElem?_map]
  simp only [Sq.at]
  cases h1 : xs[i]? with
  | none => rw [List.getElem?_eq_none (l := xs.zip ys) (by rw [List.length_zip]; have := List.getElem?_eq_none_iff.mp h1; omega)]; rfl
  | some x =>
    cases h2 : ys[i]? with
    | none => rw [List.getElem?_eq_none (l := xs.zip ys) (by rw [List.length_zip]; have := List.getElem?_eq_none_iff.mp h2; omega)]; rfl
    | some y => rw [(List.getElem?_zip_eq_some (z := (x, y))).mpr ⟨h1, h2⟩]; rfl
end
/-! ### all rows -/
def rowsF (n : Nat) : Nat → List (List Nat)
  | 0 => [[]]
  | m + 1 => (rowsF n m).flatMap fun ws => (List.range n).map fun w => ws ++ [w]
theorem rowsF_mem {n : Nat} : ∀ {m : Nat} {ws : List Nat}, ws ∈ rowsF n m ↔ ws.length = m ∧ ∀ w ∈ ws, w < n
  | 0, ws => by
    rw [rowsF, List.mem_singleton]
    constructor
    · rintro rfl
      exact ⟨rfl, fun w h => by cases h⟩
    · rintro ⟨h, _⟩
      exact List.eq_nil_of_length_eq_zero h
  | m + 1, ws => by
    rw [rowsF, List.mem_flatMap]
    constructor
    · rintro ⟨us, h1, h2⟩
      obtain ⟨w, hw, rfl⟩ := List.mem_map.mp h2
      obtain ⟨a, b⟩ := rowsF_mem.mp h1
      refine ⟨by rw [List.length_append, a]; rfl, fun x hx => ?_⟩
      rcases List.mem_append.mp hx with hx | hx
      · exact b x hx
      · rw [List.mem_singleton] at hx; subst hx; exact List.mem_range.mp hw
    · rintro ⟨h1, h2⟩
      have hne : ws ≠ [] := fun z => by subst z; cases h1
      refine ⟨ws.dropLast, rowsF_mem.mpr ⟨by rw [List.length_dropLast, h1]; rfl, fun x hx => h2 x (List.dropLast_subset ws hx)⟩, List.mem_map.mpr ⟨ws.getLast hne, List.mem_range.mpr (h2 _ (List.getLast_mem hne)), List.dropLast_concat_getLast hne⟩⟩
theorem rowsF_len {n : Nat} : ∀ {m : Nat}, (rowsF n m).length = n ^ m
  | 0 => rfl
  | m + 1 => by
    rw [rowsF, List.length_flatMap]
    have e : (rowsF n m).map (fun ws => ((List.range n).map fun w => ws ++ [w]).length) = (rowsF n m).map fun _ => n := List.map_congr_left fun x _ => by rw [List.length_map, List.length_range]
    rw [e, List.map_const', List.sum_replicate_nat, rowsF_len, Nat.pow_succ]
theorem wt_rows_locs {l : List (List Nat)} : AV.locsL (l.map wt) = [] := locsL_flat fun v hv => by
  obtain ⟨c, _, rfl⟩ := List.mem_map.mp hv
  exact locs_wt
end Y
set_option Elab.async false
set_option linter.all false
set_option maxRecDepth 100000
set_option maxHeartbeats 4000000
/-! Y28: the frame of a law: a loop over nought and the script's first numbers -/
namespace Y
open PySem
theorem mtGc_drop {t : MT} {env : Ev} {st g : Sto} {k : Bool} (h : t env st = .ok k (st ++ g)) : mtGc t env st = .ok k st := by
  unfold mtGc
  rw [h]
  simp only [R.bind_ok]
  rw [gc_drop rfl]
  rfl
theorem mtGc_same {t : MT} {env : Ev} {st : Sto} {k : Bool} (h : t env st = .ok k st) : mtGc t env st = .ok k st := by
  refine mtGc_drop (g := []) ?_
  rw [List.append_nil]; exact h
theorem law_frame {body : MS} {N k : Nat}
    (turn : ∀ (st : Sto) (kc : Nat) (cells : List AV) (s : Option AV) (cell : Int) (e : Ev), e.length = N → st[kc]? = some (.lst cells) →
      ∃ e' st', e'.length = N ∧ body (s :: some (.int cell) :: e) st = .nx (s :: some (.int cell) :: e') st' ∧ st'[kc]? = some (.lst cells)) (ns : List Int) (h : ns.length ≤ 63) :
    ∃ st', fn (N + 2) 1 (msSeq (msFor (miSeq (mOp oAdd (mN oLst (maCons (mC (.int 0)) maNil)) (mSl oSl (mVar 0) moNone (moSome (mC (.int (k : Nat))))))) (mgName 1) body) (msRet (mC (.bl true)))) [.frl (ns.map AV.int)] [] = .ok (.bl true) st' := by
  have hcut : cutA (ns.map AV.int) none (some (k : Nat)) = (cutI ns none (some (k : Nat))).map AV.int := cutI_ok
  have hlen : (cutI ns none (some (k : Nat))).length ≤ 63 := Nat.le_trans cutI_len h
  generalize cutI ns none (some (k : Nat)) = cs at hcut hlen
  have hl1 : oLst [AV.int 0] [] = .ok (.loc 0) [.lst [.int 0]] := lst_ok (st := []) (by show 1 ≤ LIM; decide)
  have hadd : oAdd (.loc 0) (.loc 1) [.lst [.int 0], .lst (cs.map AV.int)] = .ok (.loc 2) [.lst [.int 0], .lst (cs.map AV.int), .lst ((0 :: cs).map AV.int)] := by
    have : ([AV.int 0] : List AV).length + (cs.map AV.int).length ≤ LIM := by rw [List.length_map]; simp only [LIM, List.length_cons, List.length_nil]; omega
    unfold oAdd
    simp only [List.getElem?_cons_zero, List.getElem?_cons_succ, if_pos this]
    rfl
  have hk : ([.lst [.int 0], .lst (cs.map AV.int), .lst ((0 :: cs).map AV.int)] : Sto)[2]? = some (.lst ((0 :: cs).map AV.int)) := rfl
  obtain ⟨E0, hE0⟩ : ∃ E0, E0 = List.replicate N (none : Option AV) := ⟨_, rfl⟩
  have hst : startE (N + 2) [.frl (ns.map AV.int)] = some (.frl (ns.map AV.int)) :: none :: E0 := by
    rw [hE0]; unfold startE
    simp only [List.map_cons, List.map_nil, List.length_cons, List.length_nil, Nat.zero_add]
    rw [show N + 2 - 1 = N + 1 by omega]; rfl
  have hit : miSeq (mOp oAdd (mN oLst (maCons (mC (.int 0)) maNil)) (mSl oSl (mVar 0) moNone (moSome (mC (.int (k : Nat)))))) (some (.frl (ns.map AV.int)) :: none :: E0) [] = .ok (.list 2) [.lst [.int 0], .lst (cs.map AV.int), .lst ((0 :: cs).map AV.int)] := by
    rw [ev_iSeq]
    simp only [ev_op, ev_N, ev_cons, ev_nil, ev_C, ev_varS, ev_var0, ev_sl, ev_oNone, ev_oSome, R.bind_ok, hl1, oSl, hcut]
    show (oAdd (.loc 0) (.loc 1) [.lst [.int 0], .lst (cs.map AV.int)]).bind _ = _
    rw [hadd]
    rfl
  obtain ⟨env, st', e, -⟩ := turns_nx (q := .list 2) (g := mgName 1) (b := body) (xs := (0 :: cs).map AV.int) (env := some (.frl (ns.map AV.int)) :: none :: E0) (st := [.lst [.int 0], .lst (cs.map AV.int), .lst ((0 :: cs).map AV.int)])
    (fun i env st => st[2]? = some (.lst ((0 :: cs).map AV.int)) ∧ ∃ s x1 e, env = s :: x1 :: e ∧ e.length = N)
    (fun i env st hi hP => at_list hP.1)
    (fun i x env st hx ⟨hk, s, x1, e, h1, h2⟩ => by
      subst h1
      rw [List.getElem?_map, Option.map_eq_some_iff] at hx
      obtain ⟨cell, -, rfl⟩ := hx
      obtain ⟨e', st', h3, h4, h5⟩ := turn _ _ _ s cell _ h2 hk
      exact ⟨_, _, h4, h5, _, _, _, rfl, h3⟩)
    ⟨hk, _, _, _, rfl, by rw [hE0, List.length_replicate]⟩
  refine ⟨[], ?_⟩
  unfold fn
  rw [if_pos (show [AV.frl (ns.map AV.int)].length = 1 from rfl), hst]
  have hb : msSeq (msFor (miSeq (mOp oAdd (mN oLst (maCons (mC (.int 0)) maNil)) (mSl oSl (mVar 0) moNone (moSome (mC (.int (k : Nat))))))) (mgName 1) body) (msRet (mC (.bl true))) (some (.frl (ns.map AV.int)) :: none :: E0) [] = .rt (.bl true) st' := by
    rw [ev_seq, ev_for, hit]
    simp only [R.toFl_ok, len_list hk, e]
    rfl
  rw [hb]
  exact gc_drop (st := []) rfl
end Y
set_option Elab.async false
set_option linter.all false
set_option maxRecDepth 100000
/-! Y29: sum and max of a tuple -/
namespace Y
open PySem PySem.Spec L2
open PyProof.Rows hiding St
section
variable {prog : Program} {w : World} {A : Around} {E : Value → Shared → Prop} {s : Shared} {l : Addr} {xs : Array (Int × Tok)}
theorem sum_tupG {Q : Value → Shared → Prop} (hh : A.handled = none) (hl : s.heap.IsTuple l (intItems xs))
    (h : ∀ h' tk t', (∀ b o, s.heap.get? b = some o → h'.get? b = some o) → Q (.int (preSum (numAt xs) xs.size) t') { s with heap := h', toks := tk }) :
    wpAny (model prog w) A (call (.builtin "sum") [.ref l]) Q E s := by
  have hlt : l < s.heap.objs.size := by obtain ⟨_, e, _⟩ := hl; exact Heap.lt_size e
  refine call_sum_walkG (wpAny_pyIter_tuple hl ?_)
  refine ⟨_, [s.heap.objs.size, l], [s.heap.objs.size], _, _, _, numAt xs, rfl, Walks.tuple (A := A.in1) hh _ l (Nat.ne_of_lt hlt) (intItems xs), ⟨⟨_, Heap.get?_push_size _ rfl, rfl, rfl⟩, hl.push _⟩, (fun b hb => ?_), (fun _ _ => intItems_at), fun h' tk t' hk => ?_⟩
  · show b < (s.heap.push _).objs.size
    rw [Heap.size_push]
    rcases List.mem_cons.mp hb with rfl | hb
    · exact Nat.lt_succ_self _
    · rcases List.mem_cons.mp hb with rfl | hb
      · exact Nat.lt_succ_of_lt hlt
      · cases hb
  · have := h h' tk t' fun b o e => hk b o (fun hm => by
      rcases List.mem_cons.mp hm with e1 | hm
      · exact absurd (e1 ▸ Heap.lt_size e) (Nat.lt_irrefl _)
      · cases hm) (Heap.get?_push_of_some _ e)
    simpa [intItems] using this
theorem sum_rawT {its : List Value} {ns : List Int} {Q : Value → Shared → Prop} (hh : A.handled = none) (hl : s.heap.IsTuple l its.toArray) (hi : IntsAre its ns)
    (h : ∀ h' tk t', (∀ b o, s.heap.get? b = some o → h'.get? b = some o) → Q (.int ns.sum t') { s with heap := h', toks := tk }) : wpAny (model prog w) A (call (.builtin "sum") [.ref l]) Q E s := by
  obtain ⟨xs, e⟩ := hi.allInts.items
  have hn : numsOf (intItems xs).toList = ns := by rw [← e]; exact hi.numsOf
  rw [nums_intItems] at hn
  rw [e] at hl
  refine sum_tupG hh hl fun h' tk t' hk => ?_
  have := h h' tk t' hk
  rw [preSum_eq, List.take_of_length_le (by simp), hn]; exact this
end
def rSumT (K : PySem.W.Frag) : List V → Hp → VK → Prop := fun vs H Q => ∃ (a : Addr) (ns : List Int), vs = [V.ref a] ∧ SqT K H a (ns.map V.int) ∧ Q (.int ns.sum) H
def rMaxT (K : PySem.W.Frag) : List V → Hp → VK → Prop := fun vs H Q => ∃ a x xs d ds, vs = [.ref a] ∧ SqT K H a (x :: xs) ∧ DpAll K H (x :: xs) (d :: ds) ∧ PySem.W.AlikeAll (d :: ds) ∧ PyData.depthAll (d :: ds) ≤ 16 ∧ Q (bestG (x, d) (xs.zip ds)).1 H
section
variable {X : Cx}
theorem cr_sumT (hc : X.calm = true) : CallR X (.builtin "sum") (rSumT X.K) := by
  intro pins s σ H vs us Q I r h
  obtain ⟨a, ns, rfl, hs, q⟩ := h
  obtain ⟨its, rv, hl, _⟩ := I.tuple hs
  rw [Vals.ref1 r]
  exact sum_rawT (I.ok.hd hc) hl rv.ints fun h' tk t' hk => ⟨.int _, H, I.kept hk, ⟨_, rfl⟩, q⟩
theorem cr_maxT (hc : X.calm = true) (hu : X.A.units + 64 < cLine) : CallR X (.builtin "max") (rMaxT X.K) := by
  intro pins s σ H vs us Q I r h
  obtain ⟨a, x, xs, d, ds, rfl, hs, hd, hal, hdp, q⟩ := h
  obtain ⟨its, rv, hl, _⟩ := I.tuple hs
  rw [Vals.ref1 r]
  have hlen := dpAll_len hd
  obtain ⟨as, hr⟩ := Dp.readsAll I _ _ _ hd rv
  have hr : ReadsAll s.heap its.toArray.toList (d :: ds) as := hr
  have hn : its.toArray.size = ds.length + 1 := PySem.W.readsAll_len hr
  refine PySem.call_max_walkH (PySem.W.iter_tupleW (A := X.A.in1) (I.ok.hd hc) hl fun s₂ e W st hfp hw hk => ?_)
  refine ⟨_, _, _, _, _, _, _, s.heap, _, rfl, W, st, hfp, by omega, hw, hk, PySem.W.cmpIn_gt (A := X.A.in1) hr hal (by show X.A.units + 1 + _ < _; omega), fun v s' hP m => ?_⟩
  have hmv : ∃ h' tk, s' = { s with heap := h', toks := tk } ∧ ∀ b o, s.heap.get? b = some o → h'.get? b = some o := by
    subst e
    refine ⟨s'.heap, s'.toks, ?_, fun b ob eb => m.heap b ob (fun hb => absurd (Heap.lt_size eb) ((List.mem_singleton.mp hb) ▸ Nat.lt_irrefl _)) (Heap.get?_push_of_some _ eb)⟩
    obtain ⟨hp, g, d, tk, os⟩ := s'
    have h1 : g = s.gens := m.gens
    have h2 : d = s.drawn := m.drawn
    have h3 : os = s.os := m.os
    subst h1
    subst h2
    subst h3
    rfl
  obtain ⟨h', tk, rfl, hk'⟩ := hmv
  have e1 : its.toArray.size - 1 = (xs.zip ds).length := by
    simp only [List.length_cons] at hlen
    rw [List.length_zip]
    omega
  have e2 := (PySem.W.argBest_fold (fun (b a : V × PyData) => PySem.W.dataLt a.2 b.2) (V.non, PyData.none) (x, d) (xs.zip ds) (xs.zip ds).length (Nat.le_refl _)).2
  have e3 : (x, d) :: xs.zip ds = (x :: xs).zip (d :: ds) := rfl
  simp only [e3, zip_getD hlen, List.take_length] at e2
  rw [e1] at hP
  have rv' := vals_getD (i := PySem.argBest (fun i j => PySem.W.dataLt ((d :: ds).getD j .none) ((d :: ds).getD i .none)) (xs.zip ds).length) (v := v) rv (by rw [← List.getElem?_toArray]; exact hP)
  have e4 : (bestG (x, d) (xs.zip ds)).1 = (x :: xs).getD (PySem.argBest (fun i j => PySem.W.dataLt ((d :: ds).getD j .none) ((d :: ds).getD i .none)) (xs.zip ds).length) .non := by
    unfold bestG
    rw [← e2]
  rw [← e4] at rv'
  exact ⟨_, H, I.kept hk', rv', q⟩
end
def oSumT : ON := fun vs st => match vs with
  | [.tup xs] => match intsA xs with
    | some ns => .ok (.int ns.sum) st
    | none => .bad
  | _ => .bad
def oMaxT : ON := fun vs st => match vs with
  | [.tup (z :: zs)] => match mapO (den st DEEP) (z :: zs) with
    | some (d :: ds) => if alikeB (d :: ds) && noNone (d :: ds) then .ok (bestG (z, d) (zs.zip ds)).1 st else .bad
    | _ => .bad
  | _ => .bad
section
variable {X : Cx} {cm : CM} {E : EX} {G : GK} {K : PySem.W.Frag} {H : Hp} {ρ : Nat → Addr} {n : Nat} {st : Sto}
theorem sn_sumT : SndN (gX X cm) E oSumT (rSumT X.K) := by
  intro H ρ st vs xs Q s r h
  unfold oSumT at h
  split at h
  · obtain ⟨x, rfl, rx⟩ := r.one
    obtain ⟨a, ys, rfl, hq, hr⟩ := rep_tup rx
    split at h
    · rename_i ns hx
      have e := intsA_rep hr hx
      subst e
      exact ⟨_, ns, rfl, hq.seq, Post.at (x := V.int _) h s (.int _)⟩
    · exact h.elim
  · exact h.elim
theorem sn_maxT : SndN (gX X cm) E oMaxT (rMaxT X.K) := by
  intro H ρ st vs xs Q s r h
  unfold oMaxT at h
  split at h
  · obtain ⟨x, rfl, rx⟩ := r.one
    obtain ⟨a, ys, rfl, hq, hr⟩ := rep_tup rx
    split at h
    · rename_i d ds hd
      split at h
      · rename_i hc
        rw [Bool.and_eq_true] at hc
        obtain ⟨d1, d2, d3⟩ := dps_of (dp_of s DEEP) hr hd
        cases hr with
        | @cons _ y _ ys ry rys =>
          exact ⟨_, y, ys, d, ds, rfl, hq.seq, d1, ⟨alikeB_ok hc.1, noNone_ok hc.2⟩, d3, Post.at h s (repZ_best (f := PySem.W.dataLt) ry (repZ_of rys))⟩
      · exact h.elim
    · exact h.elim
  · exact h.elim
end
end Y
set_option Elab.async false
set_option linter.all false
set_option maxRecDepth 100000
set_option maxHeartbeats 4000000
/-! Y30: how far, told; the taken seats; who goes out of a lane -/
namespace Y
open PySem
/-- how far, by steps -/
theorem law_far_ok {n : Nat} {r : Bool} {w : Str} {c : Cm} {s : Nat} (hn : 0 < n ∧ n < 900) (hc : c.2 < n) (hs : s < n) : m__law_far [encH n r w, encC c, .int s] [] = .ok (.int (farF n c s)) [] := by
  have hw : ∀ d k F, k + d = farF n c s → d < F → whileN (mtV (mOp oNe (mOp oMod (mOp oAdd (mOp oIx (mVar 1) (mC (.int 1))) (mVar 3)) (mOp oIx (mVar 0) (mC (.int 0)))) (mVar 2))) (msAsg (mOp oAdd (mVar 3) (mC (.int 1))) (mgName 3)) F [some (encH n r w), some (encC c), some (.int s), some (.int k)] [] =
      .nx [some (encH n r w), some (encC c), some (.int s), some (.int (farF n c s))] [] := by
    intro d
    induction d with
    | zero =>
      intro k F hk hF
      obtain ⟨G, rfl⟩ : ∃ G, F = G + 1 := ⟨F - 1, by omega⟩
      have e1 : ((c.2 : Int) + (k : Nat)) % (n : Nat) = (s : Nat) := by
        rw [show k = farF n c s by omega, ← Int.natCast_add, ← Int.natCast_emod, far_seat hc hs]
      rw [whileN]
      simp only [ev_tV, ev_op, ev_C, ev_varS, ev_var0, R.bind_ok, ix_C1, ix_H0, add_ii, mod_ii (show (0 : Int) < n by omega), e1, ne_ii, decide_true, Bool.not_true, R.toFl_ok, Bool.false_eq_true, if_false]
      rw [show k = farF n c s by omega]
    | succ d ih =>
      intro k F hk hF
      obtain ⟨G, rfl⟩ : ∃ G, F = G + 1 := ⟨F - 1, by omega⟩
      have e1 : ((c.2 : Int) + (k : Nat)) % (n : Nat) = (((c.2 + k) % n : Nat) : Int) := by rw [Int.natCast_emod, Int.natCast_add]
      have hne : (c.2 + k) % n ≠ s := fun z => by
        have h1 := far_lt (n := n) (c := c) (s := s) hn.1
        have h2 := far_seat hc hs
        rw [mod2 (by omega)] at z h2
        split at z <;> split at h2 <;> omega
      have d1 : decide ((((c.2 + k) % n : Nat) : Int) = (s : Nat)) = false := decide_eq_false (by omega)
      rw [whileN]
      simp only [ev_tV, ev_op, ev_C, ev_varS, ev_var0, R.bind_ok, ix_C1, ix_H0, add_ii, mod_ii (show (0 : Int) < n by omega), e1, ne_ii, d1, Bool.not_false, R.toFl_ok, if_true, ev_asg, ev_gName, List.set, Y.step]
      exact ih (k + 1) G (by omega) (by omega)
  have hb : b__law_far [some (encH n r w), some (encC c), some (.int s), none] [] = .rt (.int (farF n c s)) [] := by
    unfold b__law_far
    rw [ev_seq]
    simp only [ev_asg, ev_C, R.toFl_ok, ev_gName, List.set]
    have h1 := far_lt (n := n) (c := c) (s := s) hn.1
    have := hw (farF n c s) 0 FUEL (by omega) (by show farF n c s < 1000; omega)
    rw [ev_seq, ev_while]
    have this' : whileN _ _ FUEL [some (encH n r w), some (encC c), some (.int s), some (.int 0)] [] = _ := this
    rw [this']
    simp only [ev_ret, ev_varS, ev_var0, R.toFl_ok]
  show (if 3 = 3 then gc [] (fin (b__law_far [some (encH n r w), some (encC c), some (.int s), none] [])) else .bad) = _
  rw [if_pos rfl, hb]
  exact gc_same rfl
theorem law_far_iso {n : Nat} {r : Bool} {w : Str} {c : Cm} {s : Nat} {st : Sto} (hn : 0 < n ∧ n < 900) (hc : c.2 < n) (hs : s < n) : oIso m__law_far [encH n r w, encC c, .int s] st = .ok (.int (farF n c s)) st := iso_ok rfl (law_far_ok hn hc hs) rfl
/-! ### taken -/
def aheadF (n : Nat) (r : Bool) (cs : List Cm) (s : Nat) : Nat := if s = 0 then (if r = true then bordF n r cs (n - 1) else 0) else bordF n r cs (s - 1)
def takenF (n : Nat) (r : Bool) (cs : List Cm) : List AV := ((List.range n).filter fun s => decide (0 < aheadF n r cs s + wishN cs s)).map fun s => AV.int (s : Nat)
/-- the taken seats are those that are taken -/
theorem taken_occ {n : Nat} {r : Bool} {cs outs : List Cm} {rows : List (Option Cm)} (W : Way n r cs rows outs) : takenF n r cs = ((List.range n).filter fun s => occB rows s).map fun s => AV.int (s : Nat) := by
  unfold takenF
  congr 1
  refine List.filter_congr fun s hs => ?_
  have hs := List.mem_range.mp hs
  have h1 := over_rec W hs
  have e : aheadF n r cs s = if s = 0 ∧ r = false then 0 else overF n rows outs ((s + n - 1) % n) := by
    unfold aheadF
    by_cases hz : s = 0
    · subst hz
      cases r with
      | false => simp
      | true =>
        rw [if_pos rfl, if_pos rfl, if_neg (by simp), Nat.zero_add, Nat.mod_eq_of_lt (by omega), over_bord W (by omega)]
    · rw [if_neg hz, if_neg fun z => hz z.1, show s + n - 1 = (s - 1) + n by omega, Nat.add_mod_right, Nat.mod_eq_of_lt (by omega), over_bord W (by omega)]
  rw [e]
  cases ho : occB rows s with
  | true =>
    rw [ho, if_pos rfl] at h1
    exact decide_eq_true (by omega)
  | false =>
    have := over_free W hs ho
    rw [ho, if_neg Bool.false_ne_true] at h1
    exact decide_eq_false (by omega)
/-- nobody who sits goes over the last border of a lane -/
theorem over_last {n : Nat} {cs outs : List Cm} {rows : List (Option Cm)} (hn : 0 < n) (W : Way n false cs rows outs) : outs.length = bordF n false cs (n - 1) := by
  rw [← over_bord W (by omega)]
  unfold overF
  have e1 : (placedF 0 rows).countP (fun p => decide (farF n p.2 (n - 1) < farF n p.2 p.1)) = 0 := by
    rw [List.countP_eq_zero]
    intro p hp z
    have z := of_decide_eq_true z
    obtain ⟨a1, a2, a3⟩ := placed_ok W.path p hp
    have a4 := (W.path.occ _ _ a3).2.1 rfl
    unfold farF at z
    rw [mod2 (by omega), mod2 (by omega)] at z
    split at z <;> split at z <;> omega
  have e2 : outs.countP (fun o => decide (o.2 ≤ n - 1)) = outs.length := by
    rw [List.countP_eq_length]
    intro o ho
    have := (W.path.out o ho).1
    exact decide_eq_true (by omega)
  rw [e1, e2, Nat.zero_add]
end Y
set_option Elab.async false
set_option linter.all false
set_option maxRecDepth 100000
/-! Y31: instances of a class of the program: fields, methods, making, own ==, own len -/
namespace Y
open PySem PySem.Spec L2
open PyProof.Rows hiding St
abbrev Fs := List (Str × AV)
def putFA (f : Str) (v : AV) : Fs → Fs
  | [] => [(f, v)]
  | (g, x) :: r => if g = f then (g, v) :: r else (g, x) :: putFA f v r
/-- o.f -/
def oFld (f : Str) : O1 := fun x st => match x with
  | .loc k => match st[k]? with
    | some (.ins _ fs) => match fs.lookup f with
      | some v => .ok v st
      | none => .bad
    | _ => .bad
  | _ => .bad
/-- o.f = e -/
def msFld (f : Str) (o e : ME) : MS := fun env st => (e env st).toFl fun v st => (o env st).toFl fun x st => match x with
  | .loc k => match st[k]? with
    | some (.ins c fs) => if fs.length < 1000 then .nx env (st.set k (.ins c (putFA f v fs))) else .bad
    | _ => .bad
  | _ => .bad
def isInsM (st : Sto) (m : Str) : AV → Bool
  | .loc k => match st[k]? with
    | some (.ins 0 fs) => (fs.lookup m).isNone
    | _ => false
  | _ => false
/-- o.m(..) -/
def mMth (m : Str) (f : ON) (o : ME) (as : MA) : ME := fun env st => (o env st).bind fun x st => if isInsM st m x then (as env st).bind fun vs st => f (x :: vs) st else .bad
/-- C(..) -/
def mMake (f : ON) (as : MA) : ME := fun env st => (as env st).bind fun vs st => (f (.loc st.length :: vs) (st ++ [.ins 0 []])).bind fun v st' => match v with
  | .non => .ok (.loc st.length) st'
  | _ => .bad
def isIns0 (st : Sto) : AV → Bool
  | .loc k => match st[k]? with
    | some (.ins 0 _) => true
    | _ => false
  | _ => false
/-- a == b by the class's own __eq__ -/
def oEqO (f : ON) : O2 := fun x y st => if isIns0 st x && isIns0 st y then f [x, y] st else .bad
/-- len(o) by the class's own __len__ -/
def oLenO (f : ON) : ON := fun vs st => match vs with
  | [x] => if isIns0 st x then (f [x] st).bind fun v st => match v with
    | .int i => if 0 ≤ i ∧ i.natAbs < 2 ^ 62 then .ok (.int i) st else .bad
    | _ => .bad else .bad
  | _ => .bad
def oIsiC : O1 := fun x st => if isIns0 st x then .ok (.bl true) st else match tyStr st x with
  | some _ => .ok (.bl false) st
  | none => .bad
section
variable {X : Cx} {cm : CM} {E : EX} {G : GK} {K : PySem.W.Frag} {H : Hp} {ρ : Nat → Addr} {n : Nat} {st : Sto}
structure InsR (K : PySem.W.Frag) (H : Hp) (ρ : Nat → Addr) (n : Nat) (fs : Fs) (gs : List (Str × V)) : Prop where
  keys : fs.map (·.1) = gs.map (·.1)
  vals : RepL K H ρ n (fs.map (·.2)) (gs.map (·.2))
theorem InsR.uncons {p : Str × AV} {fs : Fs} {gs : List (Str × V)} (h : InsR K H ρ n (p :: fs) gs) : ∃ y gs', gs = (p.1, y) :: gs' ∧ Rep K H ρ n p.2 y ∧ InsR K H ρ n fs gs' := by
  obtain ⟨h1, h2⟩ := h
  cases gs with
  | nil => cases h1
  | cons q gs =>
    rw [List.map_cons, List.map_cons, List.cons.injEq] at h1
    rw [List.map_cons, List.map_cons] at h2
    cases h2 with
    | cons r1 r2 => exact ⟨q.2, gs, by rw [h1.1], r1, h1.2, r2⟩
theorem InsR.none {gs : List (Str × V)} (h : InsR K H ρ n [] gs) : gs = [] := by
  obtain ⟨h1, _⟩ := h
  cases gs with
  | nil => rfl
  | cons _ _ => cases h1
theorem InsR.look {f : Str} : ∀ {fs : Fs} {gs : List (Str × V)}, InsR K H ρ n fs gs → (∀ v, fs.lookup f = some v → ∃ x, gs.lookup f = some x ∧ Rep K H ρ n v x) ∧ (fs.lookup f = .none → gs.lookup f = .none)
  | [], gs, h => by
    rw [h.none]
    exact ⟨(fun v hv => nomatch hv), fun _ => rfl⟩
  | p :: fs, gs, h => by
    obtain ⟨y, gs', rfl, r1, r2⟩ := h.uncons
    obtain ⟨i1, i2⟩ := InsR.look (f := f) r2
    obtain ⟨k, w⟩ := p
    simp only [List.lookup]
    cases hk : f == k with
    | true => exact ⟨(fun v hv => by cases hv; exact ⟨y, rfl, r1⟩), (fun z => nomatch z)⟩
    | false => exact ⟨i1, i2⟩
theorem InsR.put {f : Str} {v : AV} {x : V} (r : Rep K H ρ n v x) : ∀ {fs : Fs} {gs : List (Str × V)}, InsR K H ρ n fs gs → InsR K H ρ n (putFA f v fs) (putF f x gs)
  | [], gs, h => by
    rw [h.none]
    exact ⟨rfl, .cons r .nil⟩
  | p :: fs, gs, h => by
    obtain ⟨y, gs', rfl, r1, r2⟩ := h.uncons
    obtain ⟨k, w⟩ := p
    rw [putFA, putF]
    by_cases hk : k = f
    · rw [if_pos hk, if_pos hk]
      exact ⟨by rw [List.map_cons, List.map_cons, r2.keys], by rw [List.map_cons, List.map_cons]; exact .cons r r2.vals⟩
    · rw [if_neg hk, if_neg hk]
      have i := InsR.put r r2 (f := f)
      exact ⟨by rw [List.map_cons, List.map_cons, i.keys], by rw [List.map_cons, List.map_cons]; exact .cons r1 i.vals⟩
theorem InsR.len {fs : Fs} {gs : List (Str × V)} (h : InsR K H ρ n fs gs) : fs.length = gs.length := by
  have := congrArg List.length h.keys
  rwa [List.length_map, List.length_map] at this
theorem RepS.ins (s : RepS G H ρ st) {k c : Nat} {fs : Fs} (h : st[k]? = some (.ins c fs)) : ∃ dx gs, H (ρ k) = some (.ins (G.cm c) dx gs) ∧ InsR G.K H ρ st.length fs gs := by
  obtain ⟨ys, ⟨dx, gs, h1, h2, h3⟩, r⟩ := s.ob k _ h
  subst h3
  exact ⟨dx, gs, h1, h2, r⟩
theorem ye_fld {e : Expr} {m : ME} {f : Str} {pos : Pos} (he : PE X e (tE (gX X cm) E m)) (hC : ∀ c, Cls X.K (cm c)) (hN : ∀ c, NoAttr X.K (cm c) f) (hb : attributeBase e f X.env (eval e X.env) = eval e X.env := by rfl) :
    PE X (.Attribute e f pos) (tE (gX X cm) E (mUn (oFld f) m)) :=
  PE.weak (pe_fld he hb) fun σ H Q ⟨ρ, st, env, hs, he, hp⟩ => ⟨ρ, st, env, hs, he, hp.bindI fun v st1 H1 ρ1 x e1 s1 r1 hp1 => by
    have r1 : Rep X.K H1 ρ1 st1.length v x := r1
    unfold oFld at hp1
    split at hp1
    · obtain ⟨rfl, hk⟩ := rep_loc r1
      split at hp1
      · rename_i c fs hx
        obtain ⟨dx, gs, h1, h2⟩ := s1.ins hx
        split at hp1
        · rename_i w hw
          obtain ⟨y, e2, ry⟩ := h2.look.1 w hw
          exact ⟨_, _, dx, gs, y, rfl, h1, hC c, hN c, e2, Post.at hp1 s1 ry⟩
        · exact hp1.elim
      · exact hp1.elim
    · exact hp1.elim⟩
theorem ys_fld {o value : Expr} {mo mv : ME} {f : Str} {pos pos' : Pos} (ho : PE X o (tE (gX X cm) E mo)) (hv : PE X value (tE (gX X cm) E mv)) (hC : ∀ c, Cls X.K (cm c)) (hN : ∀ c, NoAttr X.K (cm c) f)
    (hs : swapsWith value (some (.Attribute o f pos')) pos.line X.env = pure false := by rfl) : PS X (.Assign [.Attribute o f pos'] value pos) (tS (gX X cm) E (msFld f mo mv)) :=
  PS.weak (ps_fld ho hv hs) fun D σ H ⟨ρ, st, env, hs, he, hp⟩ => ⟨ρ, st, env, hs, he, hp.toI fun v st1 H1 ρ1 y e1 s1 r1 hp1 => ⟨ρ1, st1, env, s1, he.ext hs e1, hp1.toI fun w st2 H2 ρ2 x e2 s2 r2 hp2 => by
    have r2 : Rep X.K H2 ρ2 st2.length w x := r2
    cases w with
    | loc k =>
      obtain ⟨rfl, hk⟩ := rep_loc r2
      simp only at hp2
      split at hp2
      · rename_i c fs hx
        obtain ⟨dx, gs, h1, h2⟩ := s2.ins hx
        split at hp2
        · rename_i hl
          have rv := Rep.ext s1 e2 r1
          have hput := h2.put rv (f := f)
          refine ⟨_, _, dx, gs, rfl, h1, hC c, hN c, by rw [← h2.len]; exact hl, ?_⟩
          have hx2 : Ext H2 ρ2 st2.length (upd H2 (ρ2 k) (.ins (cm c) dx (putF f y gs))) ρ2 st2.length := Ext.put hk h1 fun _ _ z => nomatch z
          refine hp2 _ ρ2 σ ?_ (s2.put (ob := .ins c (putFA f v fs)) (ys := (putF f y gs).map fun p : Str × V => p.2) hk h1 ⟨dx, putF f y gs, upd_same, hput.keys, rfl⟩ hput.vals) ?_
          · rw [List.length_set]; exact hx2
          · rw [List.length_set]; exact (((he.ext hs e1).ext s1 e2).ext s2 hx2)
        · exact hp2.elim
      · exact hp2.elim
    | _ => exact hp2.elim⟩⟩
/-! ### methods, making -/
theorem insM_ok {m : Str} {x : AV} {y : V} (s : RepS G H ρ st) (r : Rep G.K H ρ st.length x y) (h : isInsM st m x = true) : ∃ a dx gs, y = .ref a ∧ H a = some (.ins (G.cm 0) dx gs) ∧ gs.lookup m = .none := by
  unfold isInsM at h
  split at h
  · obtain ⟨rfl, hk⟩ := rep_loc r
    split at h
    · rename_i fs hx
      obtain ⟨dx, gs, h1, h2⟩ := s.ins hx
      exact ⟨_, dx, gs, rfl, h1, h2.look.2 (Option.isNone_iff_eq_none.mp h)⟩
    · cases h
  · cases h
theorem ins0_ok {x : AV} {y : V} (s : RepS G H ρ st) (r : Rep G.K H ρ st.length x y) (h : isIns0 st x = true) : ∃ a dx gs, y = .ref a ∧ H a = some (.ins (G.cm 0) dx gs) := by
  unfold isIns0 at h
  split at h
  · obtain ⟨rfl, hk⟩ := rep_loc r
    split at h
    · rename_i fs hx
      obtain ⟨dx, gs, h1, h2⟩ := s.ins hx
      exact ⟨_, dx, gs, rfl, h1⟩
    · cases h
  · cases h
theorem ye_meth {o e : Expr} {es : List Expr} {mo : ME} {mas : MA} {m : Str} {f : Addr} {fd : FuncData} {ps : List Str} {k : Nat} {mf : ON} {pos apos : Pos} {pl : Sem Bool} (ho : PE X o (tE (gX X cm) E00 mo)) (hC : Cls X.K (cm 0)) (hm : Meth X.K (cm 0) m f)
    (F : FnOk X.prog X.w X.K X.mg X.base CX0 k f fd ps (spF (gX X cm) mf)) (hr : L2.Room k X.A) (hb : Binds X.K fd ps []) (ha : PA X (e :: es) (tA (gX X cm) E00 mas))
    (hst : starEach (e :: es) X.env = (false, eval e X.env) :: starEach es X.env := by rfl) (hpl : (backTo pos (starEach es X.env)).any (·.1) = false := by rfl)
    (ht : eval (.Call (.Attribute o m apos) (e :: es) [] pos) X.env = (do
      let ov ← eval o X.env
      standAt apos.atName
      let (f, first) ← holding [ov] (getMethod ov m pl)
      callWith pos f first (backTo pos (starEach (e :: es) X.env)) (backToKw pos (keywordEach [] X.env))) := by rfl) :
    PE X (.Call (.Attribute o m apos) (e :: es) [] pos) (tE (gX X cm) E00 (mMth m mf mo mas)) :=
  PE.weak (pe_meth (pl := pl) ho hC hm F hr hb .nil pass0 ha hst hpl ht) fun σ H Q ⟨ρ, st, env, hs, he, hp⟩ => ⟨ρ, st, env, hs, he, hp.bindI fun x st1 H1 ρ1 y e1 s1 r1 hp1 => by
    have r1 : Rep X.K H1 ρ1 st1.length x y := r1
    split at hp1
    · rename_i hi
      obtain ⟨a, dx, gs, rfl, h1, h2⟩ := insM_ok s1 r1 hi
      refine ⟨a, dx, gs, rfl, h1, h2, ρ1, st1, env, s1, he.ext hs e1, hp1.bindI fun vs st2 H2 ρ2 ys e2 s2 r2 hp2 => ?_⟩
      rw [List.append_nil]
      exact ⟨ρ2, st2, x :: vs, s2, .cons (Rep.ext s1 e2 r1) r2, hp2⟩
    · exact hp1.elim⟩
theorem ye_meth0 {o : Expr} {mo : ME} {m : Str} {f : Addr} {fd : FuncData} {ps : List Str} {k : Nat} {mf : ON} {pos apos : Pos} {pl : Sem Bool} (ho : PE X o (tE (gX X cm) E00 mo)) (hC : Cls X.K (cm 0)) (hm : Meth X.K (cm 0) m f)
    (F : FnOk X.prog X.w X.K X.mg X.base CX0 k f fd ps (spF (gX X cm) mf)) (hr : L2.Room k X.A) (hb : Binds X.K fd ps [])
    (ht : eval (.Call (.Attribute o m apos) [] [] pos) X.env = (do
      let ov ← eval o X.env
      standAt apos.atName
      let (f, first) ← holding [ov] (getMethod ov m pl)
      callWith pos f first (backTo pos (starEach [] X.env)) (backToKw pos (keywordEach [] X.env))) := by rfl) :
    PE X (.Call (.Attribute o m apos) [] [] pos) (tE (gX X cm) E00 (mMth m mf mo maNil)) :=
  PE.weak (pe_meth0 (pl := pl) ho hC hm F hr hb .nil pass0 ht) fun σ H Q ⟨ρ, st, env, hs, he, hp⟩ => ⟨ρ, st, env, hs, he, hp.bindI fun x st1 H1 ρ1 y e1 s1 r1 hp1 => by
    have r1 : Rep X.K H1 ρ1 st1.length x y := r1
    split at hp1
    · rename_i hi
      obtain ⟨a, dx, gs, rfl, h1, h2⟩ := insM_ok s1 r1 hi
      exact ⟨a, dx, gs, rfl, h1, h2, ρ1, st1, [x], s1, .cons r1 .nil, hp1⟩
    · exact hp1.elim⟩
theorem ye_make {x : Str} {e : Expr} {es : List Expr} {mas : MA} {f : Addr} {fd : FuncData} {ps : List Str} {k : Nat} {mf : ON} {p pos : Pos} (M : Mk X.K (cm 0) f) (F : FnOk X.prog X.w X.K X.mg X.base CX0 k f fd ps (spF (gX X cm) mf)) (hr : L2.Room (k + 1) X.A)
    (hg : Gl X x) (hm : X.mg x = some (.ref (cm 0))) (hb : Binds X.K fd ps []) (ha : PA X (e :: es) (tA (gX X cm) E00 mas)) (hdb : (x == ("__debug__" : Str)) = false := by decide)
    (he : starEach (e :: es) X.env = (false, eval e X.env) :: starEach es X.env := by rfl) (hpl : (backTo pos (starEach es X.env)).any (·.1) = false := by rfl) :
    PE X (.Call (.Name x p) (e :: es) [] pos) (tE (gX X cm) E00 (mMake mf mas)) :=
  PE.weak (pe_make M F hr hg hm hb .nil pass0 ha hdb he hpl) fun σ H Q ⟨ρ, st, env, hs, he, hp⟩ => ⟨ρ, st, env, hs, he, hp.bindI fun vs st1 H1 ρ1 ys e1 s1 r1 hp1 => by
    have r1 : RepL X.K H1 ρ1 st1.length vs ys := r1
    intro a dx hx hd hne
    rw [List.append_nil]
    have hx2 : upd H1 dx (.own a) a = .none := by rw [upd_ne (Ne.symm hne)]; exact hx
    have s2 : RepS (gX X cm) (upd H1 dx (.own a)) ρ1 st1 := s1.lay hd
    have s3 := s2.new (o := .ins (cm 0) dx []) (ob := .ins 0 []) (ys := []) hx2 ⟨dx, [], upd_same, rfl, rfl⟩ .nil
    have e2 : Ext H1 ρ1 st1.length (upd H1 dx (.own a)) ρ1 st1.length := Ext.lay hd
    have e3 : Ext (upd H1 dx (.own a)) ρ1 st1.length (upd (upd H1 dx (.own a)) a (.ins (cm 0) dx [])) (more ρ1 st1.length a) (st1.length + 1) := Ext.new hx2
    have hl : (st1 ++ [Ob.ins 0 []]).length = st1.length + 1 := by simp
    have e13 := e2.trans e3
    have rl : Rep X.K (upd (upd H1 dx (.own a)) a (.ins (cm 0) dx [])) (more ρ1 st1.length a) (st1 ++ [Ob.ins 0 []]).length (.loc st1.length) (.ref a) := by
      have z := Rep.loc (K := X.K) (H := upd (upd H1 dx (.own a)) a (.ins (cm 0) dx [])) (ρ := more ρ1 st1.length a) (n := (st1 ++ [Ob.ins 0 []]).length) (k := st1.length) (by rw [hl]; exact Nat.lt_succ_self _)
      rw [more_at] at z
      exact z
    refine ⟨_, st1 ++ [.ins 0 []], .loc st1.length :: vs, s3, .cons rl (by rw [hl]; exact RepL.ext s1 e13 r1), ?_⟩
    have hp1' := Post.lift (n1 := (st1 ++ [Ob.ins 0 []]).length) (by rw [hl]; exact e13) hp1
    refine hp1'.bindI fun v st4 H4 ρ4 y e4 s4 r4 hp4 => ?_
    have r4 : Rep X.K H4 ρ4 st4.length v y := r4
    split at hp4
    · cases rep_non r4
      exact ⟨rfl, Post.at hp4 s4 (Rep.ext s3 e4 rl)⟩
    · exact hp4.elim⟩
/-! ### == and len of one's own -/
def rEqO (C : Addr) (sp : Sp) : R2 := fun x y H Q => ∃ a b dx dy fs gs, x = .ref a ∧ y = .ref b ∧ H a = some (.ins C dx fs) ∧ H b = some (.ins C dy gs) ∧ sp [.ref a, .ref b] H (fun v H' => (∃ k, v = .bl k) ∧ Q v H') E0
theorem op_eqO {f C : Addr} {fd : FuncData} {ps : List Str} {k : Nat} {sp : Sp} (F : FnOk X.prog X.w X.K X.mg X.base CX0 k f fd ps sp) (hr : L2.Room k X.A) (hu : X.A.units + 64 < cLine)
    (hs : PySem.W.findIn X.K (.ref C) "__eq__" = some (some (.ref f))) (hf : PySem.W.isFn X.K (.ref f) = true) (hb : Binds X.K fd ps []) : OpR X (compareOp .Eq) (rEqO C sp) := by
  intro pins s σ H x y u v Q I rx ry d
  obtain ⟨a, b, dx, dy, fs, gs, rfl, rfl, ha, hb', hsp⟩ := d
  cases rx
  cases ry
  obtain ⟨mA, J, _⟩ := ins_get I.hok ha
  obtain ⟨mB, J', _⟩ := ins_get I.hok hb'
  obtain ⟨od, J, _⟩ := J.look
  obtain ⟨od', J', _⟩ := J'.look
  obtain ⟨m, hF⟩ := I.fr
  show wpAny (model X.prog X.w) X.A (richCompare .Eq (.ref a) (.ref b)) (EP X pins σ Q) X.xe s
  refine PySem.W.cmp_K (op := .Eq) (tb := .ref C) (by omega) hF I.ok.mod.kin J J'.type (by simp [PySem.W.notFirst]) hs hf ?_
  have hl := F.len _ _ _ _ hsp
  have r2 : Vals [V.ref a, V.ref b] [Value.ref a, Value.ref b] := .cons rfl (.cons rfl .nil)
  refine wpAny_call (codeAny_mono (F.run X.A X.stack s H ⟨[.ref a, .ref b], []⟩ [.ref a, .ref b] [.ref a, .ref b] _ _ hr I.env0 (by
    have := hb s [.ref a, .ref b] I.kIn (by simpa using hl)
    simpa using this) r2 hsp) fun r s' hq => ?_)
  cases r with
  | error e => exact pass0 pins σ H s e s' I hq
  | ok fl =>
    cases fl with
    | ret w =>
      obtain ⟨z, H', I', rz, ⟨k, ez⟩, ex⟩ := I.after hq
      subst ez
      cases rz
      exact ⟨.bl k, H', I', rfl, ex⟩
    | next => exact False.elim hq
    | brk => exact False.elim hq
    | cont => exact False.elim hq
end
end Y
set_option Elab.async false
set_option linter.all false
set_option maxRecDepth 100000
/-! Y32: own == and len, isinstance of a class of the program, texts walked, text in text, a tuple that the top has written -/
namespace Y
open PySem PySem.Spec L2
open PyProof.Rows hiding St
/-- a == b by the class's own __eq__, a truth -/
def oEqB (f : ON) : O2 := fun x y st => if isIns0 st x && isIns0 st y then (f [x, y] st).bind fun v st => match v with
  | .bl k => .ok (.bl k) st
  | _ => .bad else .bad
def oIsiB : O1 := fun x st => if isIns0 st x then .ok (.bl true) st else .bad
def oInS : O2 := fun x y st => match x, y with
  | .str a, .str b => .ok (.bl (!(Builtin.Str.occurrences b a 0 b.length 1).isEmpty)) st
  | _, _ => .bad
def miStr (a : ME) : MI := fun env st => (a env st).bind fun x st => match x with
  | .str s => .ok (.str s) st
  | _ => .bad
def rLenO (C : Addr) (sp : Sp) : List V → Hp → VK → Prop := fun vs H Q => ∃ a dx fs, vs = [.ref a] ∧ H a = some (.ins C dx fs) ∧ sp [.ref a] H (fun v H' => (∃ i : Int, v = .int i ∧ 0 ≤ i ∧ i < 2 ^ 63) ∧ Q v H') E0
section
variable {X : Cx} {cm : CM} {E : EX} {G : GK} {K : PySem.W.Frag} {H : Hp} {ρ : Nat → Addr} {n : Nat} {st : Sto}
theorem cr_lenO {f C : Addr} {fd : FuncData} {ps : List Str} {k : Nat} {sp : Sp} (F : FnOk X.prog X.w X.K X.mg X.base CX0 k f fd ps sp) (hr : L2.Room (k + 1) X.A)
    (hs : PySem.W.findIn X.K (.ref C) "__len__" = some (some (.ref f))) (hf : PySem.W.isFn X.K (.ref f) = true) (hb : Binds X.K fd ps []) : CallR X (.builtin "len") (rLenO C sp) := by
  intro pins s σ H vs us Q I r h
  obtain ⟨a, dx, fs, rfl, ha, hsp⟩ := h
  rw [Vals.ref1 r]
  obtain ⟨mA, J, _⟩ := ins_get I.hok ha
  obtain ⟨od, J, _⟩ := J.look
  obtain ⟨m, hF⟩ := I.fr
  refine PySem.W.len_K hF I.ok.mod.kin J hs hf ?_
  have hl := F.len _ _ _ _ hsp
  have r2 : Vals [V.ref a] [Value.ref a] := .cons rfl .nil
  refine wpAny_call (codeAny_mono (F.run X.A.in1 X.stack s H ⟨[.ref a], []⟩ [.ref a] [.ref a] _ _ hr.in1 I.env0.in1 (by
    have := hb s [.ref a] I.kIn (by simpa using hl)
    simpa using this) r2 hsp) fun r s' hq => ?_)
  cases r with
  | error e => exact pass0 pins σ H s e s' I hq
  | ok fl =>
    cases fl with
    | ret w =>
      obtain ⟨z, H', I', rz, ⟨i, ez, h0, h1⟩, ex⟩ := I.after hq
      subst ez
      obtain ⟨t, rfl⟩ := rz
      exact ⟨⟨h0, h1⟩, .int i, H', I'.tok _, ⟨_, rfl⟩, ex⟩
    | next => exact False.elim hq
    | brk => exact False.elim hq
    | cont => exact False.elim hq
theorem sn_lenO {mf : ON} : SndN (gX X cm) E00 (oLenO mf) (rLenO (cm 0) (spF (gX X cm) mf)) := by
  intro H ρ st vs xs Q s r h
  unfold oLenO at h
  split at h
  · obtain ⟨x, rfl, rx⟩ := r.one
    split at h
    · rename_i hi
      obtain ⟨a, dx, gs, rfl, h1⟩ := ins0_ok s rx hi
      refine ⟨a, dx, gs, rfl, h1, ρ, st, _, s, r, h.bindI fun v st1 H1 ρ1 y e1 s1 r1 hp1 => ?_⟩
      have r1 : Rep X.K H1 ρ1 st1.length v y := r1
      split at hp1
      · cases rep_int r1
        split at hp1
        · rename_i hc
          exact ⟨⟨_, rfl, hc.1, by have := hc.2; omega⟩, Post.at (x := V.int _) hp1 s1 (.int _)⟩
        · exact hp1.elim
      · exact hp1.elim
    · exact h.elim
  · exact h.elim
theorem sn_eqB {mf : ON} : Snd2 (gX X cm) E00 (oEqB mf) (rEqO (cm 0) (spF (gX X cm) mf)) := by
  intro H ρ st a b x y Q s ra rb h
  unfold oEqB at h
  split at h
  · rename_i hi
    rw [Bool.and_eq_true] at hi
    obtain ⟨p, dx, gs, rfl, h1⟩ := ins0_ok s ra hi.1
    obtain ⟨q, dy, hs, rfl, h2⟩ := ins0_ok s rb hi.2
    refine ⟨p, q, dx, dy, gs, hs, rfl, rfl, h1, h2, ρ, st, [a, b], s, .cons ra (.cons rb .nil), h.bindI fun v st1 H1 ρ1 y e1 s1 r1 hp1 => ?_⟩
    have r1 : Rep X.K H1 ρ1 st1.length v y := r1
    split at hp1
    · cases rep_bl r1
      exact ⟨⟨_, rfl⟩, Post.at (x := V.bl _) hp1 s1 (.bl _)⟩
    · exact hp1.elim
  · exact h.elim
structure IsiC (K : PySem.W.Frag) (C : Addr) : Prop where
  cl : Cls K C
  ha : PySem.W.findIn K (.ref C) "__class__" = some (some (.builtin "object.__class__"))
  hn : PySem.W.specialIn K (.builtin "object.__class__") "__get__" = some (some (.builtin "getset_descriptor.__get__"))
  htk : PySem.W.takesIn K (.builtin "object.__class__") = some true
  hm : PySem.W.mroIn K C (.type "object") = some true
theorem ye_isiB {e : Expr} {m : ME} {x : Str} {p q pos : Pos} (hg : Gl X "isinstance") (hm : X.mg "isinstance" = none) (hi : bootBuiltins "isinstance" = some (.builtin "isinstance")) (hg2 : Gl X x) (hm2 : X.mg x = some (.ref (cm 0))) (c : IsiC X.K (cm 0))
    (he : PE X e (tE (gX X cm) E m)) (hd : (x == ("__debug__" : Str)) = false := by decide)
    (na : starEach [e, .Name x q] X.env = (false, eval e X.env) :: starEach [.Name x q] X.env := by rfl) (nb : starEach [.Name x q] X.env = (false, eval (.Name x q) X.env) :: starEach [] X.env := by rfl) (hpl : (backTo pos (starEach [.Name x q] X.env)).any (·.1) = false := by rfl) :
    PE X (.Call (.Name "isinstance" p) [e, .Name x q] [] pos) (tE (gX X cm) E (mUn oIsiB m)) :=
  PE.weak (pe_callB (X := X) (r := rIsi X.K) call_isi hg hm hi (pa_cons he (pa_cons (pe_glob (v := .ref (cm 0)) hg2 hm2 rfl hd) pa_nil nb) na) (by decide) (by decide) na hpl) fun σ H Q ⟨ρ, st, env, hs, he, hp⟩ => ⟨ρ, st, env, hs, he, hp.bindI fun v st1 H1 ρ1 x e1 s1 r1 hp1 => by
    have r1 : Rep X.K H1 ρ1 st1.length v x := r1
    unfold oIsiB at hp1
    split at hp1
    · rename_i hi
      obtain ⟨a, dx, gs, rfl, h1⟩ := ins0_ok s1 r1 hi
      exact ⟨_, _, _, _, true, rfl, .own (cm 0), .base (.ins h1 c.cl c.ha c.hn c.htk c.hm), if_pos (beq_self_eq_true _), Post.at (x := V.bl _) hp1 s1 (.bl _)⟩
    · exact hp1.elim⟩
theorem sn_inS : Snd2 (gX X cm) E oInS (fun x y H Q => ∃ i j, x = .str i ∧ y = .str j ∧ Q (.bl (!(Builtin.Str.occurrences j i 0 j.length 1).isEmpty)) H) := by
  intro H ρ st a b x y Q s ra rb h
  unfold oInS at h
  split at h
  · cases rep_str ra; cases rep_str rb
    exact ⟨_, _, rfl, rfl, Post.at (x := V.bl _) h s (.bl _)⟩
  · exact h.elim
theorem seq_str {x : Str} : SeqOk G (.str x) (Its x) H ρ n := by
  intro H' ρ' st' i e s
  simp only [Sq.at]
  refine ⟨fun v hv => ?_, fun hv => ?_⟩
  · cases hc : x.cps[i]? with
    | none => rw [hc] at hv; cases hv
    | some c =>
      rw [hc] at hv
      cases hv
      refine ⟨(Array.getElem?_eq_some_iff.mp hc).1, fun z H'' hy => ?_⟩
      obtain ⟨rfl, c', hc', rfl⟩ := hy
      rw [hc] at hc'
      cases hc'
      exact ⟨.refl, s, .str _⟩
  · cases hc : x.cps[i]? with
    | none => exact Array.getElem?_eq_none_iff.mp hc
    | some c => rw [hc] at hv; cases hv
theorem yi_str {tg l : Expr} {m : ME} (h : PE X l (tE (gX X cm) E m)) : PI X tg l (tI (gX X cm) E (miStr m)) :=
  PI.weak (pi_str h) fun σ H R ⟨ρ, st, env, hs, he, hp⟩ => ⟨ρ, st, env, hs, he, hp.bindI fun v st1 H1 ρ1 x e1 s1 r1 hp1 => by
    have r1 : Rep X.K H1 ρ1 st1.length v x := r1
    split at hp1
    · cases rep_str r1
      exact ⟨_, rfl, Post.at hp1 s1 seq_str⟩
    · exact hp1.elim⟩
/-- a tuple of texts that the top has written -/
def SqC (K : PySem.W.Frag) (a : Addr) (xs : List Str) : Prop := ∃ (o : Obj) (its : Array Value) (n : Nat), K.lookup a = some o ∧ o.cls = .type "tuple" ∧ o.dict = none ∧ o.data = .seq its n ∧ its.size ≤ sizeLine ∧ Vals (xs.map V.str) its.toList
theorem repL_strs : ∀ {xs : List Str}, RepL K H ρ n (xs.map AV.str) (xs.map V.str)
  | [] => .nil
  | _ :: _ => .cons (.str _) repL_strs
theorem SqC.rep {a : Addr} {xs : List Str} (h : SqC K a xs) : Rep K H ρ n (.tup (xs.map AV.str)) (.ref a) :=
  let ⟨o, its, m, h1, h2, h3, h4, h5, h6⟩ := h
  .tup (ys := xs.map V.str) (.inr ⟨o, its, m, h1, h2, h3, h4, h5, h6⟩) repL_strs
end
end Y
set_option Elab.async false
set_option linter.all false
set_option maxRecDepth 100000
/-! Y33: a list grown in place by += -/
namespace Y
open PySem PySem.Spec L2
open PyProof.Rows hiding St
section
variable {M : Model} {A : Around} {E : Value → Shared → Prop} {s : Shared}
theorem wpAny_inplaceOp_iconcat {a b : Value} {T id : String} {Q : Value → Shared → Prop} (ha : s.TypeIs a T) (hb : s.TypeIs b T)
    (hfi : fillsInplaceSlot (.type T) "add" (Operator.Add == .Add) = pure false) (hfill : fillsNumberSlot (.type T) "add" = pure false) (hseq : seqSlot? (.type T) (dunderI "add") = pure (some (.builtin id)))
    (hc : wpAny M A (call (.builtin id) [a, b]) Q E s) : wpAny M A (inplaceOp .Add a b) Q E s := by
  unfold inplaceOp
  refine wpAny_holding ?_
  refine wpAny_bind (wpAny_typeOf ha (wpAny_bind (wpAny_of_eq hfi ?_)))
  show wpAny M A (if false = true then _ else _) Q E s
  rw [if_neg Bool.false_ne_true]
  refine wpAny_bind (wpAny_binaryOp1_none (nm := "add") ha hb hfill ?_)
  refine wpAny_bind (wpAny_of_eq hseq ?_)
  exact wpAny_bind (wpAny_rule hc)
end
theorem seq_iadd : isSeqSlot (some (.builtin "list.__iadd__")) = true := by decide +kernel
theorem fi_list : fillsInplaceSlot (.type "list") "add" (Operator.Add == .Add) = pure false := by
  unfold fillsInplaceSlot
  show (typeLookup (.type "list") (dunderI "add") >>= fun fi => pure (fi.isSome && !isSeqSlot fi)) = pure false
  rw [F.slot_list_iadd.lookup]
  simp only [pure_bind, seq_iadd]
  rfl
theorem sq_list : seqSlot? (.type "list") (dunderI "add") = pure (some (.builtin "list.__iadd__")) := by
  unfold seqSlot?
  rw [F.slot_list_iadd.lookup]
  simp only [pure_bind, seq_iadd]
  rfl
def rIAddL : R2 := fun x y H Q => ∃ l b xs zs, x = .ref l ∧ y = .ref b ∧ H l = some (.lst xs) ∧ H b = some (.lst zs) ∧ xs.length + zs.length ≤ sizeLine ∧ Q (.ref l) (upd H l (.lst (xs ++ zs)))
theorem iop_addL {X : Cx} : OpR X (inplaceOp .Add) rIAddL := by
  intro pins s σ H x y v u Q I rx ry h
  obtain ⟨l, b, xs, zs, rfl, rfl, hH, hB, hz, q⟩ := h
  cases rx
  cases ry
  obtain ⟨z, its, n, r, hl, e⟩ := I.lstM hH
  obtain ⟨z2, its2, n2, r2, hl2, e2⟩ := I.lstM hB
  have hsz : its.toArray.size + its2.toArray.size ≤ sizeLine := by rw [List.size_toArray, List.size_toArray]; omega
  have hlong : ¬ (!its.toArray.isEmpty && Builtin.List.listTooLong (its.toArray.size + its2.toArray.size)) = true := by
    rw [notLongL hsz, Bool.and_false]
    exact Bool.false_ne_true
  refine wpAny_inplaceOp_iconcat (T := "list") ⟨_, e, rfl⟩ ⟨_, e2, rfl⟩ fi_list noFill_list_add sq_list ?_
  refine call_meets F.slot_list_iadd ⟨_, e, rfl⟩ F.entry_list_iadd (F.args_list_iadd_2 _ _)
    (AutoSeq1.list___iadd___list_list_0 l its.toArray n b its2.toArray n2 hlong (by rw [List.size_toArray]; omega) (by omega)) ⟨e, e2, ?_⟩
  refine ⟨.ref l, _, I.lset (its' := its ++ its2) hH e (by simp) (r.append r2) ?_, rfl, q⟩
  rw [List.length_append]
  omega
def oAddI : O2 := fun x y st => match x, y with
  | .loc a, .loc b => match st[a]?, st[b]? with
    | some (.lst xs), some (.lst ys) => if xs.length + ys.length ≤ LIM then .ok (.loc a) (st.set a (.lst (xs ++ ys))) else .bad
    | _, _ => .bad
  | _, _ => .bad
section
variable {X : Cx} {cm : CM} {E : EX}
theorem sn_addI : Snd2 (gX X cm) E oAddI rIAddL := by
  intro H ρ st a b x y Q s ra rb h
  unfold oAddI at h
  split at h
  · obtain ⟨rfl, hk⟩ := rep_loc ra
    obtain ⟨rfl, hj⟩ := rep_loc rb
    split at h
    · rename_i xs ys e1 e2
      obtain ⟨zs, h1, r1⟩ := s.lst e1
      obtain ⟨ws, h2, r2⟩ := s.lst e2
      split at h
      · rename_i hl
        exact ⟨_, _, zs, ws, rfl, rfl, h1, h2, by rw [← r1.length, ← r2.length, ← LIM_line]; exact hl, setL_at s e1 h1 (r1.append r2) (.loc hk) h⟩
      · exact h.elim
    · exact h.elim
  · exact h.elim
end
end Y
set_option Elab.async false
set_option linter.all false
set_option maxRecDepth 100000
/-! Y34: a def that puts new objects into old ones; the promise of a law over a program with classes -/
namespace Y
open PySem PySem.Spec L2
open PyProof.Rows hiding St
/-- as fn, all that was made stays -/
def fnR (n k : Nat) (b : MS) : ON := fun vs st => if vs.length = k then fin (b (startE n vs) st) else .bad
theorem fn_okR {P : Program} {w : World} {K : PySem.W.Frag} {cm : CM} {mg : Str → Option Value} {base : Heap} {x qual : Str} {st : Stmt} {f : Addr} {fd : FuncData} {N ps : List Str} {k : Nat} {b : MS} (F : Fun K x qual st f fd) (S : FnScope N ps (defScope st)) (hl : ps.length ≤ N.length)
    (hb : ∀ (cdv : Value) (A : Around) (outer : List Env) (s : Shared) (H : Hp) (E : XK), L2.Room k (A.deeper (envOfC qual (defScope st) s.heap.objs.size f cdv)) →
      PSs (cxOf CX0 P w K mg base N qual (defScope st) f cdv A outer s H E).nox (defBody st) (tS ⟨K, cm, w⟩ E00 b)) : FnOk P w K mg base CX0 (k + 1) f fd ps (spF ⟨K, cm, w⟩ (fnR N.length ps.length b)) := by
  refine F.ok S (fun vs H Q E h => ?_) (fun cdv A outer s H vs Q E hr h => ?_)
  · obtain ⟨ρ, st, args, hs, r, hp⟩ := h
    unfold fnR at hp
    split at hp
    · rename_i e
      rw [← r.length]
      exact e
    · exact hp.elim
  · obtain ⟨ρ, st, args, hs, r, hp⟩ := h
    unfold fnR at hp
    split at hp
    · rename_i e
      exact ⟨_, hb cdv A outer s H E hr, ρ, st, _, hs, repE_start r (by rw [e]; exact hl), fin_post hp⟩
    · exact hp.elim
/-- a promise whatever stands for the classes -/
def spI (K : PySem.W.Frag) (m : ON) : Sp := fun vs H Q E => ∀ cm w, spF ⟨K, cm, w⟩ m vs H Q E
theorem spI_ok {P : Program} {w : World} {K : PySem.W.Frag} {cm : CM} {mg : Str → Option Value} {base : Heap} {f : Addr} {fd : FuncData} {ps : List Str} {k : Nat} {m : ON} (F : FnOk P w K mg base CX0 k f fd ps (spF ⟨K, cm, w⟩ m)) : FnOk P w K mg base CX0 k f fd ps (spI K m) :=
  ⟨fun vs H Q E h => F.len vs H Q E (h cm w), fun A outer s H args us vs Q E hr e0 hb r h => F.run A outer s H args us vs Q E hr e0 hb r (h cm w)⟩
end Y
set_option Elab.async false
set_option linter.all false
set_option maxRecDepth 100000
/-! Y35: dicts whose keys are tuples, nested ones too -/
namespace Y
open PySem PySem.Spec L2
open PyProof.Rows hiding St
/-! ### keys -/
mutual
theorem kOf_inj : ∀ {a b : AV} {k : NestedKey}, kOf a = some k → kOf b = some k → a = b
  | .non, b, k, h1, h2 => by
    simp only [kOf, Option.some.injEq] at h1; subst h1
    cases b <;> simp [kOf] at h2 ⊢
  | .int i, b, k, h1, h2 => by
    simp only [kOf, Option.some.injEq] at h1; subst h1
    cases b <;> simp [kOf] at h2 ⊢
    exact h2.symm
  | .str i, b, k, h1, h2 => by
    simp only [kOf, Option.some.injEq] at h1; subst h1
    cases b <;> simp [kOf] at h2 ⊢
    exact h2.symm
  | .tup xs, b, k, h1, h2 => by
    simp only [kOf] at h1
    obtain ⟨ks, e, rfl⟩ := Option.map_eq_some_iff.mp h1
    cases b with
    | tup ys =>
      simp only [kOf] at h2
      obtain ⟨ks', e', q⟩ := Option.map_eq_some_iff.mp h2
      cases q
      rw [kOfL_inj e e']
    | _ => simp [kOf] at h2
  | .bl _, b, k, h1, h2 => by simp [kOf] at h1
  | .loc _, b, k, h1, h2 => by simp [kOf] at h1
  | .frl _, b, k, h1, h2 => by simp [kOf] at h1
  | .tmp _, b, k, h1, h2 => by simp [kOf] at h1
theorem kOfL_inj : ∀ {a b : List AV} {k : List NestedKey}, kOfL a = some k → kOfL b = some k → a = b
  | [], b, k, h1, h2 => by
    simp only [kOfL, Option.some.injEq] at h1; subst h1
    cases b with
    | nil => rfl
    | cons y ys =>
      simp only [kOfL] at h2
      split at h2
      · cases h2
      · cases h2
  | x :: xs, b, k, h1, h2 => by
    simp only [kOfL] at h1
    split at h1
    · rename_i y ys e1 e2
      cases h1
      cases b with
      | nil => simp [kOfL] at h2
      | cons z zs =>
        simp only [kOfL] at h2
        split at h2
        · rename_i y' ys' e3 e4
          cases h2
          rw [kOf_inj e1 e3, kOfL_inj e2 e4]
        · cases h2
    · cases h1
end
section
variable {X : Cx} {pins : List (Addr × Obj)} {σ : St} {H : Hp} {s : Shared} {ρ : Nat → Addr} {n : Nat}
mutual
theorem rep_is (I : L2.Inv X pins σ H s) : ∀ {v : AV} {k : NestedKey} {x : V} {u : Value}, kOf v = some k → Rep X.K H ρ n v x → RelV x u → NestedIs s.heap k u
  | .non, k, x, u, h, r, e => by
    simp only [kOf, Option.some.injEq] at h; subst h
    cases r
    cases (show u = Value.none from e)
    exact .none
  | .int i, k, x, u, h, r, e => by
    simp only [kOf, Option.some.injEq] at h; subst h
    cases r
    obtain ⟨t, rfl⟩ := (show ∃ t, u = Value.int i t from e)
    exact .int i t
  | .str i, k, x, u, h, r, e => by
    simp only [kOf, Option.some.injEq] at h; subst h
    cases r
    obtain ⟨t, rfl⟩ := (show ∃ t, u = Value.str i t from e)
    exact .text i t
  | .tup xs, k, x, u, h, r, e => by
    simp only [kOf] at h
    obtain ⟨ks, e1, rfl⟩ := Option.map_eq_some_iff.mp h
    cases r with
    | @tup a ys _ hp rl =>
      cases (show u = Value.ref a from e)
      obtain ⟨its, rv, ⟨o, h1, h2, m, h3⟩, _⟩ := I.tuple hp.seq
      exact .tup h1 h2 h3 (by simpa using repL_is I e1 rl rv)
  | .bl _, k, x, u, h, r, e => by simp [kOf] at h
  | .loc _, k, x, u, h, r, e => by simp [kOf] at h
  | .frl _, k, x, u, h, r, e => by simp [kOf] at h
  | .tmp _, k, x, u, h, r, e => by simp [kOf] at h
theorem repL_is (I : L2.Inv X pins σ H s) : ∀ {v : List AV} {k : List NestedKey} {x : List V} {u : List Value}, kOfL v = some k → RepL X.K H ρ n v x → Vals x u → NestedAll s.heap k u
  | [], k, x, u, h, r, e => by
    simp only [kOfL, Option.some.injEq] at h; subst h
    cases r
    cases e
    exact .nil
  | v :: vs, k, x, u, h, r, e => by
    simp only [kOfL] at h
    split at h
    · rename_i y ys e1 e2
      cases h
      cases r with
      | cons r1 r2 =>
        cases e with
        | cons q1 q2 => exact .cons (rep_is I e1 r1 q1) (repL_is I e2 r2 q2)
    · cases h
end
end
/-- x is the key k -/
def HKey (K : PySem.W.Frag) (H : Hp) (k : NestedKey) (x : V) : Prop := ∃ (ρ : Nat → Addr) (n : Nat) (v : AV), kOf v = some k ∧ Rep K H ρ n v x
theorem HKey.is {X : Cx} {pins : List (Addr × Obj)} {σ : St} {H : Hp} {s : Shared} {k : NestedKey} {x : V} {u : Value} (I : L2.Inv X pins σ H s) (h : HKey X.K H k x) (e : RelV x u) : NestedIs s.heap k u := by
  obtain ⟨ρ, n, v, h1, h2⟩ := h
  exact rep_is I h1 h2 e
/-! ### the dict in the heap -/
structure NR (w : World) (K : PySem.W.Frag) (H : Hp) (a : Addr) (o : Obj) (xs : List (NestedKey × Addr × Value)) : Prop where
  sm : (a == sysModules) = false
  at_ : H a = some (KdO a o) ∨ H a = some (.frz o (KdO a o))
  nd : NDat w o xs
  ks : ∀ x ∈ xs, HKey K H x.1 (.ref x.2.1)
theorem kdO_ok {P : Program} {w : World} {H : Hp} {h : Heap} {a : Addr} {o : Obj} (e : h.get? a = some o) : ObjOk P w H h a (KdO a o) := ⟨e, ⟨o, e⟩, fun h1 h2 e k => k o e⟩
section
variable {X : Cx} {pins : List (Addr × Obj)} {σ : St} {H : Hp} {s : Shared} {a : Addr} {o : Obj} {xs : List (NestedKey × Addr × Value)}
theorem NR.get (I : L2.Inv X pins σ H s) (r : NR X.w X.K H a o xs) : s.heap.get? a = some o := by
  rcases r.at_ with h | h
  · exact (I.hok a _ h).1
  · exact (I.hok a _ h).1
theorem NR.dict (I : L2.Inv X pins σ H s) (r : NR X.w X.K H a o xs) : s.heap.DictOfH (nestedKind X.prog X.w) a xs := by
  obtain ⟨es, ep, h1, h2⟩ := r.nd.da
  exact ⟨o, es, ep, r.get I, r.nd.ex, h1, h2, fun x hx => ⟨(r.ks x hx).is I rfl, r.nd.dp x hx⟩, r.nd.nd⟩
theorem ndat_of {h : Heap} {a : Addr} {xs : List (NestedKey × Addr × Value)} (hz : xs.length ≤ sizeLine) (dd : h.DictOfH (nestedKind X.prog X.w) a xs) : ∃ o, h.get? a = some o ∧ NDat X.w o xs := by
  obtain ⟨o, es, ep, h1, h2, h3, h4, h5, h6⟩ := dd
  exact ⟨o, h1, h2, ⟨es, ep, h3, h4⟩, h6, hz, fun x hx => (h5 x hx).2⟩
end
/-! ### new dicts -/
/-- {} of that kind -/
def tNNew (w : World) : TE := fun _ H Q => ∀ p o, H p = none → NDat w o [] → (p == sysModules) = false → Q (.ref p) (upd H p (KdO p o))
theorem ndat_nil {w : World} : NDat w { cls := .type "dict", data := .dict #[] } [] := ⟨⟨rfl, rfl, rfl⟩, ⟨#[], 0, rfl, rfl⟩, .nil, Nat.zero_le _, fun x hx => by cases hx⟩
section
variable {X : Cx} {pos : Pos}
theorem sys_ne {pins : List (Addr × Obj)} {σ : St} {H : Hp} {s : Shared} (I : L2.Inv X pins σ H s) : (s.heap.objs.size == sysModules) = false := beq_eq_false_iff_ne.mpr (Ne.symm (Nat.ne_of_lt I.big))
theorem pe_nnew : PE X (.Dict [] [] pos) (tNNew X.w) := ⟨fun pins s σ H Q I h =>
  wpAny_Dict_empty ⟨.ref s.heap.objs.size, _, I.laid (a := s.heap.objs.size) (o := KdO s.heap.objs.size { cls := .type "dict", data := .dict #[] }) (t' := s.toks) (fun _ _ q => Heap.get?_push_of_some _ q) (Nat.le_refl _) (kdO_ok (Heap.get?_push_size _ rfl)), rfl, h _ _ (I.hok.fresh (Nat.le_refl _)) ndat_nil (sys_ne I)⟩⟩
end
/-! ### d[k] = v, d.get(k, z) -/
def rSetN (w : World) (K : PySem.W.Frag) : TSet := fun o i v H Q => ∃ a ob xs k b, o = .ref a ∧ H a = some (KdO a ob) ∧ NR w K H a ob xs ∧ xs.length < sizeLine ∧ i = .ref b ∧ HKey K H k i ∧ k.depth ≤ 8 ∧
  ∀ ob' u, RelV v u → NDat w ob' (storedH xs k b u) → Q (upd H a (KdO a ob'))
def tNGet2 (w : World) (K : PySem.W.Frag) (td ty tx : TE) : TE := fun σ H Q => td σ H fun x H1 => ∃ a o1 xs1, x = .ref a ∧ NR w K H1 a o1 xs1 ∧ ty σ H1 fun y H2 => tx σ H2 fun z H3 => ∃ o xs k b, NR w K H3 a o xs ∧ y = .ref b ∧ HKey K H3 k y ∧ k.depth ≤ 8 ∧
  ∃ r, (∀ p, atKey xs k = some p → RelV r p.2) ∧ (atKey xs k = none → r = z) ∧ Q r H3
section
variable {X : Cx}
theorem room8 {A : Around} {X : Cx} (hu : A.units + 20 < cLine) : (nestedKind X.prog X.w).room A.in1 := by
  show A.units + 1 + 8 < cLine
  omega
theorem set_nested (hu : X.A.units + 20 < cLine) : PSet X (rSetN X.w X.K) := by
  intro pins s σ H o i v ov iv u Q I ro ri rv h
  obtain ⟨a, ob, xs, k, b, eo, ha, r, hl, ei, hk, hd, q⟩ := h
  subst eo
  cases (show ov = Value.ref a from ro)
  have hi := hk.is I ri
  subst ei
  cases (show iv = Value.ref b from ri)
  refine wpAny_setItem_heap (knd := nestedKind X.prog X.w) (hsz := Nat.le_of_lt hl) (room8 hu) ⟨hi, hd⟩ (r.dict I) fun h' dd' hs => ?_
  have hz : (storedH xs k b u).length ≤ sizeLine := by have := storedH_length xs k b u; omega
  obtain ⟨ob', e', nd'⟩ := ndat_of hz dd'
  exact ⟨_, I.write (x := a) (e := a) (by rw [ha]; exact trivial) (.inl rfl) (fun c w hc z => (hs.2 c hc).trans z) ⟨ob', e'⟩ (kdO_ok e'), q ob' u rv nd'⟩
theorem pe_nget2 {o e f : Expr} {td ty tx : TE} {apos cpos : Pos} (hu : X.A.units + 20 < cLine) (ho : PE X o td) (he : PE X e ty) (hf : PE X f tx) (m : M2 X o "get" apos e f cpos) : PE X (.Call (.Attribute o "get" apos) [e, f] [] cpos) (tNGet2 X.w X.K td ty tx) := by
  refine ⟨fun pins s σ H Q I h => ?_⟩
  refine wpAny_Call_method m.base m.few m.line PySem.F.plainAttrs_dict PySem.F.slot_dict_get PySem.F.type_dict_get (thn (ho.run pins s σ H _ I h) fun u s1 ⟨x, H1, I1, rx, a, o1, xs1, ex, r1, q1⟩ => ?_)
  subst ex
  obtain rfl : u = Value.ref a := rx
  have dd1 := r1.dict I1
  refine ⟨dd1.typeIs, fun b q => ?_, ?_⟩
  · cases q
    exact ⟨o1, r1.get I1, r1.nd.ex.2.1⟩
  rw [m.trees]
  refine Calls.callWith_builtin rfl (Calls.evalArgs_plain (Calls.spliced_cons (thn (he.run pins s1 σ H1 _ I1 q1) fun iv s2 ⟨y, H2, I2, ry, q2⟩ =>
    Calls.spliced_cons (thn (hf.run pins s2 σ H2 _ I2 q2) fun fv s3 ⟨z, H3, I3, rz, o3, xs, k, b, r3, ey, hk, hd, r, q3, q4, q5⟩ => Calls.spliced_nil ?_))))
  have hi := hk.is I3 ry
  subst ey
  cases (show iv = Value.ref b from ry)
  have dd := r3.dict I3
  refine call_meetsIn PySem.F.slot_dict_get dd.typeIs PySem.F.entry_dict_get (PySem.F.args_dict_get_3 _ _ _) (meetsH_dict_get_default (nestedKind X.prog X.w) a b r3.sm fv) ⟨room8 hu, k, xs, ⟨hi, hd⟩, dd, ⟨r, H3, I3.tok _, ?_, q5⟩⟩
  cases hat : atKey xs k with
  | none =>
    rw [q4 hat]
    exact rz
  | some p => exact q3 p hat
end
end Y
set_option Elab.async false
set_option linter.all false
set_option maxRecDepth 100000
/-! Y36: such a dict written out; its keys and items, walked -/
namespace Y
open PySem PySem.Spec L2
open PyProof.Rows hiding St
/-- {a: b} -/
def tNDisp1 (w : World) (K : PySem.W.Frag) (ta tb : TE) : TE := fun σ H Q => ∀ p o0, H p = none → NDat w o0 [] → (p == sysModules) = false → ta σ (upd H p (KdO p o0)) fun x H1 => tb σ H1 fun y H2 => H2 p = some (KdO p o0) ∧
  ∃ k b, x = .ref b ∧ HKey K H2 k x ∧ k.depth ≤ 8 ∧ ∀ o u, RelV y u → NDat w o [(k, b, u)] → Q (.ref p) (upd H2 p (KdO p o))
section
variable {X : Cx} {a b : Expr} {ta tb : TE} {pos : Pos}
theorem pe_ndisp1 (hu : X.A.units + 20 < cLine) (ha : PE X a ta) (hb : PE X b tb) : PE X (.Dict [some a] [b] pos) (tNDisp1 X.w X.K ta tb) := by
  refine ⟨fun pins s σ H Q I q => ?_⟩
  have hn := I.hok.fresh (Nat.le_refl s.heap.objs.size)
  have sm := sys_ne I
  have I1 := I.laid (a := s.heap.objs.size) (o := KdO s.heap.objs.size { cls := .type "dict", data := .dict #[] }) (h' := s.heap.push { cls := .type "dict", data := .dict #[] }) (t' := s.toks) (fun _ _ q => Heap.get?_push_of_some _ q) (Nat.le_refl _) (kdO_ok (Heap.get?_push_size _ rfl))
  have hq := q _ _ hn ndat_nil sm
  have hshape := zip_pairTrees [some a] [b] X.env pos rfl rfl
  have hz : (pairTrees [some a] [b] X.env pos).length = 1 := rfl
  rw [arm_eval_Dict, hshape, dictDisplay_pairs _ (fun z => by rw [z] at hz; cases hz) (by rw [hz]; decide)]
  refine wpAny_bind (wpAny_standAt (wpAny_bind (wpAny_subDictH (knd := nestedKind X.prog X.w) (Q := fun d s' => wpAny (model X.prog X.w) X.A (pure (Value.ref d)) _ X.xe s') (by show X.A.units + 8 < cLine; omega) (by rw [hz]; decide) ?_)))
  refine pairTrees_cons_walk (thn (ha.run pins _ σ _ _ I1 hq) fun u s1 ⟨x, H1, I2, rx, q1⟩ => thn (hb.run pins s1 σ H1 _ I2 q1) fun v s2 ⟨y, H2, I3, ry, hp, k, c, ex, hk, hd, q2⟩ => pairTrees_nil_walk ?_)
  have hi := hk.is I3 rx
  subst ex
  cases (show u = Value.ref c from rx)
  have r0 : NR X.w X.K H2 s.heap.objs.size { cls := .type "dict", data := .dict #[] } [] := ⟨sm, .inl hp, ndat_nil, fun x hx => by cases hx⟩
  refine ⟨[(k, c, v)], ⟨rfl, rfl, ⟨hi, hd⟩, trivial⟩, r0.dict I3, fun h' tk dd' hs => wpAny_pure ?_⟩
  have e1 : storedAllH [] [(k, c, v)] = [(k, c, v)] := rfl
  rw [e1] at dd'
  obtain ⟨o', e', nd'⟩ := ndat_of (by show 1 ≤ sizeLine; decide) dd'
  exact ⟨.ref s.heap.objs.size, _, I3.write (x := s.heap.objs.size) (e := s.heap.objs.size) (t' := tk) (by rw [hp]; exact trivial) (.inl rfl) (fun c w hc z => (hs.2 c hc).trans z) ⟨o', e'⟩ (kdO_ok e'), rfl, q2 o' v ry nd'⟩
end
/-! ### walks -/
/-- the entries, as loops get them -/
def EsR (xs : List (NestedKey × Addr × Value)) (its : List (Addr × V)) : Prop := Paired (fun p x => p.1 = x.2.1 ∧ RelV p.2 x.2.2) its xs
/-- the pairs, each a new tuple -/
def Itni (d : Addr) (o : Obj) (its : List (Addr × V)) : It :=
  ⟨fun i H => H d = some (.frz o (KdO d o)) ∧ i < its.length, fun i H x H' => ∃ T q v, its[i]? = some (q, v) ∧ x = .ref T ∧ H T = none ∧ H' = upd H T (.tup [.ref q, v]), fun i H => H d = some (.frz o (KdO d o)) ∧ its.length ≤ i⟩
/-- the keys: their own tuples -/
def Itnk (d : Addr) (o : Obj) (its : List (Addr × V)) : It :=
  ⟨fun i H => H d = some (.frz o (KdO d o)) ∧ i < its.length, fun i H x H' => H' = H ∧ ∃ q v, its[i]? = some (q, v) ∧ x = .ref q, fun i H => H d = some (.frz o (KdO d o)) ∧ its.length ≤ i⟩
section
variable {w : World} {o : Obj} {xs : List (NestedKey × Addr × Value)} {its : List (Addr × V)} {es : Array DictEntry} {ep : Nat}
theorem es_size (he : es.toList = xs.map fun x => (⟨x.1.hash w, .ref x.2.1, x.2.2⟩ : DictEntry)) (r : EsR xs its) : es.size = its.length := by
  have h1 : es.size = xs.length := by rw [← Array.length_toList, he, List.length_map]
  have h2 : its.length = xs.length := Paired.length r
  omega
theorem es_at (he : es.toList = xs.map fun x => (⟨x.1.hash w, .ref x.2.1, x.2.2⟩ : DictEntry)) (r : EsR xs its) {i : Nat} {q : Addr} {v : V} (h : its[i]? = some (q, v)) : ∃ (hi : i < es.size) (u : Value), es[i].key = .ref q ∧ es[i].val = u ∧ RelV v u := by
  obtain ⟨x, hx, h1, h2⟩ := paired_get r h
  have hi : i < es.size := by rw [es_size he r]; exact (List.getElem?_eq_some_iff.mp h).1
  have e : es[i] = (⟨x.1.hash w, .ref x.2.1, x.2.2⟩ : DictEntry) := by
    have h3 : es.toList[i]? = some ⟨x.1.hash w, .ref x.2.1, x.2.2⟩ := by rw [he, List.getElem?_map, hx]; rfl
    rw [Array.getElem?_toList, Array.getElem?_eq_getElem hi] at h3
    exact Option.some.inj h3
  refine ⟨hi, x.2.2, ?_, by rw [e], h2⟩
  rw [e]
  exact congrArg Value.ref (show x.2.1 = q from h1.symm)
end
section
variable {P : Program} {w : World} {K : PySem.W.Frag} {tg : Expr} {d : Addr} {o : Obj} {es : Array DictEntry} {ep : Nat} {xs : List (NestedKey × Addr × Value)} {its : List (Addr × V)}
theorem turn_nkeys (it : Addr) (hod : o.data = .dict es ep) (he : es.toList = xs.map fun x => (⟨x.1.hash w, .ref x.2.1, x.2.2⟩ : DictEntry)) (r : EsR xs its) : Turn P w K tg (Itnk d o its) [it] it (fun i h => h.IsKeyIter it d i its.length ep) where
  mem := by simp
  obj := fun i h st b hb => by
    have e : b = it := by simpa using hb
    subst e
    obtain ⟨oi, e, c, dd⟩ := st
    exact ⟨oi, e, fun v z => by rw [dd] at z; cases z⟩
  keep := fun i h h' st k => st.at fun oi e => k it (by simp) oi e
  item := by
    intro X hP hw hK hc i pins s σ H E I hf st hg
    subst hP hw hK
    obtain ⟨hd, hi⟩ := hg
    obtain ⟨f0, f1, f2, f3, f4, f5⟩ := hf it (by simp)
    have hgd := (I.hok d _ hd).1
    obtain ⟨⟨q, v⟩, hkv⟩ : ∃ p, its[i]? = some p := ⟨its[i], List.getElem?_eq_getElem hi⟩
    obtain ⟨hie, u, hkey, _, _⟩ := es_at he r hkv
    refine next_key_item st hgd hod (es_size he r) (Array.getElem?_eq_getElem hie) fun h' st' sb => ?_
    have I1 : L2.Inv X pins σ H { s with heap := h' } := I.turned (t' := s.toks) (fun b ob hb e => (sb.2 b hb).trans e) f0 f1 f3 f4 f5
    obtain ⟨oi, e, c, dd⟩ := id st'
    exact ⟨es[i].key, rfl, go_of (s := { s with heap := h' }) e c dd (by decide) ⟨.ref q, H, I1, hkey, ⟨rfl, q, v, hkv, rfl⟩, st', fun b hb => (hf b hb).1⟩⟩
  done := by
    intro X hP hw hK hc i pins s σ H E I hf st hg
    subst hP hw hK
    obtain ⟨hd, hi⟩ := hg
    obtain ⟨f0, f1, f2, f3, f4, f5⟩ := hf it (by simp)
    have hgd := (I.hok d _ hd).1
    exact next_key_end (I.ok.hd hc) st hgd hod (es_size he r) hi fun h' eb => ⟨rfl, I.turned (t' := s.toks) (fun b ob hb e => eb b ob hb e) f0 f1 f3 f4 f5⟩
  self := fun A i s Q E st h => by
    refine wpAny_pyIter_slot st.typeIs F.slot_dict_keyiterator_iter (wpAny_call_entry F.slot_dict_keyiterator_iter st.typeIs F.entry_dict_keyiterator_iter ?_ (F.args_dict_keyiterator_iter_1 _))
    show wpAny _ _ (ret (.ref it)) _ _ s
    exact wpAny_pure ⟨_, rfl, "dict_keyiterator", _, st.typeIs, F.slot_dict_keyiterator_next.lookup, h⟩
theorem turn_nitems {elts : List Expr} {kk : Nat} {tpos : Pos} (it : Addr) (hx : o.ExactDict) (hod : o.data = .dict es ep) (he : es.toList = xs.map fun x => (⟨x.1.hash w, .ref x.2.1, x.2.2⟩ : DictEntry)) (r : EsR xs its) :
    Turn P w K (.Tuple elts kk tpos) (Itni d o its) [it] it (fun i h => ∃ ok ov, IsItemIter h it d i its.length ep ok ov) where
  mem := by simp
  obj := fun i h st b hb => by
    have e : b = it := by simpa using hb
    subst e
    obtain ⟨ok, ov, e⟩ := st
    exact ⟨_, e, fun v z => nomatch z⟩
  keep := fun i h h' st k => let ⟨ok, ov, e⟩ := st; ⟨ok, ov, k it (by simp) _ e⟩
  item := by
    intro X hP hw hK hc i pins s σ H E I hf st hg
    subst hP hw hK
    obtain ⟨hd, hi⟩ := hg
    have hgd := (I.hok d _ hd).1
    have raw : DT.Raw s.heap d es ep := ⟨o, hgd, hx, hod⟩
    obtain ⟨⟨q, v⟩, hkv⟩ : ∃ p, its[i]? = some p := ⟨its[i], List.getElem?_eq_getElem hi⟩
    obtain ⟨hie, u, hkey, hval, ru⟩ := es_at he r hkv
    obtain ⟨ok, ov, hit⟩ := st
    rw [← es_size he r] at hit
    have hlt : it < s.heap.objs.size := Heap.lt_size hit
    refine DT.nextI hit raw hie fun h' ho hT hz hk => ?_
    rw [hkey, hval] at hT ho
    refine ⟨_, rfl, wpAny_letOwnedTupleGo_items (s := { s with heap := h' }) ho fun h'' he' sb => ?_⟩
    have hT2 : h''.get? s.heap.objs.size = some { cls := .type "tuple", data := .seq #[.ref q, u] } := (sb.2 _ (Nat.ne_of_gt hlt)).trans hT
    have new : ObjOk X.prog X.w (upd H s.heap.objs.size (.tup [.ref q, v])) h'' s.heap.objs.size (.tup [.ref q, v]) :=
      ⟨by show 2 ≤ sizeLine; decide, [.ref q, u], .cons rfl (.cons ru .nil), ⟨_, hT2, rfl, _, rfl⟩⟩
    have I1 : L2.Inv X pins σ (upd H s.heap.objs.size (.tup [.ref q, v])) { s with heap := h'' } :=
      I.turnedNew (t' := s.toks) (ch := [it]) (fun b ob hb e => (sb.2 b (by simpa using hb)).trans (hk b ob (by simpa using hb) e)) hf (Nat.le_refl _) new
    refine ⟨.ref s.heap.objs.size, _, I1, rfl, ⟨_, q, v, hkv, rfl, I.hok.fresh (Nat.le_refl _), rfl⟩, ⟨.ref q, u, ?_⟩, fun b hb => ?_⟩
    · rw [← es_size he r]; exact he'
    · have e : b = it := by simpa using hb
      rw [e, upd_ne (Nat.ne_of_lt hlt)]
      exact (hf it (by simp)).1
  done := by
    intro X hP hw hK hc i pins s σ H E I hf st hg
    subst hP hw hK
    obtain ⟨hd, hi⟩ := hg
    obtain ⟨f0, f1, f2, f3, f4, f5⟩ := hf it (by simp)
    have hgd := (I.hok d _ hd).1
    have raw : DT.Raw s.heap d es ep := ⟨o, hgd, hx, hod⟩
    obtain ⟨ok, ov, hit⟩ := st
    rw [← es_size he r] at hit hi
    exact DT.endI (I.ok.hd hc) hit raw hi fun h' eb => ⟨rfl, I.turned (t' := s.toks) (fun b ob hb e => eb b ob hb e) f0 f1 f3 f4 f5⟩
  self := fun A i s Q E st h => let ⟨_, _, e⟩ := st; PySem.W.kcp_self e h
end
/-- the dict is read alone from now on -/
def FrzTo (H : Hp) (d : Addr) (o : Obj) (H' : Hp) : Prop := (H d = some (KdO d o) ∧ H' = upd H d (.frz o (KdO d o))) ∨ (H d = some (.frz o (KdO d o)) ∧ H' = H)
def iNKeys (w : World) (K : PySem.W.Frag) (td : TE) : TI := fun σ H R => td σ H fun x H1 => ∃ d o xs its H2, x = .ref d ∧ NR w K H1 d o xs ∧ EsR xs its ∧ FrzTo H1 d o H2 ∧ R (Itnk d o its) H2
def iNItems (w : World) (K : PySem.W.Frag) (td : TE) : TI := fun σ H R => td σ H fun x H1 => ∃ d o xs its H2, x = .ref d ∧ NR w K H1 d o xs ∧ EsR xs its ∧ FrzTo H1 d o H2 ∧ R (Itni d o its) H2
section
variable {X : Cx} {tg e : Expr} {td : TE} {apos cpos : Pos}
theorem frz_inv {pins : List (Addr × Obj)} {σ : St} {H H2 : Hp} {s : Shared} {d : Addr} {o : Obj} (I : L2.Inv X pins σ H s) (f : FrzTo H d o H2) : L2.Inv X pins σ H2 s := by
  rcases f with ⟨h, rfl⟩ | ⟨h, rfl⟩
  · obtain ⟨od, I2⟩ := I.lock h trivial
    have e1 : s.heap.get? d = some o := (I.hok d _ h).1
    have e2 : s.heap.get? d = some od := (I2.hok d _ upd_same).1
    rw [e1] at e2
    cases e2
    exact I2
  · exact I
theorem pi_nkeys (he : PE X e td) : PI X tg e (iNKeys X.w X.K td) := by
  refine ⟨fun pins s σ H R I h => ?_⟩
  refine thn (he.run pins s σ H _ I h) fun u s1 ⟨x, H1, I1, rx, d, o, xs, its, H2, ex, r, er, f, q⟩ => ?_
  subst ex
  obtain rfl : u = Value.ref d := rx
  obtain ⟨es, ep, hdt, hes⟩ := r.nd.da
  have I2 := frz_inv I1 f
  refine iter_keys r.sm (r.get I1) r.nd.ex hdt (pi_one (tk := s1.toks) I2 _ (turn_nkeys _ hdt hes er) ⟨_, Heap.get?_push_size _ rfl, rfl, ?_⟩ q)
  rw [es_size hes er] <;> rfl
theorem pi_nitems {elts : List Expr} {kk : Nat} {tpos : Pos} (he : PE X e td) (hbase : attributeBase e "items" X.env (eval e X.env) = eval e X.env := by rfl) (hline : (apos.endLine == cpos.line) = true := by rfl) :
    PI X (.Tuple elts kk tpos) (.Call (.Attribute e "items" apos) [] [] cpos) (iNItems X.w X.K td) := by
  refine ⟨fun pins s σ H R I h => ?_⟩
  refine wpAny_Call_method (T := "dict") (id := "dict.items") hbase rfl hline F.plainAttrs_dict F.slot_dict_items F.type_dict_items (thn (he.run pins s σ H _ I h) fun u s1 ⟨x, H1, I1, rx, d, o, xs, its, H2, ex, r, er, f, q⟩ => ?_)
  subst ex
  obtain rfl : u = Value.ref d := rx
  obtain ⟨es, ep, hdt, hes⟩ := r.nd.da
  have hgd := r.get I1
  have raw : DT.Raw s1.heap d es ep := ⟨o, hgd, r.nd.ex, hdt⟩
  refine ⟨raw.typeIs, fun b z => ?_, ?_⟩
  · cases z
    exact ⟨o, hgd, r.nd.ex.2.1⟩
  have I2 : L2.Inv X pins σ H2 { s1 with heap := s1.heap.push { cls := .type "dict_items", data := .fields #[.ref d] } } := (frz_inv I1 f).kept (t' := s1.toks) fun b ob q => Heap.get?_push_of_some _ q
  have fin : wpAny (model X.prog X.w) X.A (pyIter (.ref s1.heap.objs.size)) (PIE X pins σ (.Tuple elts kk tpos) R) X.xe { s1 with heap := s1.heap.push { cls := .type "dict_items", data := .fields #[.ref d] } } := by
    refine DT.iterI (d := d) (es := es) (ep := ep) ⟨_, Heap.get?_push_size _ rfl, rfl, rfl⟩ (raw.push _) (pi_one (tk := s1.toks) I2 _ (turn_nitems _ r.nd.ex hdt hes er) ⟨.none, .none, ?_⟩ q)
    rw [← es_size hes er]
    exact Heap.get?_push_size _ rfl
  show wpAny _ _ (callWith cpos (.builtin "dict.items") [.ref d] [] []) _ X.xe s1
  exact method_meetsIn F.slot_dict_items F.entry_dict_items rfl (PySem.evalArgs_none ⟨rfl, raw.typeIs, F.args_dict_items_1 _, _, DT.meetsItems (es := es) (ep := ep) r.sm, raw, fin⟩)
end
end Y
set_option Elab.async false
set_option linter.all false
set_option maxRecDepth 100000
/-! Y37: dicts with nested keys: the meanings, and that they are kept -/
namespace Y
open PySem PySem.Spec L2
open PyProof.Rows hiding St
def keyN : AV → Option NestedKey
  | .tup xs => (kOf (.tup xs)).bind fun k => if k.depth ≤ 8 then some k else none
  | _ => none
def rdN (st : Sto) (k : Nat) : Option (List (AV × AV)) := match st[k]? with
  | some (.kdc kvs) => some kvs
  | some (.fkd kvs) => some kvs
  | _ => none
def oNNew : ME := fun _ st => .ok (.loc st.length) (st ++ [.kdc []])
def mNDisp1 (a b : ME) : ME := fun env st => (a env st).bind fun x st => (b env st).bind fun y st => match keyN x with
  | some _ => .ok (.loc st.length) (st ++ [.kdc [(x, y)]])
  | none => .bad
def oNSet : O3 := fun x y v st => match x, keyN y with
  | .loc k, some _ => match st[k]? with
    | some (.kdc kvs) => if kvs.length < LIM then .ok () (st.set k (.kdc (putA kvs y v))) else .bad
    | _ => .bad
  | _, _ => .bad
def mNGet2 (d k z : ME) : ME := fun env st => (d env st).bind fun x st => match x with
  | .loc j => match rdN st j with
    | some _ => (k env st).bind fun y st => (z env st).bind fun w st => match keyN y, rdN st j with
      | some _, some kvs => .ok ((lookA kvs y).getD w) st
      | _, _ => .bad
    | none => .bad
  | _ => .bad
def miNKeys (a : ME) : MI := fun env st => (a env st).bind fun x st => match x with
  | .loc k => match st[k]? with
    | some (.kdc kvs) => .ok (.kkeys kvs) (st.set k (.fkd kvs))
    | some (.fkd kvs) => .ok (.kkeys kvs) st
    | _ => .bad
  | _ => .bad
def miNItems (a : ME) : MI := fun env st => (a env st).bind fun x st => match x with
  | .loc k => match st[k]? with
    | some (.kdc kvs) => .ok (.kitems kvs) (st.set k (.fkd kvs))
    | some (.fkd kvs) => .ok (.kitems kvs) st
    | _ => .bad
  | _ => .bad
/-! ### entries -/
inductive RepN (K : PySem.W.Frag) (H : Hp) (ρ : Nat → Addr) (n : Nat) : List (AV × AV) → List (NestedKey × Addr × Value) → List (Addr × V) → Prop
  | nil : RepN K H ρ n [] [] []
  | cons {a b : AV} {k : NestedKey} {q : Addr} {u : Value} {z : V} {r : List (AV × AV)} {l : List (NestedKey × Addr × Value)} {m : List (Addr × V)} :
      kOf a = some k → Rep K H ρ n a (.ref q) → Rep K H ρ n b z → RelV z u → RepN K H ρ n r l m → RepN K H ρ n ((a, b) :: r) ((k, q, u) :: l) ((q, z) :: m)
section
variable {X : Cx} {cm : CM} {E : EX} {G : GK} {K : PySem.W.Frag} {H : Hp} {ρ : Nat → Addr} {n : Nat} {st : Sto}
theorem repL_split : ∀ {A B : List AV} {ys : List V}, RepL K H ρ n (A ++ B) ys → ∃ C D, ys = C ++ D ∧ RepL K H ρ n A C ∧ RepL K H ρ n B D
  | [], B, ys, h => ⟨[], ys, rfl, .nil, h⟩
  | a :: A, B, _, h => by
    cases h with
    | cons h1 h2 =>
      obtain ⟨C, D, e, r1, r2⟩ := repL_split h2
      exact ⟨_ :: C, D, by rw [e]; rfl, .cons h1 r1, r2⟩
theorem repN_mk : ∀ {kvs : List (AV × AV)} {xs : List (NestedKey × Addr × Value)} {zs : List V}, kvs.map (fun p => kOf p.1) = xs.map (fun x => some x.1) → RepL K H ρ n (kvs.map (·.1)) (xs.map fun x => V.ref x.2.1) → RepL K H ρ n (kvs.map (·.2)) zs →
    Vals zs (xs.map (·.2.2)) → RepN K H ρ n kvs xs ((xs.map (·.2.1)).zip zs)
  | [], [], zs, _, _, h3, _ => by cases h3; exact .nil
  | [], _ :: _, _, h, _, _, _ => by simp at h
  | _ :: _, [], _, h, _, _, _ => by simp at h
  | (a, b) :: kvs, (k, q, u) :: xs, zs, h1, h2, h3, h4 => by
    simp only [List.map_cons, List.cons.injEq] at h1 h2 h3 h4
    cases h2 with
    | cons r1 r2 =>
      cases h3 with
      | cons r3 r4 =>
        cases h4 with
        | cons r5 r6 => exact .cons h1.1 r1 r3 r5 (repN_mk h1.2 r2 r4 r6)
theorem repN_of {kvs : List (AV × AV)} {ys : List V} {xs : List (NestedKey × Addr × Value)} (h : KRel kvs ys xs) (r : RepL K H ρ n (kvs.map (·.1) ++ kvs.map (·.2)) ys) : ∃ its, RepN K H ρ n kvs xs its := by
  obtain ⟨h1, zs, rfl, h2⟩ := h
  obtain ⟨C, D, e, r1, r2⟩ := repL_split r
  have l1 : C.length = (xs.map fun x => V.ref x.2.1).length := by
    have a1 := r1.length
    have a2 := congrArg List.length h1
    simp only [List.length_map] at a1 a2 ⊢
    omega
  obtain ⟨e1, e2⟩ := List.append_inj e l1.symm
  subst e1 e2
  exact ⟨_, repN_mk h1 r1 r2 h2⟩
theorem RepN.to : ∀ {kvs : List (AV × AV)} {xs : List (NestedKey × Addr × Value)} {its : List (Addr × V)}, RepN K H ρ n kvs xs its → kvs.map (fun p => kOf p.1) = xs.map (fun x => some x.1) ∧ RepL K H ρ n (kvs.map (·.1)) (xs.map fun x => V.ref x.2.1) ∧ RepL K H ρ n (kvs.map (·.2)) (its.map (·.2)) ∧ Vals (its.map (·.2)) (xs.map (·.2.2))
  | _, _, _, .nil => ⟨rfl, .nil, .nil, .nil⟩
  | _, _, _, .cons h1 h2 h3 h4 r => by
    obtain ⟨a, b, c, d⟩ := r.to
    exact ⟨by simp only [List.map_cons, h1, a], .cons h2 b, .cons h3 c, .cons h4 d⟩
theorem RepN.krel {kvs : List (AV × AV)} {xs : List (NestedKey × Addr × Value)} {its : List (Addr × V)} (r : RepN K H ρ n kvs xs its) : KRel kvs ((xs.map fun x => V.ref x.2.1) ++ its.map (·.2)) xs ∧ RepL K H ρ n (Ob.vals (.kdc kvs)) ((xs.map fun x => V.ref x.2.1) ++ its.map (·.2)) := by
  obtain ⟨a, b, c, d⟩ := r.to
  exact ⟨⟨a, _, rfl, d⟩, b.append c⟩
theorem RepN.ks : ∀ {kvs : List (AV × AV)} {xs : List (NestedKey × Addr × Value)} {its : List (Addr × V)}, RepN K H ρ n kvs xs its → ∀ x ∈ xs, HKey K H x.1 (.ref x.2.1)
  | _, _, _, .nil, x, hx => by cases hx
  | _, _, _, .cons h1 h2 h3 h4 r, x, hx => by
    rcases List.mem_cons.mp hx with rfl | hx
    · exact ⟨ρ, n, _, h1, h2⟩
    · exact r.ks x hx
theorem RepN.esr : ∀ {kvs : List (AV × AV)} {xs : List (NestedKey × Addr × Value)} {its : List (Addr × V)}, RepN K H ρ n kvs xs its → EsR xs its
  | _, _, _, .nil => .nil
  | _, _, _, .cons h1 h2 h3 h4 r => .cons ⟨rfl, h4⟩ r.esr
theorem RepN.len : ∀ {kvs : List (AV × AV)} {xs : List (NestedKey × Addr × Value)} {its : List (Addr × V)}, RepN K H ρ n kvs xs its → kvs.length = xs.length ∧ its.length = xs.length
  | _, _, _, .nil => ⟨rfl, rfl⟩
  | _, _, _, .cons h1 h2 h3 h4 r => by
    obtain ⟨a, b⟩ := r.len
    simp only [List.length_cons, a, b, and_self]
theorem RepN.get : ∀ {kvs : List (AV × AV)} {xs : List (NestedKey × Addr × Value)} {its : List (Addr × V)} {i : Nat} {a b : AV}, RepN K H ρ n kvs xs its → kvs[i]? = some (a, b) → ∃ q z, its[i]? = some (q, z) ∧ Rep K H ρ n a (.ref q) ∧ Rep K H ρ n b z
  | _, _, _, i, a, b, .nil, e => by simp at e
  | _, _, _, 0, a, b, .cons (q := q) (z := z) h1 h2 h3 h4 r, e => by
    simp only [List.getElem?_cons_zero, Option.some.injEq, Prod.mk.injEq] at e
    obtain ⟨rfl, rfl⟩ := e
    exact ⟨q, z, rfl, h2, h3⟩
  | _, _, _, i + 1, a, b, .cons h1 h2 h3 h4 r, e => by
    obtain ⟨q, z, e1, e2⟩ := r.get (i := i) (by simpa using e)
    exact ⟨q, z, by simpa using e1, e2⟩
theorem atKey_cons {k' k : NestedKey} {p : Addr × Value} {l : List (NestedKey × Addr × Value)} : atKey ((k', p) :: l) k = if k' = k then some p else atKey l k := by
  by_cases e : k' = k
  · simp [atKey, List.find?_cons, e]
  · simp [atKey, List.find?_cons, e]
theorem RepN.look {v : AV} {k : NestedKey} (hv : kOf v = some k) : ∀ {kvs : List (AV × AV)} {xs : List (NestedKey × Addr × Value)} {its : List (Addr × V)}, RepN K H ρ n kvs xs its → (∃ w z p, lookA kvs v = some w ∧ atKey xs k = some p ∧ Rep K H ρ n w z ∧ RelV z p.2) ∨ (lookA kvs v = none ∧ atKey xs k = none)
  | _, _, _, .nil => .inr ⟨rfl, rfl⟩
  | _, _, _, .cons (a := a) (b := b) (k := k') (q := q) (u := u) (z := z) h1 h2 h3 h4 r => by
    by_cases e : k' = k
    · subst e
      have := kOf_inj h1 hv
      subst this
      exact .inl ⟨b, z, (q, u), by simp [lookA], by rw [atKey_cons, if_pos rfl], h3, h4⟩
    · have ne : ¬ a = v := fun z => e (by rw [z, hv] at h1; cases h1; rfl)
      rw [atKey_cons, if_neg e]
      have e1 : ∀ {q : List (AV × AV)}, lookA ((a, b) :: q) v = lookA q v := by intro q; simp [lookA, ne]
      rw [e1]
      exact r.look hv
theorem RepN.repl {v : AV} {k : NestedKey} (hv : kOf v = some k) {w : AV} {z : V} {u : Value} (rw' : Rep K H ρ n w z) (ru : RelV z u) : ∀ {kvs : List (AV × AV)} {xs : List (NestedKey × Addr × Value)} {its : List (Addr × V)}, RepN K H ρ n kvs xs its → ∃ its', RepN K H ρ n (replA v w kvs) (xs.map (putAt k u)) its'
  | _, _, _, .nil => ⟨[], .nil⟩
  | _, _, _, .cons (a := a) (b := b) (k := k') (q := q) (u := u') (z := z') h1 h2 h3 h4 r => by
    obtain ⟨its', r'⟩ := r.repl hv rw' ru
    by_cases e : k' = k
    · subst e
      have := kOf_inj h1 hv
      subst this
      simp only [replA, List.map_cons, putAt, if_true]
      exact ⟨_, .cons h1 h2 rw' ru r'⟩
    · have ne : ¬ a = v := fun z => e (by rw [z, hv] at h1; cases h1; rfl)
      simp only [replA, List.map_cons, putAt, if_neg e, if_neg ne]
      exact ⟨_, .cons h1 h2 h3 h4 r'⟩
theorem RepN.snoc {v : AV} {k : NestedKey} (hv : kOf v = some k) {q : Addr} (rv : Rep K H ρ n v (.ref q)) {w : AV} {z : V} {u : Value} (rw' : Rep K H ρ n w z) (ru : RelV z u) : ∀ {kvs : List (AV × AV)} {xs : List (NestedKey × Addr × Value)} {its : List (Addr × V)}, RepN K H ρ n kvs xs its → ∃ its', RepN K H ρ n (kvs ++ [(v, w)]) (xs ++ [(k, q, u)]) its'
  | _, _, _, .nil => ⟨_, .cons hv rv rw' ru .nil⟩
  | _, _, _, .cons h1 h2 h3 h4 r => by
    obtain ⟨its', r'⟩ := r.snoc hv rv rw' ru
    exact ⟨_, .cons h1 h2 h3 h4 r'⟩
theorem RepN.put {v : AV} {k : NestedKey} (hv : kOf v = some k) {q : Addr} (rv : Rep K H ρ n v (.ref q)) {w : AV} {z : V} {u : Value} (rw' : Rep K H ρ n w z) (ru : RelV z u) {kvs : List (AV × AV)} {xs : List (NestedKey × Addr × Value)} {its : List (Addr × V)} (r : RepN K H ρ n kvs xs its) :
    ∃ its', RepN K H ρ n (putA kvs v w) (storedH xs k q u) its' := by
  unfold putA storedH
  rcases r.look hv with ⟨w', z', p, h1, h2, _⟩ | ⟨h1, h2⟩
  · rw [h1, h2]
    simp only [Option.isSome_some, if_true]
    exact r.repl hv rw' ru
  · rw [h1, h2]
    simp only [Option.isSome_none, Bool.false_eq_true, if_false]
    exact r.snoc hv rv rw' ru
theorem RepN.mv {H1 : Hp} {ρ1 : Nat → Addr} {n1 : Nat} (t : Tups K H H1) (hl : n ≤ n1) (ag : ∀ k, k < n → ρ1 k = ρ k) : ∀ {kvs : List (AV × AV)} {xs : List (NestedKey × Addr × Value)} {its : List (Addr × V)}, RepN K H ρ n kvs xs its → RepN K H1 ρ1 n1 kvs xs its
  | _, _, _, .nil => .nil
  | _, _, _, .cons h1 h2 h3 h4 r => .cons h1 (rep_mv t hl ag _ _ h2) (rep_mv t hl ag _ _ h3) h4 (r.mv t hl ag)
/-! ### in the store -/
theorem RepS.kdc (s : RepS G H ρ st) {k : Nat} {kvs : List (AV × AV)} (h : st[k]? = some (.kdc kvs)) : ∃ o xs its, (ρ k == sysModules) = false ∧ H (ρ k) = some (KdO (ρ k) o) ∧ NDat G.w o xs ∧ RepN G.K H ρ st.length kvs xs its := by
  obtain ⟨ys, ⟨sm, o, xs, h1, h2, h3⟩, r⟩ := s.ob k _ h
  obtain ⟨its, rn⟩ := repN_of h3 r
  exact ⟨o, xs, its, sm, h1, h2, rn⟩
theorem RepS.fkd (s : RepS G H ρ st) {k : Nat} {kvs : List (AV × AV)} (h : st[k]? = some (.fkd kvs)) : ∃ o xs its, (ρ k == sysModules) = false ∧ H (ρ k) = some (.frz o (KdO (ρ k) o)) ∧ NDat G.w o xs ∧ RepN G.K H ρ st.length kvs xs its := by
  obtain ⟨ys, ⟨sm, o, xs, h1, h2, h3⟩, r⟩ := s.ob k _ h
  obtain ⟨its, rn⟩ := repN_of h3 r
  exact ⟨o, xs, its, sm, h1, h2, rn⟩
theorem RepS.rdN (s : RepS G H ρ st) {k : Nat} {kvs : List (AV × AV)} (h : rdN st k = some kvs) : ∃ o xs its, NR G.w G.K H (ρ k) o xs ∧ RepN G.K H ρ st.length kvs xs its := by
  unfold Y.rdN at h
  split at h
  · rename_i e
    cases h
    obtain ⟨o, xs, its, h1, h2, h3, h4⟩ := s.kdc e
    exact ⟨o, xs, its, ⟨h1, .inl h2, h3, h4.ks⟩, h4⟩
  · rename_i e
    cases h
    obtain ⟨o, xs, its, h1, h2, h3, h4⟩ := s.fkd e
    exact ⟨o, xs, its, ⟨h1, .inr h2, h3, h4.ks⟩, h4⟩
  · cases h
theorem keyN_ok {v : AV} {k : NestedKey} {x : V} (h : keyN v = some k) (r : Rep K H ρ n v x) : kOf v = some k ∧ k.depth ≤ 8 ∧ ∃ q, x = .ref q := by
  unfold keyN at h
  split at h
  · rename_i xs
    obtain ⟨k', e1, e2⟩ := Option.bind_eq_some_iff.mp h
    split at e2
    · rename_i hd
      cases e2
      obtain ⟨a, ys, rfl, _⟩ := rep_tup r
      exact ⟨e1, hd, a, rfl⟩
    · cases e2
  · cases h
/-! ### new dicts -/
theorem ye_nnew {pos : Pos} : PE X (.Dict [] [] pos) (tE (gX X cm) E oNNew) := PE.weak pe_nnew fun σ H Q ⟨ρ, st, env, hs, he, hp⟩ => fun p o hn nd sm => by
  have e : (st ++ [Ob.kdc []]).length = st.length + 1 := by simp
  refine hp _ (more ρ st.length p) _ (by rw [e]; exact Ext.new hn) (hs.new (ob := .kdc []) (ys := []) hn ⟨sm, o, [], upd_same, nd, rfl, [], rfl, .nil⟩ .nil) ?_
  have z := Rep.loc (K := X.K) (H := upd H p (KdO p o)) (ρ := more ρ st.length p) (n := (st ++ [Ob.kdc []]).length) (k := st.length) (by rw [e]; exact Nat.lt_succ_self _)
  rw [more_at] at z
  exact z
theorem ye_ndisp1 {a b : Expr} {ma mb : ME} {pos : Pos} (hu : X.A.units + 20 < cLine) (ha : PE X a (tE (gX X cm) E ma)) (hb : PE X b (tE (gX X cm) E mb)) : PE X (.Dict [some a] [b] pos) (tE (gX X cm) E (mNDisp1 ma mb)) :=
  PE.weak (pe_ndisp1 hu ha hb) fun σ H Q ⟨ρ, st, env, hs, he, hp⟩ => fun p o0 hn nd0 sm => by
    have e0 : Ext H ρ st.length (upd H p (KdO p o0)) ρ st.length := Ext.lay hn
    have s0 := hs.lay (o := KdO p o0) hn
    refine ⟨ρ, st, env, s0, he.ext hs e0, hp.bindB e0 fun v st1 H1 ρ1 x e1 s1 r1 hp1 => ?_⟩
    have e1' := e0.trans e1
    obtain ⟨n1, d1⟩ := e1.apart upd_same (hs.ne_new hn)
    refine ⟨ρ1, st1, env, s1, he.ext hs e1', hp1.bindB e1' fun w st2 H2 ρ2 y e2 s2 r2 hp2 => ?_⟩
    obtain ⟨n2, d2⟩ := e2.apart d1 n1
    have e2' := e1'.trans e2
    have rv : Rep X.K H2 ρ2 st2.length v x := Rep.ext s1 e2 r1
    have rw' : Rep X.K H2 ρ2 st2.length w y := r2
    split at hp2
    · rename_i k hk
      obtain ⟨hk1, hd, q, rfl⟩ := keyN_ok hk rv
      refine ⟨d2, k, q, rfl, ⟨ρ2, st2.length, v, hk1, rv⟩, hd, fun o u ru nd => ?_⟩
      have e : (st2 ++ [Ob.kdc [(v, w)]]).length = st2.length + 1 := by simp
      have t := tups_at (o := KdO p o) (K := X.K) d2 .ext (notC_kdO nd0)
      have s3 : RepS (gX X cm) (upd H2 p (KdO p o)) ρ2 st2 := s2.mv (fun j hj => upd_ne (n2 j hj)) t fun _ q => tabs_at d2 (notC_kdO nd0) _ _ (s2.tb _ q)
      have rn : RepN X.K (upd H2 p (KdO p o)) ρ2 st2.length [(v, w)] [(k, q, u)] [(q, y)] := .cons hk1 (rep_mv t (Nat.le_refl _) (fun _ _ => rfl) _ _ rv) (rep_mv t (Nat.le_refl _) (fun _ _ => rfl) _ _ rw') ru .nil
      obtain ⟨kr, rl⟩ := rn.krel
      refine hp2 _ (more ρ2 st2.length p) _ ?_ (s3.take_in (ob := .kdc [(v, w)]) n2 ⟨sm, o, _, upd_same, nd, kr⟩ rl) ?_
      · rw [e]
        refine Ext.take_in (p := p) ⟨e2'.le, e2'.ag, fun a o h nt hk => by rw [upd_ne (ne_of_none h hn)]; exact e2'.fr a o h nt hk, e2'.nw, fun a o h => by rw [upd_ne (ne_of_none h hn)]; exact e2'.kp a o h, fun a ob u h => by rw [upd_ne (ne_of_none h hn)]; exact e2'.fz a ob u h⟩ hn
      · have z := Rep.loc (K := X.K) (H := upd H2 p (KdO p o)) (ρ := more ρ2 st2.length p) (n := (st2 ++ [Ob.kdc [(v, w)]]).length) (k := st2.length) (by rw [e]; exact Nat.lt_succ_self _)
        rw [more_at] at z
        exact z
    · exact hp2.elim
/-! ### read, write -/
theorem ye_nget2 {o e f : Expr} {mo me mf : ME} {apos cpos : Pos} (hu : X.A.units + 20 < cLine) (ho : PE X o (tE (gX X cm) E mo)) (he : PE X e (tE (gX X cm) E me)) (hf : PE X f (tE (gX X cm) E mf)) (m : M2 X o "get" apos e f cpos) :
    PE X (.Call (.Attribute o "get" apos) [e, f] [] cpos) (tE (gX X cm) E (mNGet2 mo me mf)) :=
  PE.weak (pe_nget2 hu ho he hf m) fun σ H Q ⟨ρ, st, env, hs, he, hp⟩ => ⟨ρ, st, env, hs, he, hp.bindI fun v st1 H1 ρ1 x e1 s1 r1 hp1 => by
    have r1 : Rep X.K H1 ρ1 st1.length v x := r1
    cases v with
    | loc j =>
      obtain ⟨rfl, hj⟩ := rep_loc r1
      simp only at hp1
      cases hr : rdN st1 j with
      | none => rw [hr] at hp1; exact hp1.elim
      | some kvs1 =>
        rw [hr] at hp1
        obtain ⟨o1, xs1, its1, nr1, _⟩ := s1.rdN hr
        refine ⟨_, o1, xs1, rfl, nr1, ρ1, st1, env, s1, he.ext hs e1, hp1.bindI fun w st2 H2 ρ2 y e2 s2 r2 hp2 => ⟨ρ2, st2, env, s2, (he.ext hs e1).ext s1 e2, hp2.bindI fun u st3 H3 ρ3 z e3 s3 r3 hp3 => ?_⟩⟩
        have ry : Rep X.K H3 ρ3 st3.length w y := Rep.ext s2 e3 r2
        have rz : Rep X.K H3 ρ3 st3.length u z := r3
        have ej : ρ3 j = ρ1 j := (e3.ag j (Nat.lt_of_lt_of_le hj e2.le)).trans (e2.ag j hj)
        split at hp3
        · rename_i k kvs hk hr3
          obtain ⟨hk1, hd, q, rfl⟩ := keyN_ok hk ry
          obtain ⟨o3, xs, its, nr3, rn⟩ := s3.rdN hr3
          rw [ej] at nr3
          refine ⟨o3, xs, k, q, nr3, rfl, ⟨ρ3, st3.length, w, hk1, ry⟩, hd, ?_⟩
          rcases rn.look hk1 with ⟨a, b, p, q1, q2, q3, q4⟩ | ⟨q1, q2⟩
          · rw [q1] at hp3
            exact ⟨b, (fun p' hp' => by rw [q2] at hp'; cases hp'; exact q4), (fun z => by rw [q2] at z; cases z), Post.at (x := b) hp3 s3 q3⟩
          · rw [q1] at hp3
            exact ⟨z, (fun p' hp' => by rw [q2] at hp'; cases hp'), (fun _ => rfl), Post.at (x := z) hp3 s3 rz⟩
        · exact hp3.elim
    | _ => exact hp1.elim⟩
theorem sn_setN : Snd3 (gX X cm) E oNSet (rSetN X.w X.K) := by
  intro H ρ st a b c x y z Q s ra rb rc h
  unfold oNSet at h
  split at h
  · rename_i j k hk
    obtain ⟨rfl, hj⟩ := rep_loc ra
    have rb : Rep X.K H ρ st.length b y := rb
    have rc : Rep X.K H ρ st.length c z := rc
    obtain ⟨hk1, hd, q, rfl⟩ := keyN_ok hk rb
    split at h
    · rename_i kvs hx
      obtain ⟨o, xs, its, sm, h1, nd, rn⟩ := s.kdc hx
      split at h
      · rename_i hl
        have rn : RepN X.K H ρ st.length kvs xs its := rn
        refine ⟨_, o, xs, k, q, rfl, h1, ⟨sm, .inl h1, nd, rn.ks⟩, by rw [← rn.len.1, ← LIM_line]; exact hl, rfl, ⟨ρ, st.length, b, hk1, rb⟩, hd, fun ob' u ru nd' => ?_⟩
        obtain ⟨its', rn'⟩ := rn.put hk1 rb rc ru
        obtain ⟨kr, rl⟩ := rn'.krel
        refine h _ ρ () ?_ (s.put (ob := .kdc (putA kvs b c)) hj h1 ⟨sm, ob', _, upd_same, nd', kr⟩ rl) trivial
        rw [List.length_set]
        exact Ext.put hj h1 (fun _ _ z => nomatch z) (notC_kdO nd)
      · exact h.elim
    · exact h.elim
  · exact h.elim
/-! ### walks -/
theorem seq_nkeys {k : Nat} {o : Obj} {kvs : List (AV × AV)} {xs : List (NestedKey × Addr × Value)} {its : List (Addr × V)} (s0 : RepS G H ρ st) (h1 : H (ρ k) = some (.frz o (KdO (ρ k) o))) (r : RepN G.K H ρ st.length kvs xs its) : SeqOk G (.kkeys kvs) (Itnk (ρ k) o its) H ρ st.length := by
  intro H' ρ' st' i e s
  have h1' := e.fz _ _ _ h1
  have r' := r.mv (e.tups s0) e.le e.ag
  have hl : kvs.length = its.length := by have := r.len; omega
  simp only [Sq.at]
  refine ⟨fun v hv => ?_, fun hv => ?_⟩
  · cases hi : kvs[i]? with
    | none => rw [hi] at hv; cases hv
    | some p =>
      obtain ⟨a, b⟩ := p
      rw [hi] at hv
      cases hv
      obtain ⟨q, z, e1, ra, rb⟩ := r'.get hi
      refine ⟨⟨h1', (List.getElem?_eq_some_iff.mp e1).1⟩, fun x H'' hy => ?_⟩
      obtain ⟨rfl, q', z', e3, rfl⟩ := hy
      rw [e1] at e3
      cases e3
      exact ⟨.refl, s, ra⟩
  · refine ⟨h1', ?_⟩
    cases hi : kvs[i]? with
    | none => rw [← hl]; exact List.getElem?_eq_none_iff.mp hi
    | some p => rw [hi] at hv; cases hv
theorem seq_nitems {k : Nat} {o : Obj} {kvs : List (AV × AV)} {xs : List (NestedKey × Addr × Value)} {its : List (Addr × V)} (s0 : RepS G H ρ st) (h1 : H (ρ k) = some (.frz o (KdO (ρ k) o))) (r : RepN G.K H ρ st.length kvs xs its) : SeqOk G (.kitems kvs) (Itni (ρ k) o its) H ρ st.length := by
  intro H' ρ' st' i e s
  have h1' := e.fz _ _ _ h1
  have r' := r.mv (e.tups s0) e.le e.ag
  have hl : kvs.length = its.length := by have := r.len; omega
  simp only [Sq.at]
  refine ⟨fun v hv => ?_, fun hv => ?_⟩
  · cases hi : kvs[i]? with
    | none => rw [hi] at hv; cases hv
    | some p =>
      obtain ⟨a, b⟩ := p
      rw [hi] at hv
      cases hv
      obtain ⟨q, z, e1, ra, rb⟩ := r'.get hi
      refine ⟨⟨h1', (List.getElem?_eq_some_iff.mp e1).1⟩, fun x H'' hy => ?_⟩
      obtain ⟨T, q', z', e3, rfl, hT, rfl⟩ := hy
      rw [e1] at e3
      cases e3
      exact tmp_at s hT (.cons ra (.cons rb .nil))
  · refine ⟨h1', ?_⟩
    cases hi : kvs[i]? with
    | none => rw [← hl]; exact List.getElem?_eq_none_iff.mp hi
    | some p => rw [hi] at hv; cases hv
/-- a dict of ours is read alone from now on -/
theorem frz_at {k : Nat} {kvs : List (AV × AV)} (s : RepS G H ρ st) (hx : st[k]? = some (.kdc kvs)) : ∃ o xs its, NR G.w G.K H (ρ k) o xs ∧ EsR xs its ∧ FrzTo H (ρ k) o (upd H (ρ k) (.frz o (KdO (ρ k) o))) ∧ Ext H ρ st.length (upd H (ρ k) (.frz o (KdO (ρ k) o))) ρ (st.set k (.fkd kvs)).length ∧
    RepS G (upd H (ρ k) (.frz o (KdO (ρ k) o))) ρ (st.set k (.fkd kvs)) ∧ RepN G.K (upd H (ρ k) (.frz o (KdO (ρ k) o))) ρ (st.set k (.fkd kvs)).length kvs xs its := by
  obtain ⟨o, xs, its, sm, h1, nd, rn⟩ := s.kdc hx
  have hj := lt_of_at hx
  obtain ⟨kr, rl⟩ := rn.krel
  have t : Tups G.K H (upd H (ρ k) (.frz o (KdO (ρ k) o))) := tups_at h1 .ext (notC_kdO nd)
  refine ⟨o, xs, its, ⟨sm, .inl h1, nd, rn.ks⟩, rn.esr, .inl ⟨h1, rfl⟩, ?_, s.put (ob := .fkd kvs) hj h1 ⟨sm, o, xs, upd_same, nd, kr⟩ rl, ?_⟩
  · rw [List.length_set]
    exact Ext.put hj h1 (fun _ _ z => nomatch z) (notC_kdO nd)
  · rw [List.length_set]
    exact rn.mv t (Nat.le_refl _) fun _ _ => rfl
theorem yi_nkeys {tg l : Expr} {m : ME} (h : PE X l (tE (gX X cm) E m)) : PI X tg l (tI (gX X cm) E (miNKeys m)) :=
  PI.weak (pi_nkeys h) fun σ H R ⟨ρ, st, env, hs, he, hp⟩ => ⟨ρ, st, env, hs, he, hp.bindI fun v st1 H1 ρ1 x e1 s1 r1 hp1 => by
    have r1 : Rep X.K H1 ρ1 st1.length v x := r1
    cases v with
    | loc k =>
      obtain ⟨rfl, hk⟩ := rep_loc r1
      simp only at hp1
      split at hp1
      · rename_i kvs hx
        obtain ⟨o, xs, its, nr, er, f, e2, s2, rn⟩ := frz_at s1 hx
        exact ⟨_, o, xs, its, _, rfl, nr, er, f, hp1 _ ρ1 _ e2 s2 (seq_nkeys s2 upd_same rn)⟩
      · rename_i kvs hx
        obtain ⟨o, xs, its, sm, h1, nd, rn⟩ := s1.fkd hx
        exact ⟨_, o, xs, its, _, rfl, ⟨sm, .inr h1, nd, rn.ks⟩, rn.esr, .inr ⟨h1, rfl⟩, Post.at hp1 s1 (seq_nkeys s1 h1 rn)⟩
      · exact hp1.elim
    | _ => exact hp1.elim⟩
theorem yi_nitems {e : Expr} {m : ME} {apos cpos : Pos} {elts : List Expr} {kk : Nat} {tpos : Pos} (h : PE X e (tE (gX X cm) E m)) (hbase : attributeBase e "items" X.env (eval e X.env) = eval e X.env := by rfl) (hline : (apos.endLine == cpos.line) = true := by rfl) :
    PI X (.Tuple elts kk tpos) (.Call (.Attribute e "items" apos) [] [] cpos) (tI (gX X cm) E (miNItems m)) :=
  PI.weak (pi_nitems h hbase hline) fun σ H R ⟨ρ, st, env, hs, he, hp⟩ => ⟨ρ, st, env, hs, he, hp.bindI fun v st1 H1 ρ1 x e1 s1 r1 hp1 => by
    have r1 : Rep X.K H1 ρ1 st1.length v x := r1
    cases v with
    | loc k =>
      obtain ⟨rfl, hk⟩ := rep_loc r1
      simp only at hp1
      split at hp1
      · rename_i kvs hx
        obtain ⟨o, xs, its, nr, er, f, e2, s2, rn⟩ := frz_at s1 hx
        exact ⟨_, o, xs, its, _, rfl, nr, er, f, hp1 _ ρ1 _ e2 s2 (seq_nitems s2 upd_same rn)⟩
      · rename_i kvs hx
        obtain ⟨o, xs, its, sm, h1, nd, rn⟩ := s1.fkd hx
        exact ⟨_, o, xs, its, _, rfl, ⟨sm, .inr h1, nd, rn.ks⟩, rn.esr, .inr ⟨h1, rfl⟩, Post.at hp1 s1 (seq_nitems s1 h1 rn)⟩
      · exact hp1.elim
    | _ => exact hp1.elim⟩
end
end Y
set_option Elab.async false
set_option linter.all false
set_option maxRecDepth 100000
/-! Y38: sorted, of tuples -/
namespace Y
open PySem PySem.Spec L2
open PyProof.Rows hiding St
def rSortedDT (K : PySem.W.Frag) : List V → Hp → VK → Prop := fun vs H Q => ∃ a xs ds, vs = [.ref a] ∧ SqT K H a xs ∧ DpAll K H xs ds ∧ PySem.W.AllAlike ds ∧ PySem.W.Sortable ds ∧ PyData.depthAll ds ≤ 16 ∧
  ∀ p, H p = none → Q (.ref p) (upd H p (.lst ((isort leD (xs.zip ds)).map Prod.fst)))
section
variable {X : Cx}
theorem cr_sortedDT (hu : X.A.units + 64 < cLine) : CallR X (.builtin "sorted") (rSortedDT X.K) := by
  intro pins s σ H vs us Q I r h
  obtain ⟨a, xs, ds, rfl, hs, hd, hal, hsr, hdp, q⟩ := h
  obtain ⟨its, rv, ⟨oT, ho, hc, n, hdt⟩, hz⟩ := I.tuple hs
  rw [Vals.ref1 r]
  have hlen := dpAll_len hd
  obtain ⟨e1, e2⟩ := each_of I rv hd
  have hzl : (xs.zip ds).length = xs.length := by rw [List.length_zip, ← hlen, Nat.min_self]
  have hil : its.length ≤ sizeLine := by rw [← rv.length]; exact hz
  have hall : PySem.W.AllAlike ((xs.zip ds).map Prod.snd) := by rw [zipV_snd hlen]; exact hal
  have hsor : PySem.W.Sortable ((xs.zip ds).map Prod.snd) := by rw [zipV_snd hlen]; exact hsr
  have hbnd : ∀ b, b ∈ xs.zip ds → X.A.in1.in1.units + b.2.depth < cLine := fun b hb => by
    have hm : b.2 ∈ ds := by rw [← zipV_snd hlen]; exact List.mem_map.mpr ⟨b, hb, rfl⟩
    have := depth_le hdp b.2 hm
    show X.A.units + 1 + 1 + b.2.depth < cLine
    omega
  refine Calls.call_function_entry PyProof.Rows.kind_sorted PyProof.Rows.plain_sorted PyProof.Rows.entry_sorted (PyProof.Rows.args_sorted1 _) ?_
  unfold Builtin.«sorted»
  refine wpAny_bind (m := checkCount "sorted" 1 1 _) (wpAny_pure ?_)
  refine wpAny_bind (wpAny_collect_seq a (.inr rfl) ho hc hdt (fun h' kp => ?_) (by simpa using hil))
  refine wpAny_bind (wpAny_newList ?_ (by simpa using hil))
  obtain ⟨hp1, g, dr, tk, os⟩ := s
  have hoL : (h'.push (seqObj "list" its.toArray 0)).get? h'.objs.size = some (seqObj "list" its.toArray 0) := Heap.get?_push_size _ rfl
  have old : ∀ b o, hp1.get? b = some o → (h'.push (seqObj "list" its.toArray 0)).get? b = some o := fun b o e => Heap.get?_push_of_some _ (kp b o e)
  have ltL : ∀ b o, hp1.get? b = some o → b < h'.objs.size := fun b o e => Heap.lt_size (kp b o e)
  have er' : PySem.W.EachIs (fun v (b : V × PyData) => ∃ as, Reads (PySem.W.sortingHeap (h'.push (seqObj "list" its.toArray 0)) h'.objs.size its) v b.2 as) its (xs.zip ds) :=
    e2.mono fun _ _ ⟨as, rd⟩ => ⟨as, PyProof.Rows.Reads.keeps (fun b o e => PySem.W.sortingHeap_old (Nat.ne_of_lt (ltL b o e)) (old b o e)) rd⟩
  have S : PySem.W.SortsAt X.prog X.w X.A.in1.in1 { (⟨h'.push (seqObj "list" its.toArray 0), g, dr, tk, os⟩ : Shared) with heap := PySem.W.sortingHeap (h'.push (seqObj "list" its.toArray 0)) h'.objs.size its } (PySem.W.dataKind (PySem.W.sortingHeap (h'.push (seqObj "list" its.toArray 0)) h'.objs.size its) ((xs.zip ds).map Prod.snd)) its :=
    PySem.W.SortsAt.data (PySem.W.each_map (R := fun v d => ∃ as, Reads (PySem.W.sortingHeap (h'.push (seqObj "list" its.toArray 0)) h'.objs.size its) v d as) Prod.snd er') hall hsor (PySem.W.bound_map hbnd)
  have hts : its.toArray.toList = its := by simp
  show wpAny _ _ _ _ _ (⟨h'.push (seqObj "list" its.toArray.toList.toArray 0), g, dr, tk, os⟩ : Shared)
  rw [hts]
  refine wpAny_bind (wpAny_holding (wpAny_call_entry PyProof.Rows.slot_list_sort ⟨_, hoL, rfl⟩ PyProof.Rows.entry_list_sort ?body (PyProof.Rows.args_list_sort _)))
  case body =>
    refine PySem.W.list_sort_vals (s := ⟨h'.push (seqObj "list" its.toArray 0), g, dr, tk, os⟩) hoL S hil ⟨_, rfl, ?_⟩
    have h2 := PySem.W.sortVals_data (h' := PySem.W.sortingHeap (h'.push (seqObj "list" its.toArray 0)) h'.objs.size its) false e1 er' hall
    rw [leD_eq, isort_eq leD_total] at h2
    obtain ⟨out, hout⟩ : ∃ out, out = PySem.W.sortVals (PySem.W.dataKind (PySem.W.sortingHeap (h'.push (seqObj "list" its.toArray 0)) h'.objs.size its) ((xs.zip ds).map Prod.snd)) false its its := ⟨_, rfl⟩
    rw [← hout] at h2 ⊢
    obtain ⟨ep, he'⟩ := PyProof.Rows.sortedHeap_at (vs := its) (out := out.toArray) hoL
    have hlen2 : ((isort leD (xs.zip ds)).map Prod.fst).length ≤ sizeLine := by rw [List.length_map, isort_perm.length_eq, hzl]; exact hz
    have I1 : L2.Inv X pins σ H ⟨h', g, dr, tk, os⟩ := I.kept (t' := tk) kp
    refine wpAny_pure ⟨_, rfl, .ref h'.objs.size, upd H h'.objs.size (.lst ((isort leD (xs.zip ds)).map Prod.fst)), I1.laid (t' := tk) (fun b u e => ?_) (Nat.le_refl _) ⟨hlen2, out, ep, vals_each h2, he'⟩, rfl, q _ (I1.hok.fresh (Nat.le_refl _))⟩
    have hb := Heap.lt_size e
    rw [PyProof.Rows.sortedHeap_old (Nat.ne_of_lt hb) (by rw [size_push']; exact Nat.lt_succ_of_lt hb)]
    exact Heap.get?_push_of_some _ e
end
/-- sorted of a tuple -/
def oSortedT : ON := fun vs st => match vs with
  | [.tup zs] => match mapO (den st DEEP) zs with
    | some ds => if alikeB ds && sortB ds then .ok (.loc st.length) (st ++ [.lst ((isort leD (zs.zip ds)).map Prod.fst)]) else .bad
    | none => .bad
  | _ => .bad
def strsA : List AV → Option (List Str)
  | [] => some []
  | .str s :: r => (strsA r).map (s :: ·)
  | _ :: _ => none
def leS (a b : Str) : Bool := !decide (b.cps.toList < a.cps.toList)
def leI (a b : Int) : Bool := decide (a ≤ b)
/-- sorted of a dict: its keys -/
def oSortedK : ON := fun vs st => match vs with
  | [.loc k] => match rdK st k with
    | some kvs => match strsA (kvs.map (·.1)) with
      | some ks => if ks.length < 64 then .ok (.loc st.length) (st ++ [.lst ((isort leS ks).map AV.str)]) else .bad
      | none => match intsA (kvs.map (·.1)) with
        | some ks => if ks.length < 64 then .ok (.loc st.length) (st ++ [.lst ((isort leI ks).map AV.int)]) else .bad
        | none => .bad
    | none => .bad
  | _ => .bad
def rSortedK : List V → Hp → VK → Prop := fun xs H Q => (∃ (a : Addr) (kvs : List (Key × V)) (ks : List Str), xs = [.ref a] ∧ Rd H a (.dK kvs) ∧ kvs.map (·.1) = ks.map Sum.inr ∧ ks.length < 64 ∧
    ∀ ys p, ys.Perm ks → sortedS ys = true → H p = none → Q (.ref p) (upd H p (.lst (ys.map V.str)))) ∨
  ∃ (a : Addr) (kvs : List (Key × V)) (ks : List Int), xs = [.ref a] ∧ Rd H a (.dK kvs) ∧ kvs.map (·.1) = ks.map Sum.inl ∧ ks.length < 64 ∧
    ∀ (ys : List Int) (p : Addr), ys.Perm ks → ys.Pairwise (· ≤ ·) → H p = none → Q (.ref p) (upd H p (.lst (ys.map V.int)))
theorem cr_sortedK {X : Cx} (hc : X.calm = true) : CallR X (.builtin "sorted") rSortedK := CallR.or (call_sortedD hc) (call_sortedDI hc)
theorem leS_total : PySem.W.TotalLe leS := by
  refine ⟨fun a b c h1 h2 => ?_, fun a b => ?_⟩
  · unfold leS at *
    simp only [Bool.not_eq_true', decide_eq_false_iff_not, List.not_lt] at *
    exact List.le_trans h1 h2
  · unfold leS
    simp only [Bool.not_eq_true', decide_eq_false_iff_not, List.not_lt]
    exact List.le_total _ _
theorem leI_total : PySem.W.TotalLe leI := by
  refine ⟨fun a b c h1 h2 => ?_, fun a b => ?_⟩
  · unfold leI at *
    simp only [decide_eq_true_eq] at *
    omega
  · unfold leI
    simp only [decide_eq_true_eq]
    omega
theorem leS_anti {a b : Str} (h1 : leS a b = true) (h2 : leS b a = true) : a = b := by
  unfold leS at h1 h2
  simp only [Bool.not_eq_true', decide_eq_false_iff_not, List.not_lt] at h1 h2
  exact PySem.W.str_of_cps (List.le_antisymm h1 h2)
section
variable {X : Cx} {cm : CM} {E : EX} {G : GK} {K : PySem.W.Frag} {H : Hp} {ρ : Nat → Addr} {n : Nat} {st : Sto}
theorem sn_sortedT : SndN (gX X cm) E oSortedT (rSortedDT X.K) := by
  intro H ρ st vs xs Q s r h
  unfold oSortedT at h
  split at h
  · obtain ⟨x, rfl, rx⟩ := r.one
    obtain ⟨a, ys, rfl, hp, r1⟩ := rep_tup rx
    split at h
    · rename_i ds hd
      split at h
      · rename_i hc
        rw [Bool.and_eq_true] at hc
        obtain ⟨d1, d2, d3⟩ := dps_of (dp_of s DEEP) r1 hd
        exact ⟨_, ys, ds, rfl, hp.seq, d1, alikeB_ok hc.1, sortB_ok hc.2, d3, fun p hn => list_at s (repZ_of r1).isort.fst hn h⟩
      · exact h.elim
    · exact h.elim
  · exact h.elim
theorem rising_pair : ∀ {ys : List Str} {p : Str}, risingS p ys = true → (p :: ys).Pairwise (fun a b => leS a b = true)
  | [], p, _ => by simp
  | x :: r, p, h => by
    rw [risingS, Bool.and_eq_true] at h
    have ih := rising_pair h.2
    rw [List.pairwise_cons]
    refine ⟨fun a ha => ?_, ih⟩
    have h1 : leS p x = true := by unfold leS; rw [le_meets]; exact h.1
    rcases List.mem_cons.mp ha with rfl | ha
    · exact h1
    · exact leS_total.trans _ _ _ h1 ((List.pairwise_cons.mp ih).1 a ha)
theorem sorted_isort {ys ks : List Str} (hp : ys.Perm ks) (hs : sortedS ys = true) : ys = isort leS ks := by
  have h1 : ys.Pairwise (fun a b => leS a b = true) := by
    cases ys with
    | nil => exact .nil
    | cons x r => exact rising_pair hs
  exact List.Perm.eq_of_pairwise (le := fun a b => leS a b = true) (fun _ _ _ _ a b => leS_anti a b) h1 (isort_pair leS_total) (hp.trans isort_perm.symm)
theorem sorted_isortI {ys ks : List Int} (hp : ys.Perm ks) (hs : ys.Pairwise (· ≤ ·)) : ys = isort leI ks := by
  have h1 : ys.Pairwise (fun a b => leI a b = true) := hs.imp fun h => decide_eq_true h
  exact List.Perm.eq_of_pairwise (le := fun a b => leI a b = true) (fun a b _ _ x y => by
    have x := of_decide_eq_true x
    have y := of_decide_eq_true y
    omega) h1 (isort_pair leI_total) (hp.trans isort_perm.symm)
theorem strsA_map : ∀ {vs : List AV} {ks : List Str}, strsA vs = some ks → vs = ks.map AV.str
  | [], ks, h => by cases h; rfl
  | v :: vs, ks, h => by
    cases v with
    | str s =>
      simp only [strsA] at h
      obtain ⟨r, e, rfl⟩ := Option.map_eq_some_iff.mp h
      rw [strsA_map e]; rfl
    | _ => simp [strsA] at h
theorem intsA_map' : ∀ {vs : List AV} {ks : List Int}, intsA vs = some ks → vs = ks.map AV.int
  | [], ks, h => by cases h; rfl
  | v :: vs, ks, h => by
    cases v with
    | int s =>
      simp only [intsA] at h
      obtain ⟨r, e, rfl⟩ := Option.map_eq_some_iff.mp h
      rw [intsA_map' e]; rfl
    | _ => simp [intsA] at h
theorem keys_inr : ∀ {ks : List Str} {l : List Key}, l.map keyAV = ks.map AV.str → l = ks.map Sum.inr
  | [], [], _ => rfl
  | [], _ :: _, h => by simp at h
  | _ :: _, [], h => by simp at h
  | k :: ks, a :: l, h => by
    simp only [List.map_cons, List.cons.injEq] at h
    rw [keys_inr h.2, List.map_cons]
    cases a with
    | inl i => cases h.1
    | inr s => cases h.1; rfl
theorem keys_inl : ∀ {ks : List Int} {l : List Key}, l.map keyAV = ks.map AV.int → l = ks.map Sum.inl
  | [], [], _ => rfl
  | [], _ :: _, h => by simp at h
  | _ :: _, [], h => by simp at h
  | k :: ks, a :: l, h => by
    simp only [List.map_cons, List.cons.injEq] at h
    rw [keys_inl h.2, List.map_cons]
    cases a with
    | inr i => cases h.1
    | inl s => cases h.1; rfl
theorem repL_strs' : ∀ {ks : List Str}, RepL K H ρ n (ks.map AV.str) (ks.map V.str)
  | [] => .nil
  | k :: ks => .cons (.str k) repL_strs'
theorem repL_ints' : ∀ {ks : List Int}, RepL K H ρ n (ks.map AV.int) (ks.map V.int)
  | [] => .nil
  | k :: ks => .cons (.int k) repL_ints'
theorem sn_sortedK : SndN (gX X cm) E oSortedK rSortedK := by
  intro H ρ st vs xs Q s r h
  unfold oSortedK at h
  split at h
  · obtain ⟨x, rfl, rx⟩ := r.one
    obtain ⟨rfl, hk⟩ := rep_loc rx
    split at h
    · rename_i kvs hx
      obtain ⟨ks, h1, h2⟩ := s.rdK hx
      have hf := h2.fst
      split at h
      · rename_i ss hs
        split at h
        · rename_i hl
          have e1 := strsA_map hs
          have e2 : ks.map (·.1) = ss.map Sum.inr := keys_inr (by rw [← e1, hf, List.map_map]; rfl)
          refine .inl ⟨_, ks, ss, rfl, h1, e2, hl, fun ys p hp hsort hn => ?_⟩
          rw [sorted_isort hp hsort]
          exact list_at s repL_strs' hn h
        · exact h.elim
      · split at h
        · rename_i ss hs
          split at h
          · rename_i hl
            have e1 := intsA_map' hs
            have e2 : ks.map (·.1) = ss.map Sum.inl := keys_inl (by rw [← e1, hf, List.map_map]; rfl)
            refine .inr ⟨_, ks, ss, rfl, h1, e2, hl, fun ys p hp hsort hn => ?_⟩
            rw [sorted_isortI hp hsort]
            exact list_at s repL_ints' hn h
          · exact h.elim
        · exact h.elim
    · exact h.elim
  · exact h.elim
end
end Y
set_option Elab.async false
set_option linter.all false
set_option maxRecDepth 100000
/-! Y39: comprehensions with two clauses; of dicts -/
namespace Y
open PySem PySem.Spec L2
open PyProof.Rows hiding St
/-- the outer turns -/
def lcTurns2 (q : Sq) (g : MG) (t : MT) (it1 : MI) (g1 : MG) (t1 : MT) (e : ME) (own1 : List Nat) (env : Ev) : Nat → Nat → List AV → Sto → R (List AV)
  | 0, _, _, _ => .bad
  | f + 1, i, acc, st => match q.at st i with
    | none => .bad
    | some none => .ok acc st
    | some (some x) => (g x env st).bind fun env' st => (t env' st).bind fun k st =>
      if k then (it1 env' st).bind fun q1 st => (lcTurns q1 g1 t1 e (wipeE env' own1) (q1.len st + 1) 0 acc st).bind fun acc st => lcTurns2 q g t it1 g1 t1 e own1 env f (i + 1) acc st
      else lcTurns2 q g t it1 g1 t1 e own1 env f (i + 1) acc st
def mLc2 (it : MI) (g : MG) (t : MT) (it1 : MI) (g1 : MG) (t1 : MT) (e : ME) (own own1 : List Nat) : ME := fun env st => (it env st).bind fun q st =>
  (lcTurns2 q g t it1 g1 t1 e own1 (wipeE env own) (q.len st + 1) 0 [] st).bind fun acc st => oLst acc st
/-- a dict comprehension's turns -/
def dcTurns (q : Sq) (g : MG) (t : MT) (k e : ME) (env : Ev) : Nat → Nat → List (AV × AV) → Sto → R (List (AV × AV))
  | 0, _, _, _ => .bad
  | f + 1, i, acc, st => match q.at st i with
    | none => .bad
    | some none => .ok acc st
    | some (some x) => (g x env st).bind fun env' st => (t env' st).bind fun b st =>
      if b then (k env' st).bind fun y st => (e env' st).bind fun z st => match keyOf y with
        | some _ => if acc.length < LIM then dcTurns q g t k e env f (i + 1) (putA acc y z) st else .bad
        | none => .bad
      else dcTurns q g t k e env f (i + 1) acc st
def mDc (it : MI) (g : MG) (t : MT) (k e : ME) (own : List Nat) : ME := fun env st => (it env st).bind fun q st =>
  (dcTurns q g t k e (wipeE env own) (q.len st + 1) 0 [] st).bind fun acc st => .ok (.loc st.length) (st ++ [.dct acc])
section
variable {X : Cx} {cm : CM} {E : EX} {G : GK} {sl sl1 : List Nat} {mg mg1 : MG} {tg tg1 : Expr} {pos : Pos}
/-- what lies apart grows: the ways on -/
theorem Ext.wr {H0 H1 : Hp} {ρ0 ρ1 : Nat → Addr} {n0 n1 : Nat} {D : Addr} {o u : HO} (e : Ext H0 ρ0 n0 H1 ρ1 n1) (hD : H0 D = none) (hu : H1 D = some u) (nc : NotC D u := by first | exact notC_lst | exact notC_dK | assumption) : Ext H0 ρ0 n0 (upd H1 D o) ρ1 n1 :=
  ⟨e.le, e.ag, fun a o h nt hk => by rw [upd_ne (ne_of_none h hD)]; exact e.fr a o h nt hk, e.nw, fun a o h => by rw [upd_ne (ne_of_none h hD)]; exact e.kp a o h, fun a ob u h => by rw [upd_ne (ne_of_none h hD)]; exact e.fz a ob u h⟩
theorem RepE.mv {K : PySem.W.Frag} {H H1 : Hp} {ρ : Nat → Addr} {n : Nat} {env : Ev} {σ : St} (t : Tups K H H1) (h : RepE K H ρ n env σ) : RepE K H1 ρ n env σ :=
  ⟨h.1, fun i v hv => let ⟨x, h1, h2⟩ := h.2 i v hv; ⟨x, h1, rep_mv t (Nat.le_refl _) (fun _ _ => rfl) _ _ h2⟩⟩
theorem tLc2_of {it : MI} {as1 : MA} {mt mt1 : MT} {me : ME} {vs vs1 : List Nat} (hsl : ∀ i ∈ sl, i ∈ vs) (hsl1 : ∀ i ∈ sl1, i ∈ vs1) (σ : St) (H : Hp) (Q : VK) (h : tE G E (mLc2 it mg mt (miR1 as1) mg1 mt1 me vs vs1) σ H Q) :
    tLc2 (tI G E it) (tG G E sl mg) (tT G E mt) (iRng1 (tA G E as1)) (tG G E sl1 mg1) (tT G E mt1) (tE G E me) vs vs1 σ H Q := by
  obtain ⟨ρ, st, env, hs, he, hp⟩ := h
  refine ⟨ρ, st, env, hs, he, hp.bindI fun q st1 H1 ρ1 J e1 s1 ok hp1 => fun D hD => ?_⟩
  have he1 := he.ext hs e1
  refine ⟨fun i m H => ∃ ρ2 st2 acc ys, Ext H1 ρ1 st1.length H ρ2 st2.length ∧ RepS G H ρ2 st2 ∧ H D = some (.lst ys) ∧ RepL G.K H ρ2 st2.length acc ys ∧ (∀ k, k < st2.length → ρ2 k ≠ D) ∧ RepE G.K H ρ2 st2.length env σ ∧
      Post G E H1 ρ1 st1.length (rV G.K) ((lcTurns2 q mg mt (miR1 as1) mg1 mt1 me vs1 (wipeE env vs) m i acc st2).bind fun acc st => oLst acc st) Q,
    ⟨_, ρ1, st1, [], [], Ext.lay hD, s1.lay hD, upd_same, .nil, s1.ne_new hD, he1.ext s1 (Ext.lay hD), hp1⟩, ?_⟩
  rintro i m H ⟨ρ2, st2, acc, ys, e2, s2, hDy, ra, hne, he2, hp2⟩
  obtain ⟨hgo, hstop⟩ := ok H ρ2 st2 i e2 s2
  cases m with
  | zero => exact hp2.elim
  | succ f =>
    simp only [lcTurns2] at hp2
    cases hq : q.at st2 i with
    | none => rw [hq] at hp2; exact hp2.elim
    | some o =>
      rw [hq] at hp2
      cases o with
      | none =>
        refine .inl ⟨hstop hq, ?_⟩
        have hp3 : Post G E H1 ρ1 st1.length (rV G.K) (oLst acc st2) Q := hp2
        unfold oLst at hp3
        split at hp3
        · have e : (st2 ++ [Ob.lst acc]).length = st2.length + 1 := by simp
          refine hp3 H (more ρ2 st2.length D) _ (by rw [e]; exact e2.take_in hD) (s2.take_in (ob := .lst acc) hne hDy ra) ?_
          have z := Rep.loc (K := G.K) (H := H) (ρ := more ρ2 st2.length D) (n := (st2 ++ [Ob.lst acc]).length) (k := st2.length) (by rw [e]; exact Nat.lt_succ_self _)
          rw [more_at] at z
          exact z
        · exact hp3.elim
      | some v =>
        obtain ⟨go, yl⟩ := hgo v hq
        refine .inr ⟨go, fun H => ∃ ρ2 st2 acc ys, Ext H1 ρ1 st1.length H ρ2 st2.length ∧ RepS G H ρ2 st2 ∧ H D = some (.lst ys) ∧ RepL G.K H ρ2 st2.length acc ys ∧ (∀ k, k < st2.length → ρ2 k ≠ D) ∧ RepE G.K H ρ2 st2.length env σ ∧
            Post G E H1 ρ1 st1.length (rV G.K) ((lcTurns2 q mg mt (miR1 as1) mg1 mt1 me vs1 (wipeE env vs) f (i + 1) acc st2).bind fun acc st => oLst acc st) Q,
          fun H' hN => ⟨f, Nat.lt_succ_self f, hN⟩, fun x H' hy => ?_⟩
        obtain ⟨e3, s3, r3⟩ := yl x H' hy
        obtain ⟨hne3, hD3⟩ := e3.apart hDy hne
        have he3 := he2.ext s2 e3
        have hp3 : Post G E H1 ρ1 st1.length (rV G.K) ((mg v (wipeE env vs) st2).bind fun env' st => ((mt env' st).bind fun k st => if k then (miR1 as1 env' st).bind fun q1 st => (lcTurns q1 mg1 mt1 me (wipeE env' vs1) (q1.len st + 1) 0 acc st).bind fun acc st => lcTurns2 q mg mt (miR1 as1) mg1 mt1 me vs1 (wipeE env vs) f (i + 1) acc st
            else lcTurns2 q mg mt (miR1 as1) mg1 mt1 me vs1 (wipeE env vs) f (i + 1) acc st).bind fun acc st => oLst acc st) Q := by
          rw [← R.bind_assoc]
          exact hp2
        refine ⟨ρ2, st2, wipeE env vs, v, s3, he3.wiped vs, r3, hp3.bindB (e2.trans e3) fun env4 st4 H4 ρ4 σ4 e4 s4 q4 hp4 => ?_⟩
        obtain ⟨q4, hl4, hn4⟩ := q4
        obtain ⟨hne4, hD4⟩ := e4.apart hD3 hne3
        have e24 := (e2.trans e3).trans e4
        refine ⟨?_, ρ4, st4, env4, s4, q4, ?_⟩
        · rw [wipe_eq hl4 fun i hi => hn4 i fun z => hi (hsl i z)]
          exact wipe_eq (wipe_length σ vs) fun i hi => wipe_out hi
        · rw [R.bind_assoc] at hp4
          refine hp4.bindB e24 fun k st5 H5 ρ5 b e5 s5 r5 hp5 => ?_
          cases (show b = k from r5)
          obtain ⟨hne5, hD5⟩ := e5.apart hD4 hne4
          have e25 := e24.trans e5
          have he5 := (he3.ext s3 e4).ext s4 e5
          have q5 := RepE.ext s4 e5 q4
          have ra5 := (RepL.ext s4 e5 (RepL.ext s3 e4 (RepL.ext s2 e3 ra)))
          cases k with
          | false =>
            refine iteF ?_
            exact ⟨ρ5, st5, acc, ys, e25, s5, hD5, ra5, hne5, he5, hp5⟩
          | true =>
            refine iteT ⟨ρ5, st5, env4, s5, q5, ?_⟩
            rw [if_pos rfl, R.bind_assoc] at hp5
            rw [ev_R1, R.bind_assoc] at hp5
            refine hp5.bindB e25 fun vs6 st6 H6 ρ6 xs6 e6 s6 r6 hp6 => ?_
            have r6 : RepL G.K H6 ρ6 st6.length vs6 xs6 := r6
            split at hp6
            · rename_i j6 _
              obtain ⟨x6, rfl, rx6⟩ := r6.one
              cases rep_int rx6
              split at hp6
              · rename_i hj6
                obtain ⟨hj1, hj2⟩ := rngOk_iff hj6
                refine ⟨j6, rfl, hj1, hj2, ?_⟩
                obtain ⟨hne6, hD6⟩ := e6.apart hD5 hne5
                have e26 := e25.trans e6
                have he6 := he5.ext s5 e6
                have q6 := RepE.ext s5 e6 q5
                have ra6 := RepL.ext s5 e6 ra5
                rw [R.bind_ok, R.bind_assoc] at hp6
                have hlen : (Sq.rng 0 j6.toNat).len st6 = j6.toNat := rfl
                -- the inner turns
                refine ⟨fun j k H => ∃ ρ7 st7 acc ys, RepS G H ρ7 st7 ∧ H D = some (.lst ys) ∧ RepL G.K H ρ7 st7.length acc ys ∧ (∀ k, k < st7.length → ρ7 k ≠ D) ∧ RepE G.K H ρ7 st7.length env σ ∧ RepE G.K H ρ7 st7.length env4 σ4 ∧ Ext H1 ρ1 st1.length H ρ7 st7.length ∧
                    Post G E H1 ρ1 st1.length (rV G.K) ((lcTurns (.rng 0 j6.toNat) mg1 mt1 me (wipeE env4 vs1) k j acc st7).bind fun acc st => (lcTurns2 q mg mt (miR1 as1) mg1 mt1 me vs1 (wipeE env vs) f (i + 1) acc st).bind fun acc st => oLst acc st) Q,
                  ⟨_, ρ6, st6, acc, ys, s6, hD6, ra6, hne6, he6, q6, e26, hp6⟩, ?_⟩
                rintro j k H ⟨ρ7, st7, acc, ys, s7, hD7, ra7, hne7, he7, q7, e27, hp7⟩
                cases k with
                | zero => exact hp7.elim
                | succ k =>
                  simp only [lcTurns] at hp7
                  by_cases hlt : j < j6.toNat
                  · have hat : (Sq.rng 0 j6.toNat).at st7 j = some (some (.int (0 + (j : Nat)))) := by show some (if j < j6.toNat then _ else _) = _; rw [if_pos hlt]
                    rw [hat] at hp7
                    refine .inr ⟨hlt, fun H => ∃ ρ7 st7 acc ys, RepS G H ρ7 st7 ∧ H D = some (.lst ys) ∧ RepL G.K H ρ7 st7.length acc ys ∧ (∀ k, k < st7.length → ρ7 k ≠ D) ∧ RepE G.K H ρ7 st7.length env σ ∧ RepE G.K H ρ7 st7.length env4 σ4 ∧ Ext H1 ρ1 st1.length H ρ7 st7.length ∧
                        Post G E H1 ρ1 st1.length (rV G.K) ((lcTurns (.rng 0 j6.toNat) mg1 mt1 me (wipeE env4 vs1) k (j + 1) acc st7).bind fun acc st => (lcTurns2 q mg mt (miR1 as1) mg1 mt1 me vs1 (wipeE env vs) f (i + 1) acc st).bind fun acc st => oLst acc st) Q,
                      fun H' hN => ⟨k, Nat.lt_succ_self k, hN⟩, fun x H' hy => ?_⟩
                    obtain ⟨rfl, rfl⟩ := hy
                    simp only at hp7
                    rw [R.bind_assoc] at hp7
                    refine ⟨ρ7, st7, wipeE env4 vs1, .int (0 + (j : Nat)), s7, q7.wiped vs1, .int _, hp7.bindB e27 fun env8 st8 H8 ρ8 σ8 e8 s8 q8 hp8 => ?_⟩
                    obtain ⟨q8, hl8, hn8⟩ := q8
                    obtain ⟨hne8, hD8⟩ := e8.apart hD7 hne7
                    have e28 := e27.trans e8
                    refine ⟨?_, ρ8, st8, env8, s8, q8, ?_⟩
                    · rw [wipe_eq hl8 fun i hi => hn8 i fun z => hi (hsl1 i z)]
                      exact wipe_eq (wipe_length σ4 vs1) fun i hi => wipe_out hi
                    · rw [R.bind_assoc] at hp8
                      refine hp8.bindB e28 fun k9 st9 H9 ρ9 b9 e9 s9 r9 hp9 => ?_
                      cases (show b9 = k9 from r9)
                      obtain ⟨hne9, hD9⟩ := e9.apart hD8 hne8
                      have e29 := e28.trans e9
                      have he9 := (he7.ext s7 e8).ext s8 e9
                      have q9 := (RepE.ext s7 e8 q7).ext s8 e9
                      have ra9 := RepL.ext s8 e9 (RepL.ext s7 e8 ra7)
                      cases k9 with
                      | false =>
                        refine iteF ?_
                        exact ⟨ρ9, st9, acc, ys, s9, hD9, ra9, hne9, he9, q9, e29, hp9⟩
                      | true =>
                        refine iteT ⟨ρ9, st9, env8, s9, RepE.ext s8 e9 q8, ?_⟩
                        rw [if_pos rfl, R.bind_assoc] at hp9
                        refine hp9.bindB e29 fun y st10 H10 ρ10 z e10 s10 r10 hp10 => ?_
                        obtain ⟨hne10, hD10⟩ := e10.apart hD9 hne9
                        have e210 := e29.trans e10
                        have he10 := he9.ext s9 e10
                        have q10 := q9.ext s9 e10
                        have ra10 := RepL.ext s9 e10 ra9
                        split at hp10
                        · rename_i hltL
                          have hl := ra10.length
                          have t := tups_at (o := .lst (ys ++ [z])) (K := G.K) hD10 .lst
                          refine ⟨ys, hD10, by rw [← hl, ← LIM_line]; exact hltL, ρ10, st10, acc ++ [y], ys ++ [z], s10.grow hD10 hne10, upd_same, ?_, hne10, he10.mv t, q10.mv t, e210.wr hD hD10, hp10⟩
                          exact RepL.append (repL_mv t (Nat.le_refl _) (fun _ _ => rfl) _ _ ra10) (.cons (rep_mv t (Nat.le_refl _) (fun _ _ => rfl) _ _ r10) .nil)
                        · exact hp10.elim
                  · have hat : (Sq.rng 0 j6.toNat).at st7 j = some none := by show some (if j < j6.toNat then _ else _) = _; rw [if_neg hlt]
                    rw [hat] at hp7
                    exact .inl ⟨Nat.le_of_not_lt hlt, ρ7, st7, acc, ys, e27, s7, hD7, ra7, hne7, he7, hp7⟩
              · exact hp6.elim
            · exact hp6.elim
/-- [e for .. in .. for .. in range(n)] -/
theorem ye_lc2 {elt iter a1 : Expr} {ifs ifs1 : List Expr} {scope : Scope} (own : List (Str × Nat)) (vs1 : List Nat) {it : MI} {as1 : MA} {mt mt1 : MT} {me : ME} {p1 p2 : Pos} (hc : X.calm = true) (hN : X.N.Nodup) (hi : PI X tg iter (tI (gX X cm) E it)) (ok : BlkOk X.N X.env.scope scope own) (hv : ∀ i ∈ vs1, i ∈ own.map (·.2))
    (hg : ∀ (s : Shared) (H : Hp) (C : Addr) (cl : List (Str × Addr)) (fp : List Addr), PG (X.blk s H scope (compEnvC scope cl C X.env) fp) tg (tG (gX X cm) E sl mg)) (ht : ∀ (s : Shared) (H : Hp) (C : Addr) (cl : List (Str × Addr)) (fp : List Addr), PTs (X.blk s H scope (compEnvC scope cl C X.env) fp) ifs (tT (gX X cm) E mt))
    (hr : ∀ (s : Shared) (H : Hp) (C : Addr) (cl : List (Str × Addr)) (fp : List Addr), Gl (X.blk s H scope (compEnvC scope cl C X.env) fp) "range") (hm : X.mg "range" = none)
    (ha1 : ∀ (s : Shared) (H : Hp) (C : Addr) (cl : List (Str × Addr)) (fp : List Addr), PA (X.blk s H scope (compEnvC scope cl C X.env) fp) [a1] (tA (gX X cm) E as1))
    (hg1 : ∀ (s : Shared) (H : Hp) (C : Addr) (cl : List (Str × Addr)) (fp : List Addr), PG (X.blk s H scope (compEnvC scope cl C X.env) fp) tg1 (tG (gX X cm) E sl1 mg1)) (ht1 : ∀ (s : Shared) (H : Hp) (C : Addr) (cl : List (Str × Addr)) (fp : List Addr), PTs (X.blk s H scope (compEnvC scope cl C X.env) fp) ifs1 (tT (gX X cm) E mt1))
    (he : ∀ (s : Shared) (H : Hp) (C : Addr) (cl : List (Str × Addr)) (fp : List Addr), PE (X.blk s H scope (compEnvC scope cl C X.env) fp) elt (tE (gX X cm) E me)) (hsl : ∀ i ∈ sl, i ∈ own.map (·.2)) (hsl1 : ∀ i ∈ sl1, i ∈ vs1)
    (hst : ∀ env, starEach [a1] env = [(false, eval a1 env)]) (hs : ∀ x, foldedSetIterable iter X.env x = pure x := by intro _; rfl) (hs1 : ∀ env x, foldedSetIterable (.Call (.Name "range" p1) [a1] [] p2) env x = pure x := by intro _ _; rfl) :
    PE X (.ListComp elt [⟨tg, iter, ifs, 0⟩, ⟨tg1, .Call (.Name "range" p1) [a1] [] p2, ifs1, 0⟩] scope pos) (tE (gX X cm) E (mLc2 it mg mt (miR1 as1) mg1 mt1 me (own.map (·.2)) vs1)) :=
  PE.weak (pe_lc2 hc hN hi ok hv hg ht (fun s H C cl fp => pi_range1 (hr s H C cl fp) hm (ha1 s H C cl fp) (hst _)) hg1 ht1 he hs hs1) (tLc2_of hsl hsl1)
/-! ### dict comprehensions -/
theorem RepD.mv {K : PySem.W.Frag} {H H1 : Hp} {ρ ρ1 : Nat → Addr} {n n1 : Nat} (t : Tups K H H1) (hl : n ≤ n1) (ag : ∀ k, k < n → ρ1 k = ρ k) {kvs : List (AV × AV)} {ks : List (Key × V)} (h : RepD K H ρ n kvs ks) : RepD K H1 ρ1 n1 kvs ks :=
  repD_of h.fst (repL_mv t hl ag _ _ h.snd)
theorem RepS.growD {H : Hp} {ρ : Nat → Addr} {st : Sto} {D : Addr} {ks ls : List (Key × V)} (s : RepS G H ρ st) (h : H D = some (.dK ks)) (hn : ∀ k, k < st.length → ρ k ≠ D) : RepS G (upd H D (.dK ls)) ρ st :=
  s.mv (fun k hk => upd_ne (hn k hk)) (tups_at h .dK) fun _ q => tabs_at h notC_dK _ _ (s.tb _ q)
theorem tDc_of {it : MI} {mt : MT} {mk me : ME} {vs : List Nat} (hsl : ∀ i ∈ sl, i ∈ vs) (σ : St) (H : Hp) (Q : VK) (h : tE G E (mDc it mg mt mk me vs) σ H Q) : tDc (tI G E it) (tG G E sl mg) (tT G E mt) (tE G E mk) (tE G E me) vs σ H Q := by
  obtain ⟨ρ, st, env, hs, he, hp⟩ := h
  refine ⟨ρ, st, env, hs, he, hp.bindI fun q st1 H1 ρ1 J e1 s1 ok hp1 => fun D hD => ?_⟩
  have he1 := he.ext hs e1
  refine ⟨fun i m H => ∃ ρ2 st2 acc ks, Ext H1 ρ1 st1.length H ρ2 st2.length ∧ RepS G H ρ2 st2 ∧ H D = some (.dK ks) ∧ RepD G.K H ρ2 st2.length acc ks ∧ (∀ k, k < st2.length → ρ2 k ≠ D) ∧ RepE G.K H ρ2 st2.length env σ ∧
      Post G E H1 ρ1 st1.length (rV G.K) ((dcTurns q mg mt mk me (wipeE env vs) m i acc st2).bind fun acc st => .ok (.loc st.length) (st ++ [.dct acc])) Q,
    ⟨_, ρ1, st1, [], [], Ext.lay hD, s1.lay hD, upd_same, .nil, s1.ne_new hD, he1.ext s1 (Ext.lay hD), hp1⟩, ?_⟩
  rintro i m H ⟨ρ2, st2, acc, ks, e2, s2, hDy, ra, hne, he2, hp2⟩
  obtain ⟨hgo, hstop⟩ := ok H ρ2 st2 i e2 s2
  cases m with
  | zero => exact hp2.elim
  | succ f =>
    simp only [dcTurns] at hp2
    cases hq : q.at st2 i with
    | none => rw [hq] at hp2; exact hp2.elim
    | some o =>
      rw [hq] at hp2
      cases o with
      | none =>
        refine .inl ⟨hstop hq, ?_⟩
        have e : (st2 ++ [Ob.dct acc]).length = st2.length + 1 := by simp
        refine hp2 H (more ρ2 st2.length D) _ (by rw [e]; exact e2.take_in hD) (s2.take_in (ob := .dct acc) hne ⟨ks, hDy, ra.fst, rfl⟩ ra.snd) ?_
        have z := Rep.loc (K := G.K) (H := H) (ρ := more ρ2 st2.length D) (n := (st2 ++ [Ob.dct acc]).length) (k := st2.length) (by rw [e]; exact Nat.lt_succ_self _)
        rw [more_at] at z
        exact z
      | some v =>
        obtain ⟨go, yl⟩ := hgo v hq
        refine .inr ⟨go, fun H => ∃ ρ2 st2 acc ks, Ext H1 ρ1 st1.length H ρ2 st2.length ∧ RepS G H ρ2 st2 ∧ H D = some (.dK ks) ∧ RepD G.K H ρ2 st2.length acc ks ∧ (∀ k, k < st2.length → ρ2 k ≠ D) ∧ RepE G.K H ρ2 st2.length env σ ∧
            Post G E H1 ρ1 st1.length (rV G.K) ((dcTurns q mg mt mk me (wipeE env vs) f (i + 1) acc st2).bind fun acc st => .ok (.loc st.length) (st ++ [.dct acc])) Q,
          fun H' hN => ⟨f, Nat.lt_succ_self f, hN⟩, fun x H' hy => ?_⟩
        obtain ⟨e3, s3, r3⟩ := yl x H' hy
        obtain ⟨hne3, hD3⟩ := e3.apart hDy hne
        have he3 := he2.ext s2 e3
        have ra3 := ra.mv (e3.tups s2) e3.le e3.ag
        simp only [R.bind_assoc] at hp2
        refine ⟨ρ2, st2, wipeE env vs, v, s3, he3.wiped vs, r3, hp2.bindB (e2.trans e3) fun env4 st4 H4 ρ4 σ4 e4 s4 q4 hp4 => ?_⟩
        obtain ⟨q4, hl4, hn4⟩ := q4
        obtain ⟨hne4, hD4⟩ := e4.apart hD3 hne3
        have e24 := (e2.trans e3).trans e4
        refine ⟨?_, ρ4, st4, env4, s4, q4, ?_⟩
        · rw [wipe_eq hl4 fun i hi => hn4 i fun z => hi (hsl i z)]
          exact wipe_eq (wipe_length σ vs) fun i hi => wipe_out hi
        · refine hp4.bindB e24 fun k st5 H5 ρ5 b e5 s5 r5 hp5 => ?_
          cases (show b = k from r5)
          obtain ⟨hne5, hD5⟩ := e5.apart hD4 hne4
          have e25 := e24.trans e5
          have he5 := (he3.ext s3 e4).ext s4 e5
          have ra5 := (ra3.mv (e4.tups s3) e4.le e4.ag).mv (e5.tups s4) e5.le e5.ag
          cases k with
          | false =>
            refine iteF ?_
            exact ⟨ρ5, st5, acc, ks, e25, s5, hD5, ra5, hne5, he5, hp5⟩
          | true =>
            refine iteT ⟨ρ5, st5, env4, s5, RepE.ext s4 e5 q4, ?_⟩
            rw [if_pos rfl, R.bind_assoc] at hp5
            refine hp5.bindB e25 fun y st6 H6 ρ6 z e6 s6 r6 hp6 => ?_
            obtain ⟨hne6, hD6⟩ := e6.apart hD5 hne5
            have e26 := e25.trans e6
            have he6 := he5.ext s5 e6
            have ra6 := ra5.mv (e6.tups s5) e6.le e6.ag
            rw [R.bind_assoc] at hp6
            refine ⟨ρ6, st6, env4, s6, (RepE.ext s4 e5 q4).ext s5 e6, hp6.bindB e26 fun w st7 H7 ρ7 x7 e7 s7 r7 hp7 => ?_⟩
            obtain ⟨hne7, hD7⟩ := e7.apart hD6 hne6
            have e27 := e26.trans e7
            have he7 := he6.ext s6 e7
            have ra7 := ra6.mv (e7.tups s6) e7.le e7.ag
            split at hp7
            · rename_i k7 hk7
              have hv := keyOf_eq hk7
              subst hv
              have ry : Rep G.K H6 ρ6 st6.length (keyAV k7) z := r6
              cases rep_key ry
              split at hp7
              · rename_i hlt
                have hl := ra7.len
                have t := tups_at (o := .dK (putK ks k7 x7)) (K := G.K) hD7 .dK
                refine ⟨ks, k7, rfl, hD7, by rw [← hl, ← LIM_line]; exact hlt, ρ7, st7, putA acc (keyAV k7) w, putK ks k7 x7, e27.wr hD hD7, s7.growD hD7 hne7, upd_same, ?_, hne7, he7.mv t, hp7⟩
                exact (ra7.put r7).mv t (Nat.le_refl _) fun _ _ => rfl
              · exact hp7.elim
            · exact hp7.elim
theorem ye_dc {kx vx iter : Expr} {ifs : List Expr} {scope : Scope} (own : List (Str × Nat)) {it : MI} {mt : MT} {mk me : ME} (hc : X.calm = true) (hN : X.N.Nodup) (hi : PI X tg iter (tI (gX X cm) E it)) (ok : BlkOk X.N X.env.scope scope own)
    (hg : ∀ (s : Shared) (H : Hp) (C : Addr) (cl : List (Str × Addr)) (fp : List Addr), PG (X.blk s H scope (compEnvC scope cl C X.env) fp) tg (tG (gX X cm) E sl mg)) (ht : ∀ (s : Shared) (H : Hp) (C : Addr) (cl : List (Str × Addr)) (fp : List Addr), PTs (X.blk s H scope (compEnvC scope cl C X.env) fp) ifs (tT (gX X cm) E mt))
    (hk : ∀ (s : Shared) (H : Hp) (C : Addr) (cl : List (Str × Addr)) (fp : List Addr), PE (X.blk s H scope (compEnvC scope cl C X.env) fp) kx (tE (gX X cm) E mk))
    (he : ∀ (s : Shared) (H : Hp) (C : Addr) (cl : List (Str × Addr)) (fp : List Addr), PE (X.blk s H scope (compEnvC scope cl C X.env) fp) vx (tE (gX X cm) E me)) (hsl : ∀ i ∈ sl, i ∈ own.map (·.2)) (hs : ∀ x, foldedSetIterable iter X.env x = pure x := by intro _; rfl) :
    PE X (.DictComp kx vx [⟨tg, iter, ifs, 0⟩] scope pos) (tE (gX X cm) E (mDc it mg mt mk me (own.map (·.2)))) := PE.weak (pe_dc hc hN hi ok hg ht hk he hs) (tDc_of hsl)
end
end Y
set_option Elab.async false
set_option linter.all false
set_option maxRecDepth 100000
set_option maxHeartbeats 1000000
/-! Y40: list(zip(..)) of lists and tuples -/
namespace ZL
open PySem PySem.W PySem.Calls PyProof.Rows PySem.Spec
open PySem.Sem (wp)
abbrev IsZipB (h : Heap) (z TI TO : Addr) (f0 : Value) (b : Bool) : Prop := h.get? z = some { cls := .type "zip", data := .fields #[f0, .bool b, .bool false, .ref TI, .ref TO] }
section
variable {prog : Program} {w : World} {A : Around} {E : Value → Shared → Prop} {s : Shared} {z TI TO i1 i2 : Addr} {fp1 fp2 : List Addr} {n1 n2 i : Nat} {P1 P2 : Nat → Value → Prop} {St1 St2 : Nat → Heap → Prop} {a1 a2 : Value}
theorem free_out {T : Addr} {b : Bool} {oT : Obj} {Q : Bool → Shared → Prop} (hz : IsZipB s.heap z TI TO (rawInt T) b) (hT : s.heap.get? T = some oT)
    (h : ∀ g0, IsZipB g0 z TI TO (rawInt T) true → Heap.SameBut z s.heap g0 → Q false { s with heap := g0 }) : wpAny (model prog w) A (Builtin.SmallTypes.ownedTupleIsFree (.ref z)) Q E s := by
  obtain ⟨hp, g, d, tk0, os⟩ := s
  unfold Builtin.SmallTypes.ownedTupleIsFree
  refine wpAny_bind (wpAny_field hz rfl (x := rawInt T) rfl ?_)
  show wpAny _ _ (loadIfAlive ((T : Int).toNat) >>= _) _ _ _
  rw [Int.toNat_natCast]
  refine wpAny_bind (kdx_alive hT ?_)
  simp only [Option.isNone_some, Bool.false_eq_true, if_false]
  refine wpAny_bind (wpAny_field hz rfl (x := .bool b) rfl ?_)
  cases b with
  | true =>
    rw [if_neg (show ¬ ((Value.bool true != Value.bool true) = true) from Bool.false_ne_true)]
    exact wpAny_pure (h hp hz (Heap.SameBut.refl _ _))
  | false =>
    rw [if_pos (show (Value.bool false != Value.bool true) = true from rfl)]
    refine wpAny_bind (wpAny_setField_rec hz (by simp) fun g0 hz0 hs0 => ?_)
    exact wpAny_pure (h g0 hz0 hs0)
/-- the tuple that is out stays out -/
theorem out_next_item {T : Addr} {b : Bool} {oT : Obj} {Q : Value → Shared → Prop} (S : ZipSep2 z TI TO i1 i2 fp1 fp2) (D1 : Draws prog w A i1 fp1 n1 P1 St1) (D2 : Draws prog w A i2 fp2 n2 P2 St2)
    (hz : IsZipB s.heap z TI TO (rawInt T) b) (hT : s.heap.get? T = some oT) (hTI : IsTupOf2 s.heap TI (.ref i1) (.ref i2)) (st1 : St1 i s.heap) (st2 : St2 i s.heap) (hlt1 : i < n1) (hlt2 : i < n2)
    (hQ : ∀ x1 x2 h' tk, P1 i x1 → P2 i x2 → IsZipB h' z TI TO (rawInt T) true → St1 (i + 1) h' → St2 (i + 1) h' → IsTupOf2 h' s.heap.objs.size x1 x2 → h'.objs.size = s.heap.objs.size + 1 →
      (∀ c o, c ≠ z → c ≠ i1 → c ≠ i2 → s.heap.get? c = some o → h'.get? c = some o) → Q (.ref s.heap.objs.size) { s with heap := h', toks := tk }) :
    wpAny (model prog w) A (Builtin.«zip.__next__» ⟨[.ref z], []⟩) (fun fin s' => ∃ v, fin = .done (.ret v) ∧ Q v s') E s := by
  obtain ⟨hp, g, d, tk0, os⟩ := s
  show wpAny _ _ (field (.ref z) 2 >>= _) _ _ _
  refine wpAny_bind (wpAny_field hz rfl (x := .bool false) rfl ?_)
  show wpAny _ _ (field (.ref z) 3 >>= _) _ _ _
  refine wpAny_bind (wpAny_field hz rfl (x := .ref TI) rfl ?_)
  refine wpAny_bind (wpAny_seqItems hTI rfl ?_)
  show wpAny _ _ (Builtin.SmallTypes.ownedTupleIsFree (.ref z) >>= _) _ _ _
  refine wpAny_bind (free_out hz hT fun g0 hz0 hs0 => ?_)
  replace hs0 : Heap.SameBut z hp g0 := hs0
  simp only [Bool.false_eq_true, if_false]
  refine wpAny_bind ?_
  simp only [List.forIn_toArray, List.forIn_cons, List.forIn_nil]
  refine wpAny_bind (wpAny_bind (wpAny_holding ?_))
  show wpAny _ _ (Builtin.SmallTypes.nextOf (.ref i1) >>= _) _ _ ⟨g0, g, d, tk0, os⟩
  refine wpAny_bind (D1.item i _ _ _ hlt1 (D1.over st1 hs0 S.zf1) fun x1 p1 tk1 hx1 sn1 hp1 => wpAny_pure (wpAny_pure ?_))
  replace hp1 : Heap.SameBut i1 g0 p1 := hp1
  refine wpAny_bind (wpAny_bind (wpAny_holding ?_))
  show wpAny _ _ (Builtin.SmallTypes.nextOf (.ref i2) >>= _) _ _ ⟨p1, g, d, tk1, os⟩
  refine wpAny_bind (D2.item i _ _ _ hlt2 (D2.over (D2.over st2 hs0 S.zf2) hp1 S.sep1_2) fun x2 p2 tk2 hx2 sn2 hp2 => wpAny_pure (wpAny_pure (wpAny_pure ?_)))
  replace hp2 : Heap.SameBut i2 p1 p2 := hp2
  refine wpAny_bind (wpAny_newTuple ?_ (by show 2 ≤ sizeLine; decide))
  have hsz : p2.objs.size = hp.objs.size := by rw [hp2.1, hp1.1, hs0.1]
  have hzz : IsZipB p2 z TI TO (rawInt T) true := hp2.extBut _ _ S.zi2 (hp1.extBut _ _ S.zi1 hz0)
  have hkk : ∀ c o, c ≠ z → c ≠ i1 → c ≠ i2 → hp.get? c = some o → p2.get? c = some o := fun c o cz c1 c2 e => hp2.extBut _ _ c2 (hp1.extBut _ _ c1 (hs0.extBut _ _ cz e))
  have hj1 : St1 (i + 1) p2 := D1.over sn1 hp2 S.sep2_1
  refine wpAny_pure ⟨_, rfl, ?_⟩
  show Q (.ref p2.objs.size) ⟨p2.push { cls := .type "tuple", data := .seq #[x1, x2] }, g, d, tk2, os⟩
  have hpt : IsTupOf2 (p2.push { cls := .type "tuple", data := .seq #[x1, x2] }) p2.objs.size x1 x2 := Heap.get?_push_size _ rfl
  have hps : (p2.push { cls := .type "tuple", data := .seq #[x1, x2] }).objs.size = p2.objs.size + 1 := Heap.size_push ..
  rw [hsz] at hpt hps ⊢
  exact hQ x1 x2 _ tk2 hx1 hx2 (Heap.get?_push_of_some _ hzz) (D1.frame _ _ _ hj1 fun b _ o e => Heap.get?_push_of_some _ e) (D2.frame _ _ _ sn2 fun b _ o e => Heap.get?_push_of_some _ e) hpt hps fun c o cz c1 c2 e => Heap.get?_push_of_some _ (hkk c o cz c1 c2 e)
theorem out_next_end {T : Addr} {b : Bool} {oT : Obj} {Q : Fin → Shared → Prop} (S : ZipSep2 z TI TO i1 i2 fp1 fp2) (D1 : Draws prog w A i1 fp1 n1 P1 St1) (D2 : Draws prog w A i2 fp2 n2 P2 St2)
    (hz : IsZipB s.heap z TI TO (rawInt T) b) (hT : s.heap.get? T = some oT) (hTI : IsTupOf2 s.heap TI (.ref i1) (.ref i2)) (st1 : St1 i s.heap) (st2 : St2 i s.heap) (hle1 : i ≤ n1) (hle2 : i ≤ n2) (hend : i = n1 ∨ i = n2)
    (hE : ∀ h' tk e, (∀ c o, c ≠ z → c ≠ i1 → c ≠ i2 → s.heap.get? c = some o → h'.get? c = some o) → (∃ o, h'.get? e = some o ∧ o.cls = .type "StopIteration") → E (.ref e) { s with heap := h', toks := tk }) :
    wpAny (model prog w) A (Builtin.«zip.__next__» ⟨[.ref z], []⟩) Q E s := by
  obtain ⟨hp, g, d, tk0, os⟩ := s
  show wpAny _ _ (field (.ref z) 2 >>= _) _ _ _
  refine wpAny_bind (wpAny_field hz rfl (x := .bool false) rfl ?_)
  show wpAny _ _ (field (.ref z) 3 >>= _) _ _ _
  refine wpAny_bind (wpAny_field hz rfl (x := .ref TI) rfl ?_)
  refine wpAny_bind (wpAny_seqItems hTI rfl ?_)
  show wpAny _ _ (Builtin.SmallTypes.ownedTupleIsFree (.ref z) >>= _) _ _ _
  refine wpAny_bind (free_out hz hT fun g0 hz0 hs0 => ?_)
  replace hs0 : Heap.SameBut z hp g0 := hs0
  simp only [Bool.false_eq_true, if_false]
  refine wpAny_bind ?_
  simp only [List.forIn_toArray, List.forIn_cons, List.forIn_nil]
  refine wpAny_bind (wpAny_bind (wpAny_holding ?_))
  show wpAny _ _ (Builtin.SmallTypes.nextOf (.ref i1) >>= _) _ _ ⟨g0, g, d, tk0, os⟩
  by_cases hlt1 : i < n1
  · refine wpAny_bind (D1.item i _ _ _ hlt1 (D1.over st1 hs0 S.zf1) fun x1 p1 tk1 hx1 sn1 hp1 => wpAny_pure (wpAny_pure ?_))
    replace hp1 : Heap.SameBut i1 g0 p1 := hp1
    refine wpAny_bind (wpAny_bind (wpAny_holding ?_))
    show wpAny _ _ (Builtin.SmallTypes.nextOf (.ref i2) >>= _) _ _ ⟨p1, g, d, tk1, os⟩
    have hi2 : i = n2 := by omega
    refine wpAny_bind (D2.done ⟨p1, g, d, tk1, os⟩ _ _ (by rw [← hi2]; exact (D2.over (D2.over st2 hs0 S.zf2) hp1 S.sep1_2)) fun q e hq he => ?_)
    replace hq : Heap.ExtBut i2 p1 q := hq
    exact hE q tk1 e (fun c o cz c1 c2 x => hq _ _ c2 (hp1.extBut _ _ c1 (hs0.extBut _ _ cz x))) he
  · have hi1 : i = n1 := by omega
    refine wpAny_bind (D1.done ⟨g0, g, d, tk0, os⟩ _ _ (by rw [← hi1]; exact (D1.over st1 hs0 S.zf1)) fun q e hq he => ?_)
    replace hq : Heap.ExtBut i1 g0 q := hq
    exact hE q tk0 e (fun c o cz c1 c2 x => hq _ _ c1 (hs0.extBut _ _ cz x)) he
/-- what stands between two turns -/
def ZSt (S z TI TO i1 i2 : Addr) (St1 St2 : Nat → Heap → Prop) (h : Heap) (i : Nat) : Prop := IsTupOf2 h TI (.ref i1) (.ref i2) ∧ St1 i h ∧ St2 i h ∧
  ((∃ a b : Value, IsZip h z TI TO .none ∧ IsTupOf2 h TO a b) ∨ ∃ (T : Addr) (b : Bool) (oT : Obj), IsZipB h z TI TO (rawInt T) b ∧ h.get? T = some oT ∧ T ≠ z ∧ T ≠ i1 ∧ T ≠ i2 ∧ T ≠ S)
theorem ZSt.keep {Sx : Addr} {h h' : Heap} (D1 : Draws prog w A i1 fp1 n1 P1 St1) (D2 : Draws prog w A i2 fp2 n2 P2 St2) (st : ZSt Sx z TI TO i1 i2 St1 St2 h i) (k : ∀ b o, b ≠ Sx → h.get? b = some o → h'.get? b = some o)
    (hz : z ≠ Sx) (hTI : TI ≠ Sx) (hTO : TO ≠ Sx) (h1 : Sx ∉ fp1) (h2 : Sx ∉ fp2) : ZSt Sx z TI TO i1 i2 St1 St2 h' i := by
  obtain ⟨a1, a2, a3, a4⟩ := st
  refine ⟨k _ _ hTI a1, D1.frame _ _ _ a2 fun b hb o e => k b o (fun q => h1 (q ▸ hb)) e, D2.frame _ _ _ a3 fun b hb o e => k b o (fun q => h2 (q ▸ hb)) e, ?_⟩
  rcases a4 with ⟨a, b, b1, b2⟩ | ⟨T, b, oT, b1, b2, b3, b4, b5, b6⟩
  · exact .inl ⟨a, b, k _ _ hz b1, k _ _ hTO b2⟩
  · exact .inr ⟨T, b, oT, k _ _ hz b1, k _ _ b6 b2, b3, b4, b5, b6⟩
theorem nxtZ {Sx : Addr} {Q : Option Value → Shared → Prop} (S : ZipSep2 z TI TO i1 i2 fp1 fp2) (D1 : Draws prog w A.in1 i1 fp1 n1 P1 St1) (D2 : Draws prog w A.in1 i2 fp2 n2 P2 St2) (st : ZSt Sx z TI TO i1 i2 St1 St2 s.heap i) (hS : Sx < s.heap.objs.size) (hlt1 : i < n1) (hlt2 : i < n2)
    (hQ : ∀ x1 x2 h' tk, P1 i x1 → P2 i x2 → ZSt Sx z TI TO i1 i2 St1 St2 h' (i + 1) → IsTupOf2 h' s.heap.objs.size x1 x2 → h'.objs.size = s.heap.objs.size + 1 →
      (∀ c o, c ≠ z → c ≠ TO → c ≠ i1 → c ≠ i2 → s.heap.get? c = some o → h'.get? c = some o) → Q (some (.ref s.heap.objs.size)) { s with heap := h', toks := tk }) :
    wpAny (model prog w) A (pyNext (.ref z)) Q E s := by
  obtain ⟨a1, a2, a3, a4⟩ := st
  have l1 : s.heap.objs.size ≠ i1 := by obtain ⟨_, e⟩ := D1.live _ _ a2; exact Nat.ne_of_gt (Heap.lt_size e)
  have l2 : s.heap.objs.size ≠ i2 := by obtain ⟨_, e⟩ := D2.live _ _ a3; exact Nat.ne_of_gt (Heap.lt_size e)
  rcases a4 with ⟨a, b, b1, b2⟩ | ⟨T, b, oT, b1, b2, b3, b4, b5, b6⟩
  · refine wpAny_pyNext_zipD2_item S D1 D2 b1 a1 b2 a2 a3 hlt1 hlt2 fun x1 x2 h' tk y1 y2 c1 c2 d1 d2 c5 c6 hk => ?_
    exact hQ x1 x2 h' tk y1 y2 ⟨hk _ _ S.TIz S.TITO S.TIi1 S.TIi2 a1, d1, d2, .inr ⟨_, false, _, c1, c5, Nat.ne_of_gt (Heap.lt_size b1), l1, l2, Nat.ne_of_gt hS⟩⟩ c5 c6 hk
  · have hT : s.TypeIs (.ref z) "zip" := ⟨_, b1, rfl⟩
    unfold pyNext
    refine wpAny_bind (wpAny_attempt (wpAny_callSpecial?_slot (name := Str.ofString "__next__") hT F.slot_zip_next
      (wpAny_call_entry F.slot_zip_next hT F.entry_zip_next
        (out_next_item S D1 D2 b1 b2 a1 a2 a3 hlt1 hlt2 fun x1 x2 h' tk y1 y2 c1 d1 d2 c5 c6 hk => wpAny_pure ?_) (F.args_zip_next_1 _))))
    exact hQ x1 x2 h' tk y1 y2 ⟨hk _ _ S.TIz S.TIi1 S.TIi2 a1, d1, d2, .inr ⟨T, true, oT, c1, hk _ _ b3 b4 b5 b2, b3, b4, b5, b6⟩⟩ c5 c6 fun c o cz _ c1 c2 e => hk c o cz c1 c2 e
theorem finZ {Sx : Addr} {Q : Option Value → Shared → Prop} (hh : A.handled = none) (S : ZipSep2 z TI TO i1 i2 fp1 fp2) (D1 : Draws prog w A.in1 i1 fp1 n1 P1 St1) (D2 : Draws prog w A.in1 i2 fp2 n2 P2 St2) (st : ZSt Sx z TI TO i1 i2 St1 St2 s.heap i) (hle1 : i ≤ n1) (hle2 : i ≤ n2) (hend : i = n1 ∨ i = n2)
    (hQ : ∀ h' tk, (∀ c o, c ≠ z → c ≠ TO → c ≠ i1 → c ≠ i2 → s.heap.get? c = some o → h'.get? c = some o) → Q none { s with heap := h', toks := tk }) : wpAny (model prog w) A (pyNext (.ref z)) Q E s := by
  obtain ⟨a1, a2, a3, a4⟩ := st
  rcases a4 with ⟨a, b, b1, b2⟩ | ⟨T, b, oT, b1, b2, b3, b4, b5, b6⟩
  · exact wpAny_pyNext_zipD2_end S D1 D2 b1 a1 b2 a2 a3 hle1 hle2 hend hQ
  · have hT : s.TypeIs (.ref z) "zip" := ⟨_, b1, rfl⟩
    unfold pyNext
    refine wpAny_bind (wpAny_attempt (wpAny_callSpecial?_slot (name := Str.ofString "__next__") hT F.slot_zip_next
      (wpAny_call_entry F.slot_zip_next hT F.entry_zip_next (out_next_end S D1 D2 b1 b2 a1 a2 a3 hle1 hle2 hend fun h' tk e hk he => ?_) (F.args_zip_next_1 _))))
    obtain ⟨o, ho, hc⟩ := he
    refine wpAny_bind (wpAny_isInstance (T := "StopIteration") (b := true) ⟨o, ho, hc⟩ isSubtype_stop ?_)
    exact wpAny_pure (hQ _ _ fun c o cz _ c1 c2 e => hk c o cz c1 c2 e)
end
theorem far {a c : Addr} {lo : Nat} (h1 : lo ≤ a) (h2 : c < lo) : a ≠ c := fun e => by
  subst e
  exact absurd (Nat.lt_of_lt_of_le h2 h1) (Nat.lt_irrefl _)
/-- the tuples that were made -/
structure Made (P1 P2 : Nat → Value → Prop) (lo : Nat) (h : Heap) (as : List Addr) : Prop where
  rise : as.Pairwise (· < ·)
  above : ∀ a ∈ as, lo ≤ a
  pairs : ∀ (j : Nat) (a : Addr), as[j]? = some a → ∃ x1 x2, P1 j x1 ∧ P2 j x2 ∧ IsTupOf2 h a x1 x2
theorem Made.there {P1 P2 : Nat → Value → Prop} {lo : Nat} {h : Heap} {as : List Addr} (g : Made P1 P2 lo h as) {a : Addr} (ha : a ∈ as) : a < h.objs.size := by
  obtain ⟨j, hj⟩ := List.mem_iff_getElem?.mp ha
  obtain ⟨_, _, _, _, e⟩ := g.pairs j a hj
  exact Heap.lt_size e
section
variable {prog : Program} {w : World} {A : Around} {s : Shared} {R : Result → Shared → Prop} {z TI TO i1 i2 : Addr} {fp1 fp2 : List Addr} {n1 n2 : Nat} {P1 P2 : Nat → Value → Prop} {St1 St2 : Nat → Heap → Prop}
theorem loopZ {Sx : Addr} {lo : Nat} (hh : A.handled = none) (S : ZipSep2 z TI TO i1 i2 fp1 fp2) (D1 : ∀ A : Around, A.handled = none → Draws prog w A i1 fp1 n1 P1 St1) (D2 : ∀ A : Around, A.handled = none → Draws prog w A i2 fp2 n2 P2 St2)
    (hz : z ≠ Sx) (hTI : TI ≠ Sx) (hTO : TO ≠ Sx) (hf1 : Sx ∉ fp1) (hf2 : Sx ∉ fp2) (hi1 : i1 < lo) (hi2 : i2 < lo) (hzl : z < lo) (hTl : TO < lo) (hSl : Sx < lo) (hn : min n1 n2 ≤ sizeLine) (res : Value) {h₁ : Heap}
    (hR : ∀ h' tk acc c as, (∀ b o, b ≠ Sx → b ≠ z → b ≠ TO → b ≠ i1 → b ≠ i2 → h₁.get? b = some o → h'.get? b = some o) → h'.get? Sx = some { cls := .type "list", dict := none, data := .seq acc c, slots := #[] } → as.length = min n1 n2 → Made P1 P2 lo h' as →
      acc.toList = as.map Value.ref → R (.ok (.ret res)) { s with heap := h', toks := tk }) :
    ∀ (k i : Nat) (h : Heap) (tk c : Nat) (acc : Array Value) (as : List Addr), min n1 n2 - i = k → i ≤ min n1 n2 → ZSt Sx z TI TO i1 i2 St1 St2 h i → (∀ b o, b ≠ Sx → b ≠ z → b ≠ TO → b ≠ i1 → b ≠ i2 → h₁.get? b = some o → h.get? b = some o) →
      h.get? Sx = some { cls := .type "list", dict := none, data := .seq acc c, slots := #[] } → acc.toList = as.map Value.ref → as.length = i → Made P1 P2 lo h as → lo ≤ h.objs.size →
      codeAny (model prog w) A (.builtin "list.extend.loop" ⟨[.ref Sx, .ref z, res], []⟩) R { s with heap := h, toks := tk } := by
  have hS1 : i1 ≠ Sx := fun e => hf1 (e ▸ S.mem1)
  have hS2 : i2 ≠ Sx := fun e => hf2 (e ▸ S.mem2)
  have E1 := D1 A.in1.in1 hh
  have E2 := D2 A.in1.in1 hh
  intro k
  induction k with
  | zero =>
    intro i h tk c acc as hk hi hst hkeep hS hacc hal hG hIs
    refine codeAny_builtin PySem.F.entry_extend_loop ?_
    rw [Around.under_plainId PySem.F.plain_extend_loop _]
    show wpAny _ A.in1 (pyNext (.ref z) >>= _) _ _ _
    refine wpAny_bind (finZ (s := { s with heap := h, toks := tk }) (A := A.in1) hh S E1 E2 hst (by omega) (by omega) (by omega) fun h' tk' he => ?_)
    refine wpAny_pure (hR h' tk' acc c as (fun b o h1 h2 h3 h4 h5 e => he b o h2 h3 h4 h5 (hkeep b o h1 h2 h3 h4 h5 e)) (he Sx _ hz.symm hTO.symm hS1.symm hS2.symm hS) (by omega) ⟨hG.rise, hG.above, fun j a hj => ?_⟩ hacc)
    obtain ⟨x1, x2, e1, e2, e3⟩ := hG.pairs j a hj
    have := hG.above a (List.mem_of_getElem? hj)
    exact ⟨x1, x2, e1, e2, he a _ (far this hzl) (far this hTl) (far this hi1) (far this hi2) e3⟩
  | succ k ih =>
    intro i h tk c acc as hk hi hst hkeep hS hacc hal hG hIs
    have hlt : i < min n1 n2 := by omega
    have hsz : acc.size = i := by rw [← Array.length_toList, hacc, List.length_map, hal]
    refine codeAny_builtin PySem.F.entry_extend_loop ?_
    rw [Around.under_plainId PySem.F.plain_extend_loop _]
    show wpAny _ A.in1 (pyNext (.ref z) >>= _) _ _ _
    refine wpAny_bind (nxtZ (s := { s with heap := h, toks := tk }) (A := A.in1) S E1 E2 hst (Heap.lt_size hS) (by omega) (by omega) fun x1 x2 h' tk' hx1 hx2 hst' ht hz' hkp => ?_)
    dsimp only at ht hz' hkp ⊢
    have hS' := hkp Sx _ hz.symm hTO.symm hS1.symm hS2.symm hS
    have up : ∀ b o, b ≠ Sx → h'.get? b = some o → (h'.update Sx (Obj.mapSeq (·.push (Value.ref h.objs.size)))).get? b = some o := fun b o hb e => (Heap.get?_update_other _ _ (Ne.symm hb)).trans e
    have hSl' : Sx < h.objs.size := Heap.lt_size hS
    show wpAny _ A.in1 (updateSeq Sx (·.push (Value.ref h.objs.size)) >>= _) _ _ _
    refine wpAny_bind ?_
    refine wpAny_updateSeq hS' rfl (wpAny_pure ⟨plainId_quiet PySem.F.plain_extend_loop _, ih (i + 1) _ tk' _ (acc.push (Value.ref h.objs.size)) (as ++ [h.objs.size]) (by omega) hlt (ZSt.keep E1 E2 hst' up hz hTI hTO hf1 hf2)
      (fun b o h1 h2 h3 h4 h5 e => up b o h1 (hkp b o h2 h3 h4 h5 (hkeep b o h1 h2 h3 h4 h5 e))) (Heap.get?_update_self _ hS' rfl) (by rw [Array.toList_push, hacc, List.map_append]; rfl) (by rw [List.length_append, hal]; rfl) ⟨?_, ?_, ?_⟩ ?_⟩) (by rw [hsz]; omega) (by show (acc.push (Value.ref h.objs.size)).size ≤ sizeLine + 1; rw [Array.size_push, hsz]; omega)
    · refine List.pairwise_append.mpr ⟨hG.rise, List.pairwise_singleton _ _, fun a ha b hb => ?_⟩
      rw [List.mem_singleton.mp hb]
      exact hG.there ha
    · intro a ha
      rcases List.mem_append.mp ha with ha | ha
      · exact hG.above a ha
      · rw [List.mem_singleton.mp ha]; exact hIs
    · intro j b hj
      rcases Nat.lt_trichotomy j as.length with h1 | h1 | h1
      · rw [List.getElem?_append_left h1] at hj
        obtain ⟨x1, x2, e1, e2, e3⟩ := hG.pairs j b hj
        have hb := hG.above b (List.mem_of_getElem? hj)
        exact ⟨x1, x2, e1, e2, up b _ (far hb hSl) (hkp b _ (far hb hzl) (far hb hTl) (far hb hi1) (far hb hi2) e3)⟩
      · subst h1
        have hb : h.objs.size = b := by simpa using hj
        subst hb
        exact ⟨x1, x2, by rw [hal]; exact hx1, by rw [hal]; exact hx2, up _ _ (Nat.ne_of_gt hSl') ht⟩
      · have hnone : (as ++ [h.objs.size])[j]? = none := List.getElem?_eq_none (by rw [List.length_append, List.length_singleton]; omega)
        rw [hnone] at hj; cases hj
    · have e : (h'.update Sx (Obj.mapSeq (·.push (Value.ref h.objs.size)))).get? h.objs.size = _ := up _ _ (Nat.ne_of_gt hSl') ht
      exact Nat.le_trans hIs (Nat.le_of_lt (Heap.lt_size e))
end
theorem nolen_zip : typeLookup (.type "zip") "__len__" = pure none := by rw [typeLookup_type, builtinLookup_eq_fast]; kernel_rfl
theorem nohint_zip : typeLookup (.type "zip") "__length_hint__" = pure none := by rw [typeLookup_type, builtinLookup_eq_fast]; kernel_rfl
section
variable {prog : Program} {w : World} {A : Around} {E : Value → Shared → Prop} {s : Shared} {z TI TO i1 i2 : Addr} {fp1 fp2 : List Addr} {n1 n2 : Nat} {P1 P2 : Nat → Value → Prop} {St1 St2 : Nat → Heap → Prop}
theorem hint_zip {Q : Bool → Shared → Prop} (hT : s.TypeIs (.ref z) "zip") (h : Q true s) : wpAny (model prog w) A (Builtin.List.listLengthHint (.ref z)) Q E s := by
  unfold Builtin.List.listLengthHint
  refine wpAny_bind (wpAny_specialOf hT nolen_zip ?_)
  show wpAny _ A (specialOf (Value.ref z) (Str.ofString "__length_hint__") >>= _) _ _ _
  refine wpAny_bind (wpAny_specialOf hT nohint_zip ?_)
  exact wpAny_pure h
/-- list(z), z a zip just made -/
theorem list_zip {Q : Value → Shared → Prop} (hh : A.handled = none) (S : ZipSep2 z TI TO i1 i2 fp1 fp2) (D1 : ∀ A : Around, A.handled = none → Draws prog w A i1 fp1 n1 P1 St1) (D2 : ∀ A : Around, A.handled = none → Draws prog w A i2 fp2 n2 P2 St2)
    (hz : IsZip s.heap z TI TO .none) (hTI : IsTupOf2 s.heap TI (.ref i1) (.ref i2)) (hTO : ∃ a b : Value, IsTupOf2 s.heap TO a b) (st1 : St1 0 s.heap) (st2 : St2 0 s.heap) (hl1 : ∀ b ∈ fp1, b < s.heap.objs.size) (hl2 : ∀ b ∈ fp2, b < s.heap.objs.size) (hn : min n1 n2 ≤ sizeLine)
    (h : ∀ h' tk acc c as, (∀ b o, b ≠ z → b ≠ TO → b ≠ i1 → b ≠ i2 → s.heap.get? b = some o → h'.get? b = some o) → h'.get? s.heap.objs.size = some { cls := .type "list", dict := none, data := .seq acc c, slots := #[] } → as.length = min n1 n2 → Made P1 P2 (s.heap.objs.size + 1) h' as →
      acc.toList = as.map Value.ref → Q (.ref s.heap.objs.size) { s with heap := h', toks := tk }) :
    wpAny (model prog w) A (call (.type "list") [.ref z]) Q E s := by
  have neS : ∀ {b o}, s.heap.get? b = some o → b ≠ s.heap.objs.size := fun e => Nat.ne_of_lt (Heap.lt_size e)
  obtain ⟨a0, b0, hTO⟩ := hTO
  refine callType_codes (Q₁ := fun obj s₁ => obj = .ref s.heap.objs.size ∧ s₁ = { s with heap := s.heap.push { cls := .type "list", data := .seq #[] } }) PySem.F.called_list (PySem.F.typeCall_list_1 _) PySem.F.entry_list_init
    (code_list_new _ ⟨rfl, rfl⟩) fun obj s₁ h₁ => ?_
  obtain ⟨rfl, rfl⟩ := h₁
  have hS : (s.heap.push { cls := .type "list", data := .seq #[] }).get? s.heap.objs.size = some { cls := .type "list", data := .seq #[] } := Heap.get?_push_size _ rfl
  refine ⟨⟨_, hS, rfl⟩, PySem.F.args_list_init_2 _ _, ?_⟩
  show wpAny _ _ (do let old ← Builtin.List.listItems (.ref s.heap.objs.size); Builtin.List.listUpdate (.ref s.heap.objs.size) (fun _ => #[]); letGo old.toList.reverse; Builtin.List.listExtendWith (.ref s.heap.objs.size) (.ref z) .none) _ _ _
  refine wpAny_bind ?_
  unfold Builtin.List.listItems
  refine wpAny_bind (wpAny_seqItems hS rfl (wpAny_pure ?_))
  show wpAny _ _ (updateSeq s.heap.objs.size (fun _ => #[]) >>= fun _ => letGo (#[] : Array Value).toList.reverse >>= fun _ => Builtin.List.listExtendWith (.ref s.heap.objs.size) (.ref z) .none) _ _ _
  refine wpAny_bind (wpAny_updateSeq hS rfl ?_)
  have hS₂ := Heap.get?_update_self (Obj.mapSeq (fun _ => (#[] : Array Value))) hS rfl
  generalize hg : (s.heap.push { cls := .type "list", data := .seq #[] }).update s.heap.objs.size (Obj.mapSeq (fun _ => (#[] : Array Value))) = g at hS₂
  have og : ∀ b o, s.heap.get? b = some o → g.get? b = some o := fun b o e => by rw [← hg]; exact (Heap.get?_update_other _ _ (neS e).symm).trans (Heap.get?_push_of_some _ e)
  have zg : g.objs.size = s.heap.objs.size + 1 := by rw [← hg, Heap.size_update, Heap.size_push]
  refine wpAny_bind (wpAny_letGo ?_)
  have hTz : ({ s with heap := g } : Shared).TypeIs (.ref z) "zip" := ⟨_, og _ _ hz, rfl⟩
  unfold Builtin.List.listExtendWith
  refine wpAny_bind (wpAny_typeOf hTz ?_)
  have h1 : Builtin.List.listSameRef (.ref s.heap.objs.size) (.ref z) = false := by simp [Builtin.List.listSameRef, (neS hz).symm]
  have h2 : (Value.type "zip" == Value.type "list") = false := by decide
  have h3 : (Value.type "zip" == Value.type "tuple") = false := by decide
  simp only [h1, h2, h3, Bool.or_false, Bool.false_eq_true, if_false]
  refine wpAny_bind (wpAny_pyIter_zip (s := { s with heap := g }) (og _ _ hz) ?_)
  refine wpAny_bind (wpAny_holding (hint_zip hTz ?_))
  rw [if_pos (by rfl)]
  refine wpAny_bind (wpAny_rule ?_)
  refine wpAny_bind ?_
  show wpAny _ A.in1.in1 (updateSeq s.heap.objs.size (·.push .none) >>= fun _ => updateSeq s.heap.objs.size (·.pop)) _ _ _
  refine wpAny_bind (wpAny_updateSeq hS₂ rfl ?_)
  have hS₃ := Heap.get?_update_self (Obj.mapSeq (·.push Value.none)) hS₂ rfl
  refine wpAny_updateSeq (hz := by seq_fits) hS₃ rfl ?_
  have hS₄ := Heap.get?_update_self (Obj.mapSeq (·.pop)) hS₃ rfl
  generalize hg2 : (g.update s.heap.objs.size (Obj.mapSeq (·.push Value.none))).update s.heap.objs.size (Obj.mapSeq (·.pop)) = g2 at hS₄
  have og2 : ∀ b o, s.heap.get? b = some o → g2.get? b = some o := fun b o e => by rw [← hg2]; exact (Heap.get?_update_other _ _ (neS e).symm).trans ((Heap.get?_update_other _ _ (neS e).symm).trans (og b o e))
  have zg2 : g2.objs.size = s.heap.objs.size + 1 := by rw [← hg2, Heap.size_update, Heap.size_update, zg]
  refine wpAny_pure ⟨plainId_quiet PySem.F.plain_extend_loop _, ?_⟩
  have nf1 : s.heap.objs.size ∉ fp1 := fun hm => Nat.lt_irrefl _ (hl1 _ hm)
  have nf2 : s.heap.objs.size ∉ fp2 := fun hm => Nat.lt_irrefl _ (hl2 _ hm)
  refine loopZ (s := s) (A := A.in1) (lo := s.heap.objs.size + 1) (h₁ := s.heap) hh S D1 D2 (neS hz) (neS hTI) (neS hTO) nf1 nf2 (Nat.lt_succ_of_lt (hl1 _ S.mem1)) (Nat.lt_succ_of_lt (hl2 _ S.mem2)) (Nat.lt_succ_of_lt (Heap.lt_size hz)) (Nat.lt_succ_of_lt (Heap.lt_size hTO)) (Nat.lt_succ_self _) hn .none
    (fun h' tk acc c as hk hS' hl hG hacc => ?_) (min n1 n2) 0 g2 _ _ #[] [] (Nat.sub_zero _) (Nat.zero_le _) ⟨og2 _ _ hTI, (D1 A hh).frame _ _ _ st1 fun b _ o e => og2 b o e, (D2 A hh).frame _ _ _ st2 fun b _ o e => og2 b o e, .inl ⟨a0, b0, og2 _ _ hz, og2 _ _ hTO⟩⟩
    (fun b o _ _ _ _ _ e => og2 b o e) (by simpa [Obj.mapSeq] using hS₄) rfl rfl ⟨.nil, (fun _ ha => nomatch ha), (fun j a hj => by simp at hj)⟩ (Nat.le_of_eq zg2.symm)
  exact ⟨rfl, h h' tk acc c as (fun b o h1 h2 h3 h4 e => hk b o (neS e) h1 h2 h3 h4 e) hS' hl hG hacc⟩
end
end ZL
set_option Elab.async false
set_option linter.all false
set_option maxRecDepth 100000
set_option maxHeartbeats 1000000
/-! Y41: list(zip(a, b)) -/
namespace Y
open PySem PySem.Spec L2
open PyProof.Rows hiding St
/-- what lies at a: a list or a tuple -/
def Src (K : PySem.W.Frag) (H : Hp) (a : Addr) (xs : List V) : Prop := SqL K H a xs ∨ SqT K H a xs
def tLzip (K : PySem.W.Frag) (ta : TA) : TE := fun σ H Q => ta σ H fun vs H1 => ∃ a b xs ys, vs = [.ref a, .ref b] ∧ Src K H1 a xs ∧ Src K H1 b ys ∧
  ∀ (l : Addr) (as : List Addr) (H' : Hp), (∀ c o, H1 c = some o → H' c = some o) → H' l = none → as.length = min xs.length ys.length →
    (∀ (j : Nat) (c : Addr), as[j]? = some c → ∃ x y o, xs[j]? = some x ∧ ys[j]? = some y ∧ o.cls = .type "tuple" ∧ o.dict = none ∧ H' c = some (.frz o (.tup [x, y]))) → Q (.ref l) (upd H' l (.lst (as.map V.ref)))
section
variable {X : Cx} {cm : CM} {E : EX}
/-- tuples already laid are tracked as plain ones -/
theorem takeF {pins : List (Addr × Obj)} {σ : St} {H0 : Hp} {s : Shared} {h' : Heap} {tk : Nat} {P : Nat → Addr → List V → Prop} (I0 : L2.Inv X pins σ H0 s) : ∀ (L : List Addr) (i : Nat) (H1 : Hp), L2.Inv X pins σ H1 { s with heap := h', toks := tk } → L.Nodup →
    (∀ (j : Nat) (a : Addr), L[j]? = some a → s.heap.objs.size ≤ a ∧ H1 a = none ∧ ∃ vs o, P (i + j) a vs ∧ o.cls = .type "tuple" ∧ o.dict = none ∧ h'.get? a = some o ∧ ∀ H2, ObjOk X.prog X.w H2 h' a (.tup vs)) →
    ∃ H2, L2.Inv X pins σ H2 { s with heap := h', toks := tk } ∧ (∀ b o, H1 b = some o → H2 b = some o) ∧ (∀ b, H1 b = none → b ∉ L → H2 b = none) ∧ ∀ (j : Nat) (a : Addr), L[j]? = some a → ∃ vs o, P (i + j) a vs ∧ o.cls = .type "tuple" ∧ o.dict = none ∧ H2 a = some (.frz o (.tup vs))
  | [], _, H1, I1, _, _ => ⟨H1, I1, fun _ _ e => e, fun _ e _ => e, fun j a h => by simp at h⟩
  | a :: L, i, H1, I1, hn, h => by
    obtain ⟨hb, hnone, vs, o, hP, hc, hd, hg, ok⟩ := h 0 a rfl
    have I2 : L2.Inv X pins σ (upd H1 a (.frz o (.tup vs))) { s with heap := h', toks := tk } := I1.take (h' := h') (t' := tk) (fun b ob _ e => e) (I0.fpOk hb hnone) ⟨hg, ok _⟩
    rw [List.nodup_cons] at hn
    obtain ⟨H2, I3, g, gn, q⟩ := takeF I0 L (i + 1) (upd H1 a (.frz o (.tup vs))) I2 hn.2 fun j c hc => by
      obtain ⟨c1, c2, vs', o', c3, c4⟩ := h (j + 1) c (by simpa using hc)
      exact ⟨c1, by rw [upd_ne (fun z => hn.1 (by rw [← z]; exact List.mem_of_getElem? hc))]; exact c2, vs', o', by rw [Nat.add_assoc, Nat.add_comm 1 j]; exact c3, c4⟩
    refine ⟨H2, I3, fun b o e => g b o (by rw [upd_ne (ne_of_none e hnone)]; exact e), fun b e hm => gn b (by rw [upd_ne (fun z => hm (by rw [z]; exact List.mem_cons_self ..))]; exact e) fun z => hm (List.mem_cons_of_mem _ z), fun j c hc => ?_⟩
    cases j with
    | zero =>
      have e : a = c := by simpa using hc
      subst e
      exact ⟨vs, o, hP, ‹_›, hd, g _ _ upd_same⟩
    | succ j =>
      obtain ⟨vs', o', c3, c4⟩ := q j c (by simpa using hc)
      exact ⟨vs', o', by rw [Nat.add_assoc, Nat.add_comm 1 j] at c3; exact c3, c4⟩
/-- what is gone over begins and is drawn from -/
structure SrcAt (h : Heap) (v : Value) (a : Addr) (its : List Value) : Prop where
  ex : ∃ (o1 : Obj) (Hh : Heap → Prop), PySem.Begins v o1 Hh ∧ Hh h ∧ (∀ (i : Addr) (h' : Heap), a ≠ i → h'.get? i = some o1 → (∀ b o, h.get? b = some o → h'.get? b = some o) →
    ∃ (St : Nat → Heap → Prop), St 0 h' ∧ ∀ (prog : Program) (w : World) (A : Around), A.handled = none → PySem.Draws prog w A i [i, a] its.length (fun k x => its[k]? = some x) St)
  lt : a < h.objs.size
theorem src_at {pins : List (Addr × Obj)} {σ : St} {H : Hp} {s : Shared} {a : Addr} {xs : List V} (I : L2.Inv X pins σ H s) (h : Src X.K H a xs) : ∃ its, Vals xs its ∧ xs.length ≤ sizeLine ∧ SrcAt s.heap (.ref a) a its := by
  rcases h with h | h
  · obtain ⟨its, rv, p, hz⟩ := I.list h
    refine ⟨its, rv, hz, ⟨⟨_, _, PySem.begins_list a its.toArray, p.isList, fun i h' hne hi hk => ⟨fun i' h => h.IsListIter i a i' ∧ h.IsList a its.toArray, ⟨⟨_, hi, rfl, rfl⟩, p.isList.at fun o e => hk _ o e⟩, fun prog w A hh => ?_⟩⟩, p.lt⟩⟩
    have D := PySem.Draws.list (prog := prog) (w := w) hh i a hne its.toArray
    simpa using D
  · obtain ⟨its, rv, p, hz⟩ := I.tuple h
    have p' : s.heap.IsTuple a its.toArray := p
    refine ⟨its, rv, hz, ⟨⟨_, _, PySem.begins_tuple a its.toArray, p', fun i h' hne hi hk => ⟨fun i' h => h.IsTupleIter i a i' ∧ h.IsTuple a its.toArray, ⟨⟨_, hi, rfl, rfl⟩, p'.at fun o e => hk _ o e⟩, fun prog w A hh => ?_⟩⟩, p.lt⟩⟩
    have D := PySem.Draws.tuple (prog := prog) (w := w) hh i a hne its.toArray
    simpa using D
theorem pe_lzip {e e2 : Expr} {ta : TA} {p p2 pos pos2 : Pos} (hc : X.calm = true) (hgl : Gl X "list") (hml : X.mg "list" = none) (hg : Gl X "zip") (hm : X.mg "zip" = none) (ha : PA X [e, e2] ta)
    (hs : starEach [e, e2] X.env = (false, eval e X.env) :: starEach [e2] X.env := by rfl) (hpl : (backTo pos2 (starEach [e2] X.env)).any (·.1) = false := by rfl)
    (na : starEach [.Call (.Name "zip" p2) [e, e2] [] pos2] X.env = (false, eval (.Call (.Name "zip" p2) [e, e2] [] pos2) X.env) :: starEach [] X.env := by rfl) (hpl2 : (backTo pos (starEach [] X.env)).any (·.1) = false := by rfl) :
    PE X (.Call (.Name "list" p) [.Call (.Name "zip" p2) [e, e2] [] pos2] [] pos) (tLzip X.K ta) := by
  refine ⟨fun pins s σ H Q I h => ?_⟩
  refine Call_ (ld_blt I hgl hml boot_list (PyProof.Rows.callWith_type1 (args_cons ?_ na) na hpl2))
  refine Call_ (ld_blt I hg hm PyProof.Rows.boot_zip (PyProof.Rows.callWith_type1 (thn (ha.run pos2 pins s σ H _ I h) fun us s1 ⟨vs, H1, I1, r1, q1⟩ => ?_) hs hpl))
  obtain ⟨a, b, xs, ys, ex, h1, h2, q1⟩ := q1
  subst ex
  obtain rfl : us = [.ref a, .ref b] := by
    cases r1 with
    | cons r rr =>
      cases rr with
      | cons r' rr =>
        cases rr
        rw [show _ = Value.ref a from r, show _ = Value.ref b from r']
  obtain ⟨its1, rv1, z1, S1⟩ := src_at I1 h1
  obtain ⟨its2, rv2, z2, S2⟩ := src_at I1 h2
  obtain ⟨⟨o1, Hh1, B1, b1, D1⟩, l1⟩ := S1
  obtain ⟨⟨o2, Hh2, B2, b2, D2⟩, l2⟩ := S2
  refine PySem.zip_begins2 B1 B2 b1 b2 fun h' hz hTI hTO g1 g2 hsz hk => ?_
  refine args_nil ?_
  obtain ⟨St1, st1, D1⟩ := D1 s1.heap.objs.size h' (Nat.ne_of_lt l1) g1 hk
  obtain ⟨St2, st2, D2⟩ := D2 (s1.heap.objs.size + 1) h' (Nat.ne_of_lt (Nat.lt_succ_of_lt l2)) g2 hk
  have sep := PySem.zip_sep2 (N := s1.heap.objs.size) (fp1 := [a]) (fp2 := [b]) (fun c hc => by rw [List.mem_singleton.mp hc]; exact l1) (fun c hc => by rw [List.mem_singleton.mp hc]; exact l2)
  have e1 := rv1.length
  have e2 := rv2.length
  refine ZL.list_zip (s := { s1 with heap := h' }) (I.ok.hd hc) sep (D1 X.prog X.w) (D2 X.prog X.w) hz hTI ⟨_, _, hTO⟩ st1 st2 (fun c hc => ?_) (fun c hc => ?_) (by omega) fun h2 tk acc c as hkp hL hal hG hacc => ?_
  · rw [hsz]
    rcases List.mem_cons.mp hc with rfl | hc
    · exact Nat.lt_add_of_pos_right (by decide)
    · rw [List.mem_singleton.mp hc]; exact Nat.lt_of_lt_of_le l1 (Nat.le_add_right _ _)
  · rw [hsz]
    rcases List.mem_cons.mp hc with rfl | hc
    · exact Nat.add_lt_add_left (by decide) _
    · rw [List.mem_singleton.mp hc]; exact Nat.lt_of_lt_of_le l2 (Nat.le_add_right _ _)
  dsimp only at hkp hL hG ⊢
  rw [hsz] at hL hG ⊢
  have ks : ∀ b o, s1.heap.get? b = some o → h2.get? b = some o := fun b o q => by
    have hb := Heap.lt_size q
    refine hkp b o ?_ ?_ ?_ ?_ (hk b o q)
    · exact Nat.ne_of_lt (Nat.lt_of_lt_of_le hb (Nat.le_add_right _ _))
    · exact Nat.ne_of_lt (Nat.lt_of_lt_of_le hb (Nat.le_add_right _ _))
    · exact Nat.ne_of_lt hb
    · exact Nat.ne_of_lt (Nat.lt_of_lt_of_le hb (Nat.le_add_right _ _))
  have I2 : L2.Inv X pins σ H1 { s1 with heap := h2, toks := tk } := I1.kept (t' := tk) ks
  have nd : as.Nodup := List.Pairwise.imp (fun h => Nat.ne_of_lt h) hG.rise
  have ab : ∀ c ∈ as, s1.heap.objs.size + 5 < c := fun c hc => hG.above c hc
  obtain ⟨H2, I3, g, gn, qt⟩ := takeF (P := fun j _ vs => ∃ x y, xs[j]? = some x ∧ ys[j]? = some y ∧ vs = [x, y]) I1 as 0 _ I2 nd fun j c hj => by
    obtain ⟨u1, u2, p1, p2, hg2⟩ := hG.pairs j c hj
    have hc := ab c (List.mem_of_getElem? hj)
    have hle : s1.heap.objs.size ≤ c := Nat.le_of_lt (Nat.lt_of_le_of_lt (Nat.le_add_right _ _) hc)
    have w1 : j < xs.length := by rw [e1]; exact (List.getElem?_eq_some_iff.mp p1).1
    have w2 : j < ys.length := by rw [e2]; exact (List.getElem?_eq_some_iff.mp p2).1
    obtain ⟨v1, i1, r1⟩ := rv1.get (List.getElem?_eq_getElem w1)
    obtain ⟨v2, i2, r2⟩ := rv2.get (List.getElem?_eq_getElem w2)
    rw [p1] at i1
    rw [p2] at i2
    cases i1; cases i2
    exact ⟨hle, I1.hok.fresh hle, [xs[j], ys[j]], _, ⟨xs[j], ys[j], by rw [Nat.zero_add]; exact List.getElem?_eq_getElem w1, by rw [Nat.zero_add]; exact List.getElem?_eq_getElem w2, rfl⟩, rfl, rfl, hg2,
      fun H3 => ⟨by show 2 ≤ sizeLine; decide, [u1, u2], .cons r1 (.cons r2 .nil), ⟨_, hg2, rfl, 0, rfl⟩⟩⟩
  have hnl : H2 (s1.heap.objs.size + 5) = none := gn _ (I1.hok.fresh (Nat.le_add_right _ _)) fun hm => Nat.lt_irrefl _ (ab _ hm)
  have rv : Vals (as.map V.ref) (as.map Value.ref) := vals_maps V.ref Value.ref as fun _ _ => rfl
  have hll : (as.map V.ref).length ≤ sizeLine := by rw [List.length_map, hal]; omega
  have I4 : L2.Inv X pins σ (upd H2 (s1.heap.objs.size + 5) (.lst (as.map V.ref))) { s1 with heap := h2, toks := tk } :=
    I3.take (h' := h2) (t' := tk) (fun b ob _ e => e) (I1.fpOk (Nat.le_add_right _ _) hnl) ⟨hll, as.map Value.ref, c, rv, by rw [hL]; simp only [← hacc]⟩
  refine ⟨.ref (s1.heap.objs.size + 5), _, I4, rfl, q1 _ as H2 g hnl (by rw [hal]; omega) fun j c hj => ?_⟩
  obtain ⟨vs, o, ⟨x, y, q2, q3, q4⟩, hc1, hd1, hH⟩ := qt j c hj
  rw [Nat.zero_add] at q2 q3
  rw [q4] at hH
  exact ⟨x, y, o, q2, q3, hc1, hd1, hH⟩
/-- the items of a list or a tuple -/
def seqItems (st : Sto) : AV → Option (List AV)
  | .loc k => rdL st k
  | .tup xs => some xs
  | _ => none
def mLzip (a : MA) : ME := fun env st => (a env st).bind fun vs st => match vs with
  | [v, w] => match seqItems st v, seqItems st w with
    | some xs, some ys => .ok (.loc st.length) (st ++ [.lst ((xs.zip ys).map fun p => AV.tup [p.1, p.2])])
    | _, _ => .bad
  | _ => .bad
section
variable {G : GK} {K : PySem.W.Frag} {H : Hp} {ρ : Nat → Addr} {n : Nat} {st : Sto}
theorem seqItems_src {v : AV} {x : V} {xs : List AV} (s : RepS G H ρ st) (r : Rep G.K H ρ st.length v x) (h : seqItems st v = some xs) : ∃ a ys, x = .ref a ∧ Src G.K H a ys ∧ RepL G.K H ρ st.length xs ys := by
  cases v with
  | loc k =>
    obtain ⟨rfl, hk⟩ := rep_loc r
    obtain ⟨ys, h1, h2⟩ := s.lst (rdL_some h)
    exact ⟨_, ys, rfl, .inl (SqL.of h1), h2⟩
  | tup us =>
    obtain ⟨a, ys, rfl, hq, hr⟩ := rep_tup r
    cases h
    exact ⟨a, ys, rfl, .inr hq.seq, hr⟩
  | _ => cases h
theorem Ext.grow {H' : Hp} (h : ∀ c o, H c = some o → H' c = some o) : Ext H ρ n H' ρ n :=
  ⟨Nat.le_refl _, fun _ _ => rfl, fun a u e _ _ => h a u e, fun _ h1 h2 => absurd h1 (Nat.not_le.mpr h2), fun a u e => ⟨u, h a u e⟩, fun a ob u e => h a _ e⟩
theorem RepS.growAll {H' : Hp} (s : RepS G H ρ st) (h : ∀ c o, H c = some o → H' c = some o) : RepS G H' ρ st :=
  s.mv (fun k hk => by obtain ⟨u, e, _⟩ := s.notT hk; rw [e, h _ _ e]) (tups_of fun a o e _ => h a o e) (s.tb.ext h)
theorem pairs_rep {H' : Hp} : ∀ {us ws : List AV} {xs ys : List V} {as : List Addr}, RepL K H ρ n us xs → RepL K H ρ n ws ys → (∀ {v x}, Rep K H ρ n v x → Rep K H' ρ n v x) → as.length = min xs.length ys.length →
    (∀ (j : Nat) (c : Addr), as[j]? = some c → ∃ x y o, xs[j]? = some x ∧ ys[j]? = some y ∧ o.cls = .type "tuple" ∧ o.dict = none ∧ H' c = some (.frz o (.tup [x, y]))) →
    RepL K H' ρ n ((us.zip ws).map fun p => AV.tup [p.1, p.2]) (as.map V.ref)
  | [], _, _, _, as, .nil, _, _, hl, _ => by
    have : as = [] := List.length_eq_zero_iff.mp (by simpa using hl)
    subst this
    simpa using RepL.nil
  | _ :: _, [], _, _, as, .cons _ _, .nil, _, hl, _ => by
    have : as = [] := List.length_eq_zero_iff.mp (by simpa using hl)
    subst this
    simpa using RepL.nil
  | u :: us, v :: ws, x :: xs, y :: ys, as, .cons r1 t1, .cons r2 t2, mv, hl, h => by
    cases as with
    | nil => simp at hl
    | cons a as =>
      obtain ⟨x', y', o, h1, h2, h3, h4, h5⟩ := h 0 a rfl
      cases h1; cases h2
      rw [List.zip_cons_cons, List.map_cons, List.map_cons]
      refine .cons (.tup (.inl ⟨o, h5, h3, h4⟩) (.cons (mv r1) (.cons (mv r2) .nil))) (pairs_rep t1 t2 mv ?_ fun j c hj => by
        obtain ⟨x1, y1, o1, q1, q2, q3⟩ := h (j + 1) c (by simpa using hj)
        exact ⟨x1, y1, o1, by simpa using q1, by simpa using q2, q3⟩)
      simp only [List.length_cons] at hl
      omega
end
theorem ye_lzip {e e2 : Expr} {mas : MA} {p p2 pos pos2 : Pos} (hc : X.calm = true) (hgl : Gl X "list") (hml : X.mg "list" = none) (hg : Gl X "zip") (hm : X.mg "zip" = none) (ha : PA X [e, e2] (tA (gX X cm) E mas))
    (hs : starEach [e, e2] X.env = (false, eval e X.env) :: starEach [e2] X.env := by rfl) (hpl : (backTo pos2 (starEach [e2] X.env)).any (·.1) = false := by rfl)
    (na : starEach [.Call (.Name "zip" p2) [e, e2] [] pos2] X.env = (false, eval (.Call (.Name "zip" p2) [e, e2] [] pos2) X.env) :: starEach [] X.env := by rfl) (hpl2 : (backTo pos (starEach [] X.env)).any (·.1) = false := by rfl) :
    PE X (.Call (.Name "list" p) [.Call (.Name "zip" p2) [e, e2] [] pos2] [] pos) (tE (gX X cm) E (mLzip mas)) :=
  PE.weak (pe_lzip hc hgl hml hg hm ha hs hpl na hpl2) fun σ H R ⟨ρ, st, env, hs, he, hp⟩ => ⟨ρ, st, env, hs, he, hp.bindI fun vs st1 H1 ρ1 xs e1 s1 r1 hp1 => by
    have r1 : RepL X.K H1 ρ1 st1.length vs xs := r1
    split at hp1
    · rename_i v w
      obtain ⟨x, y, rfl, rx, ry⟩ := r1.two
      split at hp1
      · rename_i us ws q1 q2
        obtain ⟨a, ys, rfl, g1, t1⟩ := seqItems_src s1 rx q1
        obtain ⟨b, zs, rfl, g2, t2⟩ := seqItems_src s1 ry q2
        refine ⟨a, b, ys, zs, rfl, g1, g2, fun l as H' hg hn hl hq => ?_⟩
        have ex := Ext.grow (ρ := ρ1) (n := st1.length) hg
        have s2 := s1.growAll hg
        have rp := pairs_rep t1 t2 (fun {v x} r => Rep.ext s1 ex r) hl hq
        exact list_at s2 rp hn (Post.lift ex hp1)
      · exact hp1.elim
    · exact hp1.elim⟩
end
end Y
set_option Elab.async false
set_option linter.all false
set_option maxRecDepth 100000
set_option maxHeartbeats 1000000
/-! Y42: lists taken apart; a list and the script; name = a comprehension of two clauses, of a dict; ints grown in place -/
namespace Y
open PySem PySem.Spec L2
open PyProof.Rows hiding St
/-! ### (a, b, ..) = a list -/
def gLst (n : Nat) (t : TGs) : TG := fun v σ H Q => ∃ a xs, v = .ref a ∧ H a = some (.lst xs) ∧ xs.length = n ∧ t xs σ H Q
def mgLst (gs : List MG) : MG := fun v env st => match v with
  | .loc k => match rdL st k with
    | some xs => if xs.length = gs.length then mgs gs xs env st else .bad
    | none => .bad
  | _ => .bad
/-- a list and a list that is known -/
def oAddF : O2 := fun x y st => match x, y with
  | .loc a, .frl ys => match rdL st a with
    | some xs => if xs.length + ys.length ≤ LIM then .ok (.loc st.length) (st ++ [.lst (xs ++ ys)]) else .bad
    | none => .bad
  | _, _ => .bad
def rCatF (K : PySem.W.Frag) : R2 := fun x y H Q => ∃ l b xs zs, x = .ref l ∧ y = .ref b ∧ SqL K H l xs ∧ SqL K H b zs ∧ xs.length + zs.length ≤ sizeLine ∧ ∀ p, H p = none → Q (.ref p) (upd H p (.lst (xs ++ zs)))
def oAddJ : O2 := fun x y st => match x, y with
  | .int i, .int j => .ok (.int (i + j)) st
  | _, _ => .bad
section
variable {X : Cx} {cm : CM} {E : EX} {G : GK} {sl sl1 : List Nat} {mg mg1 : MG} {tg tg1 : Expr} {pos : Pos} {es : List Expr}
theorem pg_lst {k : Nat} {t : TGs} {n : Nat} (hc : X.calm = true) (h : PGs X es t)
    (hn : (assignEach es X.env).length = n := by rfl) (hst : (assignEach es X.env).findIdx? (·.1) = none := by rfl) : PG X (.Tuple es k pos) (gLst n t) := by
  refine ⟨fun pins s σ H v u Q I r hw => ?_⟩
  obtain ⟨a, xs, e1, hq, hl, hw⟩ := hw
  subst e1
  obtain rfl : u = Value.ref a := r
  obtain ⟨its, rv, p, hz⟩ := I.list (SqL.of hq)
  have hl2 : its.toArray.size = n := by rw [List.size_toArray, ← rv.length, hl]
  rw [assign_Tuple]
  refine wpAny_bind (wpAny_standAt ?_)
  unfold unpack
  rw [hn, hst, ← hl2]
  refine wpAny_bind (wpAny_holding (PySem.W.kun_itemsOf (I.ok.hd hc) p.isList fun h' hx => ?_))
  have I1 : L2.Inv X pins σ H { s with heap := h' } := I.kept (t' := s.toks) fun b o e => hx b o (Nat.ne_of_lt (Heap.lt_size e)) e
  exact h.run pins _ σ H xs _ Q I1 (by simpa using rv) hw
theorem yg_lst {k : Nat} {gs : List MG} (hc : X.calm = true) (h : PGs X es (tGs (gX X cm) E sl gs)) (hn : (assignEach es X.env).length = gs.length := by rfl) (hst : (assignEach es X.env).findIdx? (·.1) = none := by rfl) : PG X (.Tuple es k pos) (tG (gX X cm) E sl (mgLst gs)) :=
  PG.weak (pg_lst (n := gs.length) hc h hn hst) fun x σ H Q ⟨ρ, st, env, v, hs, he, hv, hp⟩ => by
    unfold mgLst at hp
    split at hp
    · obtain ⟨rfl, hk⟩ := rep_loc hv
      split at hp
      · rename_i xs hx
        split at hp
        · rename_i hl
          obtain ⟨ys, h1, r1⟩ := hs.lst (rdL_some hx)
          exact ⟨_, ys, rfl, h1, by rw [← r1.length]; exact hl, ρ, st, env, _, hs, he, r1, hp⟩
        · exact hp.elim
      · exact hp.elim
    · exact hp.elim
/-! ### a list and the script -/
theorem op_catF : OpR X (binaryOp .Add) (rCatF X.K) := by
  intro pins s σ H x y v u Q I rx ry h
  obtain ⟨l, b, xs, zs, rfl, rfl, hH, hB, hz, q⟩ := h
  obtain rfl : v = Value.ref l := rx
  obtain rfl : u = Value.ref b := ry
  obtain ⟨its, r, p, _⟩ := I.list hH
  obtain ⟨its2, r2, p2, _⟩ := I.list hB
  obtain ⟨⟨cls, dd, data, sl⟩, n, ho, hc, hdd, hd⟩ := id p
  obtain ⟨⟨cls2, dd2, data2, sl2⟩, n2, ho2, hc2, hdd2, hd2⟩ := id p2
  simp only at hc hd hc2 hd2
  subst hc hd hc2 hd2
  have e : its.toArray ++ its2.toArray = (its ++ its2).toArray := by simp
  refine concat_meets ⟨_, ho, rfl⟩ ⟨_, ho2, rfl⟩ noFill_list_add seq_list_add PySem.F.slot_list_add PySem.F.entry_list_add (PySem.F.args_list_add_2 _ _) (list_addW l b its.toArray its2.toArray n n2 dd dd2 sl sl2 (by rw [List.size_toArray, List.size_toArray, ← r.length, ← r2.length]; exact hz)) ⟨ho, ho2, ?_⟩
  rw [e]
  exact ⟨.ref _, _, I.lnew (t' := s.toks) (r.append r2) (by rw [List.length_append]; omega), rfl, q _ I.fresh⟩
theorem sn_addF : Snd2 (gX X cm) E oAddF (rCatF X.K) := by
  intro H ρ st a b x y Q s ra rb h
  unfold oAddF at h
  split at h
  · obtain ⟨rfl, hk⟩ := rep_loc ra
    cases rb with
    | frl hq hr =>
      split at h
      · rename_i xs hx
        split at h
        · rename_i hl
          obtain ⟨zs, h1, r1⟩ := s.lst (rdL_some hx)
          exact ⟨_, _, zs, _, rfl, rfl, SqL.of h1, hq.seq, by rw [← r1.length, ← hr.length, ← LIM_line]; exact hl, fun p hn => list_at s (r1.append hr) hn h⟩
        · exact h.elim
      · exact h.elim
  · exact h.elim
theorem sn_addJ : Snd2 (gX X cm) E oAddJ (rI0 fun i j => .int (i + j)) := by
  intro H ρ st a b x y Q s ra rb h
  unfold oAddJ at h
  split at h
  · cases rep_int ra; cases rep_int rb
    exact ⟨_, _, rfl, rfl, Post.at (x := V.int _) h s (.int _)⟩
  · exact h.elim
/-! ### name = a comprehension -/
theorem sw_trueD {kx vx : Expr} {gs : List Comprehension} {scope : Scope} {pos py : Pos} {y : Str} {l : Nat} {env : Env} (hk : env.scope.kind = .function) (hy : env.scope.names.lookup y = some .local) (hl : (py.line == pos.line) = true)
    (ha : (scope.names.any fun (n, k) => n == y && (k == .local || k == .cell)) = false) : swapsWith (.DictComp kx vx gs scope pos) (some (.Name y py)) l env = pure true := by
  have ky : env.kindOf y = some .local := hy
  have hb : env.blockKind = .function := by unfold Env.blockKind; rw [hk]; rfl
  unfold swapsWith
  simp only [hb, ky, ha, Expr.pos, hl]
  rfl
theorem ps_setDc {i : Nat} {y : Str} {py : Pos} {kx vx iter : Expr} {ifs : List Expr} {scope : Scope} {own : List (Str × Nat)} {spos : Pos} {wi : TI} {g : TG} {tt : TT} {tk tv : TE} (hc : X.calm = true) (hN : X.N.Nodup) (hy : X.N[i]? = some y) (hyl : X.env.scope.names.lookup y = some .local)
    (hsw : swapsWith (.DictComp kx vx [⟨tg, iter, ifs, 0⟩] scope pos) (some (.Name y py)) spos.line X.env = pure true) (hi : PI X tg iter wi) (ok : BlkOk X.N X.env.scope scope own)
    (hg : ∀ (s : Shared) (H : Hp) (C : Addr) (cl : List (Str × Addr)) (fp : List Addr), PG (X.blk s H scope (compEnvC scope cl C X.env) fp) tg g) (ht : ∀ (s : Shared) (H : Hp) (C : Addr) (cl : List (Str × Addr)) (fp : List Addr), PTs (X.blk s H scope (compEnvC scope cl C X.env) fp) ifs tt)
    (hk : ∀ (s : Shared) (H : Hp) (C : Addr) (cl : List (Str × Addr)) (fp : List Addr), PE (X.blk s H scope (compEnvC scope cl C X.env) fp) kx tk)
    (he : ∀ (s : Shared) (H : Hp) (C : Addr) (cl : List (Str × Addr)) (fp : List Addr), PE (X.blk s H scope (compEnvC scope cl C X.env) fp) vx tv) (hs : ∀ x, foldedSetIterable iter X.env x = pure x := by intro _; rfl) :
    PS X (.Assign [.Name y py] (.DictComp kx vx [⟨tg, iter, ifs, 0⟩] scope pos) spos) (tAsg (tDc wi g tt tk tv (own.map (·.2))) (gName i)) := by
  refine ⟨fun pins s σ H D I h => ?_⟩
  rw [exec_Assign_Name_used _ _ _ _ hsw]
  refine wpAny_bind (wpAny_standAt (wpAny_bind ?_))
  show wpAny _ X.A (do let _ ← comprehension (.DictComp kx vx [⟨tg, iter, ifs, 0⟩] scope pos) scope X.env (firstIterPos [⟨tg, iter, ifs, 0⟩] pos) newDict false (eval iter X.env) (some (assign (.Name y py) X.env))) _ _ s
  have h : tDc wi g tt tk tv (own.map (·.2)) σ H (fun x H1 => gName i x σ H1 D.nx) := h
  refine wpAny_bind (thn (dc_core (Qf := fun _ s' => SP X pins D .next s') hc hN I hi ok hg ht hk he hs h fun L C s' m H' I' q hn f => ?_) fun _ s' hq => wpAny_pure (wpAny_pure hq))
  show wpAny _ _ (assign (.Name y py) X.env (.ref L)) _ _ _
  refine wpAny_assign_Name (store_ok2 (v := V.ref L) I' hN hy (.inl hyl) rfl (fun s2 I2 ⟨a, sb, ha⟩ => ?_) (.inr hyl))
  obtain ⟨f0, f1, f2, f3, f4, f5⟩ := f
  have haC : C ≠ a := by
    rcases ha with z | z
    · rw [z]; exact f1
    · exact fun e => f4 y a z e.symm
  refine ⟨m, hn.sameBut sb haC, fun h3 sb3 => ?_⟩
  exact ⟨_, H', I2.turned (t' := s2.toks) (fun b o hb e => (sb3.2 b hb).trans e) f0 f1 f3 f4 f5, q⟩
theorem ys_setDc (i : Nat) {y : Str} {py spos : Pos} {kx vx iter : Expr} {ifs : List Expr} {scope : Scope} (own : List (Str × Nat)) {it : MI} {mt : MT} {mk me : ME} (hc : X.calm = true) (hN : X.N.Nodup) (hy : X.N[i]? = some y) (hyl : X.env.scope.names.lookup y = some .local)
    (hsw : swapsWith (.DictComp kx vx [⟨tg, iter, ifs, 0⟩] scope pos) (some (.Name y py)) spos.line X.env = pure true) (hi : PI X tg iter (tI (gX X cm) E it)) (ok : BlkOk X.N X.env.scope scope own)
    (hg : ∀ (s : Shared) (H : Hp) (C : Addr) (cl : List (Str × Addr)) (fp : List Addr), PG (X.blk s H scope (compEnvC scope cl C X.env) fp) tg (tG (gX X cm) E sl mg)) (ht : ∀ (s : Shared) (H : Hp) (C : Addr) (cl : List (Str × Addr)) (fp : List Addr), PTs (X.blk s H scope (compEnvC scope cl C X.env) fp) ifs (tT (gX X cm) E mt))
    (hk : ∀ (s : Shared) (H : Hp) (C : Addr) (cl : List (Str × Addr)) (fp : List Addr), PE (X.blk s H scope (compEnvC scope cl C X.env) fp) kx (tE (gX X cm) E mk))
    (he : ∀ (s : Shared) (H : Hp) (C : Addr) (cl : List (Str × Addr)) (fp : List Addr), PE (X.blk s H scope (compEnvC scope cl C X.env) fp) vx (tE (gX X cm) E me)) (hsl : ∀ i ∈ sl, i ∈ own.map (·.2)) (hs : ∀ x, foldedSetIterable iter X.env x = pure x := by intro _; rfl) :
    PS X (.Assign [.Name y py] (.DictComp kx vx [⟨tg, iter, ifs, 0⟩] scope pos) spos) (tS (gX X cm) E (msAsg (mGc (mDc it mg mt mk me (own.map (·.2)))) (mgName i))) :=
  PS.weak (ps_setDc hc hN hy hyl hsw hi ok hg ht hk he hs) fun D σ H ⟨ρ, st, env, hs, he, hp⟩ => by
    refine tDc_of (mt := mt) (me := me) (mk := mk) (it := it) hsl σ H _ ⟨ρ, st, env, hs, he, gc_sound hs (hp.toI fun v st1 H1 ρ1 x e1 s1 r1 hp1 => hp1 H1 ρ1 _ .refl s1 ((he.ext hs e1).set i r1))⟩
theorem ys_setLc2 (i : Nat) {y : Str} {py spos : Pos} {elt iter a1 : Expr} {ifs ifs1 : List Expr} {scope : Scope} (own : List (Str × Nat)) (vs1 : List Nat) {it : MI} {as1 : MA} {mt mt1 : MT} {me : ME} {p1 p2 : Pos} (hc : X.calm = true) (hN : X.N.Nodup) (hy : X.N[i]? = some y) (hyl : X.env.scope.names.lookup y = some .local)
    (hsw : swapsWith (.ListComp elt [⟨tg, iter, ifs, 0⟩, ⟨tg1, .Call (.Name "range" p1) [a1] [] p2, ifs1, 0⟩] scope pos) (some (.Name y py)) spos.line X.env = pure true) (hi : PI X tg iter (tI (gX X cm) E it)) (ok : BlkOk X.N X.env.scope scope own) (hv : ∀ i ∈ vs1, i ∈ own.map (·.2))
    (hg : ∀ (s : Shared) (H : Hp) (C : Addr) (cl : List (Str × Addr)) (fp : List Addr), PG (X.blk s H scope (compEnvC scope cl C X.env) fp) tg (tG (gX X cm) E sl mg)) (ht : ∀ (s : Shared) (H : Hp) (C : Addr) (cl : List (Str × Addr)) (fp : List Addr), PTs (X.blk s H scope (compEnvC scope cl C X.env) fp) ifs (tT (gX X cm) E mt))
    (hr : ∀ (s : Shared) (H : Hp) (C : Addr) (cl : List (Str × Addr)) (fp : List Addr), Gl (X.blk s H scope (compEnvC scope cl C X.env) fp) "range") (hm : X.mg "range" = none)
    (ha1 : ∀ (s : Shared) (H : Hp) (C : Addr) (cl : List (Str × Addr)) (fp : List Addr), PA (X.blk s H scope (compEnvC scope cl C X.env) fp) [a1] (tA (gX X cm) E as1))
    (hg1 : ∀ (s : Shared) (H : Hp) (C : Addr) (cl : List (Str × Addr)) (fp : List Addr), PG (X.blk s H scope (compEnvC scope cl C X.env) fp) tg1 (tG (gX X cm) E sl1 mg1)) (ht1 : ∀ (s : Shared) (H : Hp) (C : Addr) (cl : List (Str × Addr)) (fp : List Addr), PTs (X.blk s H scope (compEnvC scope cl C X.env) fp) ifs1 (tT (gX X cm) E mt1))
    (he : ∀ (s : Shared) (H : Hp) (C : Addr) (cl : List (Str × Addr)) (fp : List Addr), PE (X.blk s H scope (compEnvC scope cl C X.env) fp) elt (tE (gX X cm) E me)) (hsl : ∀ i ∈ sl, i ∈ own.map (·.2)) (hsl1 : ∀ i ∈ sl1, i ∈ vs1)
    (hst : ∀ env, starEach [a1] env = [(false, eval a1 env)]) (hs : ∀ x, foldedSetIterable iter X.env x = pure x := by intro _; rfl) (hs1 : ∀ env x, foldedSetIterable (.Call (.Name "range" p1) [a1] [] p2) env x = pure x := by intro _ _; rfl) :
    PS X (.Assign [.Name y py] (.ListComp elt [⟨tg, iter, ifs, 0⟩, ⟨tg1, .Call (.Name "range" p1) [a1] [] p2, ifs1, 0⟩] scope pos) spos) (tS (gX X cm) E (msAsg (mGc (mLc2 it mg mt (miR1 as1) mg1 mt1 me (own.map (·.2)) vs1)) (mgName i))) :=
  PS.weak (ps_setLc2 hc hN hy hyl hsw hi ok hv hg ht (fun s H C cl fp => pi_range1 (hr s H C cl fp) hm (ha1 s H C cl fp) (hst _)) hg1 ht1 he hs hs1) fun D σ H ⟨ρ, st, env, hs, he, hp⟩ => by
    refine tLc2_of (mt := mt) (mt1 := mt1) (me := me) (it := it) (as1 := as1) hsl hsl1 σ H _ ⟨ρ, st, env, hs, he, gc_sound hs (hp.toI fun v st1 H1 ρ1 x e1 s1 r1 hp1 => hp1 H1 ρ1 _ .refl s1 ((he.ext hs e1).set i r1))⟩
end
end Y
set_option Elab.async false
set_option linter.all false
set_option maxRecDepth 100000
set_option maxHeartbeats 4000000
/-! Y43: a def of no arguments that never sees the caller's objects; the frame of a law over [0] + script -/
namespace Y
open PySem PySem.Spec L2
open PyProof.Rows hiding St
section
variable {X : Cx} {cm : CM} {E : EX}
theorem ye_callI0 {f : Addr} {fd : FuncData} {ps : List Str} {k : Nat} {m : ON} {x : Str} {p pos : Pos} (F : FnOk X.prog X.w X.K X.mg X.base CX0 k f fd ps (spF (gX X cm) m)) (hr : L2.Room k X.A) (hg : Gl X x) (hm : X.mg x = some (.ref f)) (hk : PySem.W.keepIn X.K (.ref f) = true) (hb : Binds X.K fd ps [])
    (hdb : (x == ("__debug__" : Str)) = false := by decide) :
    PE X (.Call (.Name x p) [] [] pos) (tE (gX X cm) E (mN (oIso m) maNil)) :=
  PE.weak (pe_call0 F hr hg hm hk hb .nil pass0 hdb) fun σ H Q ⟨ρ, st, env, hs, he, hp⟩ => by
    have hp1 : Post (gX X cm) E H ρ st.length (rV X.K) (oIso m [] st) Q := hp
    unfold oIso at hp1
    rw [if_pos (show (AV.locsL []).isEmpty = true from rfl)] at hp1
    split at hp1
    · rename_i v st' hm'
      split at hp1
      · rename_i hw
        have hw : v.locs = [] := List.isEmpty_iff.mp hw
        refine ⟨ρ, [], [], ⟨fun k o h => by simp at h, fun j k h => absurd h (Nat.not_lt_zero _), hs.tb⟩, .nil, ?_⟩
        rw [hm']
        intro H' ρ' x e s q
        have fr : ∀ a o, H a = some o → (∀ ps, o ≠ .tbl ps) → H' a = some o := fun a o h nt => e.fr a o h nt fun k hk => absurd hk (Nat.not_lt_zero _)
        have t : Tups X.K H H' := tups_of fun a o h n => fr a o h (notT_tbl n)
        refine hp1 H' ρ x ⟨Nat.le_refl _, fun _ _ => rfl, fun a o h nt _ => fr a o h nt, fun _ h1 h2 => absurd h1 (Nat.not_le.mpr h2), e.kp, e.fz⟩ (hs.mv (fun k hk => ?_) t s.tb) ?_
        · obtain ⟨u, h, n⟩ := hs.notC hk
          rw [h]
          exact fr _ _ h n.1
        · exact rep_under (n := 0) (Nat.zero_le _) (fun _ h => absurd h (Nat.not_lt_zero _)) _ _ (under_none' hw) q
      · exact hp1.elim
    · exact hp1.elim
end
/-- a loop over ([0] + script)[:k] -/
theorem law_frame2 {body : MS} {N k : Nat}
    (turn : ∀ (st : Sto) (kc : Nat) (cells : List AV) (s : Option AV) (cell : Int) (e : Ev), e.length = N → st[kc]? = some (.lst cells) →
      ∃ e' st', e'.length = N ∧ body (s :: some (.int cell) :: e) st = .nx (s :: some (.int cell) :: e') st' ∧ st'[kc]? = some (.lst cells)) (ns : List Int) (h : ns.length ≤ 63) :
    ∃ st', fn (N + 2) 1 (msSeq (msFor (miSeq (mSl oSl (mOp oAddF (mN oLst (maCons (mC (.int 0)) maNil)) (mVar 0)) moNone (moSome (mC (.int (k : Nat)))))) (mgName 1) body) (msRet (mC (.bl true)))) [.frl (ns.map AV.int)] [] = .ok (.bl true) st' := by
  have hcut : cutA ((0 :: ns).map AV.int) none (some (k : Nat)) = (cutI (0 :: ns) none (some (k : Nat))).map AV.int := cutI_ok
  generalize cutI (0 :: ns) none (some (k : Nat)) = cs at hcut
  have hl1 : oLst [AV.int 0] [] = .ok (.loc 0) [.lst [.int 0]] := lst_ok (st := []) (by show 1 ≤ LIM; decide)
  have hadd : oAddF (.loc 0) (.frl (ns.map AV.int)) [.lst [.int 0]] = .ok (.loc 1) [.lst [.int 0], .lst ((0 :: ns).map AV.int)] := by
    have : ([AV.int 0] : List AV).length + (ns.map AV.int).length ≤ LIM := by rw [List.length_map]; simp only [LIM, List.length_cons, List.length_nil]; omega
    unfold oAddF
    simp only [show rdL [Ob.lst [.int 0]] 0 = some [.int 0] from rfl, if_pos this]
    rfl
  have hk : ([.lst [.int 0], .lst ((0 :: ns).map AV.int), .lst (cs.map AV.int)] : Sto)[2]? = some (.lst (cs.map AV.int)) := rfl
  obtain ⟨E0, hE0⟩ : ∃ E0, E0 = List.replicate N (none : Option AV) := ⟨_, rfl⟩
  have hst : startE (N + 2) [.frl (ns.map AV.int)] = some (.frl (ns.map AV.int)) :: none :: E0 := by
    rw [hE0]; unfold startE
    simp only [List.map_cons, List.map_nil, List.length_cons, List.length_nil, Nat.zero_add]
    rw [show N + 2 - 1 = N + 1 by omega]; rfl
  have hsl : oSl (.loc 1) none (some (k : Int)) [.lst [.int 0], .lst ((0 :: ns).map AV.int)] = .ok (.loc 2) [.lst [.int 0], .lst ((0 :: ns).map AV.int), .lst (cs.map AV.int)] := by
    unfold oSl
    simp only [show rdL [Ob.lst [.int 0], .lst ((0 :: ns).map AV.int)] 1 = some ((0 :: ns).map AV.int) from rfl, hcut]
    rfl
  have hit : miSeq (mSl oSl (mOp oAddF (mN oLst (maCons (mC (.int 0)) maNil)) (mVar 0)) moNone (moSome (mC (.int (k : Nat))))) (some (.frl (ns.map AV.int)) :: none :: E0) [] = .ok (.list 2) [.lst [.int 0], .lst ((0 :: ns).map AV.int), .lst (cs.map AV.int)] := by
    rw [ev_iSeq]
    simp only [ev_op, ev_N, ev_cons, ev_nil, ev_C, ev_varS, ev_var0, ev_sl, ev_oNone, ev_oSome, R.bind_ok, hl1, hadd, hsl]
    rfl
  obtain ⟨env, st', e, -⟩ := turns_nx (q := .list 2) (g := mgName 1) (b := body) (xs := cs.map AV.int) (env := some (.frl (ns.map AV.int)) :: none :: E0) (st := [.lst [.int 0], .lst ((0 :: ns).map AV.int), .lst (cs.map AV.int)])
    (fun i env st => st[2]? = some (.lst (cs.map AV.int)) ∧ ∃ s x1 e, env = s :: x1 :: e ∧ e.length = N)
    (fun i env st hi hP => at_list hP.1)
    (fun i x env st hx ⟨hk, s, x1, e, h1, h2⟩ => by
      subst h1
      rw [List.getElem?_map, Option.map_eq_some_iff] at hx
      obtain ⟨cell, -, rfl⟩ := hx
      obtain ⟨e', st', h3, h4, h5⟩ := turn _ _ _ s cell _ h2 hk
      exact ⟨_, _, h4, h5, _, _, _, rfl, h3⟩)
    ⟨hk, _, _, _, rfl, by rw [hE0, List.length_replicate]⟩
  refine ⟨[], ?_⟩
  unfold fn
  rw [if_pos (show [AV.frl (ns.map AV.int)].length = 1 from rfl), hst]
  have hb : msSeq (msFor (miSeq (mSl oSl (mOp oAddF (mN oLst (maCons (mC (.int 0)) maNil)) (mVar 0)) moNone (moSome (mC (.int (k : Nat)))))) (mgName 1) body) (msRet (mC (.bl true))) (some (.frl (ns.map AV.int)) :: none :: E0) [] = .rt (.bl true) st' := by
    rw [ev_seq, ev_for, hit]
    simp only [R.toFl_ok, len_list hk, e]
    rfl
  rw [hb]
  exact gc_drop (st := []) rfl
end Y
set_option Elab.async false
set_option linter.all false
set_option maxRecDepth 100000
set_option maxHeartbeats 4000000
/-! Y44: where an exception is handled: the ends of walks, unpacking, zip, comprehensions -/
namespace Y
open PySem PySem.Spec L2 HotX
open PyProof.Rows hiding St
section
variable {prog : Program} {w : World} {A : Around} {E : Value → Shared → Prop} {s : Shared}
/-- a StopIteration is raised while another exception is handled -/
theorem stop_hot {α : Type} {x1 it : Addr} {h1 : Heap} {Q : α → Shared → Prop} (hot : HotAt A x1 h1) (q : ∀ h' e, (∀ b o, h1.get? b = some o → h'.get? b = some o) → (∃ o, h'.get? e = some o ∧ o.cls = .type "StopIteration") → E (.ref e) { s with heap := h' }) :
    wpAny (model prog w) A ((newExc (.type "StopIteration") [] >>= fun e => raiseNew e) : Sem α) Q E { s with heap := h1 } := by
  obtain ⟨hh, o1, vs1, g1, d1, c1⟩ := hot
  refine wpAny_bind ?_
  simp only [newExc, newTuple]
  refine wpAny_bind (wpAny_newObj_type ?_ (by size_fits))
  refine wpAny_bind (m := firstArgMember _ _) (wpAny_of_eq (a := Value.none) (by first | rfl | (simp only [firstArgMember] <;> rfl)) ?_)
  refine wpAny_newObj_type ?_ (by size_fits)
  have two : ∀ (oa ob : Obj) b o, h1.get? b = some o → ((h1.push oa).push ob).get? b = some o := fun oa ob b o e => Heap.get?_push_of_some _ (Heap.get?_push_of_some _ e)
  have lt2 : ∀ (oa : Obj) b o, h1.get? b = some o → b < (h1.push oa).objs.size := fun oa b o e => Heap.lt_size (Heap.get?_push_of_some oa e)
  refine raiseNew_hot ⟨hh, o1, vs1, two _ _ _ _ g1, d1, c1⟩ (Nat.ne_of_lt (lt2 _ _ _ g1)) (Heap.get?_push_size _ rfl) rfl (by simp <;> omega) ?_
  refine q _ _ (fun b o e => ?_) ⟨_, Heap.get?_update_self _ (Heap.get?_push_size _ rfl) rfl, rfl⟩
  rw [Heap.get?_update_other _ _ (Nat.ne_of_gt (lt2 _ _ _ e))]
  exact two _ _ _ _ e
theorem nextOf_end_hot {x1 it l : Addr} {i : Nat} {items} {Q : Value → Shared → Prop} (hot : HotAt A x1 s.heap) (hx1 : it ≠ x1)
    (hit : s.heap.IsListIter it l i) (hl : s.heap.IsList l items) (hx : items[i]? = none)
    (hE : ∀ h' e, (∀ b o, b ≠ it → s.heap.get? b = some o → h'.get? b = some o) → (∃ o, h'.get? e = some o ∧ o.cls = .type "StopIteration") → E (.ref e) { s with heap := h' }) :
    wpAny (model prog w) A (Builtin.SmallTypes.nextOf (.ref it)) Q E s := by
  obtain ⟨oi, gi, ci, di⟩ := id hit
  obtain ⟨ol, gl, _, nl, dl⟩ := hl
  obtain ⟨hh, o1, vs1, g1, d1, c1⟩ := hot
  unfold Builtin.SmallTypes.nextOf
  refine wpAny_bind (wpAny_callSpecial?_slot (name := Str.ofString "__next__") hit.typeIs slot_listiter_next (wpAny_call_entry slot_listiter_next hit.typeIs entry_listiter_next ?_ (args_listiter_next _)))
  show wpAny _ _ (field (Value.ref it) 0 >>= _) _ _ s
  refine wpAny_bind (wpAny_field gi di (x := Value.ref l) rfl ?_)
  show wpAny _ _ (if (Value.ref l == Value.none) = true then _ else _) _ _ _
  rw [if_neg (show ¬ (Value.ref l == Value.none) = true from Bool.false_ne_true)]
  show wpAny _ _ (field (Value.ref it) 1 >>= _) _ _ s
  refine wpAny_bind (wpAny_field gi di (x := Value.int i 0) rfl ?_)
  show wpAny _ _ (seqItems? (Value.ref l) >>= _) _ _ s
  refine wpAny_bind (wpAny_seqItems gl dl ?_)
  simp only [Int.toNat_natCast, hx]
  refine wpAny_bind (wpAny_rule (wpAny_bind (wpAny_setField gi di (by simp) ?_)))
  refine stop_hot (x1 := x1) (it := it) ⟨hh, o1, vs1, ?_, d1, c1⟩ fun h' e k st => hE h' e (fun b o hb eb => k b o ?_) st
  · exact (Heap.get?_update_other _ _ hx1).trans g1
  · exact (Heap.get?_update_other _ _ (Ne.symm hb)).trans eb
theorem zip_end_hot {x1 z TI TO i1 i2 l1 : Addr} {k1 : Nat} {xs : Array Value} {Q : Option Value → Shared → Prop} (hot : HotAt A x1 s.heap) (n1 : i1 ≠ x1) (nz : z ≠ x1) (iz : i1 ≠ z) (lz : l1 ≠ z)
    (hz : IsZip s.heap z TI TO .none) (hTI : IsPair s.heap TI (.ref i1) (.ref i2)) (h1 : s.heap.IsListIter i1 l1 k1) (hl1 : s.heap.IsList l1 xs) (hx : xs[k1]? = none)
    (hQ : ∀ h', (∀ c o, c ≠ z → c ≠ i1 → s.heap.get? c = some o → h'.get? c = some o) → Q none { s with heap := h' }) : wpAny (model prog w) A (pyNext (.ref z)) Q E s := by
  have tz : s.TypeIs (.ref z) "zip" := ⟨_, hz, rfl⟩
  obtain ⟨hh, o1, vs1, g1, d1, c1⟩ := hot
  unfold pyNext
  refine wpAny_bind (wpAny_attempt (wpAny_callSpecial?_slot (name := Str.ofString "__next__") tz F.slot_zip_next (wpAny_call_entry F.slot_zip_next tz F.entry_zip_next ?_ (F.args_zip_next_1 _))))
  show wpAny _ _ (field (Value.ref z) 2 >>= _) _ _ s
  refine wpAny_bind (wpAny_field hz rfl (x := Value.bool false) rfl ?_)
  show wpAny _ _ (field (Value.ref z) 3 >>= _) _ _ s
  refine wpAny_bind (wpAny_field hz rfl (x := Value.ref TI) rfl ?_)
  refine wpAny_bind (wpAny_seqItems hTI rfl ?_)
  show wpAny _ _ (Builtin.SmallTypes.ownedTupleIsFree (Value.ref z) >>= _) _ _ s
  refine wpAny_bind ?_
  unfold Builtin.SmallTypes.ownedTupleIsFree
  refine wpAny_bind (wpAny_field hz rfl (x := Value.none) rfl (wpAny_pure ?_))
  simp only [if_true]
  refine wpAny_bind (wpAny_rule ?_)
  refine wpAny_bind (wpAny_field hz rfl (x := Value.ref TO) rfl ?_)
  refine wpAny_bind (wpAny_setField_rec hz (by simp) fun ha za sa => ?_)
  have za : IsZip ha z TI TO .ellipsis := za
  refine wpAny_bind ?_
  simp only [List.zipIdx_cons, List.zipIdx_nil, List.forIn_cons, List.forIn_nil]
  refine wpAny_bind (wpAny_bind (wpAny_onRaise ?_))
  show wpAny _ _ (Builtin.SmallTypes.nextOf (Value.ref i1) >>= _) _ _ _
  have hotA : HotAt A x1 ha := ⟨hh, o1, vs1, sa.extBut _ _ (Ne.symm nz) g1, d1, c1⟩
  refine wpAny_bind (nextOf_end_hot (s := { s with heap := ha }) hotA n1 (h1.extBut sa.extBut iz) (hl1.extBut sa.extBut lz) hx fun hb e kb st => ?_)
  obtain ⟨oe, ge, ce⟩ := st
  have zb : IsZip hb z TI TO .ellipsis := kb _ _ (Ne.symm iz) za
  have nez : e ≠ z := fun q => by
    rw [q, zb] at ge
    cases ge
    exact absurd ce (by simp)
  refine wpAny_setField_rec (s := { s with heap := hb }) zb (by simp) fun hc zc sc => ?_
  refine wpAny_bind (wpAny_isInstance (T := "StopIteration") (b := true) ⟨oe, sc.extBut _ _ nez ge, ce⟩ isSubtype_stop ?_)
  exact wpAny_pure (hQ hc fun c o c1 c2 eo => sc.extBut _ _ c1 (kb _ _ c2 (sa.extBut _ _ c1 eo)))
theorem tup_end_hot {x1 it t : Addr} {i : Nat} {items} {Q : Option Value → Shared → Prop} (hot : HotAt A x1 s.heap) (n1 : it ≠ x1) (hit : IsTupIter s.heap it t i) (ht : IsTup s.heap t items) (hx : items[i]? = none)
    (hQ : ∀ h', (∀ b o, b ≠ it → s.heap.get? b = some o → h'.get? b = some o) → Q none { s with heap := h' }) : wpAny (model prog w) A (pyNext (.ref it)) Q E s := by
  obtain ⟨oi, gi, ci, di⟩ := id hit
  obtain ⟨ol, gl, _, nl, dl⟩ := ht
  obtain ⟨hh, o1, vs1, g1, d1, c1⟩ := hot
  unfold pyNext
  refine wpAny_bind (wpAny_attempt (wpAny_callSpecial?_slot (name := Str.ofString "__next__") hit.typeIs slot_tupleiter_next (wpAny_call_entry slot_tupleiter_next hit.typeIs entry_tupleiter_next ?_ (args_tupleiter_next _))))
  show wpAny _ _ (field (Value.ref it) 0 >>= _) _ _ s
  refine wpAny_bind (wpAny_field gi di (x := Value.ref t) rfl ?_)
  show wpAny _ _ (if (Value.ref t == Value.none) = true then _ else _) _ _ _
  rw [if_neg (show ¬ (Value.ref t == Value.none) = true from Bool.false_ne_true)]
  show wpAny _ _ (field (Value.ref it) 1 >>= _) _ _ s
  refine wpAny_bind (wpAny_field gi di (x := Value.int i 0) rfl ?_)
  show wpAny _ _ (seqItems? (Value.ref t) >>= _) _ _ s
  refine wpAny_bind (wpAny_seqItems gl dl ?_)
  simp only [Int.toNat_natCast, hx]
  refine wpAny_bind (wpAny_rule (wpAny_bind (wpAny_setField gi di (by simp) ?_)))
  refine stop_hot (x1 := x1) (it := it) ⟨hh, o1, vs1, (Heap.get?_update_other _ _ n1).trans g1, d1, c1⟩ fun h' e k st => ?_
  obtain ⟨oe, ge, ce⟩ := st
  refine wpAny_bind (wpAny_isInstance (T := "StopIteration") (b := true) ⟨oe, ge, ce⟩ isSubtype_stop ?_)
  exact wpAny_pure (hQ h' fun b o hb eb => k b o ((Heap.get?_update_other _ _ (Ne.symm hb)).trans eb))
theorem unpack_hot {x1 : Addr} {env : Env} {elts : List Expr} {k} {pos : Pos} {t : Addr} {items : Array Value} {Q : Unit → Shared → Prop} (hot : HotAt A x1 s.heap) (ht : IsTup s.heap t items)
    (hn : (assignEach elts env).length = items.size) (hst : (assignEach elts env).findIdx? (·.1) = none)
    (h : ∀ h', (∀ b o, s.heap.get? b = some o → h'.get? b = some o) → wpAny (model prog w) A (assignInOrder ((assignEach elts env).map (·.2)) items.toList) Q E { s with heap := h' }) :
    wpAny (model prog w) A (assign (.Tuple elts k pos) env (.ref t)) Q E s := by
  rw [assign_Tuple]
  obtain ⟨hh, o1, vs1, g1, d1, c1⟩ := hot
  have nt : t ≠ s.heap.objs.size := by obtain ⟨o, ho, _⟩ := ht; exact Nat.ne_of_lt (Heap.lt_size ho)
  refine wpAny_bind (wpAny_standAt ?_)
  unfold unpack
  rw [hn, hst]
  refine wpAny_bind (wpAny_holding ?_)
  unfold unpackItems
  refine wpAny_bind ?_
  unfold notIterableAtAll
  refine wpAny_bind (wpAny_specialOf ht.typeIs slot_tuple_iter.lookup ?_)
  refine wpAny_pure ?_
  simp only [Bool.false_eq_true, if_false]
  refine wpAny_bind (wpAny_holding (iter_tuple ht ?_))
  refine wpAny_bind (wpAny_holding (draw_tuple nt items.size 0 _ _ ⟨_, Heap.get?_push_size _ rfl, rfl, rfl⟩ (ht.push _) (by omega) fun ha ia sa => ?_))
  rw [show (items.toList.drop 0).take items.size = items.toList by rw [List.drop_zero]; exact List.take_of_length_le (by simp), if_neg (by simp)]
  have ta : IsTup ha t items := (ht.push _).extBut sa.extBut nt
  have up : ∀ b o, s.heap.get? b = some o → ha.get? b = some o := fun b o e => sa.extBut b o (Nat.ne_of_lt (Heap.lt_size e)) (Heap.get?_push_of_some _ e)
  refine wpAny_bind (wpAny_holding (tup_end_hot (s := { s with heap := ha }) (x1 := x1) ⟨hh, o1, vs1, up _ _ g1, d1, c1⟩ (Nat.ne_of_gt (Heap.lt_size g1)) ia ta (by simp) fun hb kb => ?_))
  simp only [Option.isSome_none, Bool.false_eq_true, if_false]
  exact wpAny_pure (h hb fun b o e => kb b o (Nat.ne_of_lt (Heap.lt_size e)) (up b o e))
end
end Y
set_option Elab.async false
set_option linter.all false
set_option maxRecDepth 100000
set_option maxHeartbeats 4000000
/-! Y45: a comprehension over zip where an exception is handled -/
namespace Y
open PySem PySem.Spec L2 HotX
open PyProof.Rows hiding St
/-- the exception that is handled stood ahead of the entry, out of reach -/
def HotX (X : Cx) : Prop := ∃ x1 o1 vs, X.A.handled = some (.ref x1) ∧ X.s_0.heap.get? x1 = some o1 ∧ o1.data = .fields vs ∧ vs[2]? = some .none ∧ X.H_0 x1 = none ∧ x1 ∉ X.fs ∧ x1 ∉ X.ex
section
variable {X : Cx} {pins : List (Addr × Obj)} {σ : L2.St} {H : Hp} {s : Shared}
theorem HotX.look (h : HotX X) (I : L2.Inv X pins σ H s) : ∃ x1, HotAt X.A x1 s.heap ∧ x1 < X.s_0.heap.objs.size ∧ H x1 = none ∧ x1 ∉ X.fs ∧ x1 ∉ X.ex := by
  obtain ⟨x1, o1, vs, e1, e2, e3, e4, e5, e6, e7⟩ := h
  exact ⟨x1, ⟨e1, o1, vs, I.base.keep x1 o1 e2 e5 e6 e7, e3, e4⟩, Heap.lt_size e2, I.base.free x1 o1 e2 e5 e7, e6, e7⟩
/-- .. and ahead of a block's -/
theorem HotX.blk (h : HotX X) (I : L2.Inv X pins σ H s) {scope : Scope} {ce : Env} {fp : List Addr} (hf : ∀ b ∈ fp, FpOk X pins H b) : HotX (X.blk s H scope ce fp) := by
  obtain ⟨x1, ⟨e1, o1, vs, e2, e3, e4⟩, lt, e5, e6, e7⟩ := h.look I
  refine ⟨x1, o1, vs, e1, e2, e3, e4, e5, fun z => ?_, fun z => ?_⟩
  · rcases List.mem_cons.mp (I.stkSub x1 z) with q | q
    · have := I.ok.above
      rw [q] at lt
      exact absurd (Nat.lt_of_lt_of_le lt this) (Nat.lt_irrefl _)
    · exact e6 q
  · rcases (hf x1 z).2.2.2.1 with q | q
    · exact e7 q
    · exact absurd (Nat.lt_of_lt_of_le lt q) (Nat.lt_irrefl _)
theorem pg_tupX {es : List Expr} {k : Nat} {t : TGs} {n : Nat} {pos : Pos} (hx : HotX X) (h : PGs X es t) (hn : (assignEach es X.env).length = n := by rfl) (hst : (assignEach es X.env).findIdx? (·.1) = none := by rfl) : PG X (.Tuple es k pos) (gTup X.K n t) := by
  refine ⟨fun pins s σ H v u Q I r q => ?_⟩
  obtain ⟨a, xs, rfl, hq, hl, q⟩ := q
  cases r
  obtain ⟨its, rv, ht, _⟩ := I.tuple hq
  obtain ⟨x1, hot, _⟩ := hx.look I
  refine unpack_hot hot ht (by simp [hn, ← hl, rv.length]) hst fun h' k => ?_
  have J : L2.Inv X pins σ H { s with heap := h' } := I.kept (t' := s.toks) k
  exact h.run pins _ σ H xs _ Q J (by simpa using rv) q
/-- a walk's turns, as L2's, where an exception is handled -/
structure TurnX (P : Program) (w : World) (K : PySem.W.Frag) (tg : Expr) (J : It) (fp : List Addr) (it : Addr) (tn : Nat → Heap → Prop) : Prop where
  obj : ∀ i h, tn i h → ∀ b ∈ fp, ∃ o, h.get? b = some o ∧ ∀ v, o.data ≠ .cell v
  keep : ∀ i h h', tn i h → (∀ b ∈ fp, ∀ o, h.get? b = some o → h'.get? b = some o) → tn i h'
  item : ∀ (X : Cx), X.prog = P → X.w = w → X.K = K → ∀ (i : Nat) (pins : List (Addr × Obj)) (s : Shared) (σ : L2.St) (H : Hp) (E : Value → Shared → Prop), L2.Inv X pins σ H s → (∀ b ∈ fp, FpOk X pins H b) → tn i s.heap → J.go i H →
    wpAny (model P w) X.A (pyNext (.ref it)) (fun r s1 => ∃ u, r = some u ∧
      wpAny (model P w) X.A (letOwnedTupleGo tg (.ref it) u) (fun _ s2 => ∃ x H', L2.Inv X pins σ H' s2 ∧ RelV x u ∧ J.yld i H x H' ∧ tn (i + 1) s2.heap ∧ ∀ b ∈ fp, H' b = none) E s1) E s
  done : ∀ (X : Cx), X.prog = P → X.w = w → X.K = K → HotX X → ∀ (i : Nat) (pins : List (Addr × Obj)) (s : Shared) (σ : L2.St) (H : Hp) (E : Value → Shared → Prop), L2.Inv X pins σ H s → (∀ b ∈ fp, FpOk X pins H b) → tn i s.heap → J.stop i H →
    wpAny (model P w) X.A (pyNext (.ref it)) (fun r s1 => r = none ∧ L2.Inv X pins σ H s1) E s
  self : ∀ (A : Around) (i : Nat) (s : Shared) (Q : Value → Shared → Prop) (E : Value → Shared → Prop), tn i s.heap → Q (.ref it) s → wpAny (model P w) A (pyIter (.ref it)) Q E s
/-- the first list ends first -/
def ItzX (K : PySem.W.Frag) (a b : Addr) : It := ⟨(Itz K a b).go, (Itz K a b).yld, fun i H => ∃ xs ys : List V, SqL K H a xs ∧ SqL K H b ys ∧ xs.length ≤ i⟩
theorem turn_zipX {P : Program} {w : World} {K : PySem.W.Frag} {elts : List Expr} {kk : Nat} {tpos : Pos} {a b z TI TO i1 i2 : Addr} (D : ZipApart z TI TO i1 i2 a b) :
    TurnX P w K (.Tuple elts kk tpos) (ItzX K a b) [z, TI, TO, i1, i2] z (fun i h => IsZip h z TI TO .none ∧ IsPair h TI (.ref i1) (.ref i2) ∧ (∃ x y, IsPair h TO x y) ∧ h.IsListIter i1 a i ∧ h.IsListIter i2 b i) where
  obj := fun i h st c hc => by
    obtain ⟨za, zb, ⟨x, y, zc⟩, ⟨p1, q1, _, r1⟩, ⟨p2, q2, _, r2⟩⟩ := st
    simp only [List.mem_cons, List.not_mem_nil, or_false] at hc
    rcases hc with e | e | e | e | e <;> subst e
    · exact ⟨_, za, (fun v t => nomatch t)⟩
    · exact ⟨_, zb, (fun v t => nomatch t)⟩
    · exact ⟨_, zc, (fun v t => nomatch t)⟩
    · exact ⟨p1, q1, fun v t => by rw [r1] at t; cases t⟩
    · exact ⟨p2, q2, fun v t => by rw [r2] at t; cases t⟩
  keep := fun i h h' st k => by
    obtain ⟨za, zb, ⟨x, y, zc⟩, u1, u2⟩ := st
    exact ⟨k z (by simp) _ za, k TI (by simp) _ zb, ⟨x, y, k TO (by simp) _ zc⟩, u1.at fun o t => k i1 (by simp) o t, u2.at fun o t => k i2 (by simp) o t⟩
  item := by
    intro X hP hw hK i pins s σ H E I hf st hg
    subst hP hw hK
    obtain ⟨za, zb, ⟨x0, y0, zc⟩, u1, u2⟩ := st
    obtain ⟨xs, ys, x, y, sa, sb, ea, eb⟩ := hg
    obtain ⟨la, va, pa, _⟩ := I.list sa
    obtain ⟨lb, vb, pb, _⟩ := I.list sb
    obtain ⟨v1, e1, r1⟩ := va.get ea
    obtain ⟨v2, e2, r2⟩ := vb.get eb
    have zlt : z < s.heap.objs.size := Heap.lt_size za
    refine wpAny_pyNext_zip_item D za zb zc u1 u2 pa.isList pb.isList (x := v1) (y := v2) (by simpa using e1) (by simpa using e2) fun h' z' t' a1 a2 tT _ kk => ?_
    refine ⟨_, rfl, wpAny_letOwnedTupleGo_zip (s := { s with heap := h' }) z' fun h2 z2 so => ?_⟩
    have pT : h2.get? s.heap.objs.size = some { cls := .type "tuple", data := .seq #[v1, v2] } := (so.2 _ (Nat.ne_of_gt zlt)).trans tT
    have ok : ObjOk X.prog X.w (upd H s.heap.objs.size (.tup [x, y])) h2 s.heap.objs.size (.tup [x, y]) := ⟨by show 2 ≤ sizeLine; decide, [v1, v2], .cons r1 (.cons r2 .nil), ⟨_, pT, rfl, _, rfl⟩⟩
    have J : L2.Inv X pins σ (upd H s.heap.objs.size (.tup [x, y])) { s with heap := h2 } :=
      I.turnedNew (t' := s.toks) (ch := [z, TI, TO, i1, i2]) (fun c o hb t => by
        simp only [List.mem_cons, List.not_mem_nil, or_false, not_or] at hb
        exact (so.2 c hb.1).trans (kk c o hb.1 hb.2.2.1 hb.2.2.2.1 hb.2.2.2.2 t)) hf (Nat.le_refl _) ok
    refine ⟨.ref s.heap.objs.size, _, J, rfl, ⟨_, x, y, rfl, I.hok.fresh (Nat.le_refl _), rfl, fun l hl => by rw [I.list_inj hl sa]; exact ea, fun l hl => by rw [I.list_inj hl sb]; exact eb⟩, ⟨z2, ?_, ⟨v1, v2, ?_⟩, ?_, ?_⟩, fun c hc => ?_⟩
    · exact (so.2 _ D.TIz).trans (kk _ _ D.TIz D.TITO D.TIi1 D.TIi2 zb)
    · exact (so.2 _ D.TOz).trans t'
    · exact a1.at fun o t => (so.2 _ D.i1z).trans t
    · exact a2.at fun o t => (so.2 _ D.i2z).trans t
    · have lt : c < s.heap.objs.size := by
        simp only [List.mem_cons, List.not_mem_nil, or_false] at hc
        obtain ⟨_, g1, _⟩ := u1
        obtain ⟨_, g2, _⟩ := u2
        rcases hc with e | e | e | e | e <;> subst e <;> first | exact zlt | exact Heap.lt_size zb | exact Heap.lt_size zc | exact Heap.lt_size g1 | exact Heap.lt_size g2
      have ne : c ≠ s.heap.objs.size := Nat.ne_of_lt lt
      rw [upd_ne ne]
      exact (hf c hc).1
  done := by
    intro X hP hw hK hx i pins s σ H E I hf st hg
    subst hP hw hK
    obtain ⟨za, zb, ⟨x0, y0, zc⟩, u1, u2⟩ := st
    obtain ⟨xs, ys, sa, sb, hend⟩ := hg
    obtain ⟨la, va, pa, _⟩ := I.list sa
    have ll := va.length
    obtain ⟨x1, hot, lt, _, _, nex⟩ := hx.look I
    have off : ∀ c ∈ [z, TI, TO, i1, i2], c ≠ x1 := fun c hc e => by
      subst e
      rcases (hf _ hc).2.2.2.1 with q | q
      · exact nex q
      · exact absurd (Nat.lt_of_lt_of_le lt q) (Nat.lt_irrefl _)
    exact zip_end_hot hot (off i1 (by simp)) (off z (by simp)) D.i1z D.l1z za zb u1 pa.isList (by simp; omega) fun h' kk => ⟨rfl, I.turnedL (t' := s.toks) (ch := [z, TI, TO, i1, i2]) (fun c o hb t => by
      simp only [List.mem_cons, List.not_mem_nil, or_false, not_or] at hb
      exact kk c o hb.1 hb.2.2.2.1 t) hf⟩
  self := fun A i s Q E st h => wpAny_pyIter_zip st.1 h
end
end Y
set_option Elab.async false
set_option linter.all false
set_option maxRecDepth 100000
set_option maxHeartbeats 1000000
/-! Y46: list comprehensions where an exception is handled -/
namespace Y
open PySem PySem.Spec L2 HotX
open PyProof.Rows hiding St
/-- an iterator has come, where an exception is handled -/
def PIEX (X : Cx) (pins : List (Addr × Obj)) (σ : L2.St) (tg : Expr) (R : It → Hp → Prop) (itv : Value) (s2 : Shared) : Prop :=
  ∃ (it : Addr) (fp : List Addr) (tn : Nat → Heap → Prop) (J : It) (H' : Hp), itv = .ref it ∧ L2.Inv X pins σ H' s2 ∧ TurnX X.prog X.w X.K tg J fp it tn ∧ tn 0 s2.heap ∧ (∀ b ∈ fp, FpOk X pins H' b) ∧ R J H'
structure PIX (X : Cx) (tg iter : Expr) (wi : TI) : Prop where
  run : ∀ (pins : List (Addr × Obj)) (s : Shared) (σ : L2.St) (H : Hp) (R : It → Hp → Prop), L2.Inv X pins σ H s → wi σ H R →
    wpAny (model X.prog X.w) X.A (eval iter X.env) (fun v s1 => wpAny (model X.prog X.w) X.A (pyIter v) (PIEX X pins σ tg R) X.xe s1) X.xe s
def iZipX (K : PySem.W.Frag) (ta : TA) : TI := fun σ H R => ta σ H fun vs H1 => ∃ a b xs ys, vs = [.ref a, .ref b] ∧ SqL K H1 a xs ∧ SqL K H1 b ys ∧ R (ItzX K a b) H1
section
variable {X : Cx} {pos : Pos}
theorem pix_zip {e e2 : Expr} {ta : TA} {p tpos : Pos} {elts : List Expr} {kk : Nat} (hg : Gl X "zip") (hm : X.mg "zip" = none) (ha : PA X [e, e2] ta)
    (hs : starEach [e, e2] X.env = (false, eval e X.env) :: starEach [e2] X.env := by rfl) (hpl : (backTo pos (starEach [e2] X.env)).any (·.1) = false := by rfl) :
    PIX X (.Tuple elts kk tpos) (.Call (.Name "zip" p) [e, e2] [] pos) (iZipX X.K ta) := by
  refine ⟨fun pins s σ H R I h => ?_⟩
  refine Call_ (ld_blt I hg hm PyProof.Rows.boot_zip (PyProof.Rows.callWith_type1 (thn (ha.run pos pins s σ H _ I h) fun us s1 ⟨vs, H1, I1, r1, q1⟩ => ?_) hs hpl))
  obtain ⟨a, b, xs, ys, rfl, sa, sb, q⟩ := q1
  have key : ∃ u1 u2, us = [u1, u2] ∧ u1 = Value.ref a ∧ u2 = Value.ref b := by
    cases r1 with
    | cons ra rr =>
      cases rr with
      | cons rb rr =>
        cases rr
        exact ⟨_, _, rfl, ra, rb⟩
  obtain ⟨_, _, rfl, rfl, rfl⟩ := key
  obtain ⟨la, _, pa, _⟩ := I1.list sa
  obtain ⟨lb, _, pb, _⟩ := I1.list sb
  refine call_zip_2 pa.isList pb.isList fun h' za zb zc u1 u2 _ kp => wpAny_pyIter_zip za ?_
  refine ⟨s1.heap.objs.size + 4, [s1.heap.objs.size + 4, s1.heap.objs.size + 2, s1.heap.objs.size + 3, s1.heap.objs.size, s1.heap.objs.size + 1], _, _, H1, rfl, I1.kept (t' := s1.toks) kp, turn_zipX (PySem.W.ktu_apart s1.heap.objs.size a b pa.lt pb.lt), ⟨za, zb, ⟨_, _, zc⟩, u1, u2⟩, fun c hc => ?_, q⟩
  have le : s1.heap.objs.size ≤ c := by
    simp only [List.mem_cons, List.not_mem_nil, or_false] at hc
    rcases hc with t | t | t | t | t <;> rw [t] <;> first | exact Nat.le_refl _ | exact Nat.le_add_right _ _
  exact I1.fpOk le (I1.hok.fresh le)
/-- [elt for tg in iter if ..] -/
theorem pe_lcX {elt tg iter : Expr} {ifs : List Expr} {scope : Scope} {own : List (Str × Nat)} {wi : TI} {g : TG} {tt : TT} {te : TE} (hot : HotX X) (hN : X.N.Nodup) (hi : PIX X tg iter wi) (ok : BlkOk X.N X.env.scope scope own)
    (hg : ∀ (s : Shared) (H : Hp) (C : Addr) (cl : List (Str × Addr)) (fp : List Addr), HotX (X.blk s H scope (compEnvC scope cl C X.env) fp) → PG (X.blk s H scope (compEnvC scope cl C X.env) fp) tg g)
    (ht : ∀ (s : Shared) (H : Hp) (C : Addr) (cl : List (Str × Addr)) (fp : List Addr), PTs (X.blk s H scope (compEnvC scope cl C X.env) fp) ifs tt)
    (he : ∀ (s : Shared) (H : Hp) (C : Addr) (cl : List (Str × Addr)) (fp : List Addr), PE (X.blk s H scope (compEnvC scope cl C X.env) fp) elt te) (hs : ∀ x, foldedSetIterable iter X.env x = pure x := by intro _; rfl) :
    PE X (.ListComp elt [⟨tg, iter, ifs, 0⟩] scope pos) (tLc wi g tt te (own.map (·.2))) := by
  refine ⟨fun pins s σ H Q I h => ?_⟩
  rw [eval_ListComp]
  have fr : ∀ y ∈ scope.names, y.2 = .free → ∃ c, X.env.cells.lookup y.1 = some c := fun y hy e => (ok.free y hy e).elim (fun k => I.ok.has _ (.inl k)) fun k => I.ok.has _ (.inr k)
  refine wpAny_comprehension_free (use := none) rfl hs (closure_ok fr) ok.kind (fun y hy e => by rw [ok.uniq y hy, e]) (thn (hi.run pins s σ H _ I h) fun xv s1 hx => thn hx fun itv s2 h2 => ?_)
  obtain ⟨it, fp, tn, J, H2, rfl, I2, T, t2, f2, q⟩ := h2
  refine wpAny_newObj_type (newEnv_comp ?_) (by show 0 ≤ sizeLine; decide)
  generalize eD : s2.heap.objs.size = D
  have nD : H2 D = none := I2.hok.fresh (Nat.le_of_eq eD)
  obtain ⟨W, ⟨m0, w0⟩, turn⟩ := q D nD
  generalize es3 : ({ s2 with heap := s2.heap.push { cls := .type "list", data := .seq ([] : List Value).toArray } } : Shared) = s3
  have p3 : s3.heap = s2.heap.push { cls := .type "list", data := .seq ([] : List Value).toArray } := by rw [← es3]
  have I3 : L2.Inv X pins σ (upd H2 D (.lst [])) s3 := by
    rw [← es3]
    refine I2.laid (t' := s2.toks) (fun b o e => Heap.get?_push_of_some _ e) (Nat.le_of_eq eD) ⟨Nat.zero_le _, [], 0, .nil, ?_⟩
    rw [← eD]
    exact Heap.get?_push_size _ rfl
  have below : ∀ b ∈ fp, b < s2.heap.objs.size := fun b hb => let ⟨o, e, _⟩ := T.obj _ _ t2 b hb; Heap.lt_size e
  have f3 : ∀ b ∈ fp, FpOk X pins (upd H2 D (.lst [])) b := fun b hb => by
    refine ⟨?_, (f2 b hb).2⟩
    rw [upd_ne (by rw [← eD]; exact Nat.ne_of_lt (below b hb))]
    exact (f2 b hb).1
  have l3 : ∀ b ∈ fp, b < s3.heap.objs.size := fun b hb => by rw [p3, Heap.size_push]; exact Nat.lt_succ_of_lt (below b hb)
  have t3 : tn 0 s3.heap := T.keep _ _ _ t2 fun b _ o e => by rw [p3]; exact Heap.get?_push_of_some _ e
  have I4 := block_start I3 ok hN fun b hb => ⟨f3 b hb, l3 b hb⟩
  have hotB : ∀ ce, HotX (X.blk s3 (upd H2 D (.lst [])) scope ce fp) := fun ce => hot.blk I3 f3
  have pg := hg s3 (upd H2 D (.lst [])) s3.heap.objs.size (cellsFrom (s3.heap.objs.size + 1) scope.names (cloFrom X.env.cells scope.names [])) fp (hotB _)
  have pt := ht s3 (upd H2 D (.lst [])) s3.heap.objs.size (cellsFrom (s3.heap.objs.size + 1) scope.names (cloFrom X.env.cells scope.names [])) fp
  have pe := he s3 (upd H2 D (.lst [])) s3.heap.objs.size (cellsFrom (s3.heap.objs.size + 1) scope.names (cloFrom X.env.cells scope.names [])) fp
  have back : ∀ s' m H', L2.Inv X pins σ H' s' → Q (.ref D) H' → s'.heap.Ns s3.heap.objs.size m → FpOk X pins H' s3.heap.objs.size → compPost (model X.prog X.w) X.A X.xe none (EP X pins σ Q) (.ref D) s3.heap.objs.size (.ok .next) s' := fun s' m H' I' q' hn f => by
    refine ⟨m, hn, fun h2 sb => ?_⟩
    obtain ⟨f0, f1, f2, f4, f5, f6⟩ := f
    exact ⟨.ref D, H', I'.turned (t' := s'.toks) (fun b o hb e => (sb.2 b hb).trans e) f0 f1 f4 f5 f6, rfl, q'⟩
  show codeAny _ _ (.compStart (.ListComp elt [⟨tg, iter, ifs, 0⟩] scope pos) 0 (Value.ref it) (Value.ref D) (compEnvC scope (cellsFrom (s3.heap.objs.size + 1) scope.names (cloFrom X.env.cells scope.names [])) s3.heap.objs.size X.env)) _ { s3 with heap := pushCells (s3.heap.push { cls := .type "dict", data := .dict #[] }) scope.names }
  generalize ece : compEnvC scope (cellsFrom (s3.heap.objs.size + 1) scope.names (cloFrom X.env.cells scope.names [])) s3.heap.objs.size X.env = ce at I4 pg pt pe ⊢
  have lce : ce.locals = s3.heap.objs.size := by subst ece; rfl
  have hotC := hotB ce
  have f3' : ∀ b ∈ fp, upd H2 D (.lst []) b = none := fun b hb => (f3 b hb).1
  generalize eH3 : upd H2 D (.lst []) = H3 at I3 I4 pg pt pe w0 f3 f3' hotC
  generalize es4 : ({ s3 with heap := pushCells (s3.heap.push { cls := .type "dict", data := .dict #[] }) scope.names } : Shared) = s4 at I4 ⊢
  have t4 : tn 0 s4.heap := T.keep _ _ _ t3 fun b _ o e => by rw [← es4]; exact pushCells_keeps _ _ _ _ (Heap.get?_push_of_some _ e)
  have stays : ∀ {σ' : L2.St} {H' : Hp} {s' : Shared}, L2.Inv (X.blk s3 H3 scope ce fp) [] σ' H' s' → (∀ b ∈ fp, H' b = none) → ∀ b ∈ fp, FpOk (X.blk s3 H3 scope ce fp) [] H' b := fun {σ' H' s'} I' hn b hb =>
    ⟨hn b hb, (I'.ok.exf b hb).1, I'.ok.exfs b hb, .inl hb, fun x c e => (I'.ok.exf b hb).2 x c e, fun p hp => absurd (show p ∈ ([] : List (Addr × Obj)) from hp) (by simp)⟩
  have loop : codeAny (model X.prog X.w) X.A (.compLoop (.ListComp elt [⟨tg, iter, ifs, 0⟩] scope pos) 0 (Value.ref it) (Value.ref D) ce) (compPost (model X.prog X.w) X.A X.xe none (EP X pins σ Q) (.ref D) s3.heap.objs.size) s4 := by
    refine compLoop_any (fun n s' => ∃ i H', L2.Inv (X.blk s3 H3 scope ce fp) [] (wipe σ (own.map (·.2))) H' s' ∧ tn i s'.heap ∧ (∀ b ∈ fp, H' b = none) ∧ W i n H') ?_ m0 ⟨0, H3, I4, t4, f3', w0⟩
    rintro n s5 ⟨i, H5, I5, t5, n5, w5⟩
    rcases turn i n H5 w5 with ⟨stop, qq⟩ | ⟨go, Nx, hNx, step⟩
    · refine thnF (T.done (X.blk s3 H3 scope ce fp) rfl rfl rfl hotC i [] s5 _ H5 (fun _ _ => False) I5 (stays I5 n5) t5 stop) fun r s6 ⟨hr, I6⟩ => ?_
      subst hr
      have I7 : L2.Inv X pins σ H5 s6 := I3.call' (ch := fp) I6.os I6.base I6.hok I6.bare fun b hb => let z := f3 b hb; ⟨z.2.2.2.1, z.2.1, z.2.2.2.2.1, z.2.2.2.2.2⟩
      have nC : H5 s3.heap.objs.size = none := by rw [← lce]; exact I6.free
      obtain ⟨m, hn, _⟩ := I6.loc
      have hn : s6.heap.Ns ce.locals m := hn
      rw [lce] at hn
      exact back s6 m H5 I7 qq hn (I3.fpOk (Nat.le_refl _) nC)
    · refine thnF (T.item (X.blk s3 H3 scope ce fp) rfl rfl rfl i [] s5 _ H5 (fun _ _ => False) I5 (stays I5 n5) t5 go) fun r s6 ⟨u, hr, h6⟩ => ?_
      subst hr
      refine thnF h6 fun _ s7 ⟨x, H7, I7, r7, y7, t7, n7⟩ => ?_
      have J7 := I7.pinned (stays I7 n7) (T.obj _ _ t7)
      refine thnF (pg.run _ s7 _ H7 x u _ J7 r7 (step x H7 y7)) fun _ s8 ⟨σ8, H8, I8, e8, q8⟩ => ?_
      refine thnF (pt.run _ s8 σ8 H8 _ I8 q8) fun b s9 ⟨H9, I9, q9⟩ => ?_
      have fin : ∀ {s' : Shared} {H' : Hp}, L2.Inv (X.blk s3 H3 scope ce fp) ([] ++ pinsAt fp s7.heap) σ8 H' s' → Nx H' → ∃ m, m < n ∧ ∃ i H', L2.Inv (X.blk s3 H3 scope ce fp) [] (wipe σ (own.map (·.2))) H' s' ∧ tn i s'.heap ∧ (∀ b ∈ fp, H' b = none) ∧ W i m H' := fun {s' H'} I' nx => by
        obtain ⟨m', hm, w'⟩ := hNx H' nx
        have at' : ∀ b ∈ fp, ∀ o, s7.heap.get? b = some o → s'.heap.get? b = some o ∧ H' b = none := fun b hb o e => (I'.pin (b, o) (List.mem_append_right _ (List.mem_append_right _ (mem_pinsAt hb e)))).imp id And.left
        refine ⟨m', hm, i + 1, H', (I'.unpinned (pins := [])).weak (by rw [← e8, wipe_length]) (fun j v e => ?_), T.keep _ _ _ t7 fun b hb o e => (at' b hb o e).1, fun b hb => ?_, w'⟩
        · rw [← e8] at e
          exact (wipe_some e).1
        · obtain ⟨o, e, _⟩ := T.obj _ _ t7 b hb
          exact (at' b hb o e).2
      cases b with
      | false =>
        simp only [Bool.false_eq_true, if_false] at q9 ⊢
        exact fin I9 q9
      | true =>
        simp only [if_true] at q9 ⊢
        refine thnF (pe.run _ s9 σ8 H9 _ I9 q9) fun z s10 ⟨yv, H10, I10, r10, acc, d10, z10, nx⟩ => ?_
        exact L2.app_ok (X := X.blk s3 H3 scope ce fp) I10 d10 z10 r10 fun s11 I11 => fin I11 nx
  exact codeAny_compStart_list loop (T.self X.A 0 _ _ _ t4 loop)
end
end Y
set_option Elab.async false
set_option linter.all false
set_option maxRecDepth 100000
set_option maxHeartbeats 1000000
/-! Y47: a lambda handed to a def; what it raises keeps that nothing was handled (L2N) -/
namespace Y
open PySem PySem.Spec L2
open PyProof.Rows hiding St
open LamX (CodeO Tabs TabS ExtN TabB LamS lamEnv lamCx)
/-- the context of a lambda's body -/
def lamN (X : Cx) (A : Around) (outer : List Env) (s : Shared) (H : Hp) (E : XK) (scope : Scope) (f c' : Addr) : Cx :=
  (lamCx X A outer s H E scope f c').wish fun e s' => wpAny (model X.prog X.w) (A.deeper (lamEnv X scope s.heap.objs.size f c')) (leaving (lamEnv X scope s.heap.objs.size f c') e) (fun _ s2 => L2N.CX X.prog X.w outer H s E e s2) (fun e' s2 => L2N.CX X.prog X.w outer H s E e' s2) s'
/-- a() in a def that was handed the lambda -/
theorem pe_actN {X : Cx} {pins : List (Addr × Obj)} {σ : L2.St} {H : Hp} {s : Shared} {CXg : CXT} {Eg : XK} {Ng : List Str} {qg : Str} {sg : Scope} {g f c' : Addr} {cdg pm ctv : Value} {params : Arguments} {body : Expr} {scope : Scope} {k i : Nat} {a : Str} {pn : List (Addr × Obj)} {xe : Value → Shared → Prop} {W : WX} {tb : XK → TE} {p1 p2 : Pos}
    (I : L2.Inv X pins σ H s) (L : LamS X.env.scope scope) (hf : s.heap.get? f = some (PySem.W.kla_obj "<lambda>" (X.env.qual ++ "<lambda>") params body scope (cloFrom X.env.cells scope.names []) pm c' ctv)) (nf : H f = none) (ff : f ∉ frs X.stack)
    (hbind : bindArgs (PySem.W.kla_fn "<lambda>" (X.env.qual ++ "<lambda>") params body scope (cloFrom X.env.cells scope.names []) pm (.ref c') ctv) ⟨[], []⟩ = pure [])
    (tk : L2N.Takes ((cxOf CXg X.prog X.w X.K X.mg X.base Ng qg sg g cdg X.A X.stack s H Eg).tr pn xe) W) (hr : L2.Room (k + 1) (X.A.deeper (envOfC qg sg s.heap.objs.size g cdg)))
    (hbody : ∀ (A : Around) (outer : List Env) (s : Shared) (H : Hp) (E : XK), L2.Room k (A.deeper (lamEnv X scope s.heap.objs.size f c')) → PE (lamN X A outer s H E scope f c') body (tb E))
    (hN : Ng[i]? = some a) (hv : Vis sg a) (hd : (a == ("__debug__" : Str)) = false) (hcd : (a == ("__classdict__" : Str)) = false) :
    PE ((cxOf CXg X.prog X.w X.K X.mg X.base Ng qg sg g cdg X.A X.stack s H Eg).tr pn xe) (.Call (.Name a p1) [] [] p2)
      (fun σZ HZ Q => σZ[i]? = some (some (.ref f)) ∧ HZ c' = some (CodeO c' (X.env.qual ++ "<lambda>")) ∧ tb (L2.WE W σZ) σ HZ Q) := by
  refine ⟨fun pz sZ σZ HZ Q IZ ⟨e1, e2, e3⟩ => ?_⟩
  refine wpAny_Call_Name_kw (thn ((pe_var (pos := p1) (i := i) hN hv hd hcd).run pz sZ σZ HZ (fun v H1 => v = .ref f ∧ H1 = HZ) IZ ⟨.ref f, e1, rfl, rfl⟩) fun u s1 ⟨v, H1, I1, r1, ev, eH⟩ => ?_)
  subst ev
  rw [eH] at I1
  obtain rfl : u = Value.ref f := r1
  have hf1 : s1.heap.get? f = some (PySem.W.kla_obj "<lambda>" (X.env.qual ++ "<lambda>") params body scope (cloFrom X.env.cells scope.names []) pm c' ctv) := I1.base.keep f _ hf nf ff (fun z => nomatch (show f ∈ ([] : List Addr) from z))
  refine PySem.W.callWith_F0 ⟨_, _, _, _, hf1⟩ ?_
  have un : Un (frs X.stack) [] H HZ s.heap s1.heap := I1.base
  obtain ⟨⟨oc, vs, t, h1, h2, h3⟩, _, _⟩ := I1.hok c' _ e2
  have rc : codeAny (model X.prog X.w) (X.A.deeper (envOfC qg sg s.heap.objs.size g cdg)) (.call (.ref f) ⟨[], []⟩) (CR (L2N.CX X.prog X.w) (envOfC qg sg s.heap.objs.size g cdg :: X.stack) X.prog X.w HZ s1 Q (L2.WE W σZ)) s1 := by
    refine PySem.W.kla_callFunE hr.depth hf1 rfl L.co L.gen rfl ⟨c', oc, vs, t, rfl, h1, h2, h3⟩ ?_
    rw [hbind]
    refine wpAny_pure (wpAny_newFunctionEnv (fun y hy => (L.own y hy).2) (fun y hy => absurd hy (by simp)) (fun hx hns hsb => ⟨I1.nolimit.fresh _ hsb, ?_⟩) L.kind)
    have kp : ∀ b o, s1.heap.get? b = some o → hx.get? b = some o := fun b o e => hsb.extBut b o (Nat.ne_of_lt (Heap.lt_size e)) (Heap.get?_push_of_some _ e)
    have J := (LamX.lam_start2 (A := X.A.deeper (envOfC qg sg s.heap.objs.size g cdg)) (outer := envOfC qg sg s.heap.objs.size g cdg :: X.stack) (E := L2.WE W σZ) (f := f) (c' := c') (tk := s1.toks + ([] : List (Str × Value)).length) I L I1.env0 hr.hd un hns kp).wish
      (fun e s' => wpAny (model X.prog X.w) ((X.A.deeper (envOfC qg sg s.heap.objs.size g cdg)).deeper (lamEnv X scope s1.heap.objs.size f c')) (leaving (lamEnv X scope s1.heap.objs.size f c') e) (fun _ s2 => L2N.CX X.prog X.w (envOfC qg sg s.heap.objs.size g cdg :: X.stack) HZ s1 (L2.WE W σZ) e s2) (fun e' s2 => L2N.CX X.prog X.w (envOfC qg sg s.heap.objs.size g cdg :: X.stack) HZ s1 (L2.WE W σZ) e' s2) s')
    show codeAny _ _ (.expr body (lamEnv X scope s1.heap.objs.size f c')) _ _
    refine PySem.W.kla_codeExpr (wpAny_mono ((hbody _ _ s1 HZ (L2.WE W σZ) (hr.deeper _)).run [] _ _ HZ Q J e3) (fun v s' hq => ?_) fun e s' hq => hq)
    obtain ⟨w', H', J', rv, q⟩ := hq
    exact ⟨w', H', J'.os, J'.bare, J'.base, J'.hok, rv, q⟩
  have ps := L2N.passAt tk σZ
  refine wpAny_call (codeAny_mono rc fun r s' hq => ?_)
  cases r with
  | error e => exact ps pz HZ s1 e s' I1 hq
  | ok fl =>
    cases fl with
    | ret u => exact I1.after hq
    | next => exact False.elim hq
    | brk => exact False.elim hq
    | cont => exact False.elim hq
/-- the def that calls what it is handed; TT: what it makes of the lambda's reading -/
def GivesN (X : Cx) (Ng : List Str) (x : Str) (sg : Scope) (g : Addr) (cdg : Value) (bg : List Stmt) (a : Str) (q : Str) (TT : (XK → Hp → VK → Prop) → Hp → VK → Prop) : Prop :=
  ∀ (f c' : Addr) (s : Shared) (H : Hp) (Q : VK) (tl : XK → Hp → VK → Prop), (∀ (E E' : XK) (H : Hp) (Q Q' : VK), (∀ cls d H', E cls d H' → E' cls d H') → (∀ v H', Q v H' → Q' v H') → tl E H Q → tl E' H Q') → L2.Room 1 (X.A.deeper (envOfC x sg s.heap.objs.size g cdg)) →
    (∀ (W : WX) (pn : List (Addr × Obj)) (xe : Value → Shared → Prop) (p1 p2 : Pos), L2N.Takes ((cxOf CX0 X.prog X.w X.K X.mg X.base Ng x sg g cdg X.A X.stack s H E0).tr pn xe) W →
      PE ((cxOf CX0 X.prog X.w X.K X.mg X.base Ng x sg g cdg X.A X.stack s H E0).tr pn xe) (.Call (.Name a p1) [] [] p2) (fun σZ HZ Q => σZ[0]? = some (some (.ref f)) ∧ HZ c' = some (CodeO c' q) ∧ tl (L2.WE W σZ) HZ Q)) →
    H c' = some (CodeO c' q) → TT tl H Q →
    ∃ t, PSs (cxOf CX0 X.prog X.w X.K X.mg X.base Ng x sg g cdg X.A X.stack s H E0).nox bg t ∧ t { nx := fun _ H' => Q .non H', rt := Q } (L2.start Ng [.ref f]) H
/-- what the making of a lambda does to what is tracked -/
def Grown (P : Addr) (q : Str) (H H1 : Hp) : Prop := H1 = H ∨ ∃ (ps more : Array Value) (c : Addr), H P = some (.tbl ps) ∧ H c = none ∧ H1 = upd (upd H P (.tbl (ps ++ more))) c (CodeO c q)
theorem lam_make3 {X : Cx} {pins : List (Addr × Obj)} {σ : L2.St} {H : Hp} {s : Shared} {T : List (Addr × Str)} {c P : Addr} {params : Arguments} {body : Expr} {scope : Scope} {pos : Pos} {E : Value → Shared → Prop} {Q : Value → Shared → Prop} (I : L2.Inv X pins σ H s) (TB : TabB X.base X.mg c P) (hcode : X.env.code = .ref c)
    (hm : (P, X.env.qual ++ "<lambda>") ∈ T) (hu : ∀ p ∈ T, p.1 = P → p.2 = X.env.qual ++ "<lambda>") (hT : Tabs T H) (hdef : defaultsOf params X.env = ([], [])) (hfree : ∀ y ∈ scope.names, y.2 = .free → ∃ c, X.env.cells.lookup y.1 = some c)
    (h : ∀ (f c' : Addr) (pm ctv : Value) (H1 : Hp) (s' : Shared), L2.Inv X pins σ H1 s' → Grown P (X.env.qual ++ "<lambda>") H H1 → Tabs T H1 →
      s'.heap.get? f = some (PySem.W.kla_obj "<lambda>" (X.env.qual ++ "<lambda>") params body scope (cloFrom X.env.cells scope.names []) pm c' ctv) → H1 f = none → f ∉ frs X.stack → H1 c' = some (CodeO c' (X.env.qual ++ "<lambda>")) → Q (.ref f) s') :
    wpAny (model X.prog X.w) X.A (eval (.Lambda params body scope pos) X.env) Q E s := by
  obtain ⟨ps, hP, tri, ha⟩ := hT _ hm
  refine PySem.W.kla_eval hdef ?_
  have bP : s.heap.BuiltinsAt X.mg P := TB.bm.keeps I.bk
  have gP : s.heap.get? P = some { cls := .none, data := .fields ps } := I.hok P _ hP
  have off : ∀ f, s.heap.objs.size ≤ f → f ∉ frs X.stack := fun f hf z => by
    rcases List.mem_cons.mp (I.stkSub _ z) with e | e
    · have lt := I.lt
      rw [← e] at lt
      exact Nat.lt_irrefl _ (Nat.lt_of_lt_of_le lt hf)
    · exact I.nofs hf e
  cases hc : codeAmong pos ps.toList with
  | some cv =>
    obtain ⟨c', rfl, hco⟩ := ha pos cv hc
    refine PySem.W.kla_makeFunctionHit (mg := X.mg) (c := c) (P := P) (ps := ps) (closure_ok hfree) I.ok.glob (I.mod.glob.keeps I.bk) hcode (TB.code.keeps I.bk) gP tri hc bP fun ctv h2 tk hx hsz => ?_
    have J : L2.Inv X pins σ H { s with heap := h2.push (PySem.W.kla_obj "<lambda>" (X.env.qual ++ "<lambda>") params body scope (cloFrom X.env.cells scope.names []) ((X.mg "__name__").getD .none) c' ctv), toks := tk } := I.kept fun b o e => Heap.get?_push_of_some _ (hx b o e)
    exact h h2.objs.size c' ((X.mg "__name__").getD .none) ctv H _ J (.inl rfl) hT (Heap.get?_push_size _ rfl) (I.hok.fresh hsz) (off _ hsz) hco
  | none =>
    refine PySem.W.kla_makeFunction (mg := X.mg) (c := c) (P := P) (ps := ps) (closure_ok hfree) I.ok.glob (I.mod.glob.keeps I.bk) hcode (TB.code.keeps I.bk) gP tri hc TB.gP bP fun c' ctv h2 tk hx hge hlt hrec htb => ?_
    obtain ⟨_, oc, vs, t, e2, g2, d2, v2⟩ := hrec
    cases e2
    have hsz : s.heap.objs.size ≤ h2.objs.size := Nat.le_trans hge (Nat.le_of_lt hlt)
    have nC : H c' = none := I.hok.fresh hge
    have J := LamX.inv_table (t' := tk) (more := #[rawInt pos.line, rawInt pos.col, .ref c']) (h' := h2.push (PySem.W.kla_obj "<lambda>" (X.env.qual ++ "<lambda>") params body scope (cloFrom X.env.cells scope.names []) ((X.mg "__name__").getD .none) c' ctv)) I hP
      (fun b o hb e => Heap.get?_push_of_some _ (hx b o hb e)) (Heap.get?_push_of_some _ htb) hge ⟨oc, vs, t, Heap.get?_push_of_some _ g2, d2, v2⟩
    have keep : ∀ b o, H b = some o → (∀ z, o ≠ .tbl z) → upd (upd H P (.tbl (ps ++ #[rawInt pos.line, rawInt pos.col, .ref c']))) c' (CodeO c' (X.env.qual ++ "<lambda>")) b = some o := fun b o e n => by
      rw [upd_ne (ne_of_none e nC), upd_ne fun z => ?_]
      · exact e
      · rw [z, hP] at e
        exact n ps (Option.some.inj e).symm
    have eL : (ps ++ #[rawInt pos.line, rawInt pos.col, .ref c']).toList = ps.toList ++ [rawInt pos.line, rawInt pos.col, .ref c'] := by simp
    refine h h2.objs.size c' ((X.mg "__name__").getD .none) ctv _ _ J (.inr ⟨ps, _, c', hP, nC, rfl⟩) (fun p hp => ?_) (Heap.get?_push_size _ rfl) ?_ (off _ hsz) upd_same
    · by_cases hb : p.1 = P
      · rw [hu p hp hb, hb]
        refine ⟨_, by rw [upd_ne (ne_of_none hP nC), upd_same], by rw [eL]; exact PySem.TriplesOk_snoc _ _ _ _ tri, fun p' cv hcv => ?_⟩
        rw [eL] at hcv
        rcases LamX.among_app _ tri hcv with z | z
        · obtain ⟨c0, e1, e2⟩ := ha p' cv z
          exact ⟨c0, e1, keep _ _ e2 LamX.codeO_ne⟩
        · exact ⟨c', z, upd_same⟩
      · obtain ⟨qs, a1, a2, a3⟩ := hT p hp
        refine ⟨qs, by rw [upd_ne (ne_of_none a1 nC), upd_ne hb]; exact a1, a2, fun p' cv hcv => ?_⟩
        obtain ⟨c0, e1, e2⟩ := a3 p' cv hcv
        exact ⟨c0, e1, keep _ _ e2 LamX.codeO_ne⟩
    · have n1 : h2.objs.size ≠ c' := Nat.ne_of_gt hlt
      have n2 : h2.objs.size ≠ P := Nat.ne_of_gt (Nat.lt_of_lt_of_le (Heap.lt_size gP) hsz)
      rw [upd_ne n1, upd_ne n2]
      exact I.hok.fresh hsz
def tLam3 (T : List (Addr × Str)) (P : Addr) (q : Str) (TT : (XK → Hp → VK → Prop) → Hp → VK → Prop) (t : XK → TE) : TE := fun σ H Q => Tabs T H ∧ ∀ H1, Grown P q H H1 → Tabs T H1 → TT (fun E H' Q' => t E σ H' Q') H1 Q
/-- x(lambda: body) -/
theorem pe_lamN {X : Cx} {T : List (Addr × Str)} {TT : (XK → Hp → VK → Prop) → Hp → VK → Prop} {x a : Str} {g c P : Addr} {k : Nat} {pg : Arguments} {bg : List Stmt} {sg : Scope} {dV kV doc pm cdv ct oc : Value} {an od : Option Addr} {osl : Array (Option Value)} {Ng : List Str}
    {params : Arguments} {body : Expr} {scope : Scope} {t : XK → TE} {p lpos pos : Pos} (hg : Gl X x) (hm : X.mg x = some (.ref g)) (hk : PySem.W.keepIn X.K (.ref g) = true)
    (lk : X.K.lookup g = some ⟨oc, od, .func (PySem.W.fnOf x x pg bg sg dV kV doc pm an cdv ct), osl⟩) (hcg : PySem.W.codeIn X.K cdv x = true) (hb : L2.Binds X.K (PySem.W.fnOf x x pg bg sg dV kV doc pm an cdv ct) [a] []) (Sg : FnScope Ng [a] sg) (hNg : Ng[0]? = some a) (hva : Vis sg a)
    (hG : GivesN X Ng x sg g cdv bg a (X.env.qual ++ "<lambda>") TT)
    (TB : TabB X.base X.mg c P) (hcode : X.env.code = .ref c) (hmT : (P, X.env.qual ++ "<lambda>") ∈ T) (hu : ∀ p ∈ T, p.1 = P → p.2 = X.env.qual ++ "<lambda>") (hr : L2.Room (k + 3) X.A) (L : LamS X.env.scope scope) (hdef : defaultsOf params X.env = ([], []))
    (hbind : ∀ (q : Str) (cl : List (Str × Addr)) (pm cv ctv : Value), bindArgs (PySem.W.kla_fn "<lambda>" q params body scope cl pm cv ctv) ⟨[], []⟩ = pure [])
    (mono : ∀ (σ : L2.St) (E E' : XK) (H : Hp) (Q Q' : VK), (∀ cls d H', E cls d H' → E' cls d H') → (∀ v H', Q v H' → Q' v H') → t E σ H Q → t E' σ H Q')
    (hbody : ∀ (A : Around) (outer : List Env) (s : Shared) (H : Hp) (E : XK) (f c' : Addr), L2.Room k (A.deeper (lamEnv X scope s.heap.objs.size f c')) → PE (lamN X A outer s H E scope f c') body (t E))
    (hdb : (x == ("__debug__" : Str)) = false := by decide) (hd : (a == ("__debug__" : Str)) = false := by decide) (hcd : (a == ("__classdict__" : Str)) = false := by decide) :
    PE X (.Call (.Name x p) [.Lambda params body scope lpos] [] pos) (tLam3 T P (X.env.qual ++ "<lambda>") TT t) := by
  refine ⟨fun pins s σ H Q I ⟨hT, h⟩ => ?_⟩
  refine wpAny_Call_Name_kw (ld_glob I hg hm ?_ hdb)
  refine PySem.W.callWith_K (h₀ := X.base) I.ok.mod.kin hk ?_ (by rfl) (by rfl)
  show wpAny _ _ (spliced ((false, eval (.Lambda params body scope lpos) X.env) :: backTo pos (starEach [] X.env))) _ _ _
  refine Calls.spliced_cons (lam_make3 I TB hcode hmT hu hT hdef (L.has I.ok) fun f c' pm' ctv H1 s' I1 eN T1 hf nf ff hco => ?_)
  refine Calls.spliced_nil ⟨I1.kIn, ?_⟩
  have rc : codeAny (model X.prog X.w) X.A (.call (.ref g) ⟨[.ref f], []⟩) (CR CX0 X.stack X.prog X.w H1 s' Q E0) s' := by
    refine LamX.run_ofS (N := Ng) (ps := [a]) (us := [.ref f]) (vs := [.ref f]) (k := k + 2) lk hcg Sg hr I1.env0 (hb s' [.ref f] I1.kIn rfl) (.cons rfl .nil) rfl fun hr' => ?_
    have hr1 : L2.Room (k + 1) (X.A.deeper (envOfC x sg s'.heap.objs.size g cdv)) := hr'.mono (by omega)
    obtain ⟨t', ht', hq'⟩ := hG f c' s' H1 Q (fun E H' Q' => t E σ H' Q') (mono σ) (hr'.mono (by omega)) (fun W pn xe p1 p2 tk => pe_actN (i := 0) I1 L hf nf ff (hbind _ _ _ _ _) tk hr1 (fun A outer s H E hr2 => hbody A outer s H E f c' hr2) hNg hva hd hcd) hco (h H1 eN T1)
    exact ⟨t', ht'.nox, hq'⟩
  refine wpAny_call (codeAny_mono rc fun r s2 hq => ?_)
  cases r with
  | error e => exact (show False from hq).elim
  | ok fl =>
    cases fl with
    | ret u => exact I1.after hq
    | next => exact False.elim hq
    | brk => exact False.elim hq
    | cont => exact False.elim hq
end Y
set_option Elab.async false
set_option linter.all false
set_option maxRecDepth 100000
set_option maxHeartbeats 1000000
/-! Y48: try: body / except A as n: .. / except B as n: .. , where nothing is let out -/
namespace Y
open PySem PySem.Spec L2
open PyProof.Rows hiding St
/-- behind a suite its name is gone -/
def unE (i : Nat) (D : Ends) : Ends := { nx := fun σ' H' => D.nx (σ'.set i none) H', rt := D.rt, bk := fun σ' H' => D.bk (σ'.set i none) H', ct := fun σ' H' => D.ct (σ'.set i none) H' }
abbrev Cl := Value × (Addr → Value → Option Addr → TS)
def wAll (K : PySem.W.Frag) (i : Nat) (D : Ends) : List Cl → WX
  | [] => fun _ _ _ _ => False
  | c :: r => fun cls d σ H => ∃ b, PySem.W.exmOne K cls c.1 = some b ∧ (b = true → ∀ a, H a = none → c.2 a cls d (unE i D) (σ.set i (some (.ref a))) H) ∧ (b = false → wAll K i D r cls d σ H)
inductive HdsA (X : Cx) (n : Str) : List ExceptHandler → List Cl → Prop
  | nil : HdsA X n [] []
  | cons {x : Str} {c : Value} {ts : Addr → Value → Option Addr → TS} {s0 : Stmt} {suite : List Stmt} {np hp : Pos} {hds : List ExceptHandler} {l : List Cl} (hc : Names X x c)
      (hsu : ∀ (a : Addr) (oe : Obj) (cls : Value) (d : Option Addr) (pn : List (Addr × Obj)), L2N.Zn cls d oe → (∃ vs, oe.data = .fields vs) → PSs (X.suite a ((a, oe) :: pn)) (s0 :: suite) (ts a cls d)) (r : HdsA X n hds l) :
      HdsA X n (.ExceptHandler (some (.Name x np)) (some n) (s0 :: suite) hp :: hds) ((c, ts) :: l)
theorem ps_tryA {X : Cx} {n : Str} {i : Nat} {body : List Stmt} {hd0 : ExceptHandler} {hds : List ExceptHandler} {l : List Cl} {pos : Pos} {tb : WX → TS} (hs : X.stack = X.env :: X.outer) (hf : X.env.frame = some X.env.locals) (hN : X.N.Nodup) (hi : X.N[i]? = some n) (hln : X.env.kindOf n = some .local)
    (hb : ∀ (W : WX) (pn : List (Addr × Obj)) (xe : Value → Shared → Prop), L2N.Takes (X.tr pn xe) W → PassesOwn (model X.prog X.w) X.A X.env xe → PSs (X.tr pn xe) body (tb W))
    (hh : HdsA X n (hd0 :: hds) l) : PS X (.Try body (hd0 :: hds) [] [] pos) (fun D σ H => tb (wAll X.K i D l) D σ H) := by
  refine ⟨fun pins s σ H D I h => ?_⟩
  have ok := I.ok
  have hfr : X.A.frames = some (X.env :: X.outer) := by rw [ok.frames, hs]
  have loc : Loc X.env.scope n := .inl hln
  refine wpAny_Try_except ?_
  have run := (hb (wAll X.K i D l) (X.pn ++ pins) (fun e s1 => wpAny (model X.prog X.w) X.A (noteFrame e X.env) (fun _ s2 => wpAny (model X.prog X.w) X.A (setFlight e none) (fun _ s3 => wpAny (model X.prog X.w) X.A (handleBy e X.env (hd0 :: hds)) (SP X pins D) X.xe s3) X.xe s2) X.xe s1) ?caught PassesOwn.looking).run [] s σ H D (I.toTry _) h
  case caught =>
    rintro u s' ⟨a, B, sI, p', σ', H', cls, d, rfl, J', nb, up, sky, na, os, ag, wish⟩
    have J : L2.Inv X pins σ' H' sI := J'.ofTry ok
    rw [show (X.tr (X.pn ++ pins) _).stack = X.env :: X.outer from hs] at sky
    show wpAny (model X.prog X.w) X.A (noteFrame (Value.ref a) X.env) _ _ s'
    refine L2N.Sky.land L2N.Zn.steady hfr hf sky fun hA flA upA => ?_
    have JA : L2.Inv X pins σ' H' { s' with heap := hA } := J.landed nb flA.1 (up.trans upA) os ag
    obtain ⟨oA, vA, gA, zA, dA⟩ := flA.there
    have off : a ∉ frs (X.env :: X.outer) := fun hm => by
      obtain ⟨_, o', e', hnf⟩ := flA.2.2.1.mem hm
      rw [gA] at e'
      cases e'
      exact hnf _ dA
    have nL : a ≠ X.env.locals := fun z => off (List.mem_filterMap.mpr ⟨X.env, List.mem_cons_self, by rw [hf, z]⟩)
    have nF : a ∉ X.fs := fun hm => let ⟨e, he, q⟩ := List.mem_filterMap.mp hm; off (List.mem_filterMap.mpr ⟨e, List.mem_cons_of_mem _ he, q⟩)
    have SA := JA.suite gA dA na nL nF
    have go : ∀ {hds' : List ExceptHandler} {l' : List Cl}, HdsA X n hds' l' → wAll X.K i D l' cls d σ' H' → wpAny (model X.prog X.w) X.A (handleBy (Value.ref a) X.env hds') (SP X pins D) X.xe { s' with heap := hA } := by
      intro hds' l' hk
      induction hk with
      | nil => exact fun z => False.elim z
      | @cons x c ts s0 suite np hp hds2 l2 hc hsu r ih =>
        rintro ⟨b, eb, yes, no⟩
        refine wpAny_handleBy_cons (codeAny_handlers_test ?_) (by intro q; cases q)
        have LT : PySem.W.Looks (model X.prog X.w) hA (typeOf (Value.ref a)) cls := fun A Q E s k q => wpAny_typeOf_ref (k _ _ gA) (by rw [zA.1]; exact q)
        have LM := PySem.W.exm_one (M := model X.prog X.w) JA.kIn LT eb
        have test : ∀ {Q : Value → Shared → Prop} {E : Value → Shared → Prop}, Q c { s' with heap := hA } → wpAny (model X.prog X.w) (X.A.mark (some (Value.ref a))) (eval (.Name x np) X.env) Q E { s' with heap := hA } := fun {Q E} q => by
          obtain ⟨g1, g2, g3 | ⟨g3, g4, g5⟩⟩ := hc
          · exact ld_glob (X := X.suite a ((a, oA) :: (X.pn ++ pins))) SA g1 g3 q g2
          · exact ld_blt (X := X.suite a ((a, oA) :: (X.pn ++ pins))) SA g1 g3 g4 q g5 g2
        refine test (LM.here ?_)
        cases b with
        | false => exact ih (no rfl)
        | true =>
          refine codeAny_handlers_suite_as ?_
          refine HandSPX.lands_againZ flA fun hB flB upB => ?_
          have JB : L2.Inv X pins σ' H' { s' with heap := hB } := J.landed nb flB.1 ((up.trans upA).trans upB) os ag
          obtain ⟨oB, vB, gB, zB, dB⟩ := flB.there
          have SB := JB.suite gB dB na nL nF
          refine store_ok (X := X.suite a ((a, oB) :: (X.pn ++ pins))) (v := V.ref a) SB hN hi loc rfl (fun s5 S5 => ?_) (.inr hln)
          have gone : ∀ {σ6 : L2.St} {H6 : Hp} {s6 : Shared} {Q : Shared → Prop}, L2.Inv (X.suite a ((a, oB) :: (X.pn ++ pins))) [] σ6 H6 s6 → (∀ s7, L2.Inv X pins (σ6.set i none) H6 s7 → Q s7) →
              wpAny (model X.prog X.w) X.A (do bindName X.env n .none; unbindBehindTheSuite X.env n hp) (fun _ s7 => Q s7) X.xe s6 := fun {σ6 H6 s6 Q} S6 hq => gone_ok (S6.unsuite ok) hN hi hln hq
          refine wpAny_mono ((hsu a oB cls d (X.pn ++ pins) zB ⟨_, dB⟩).run [] s5 _ H' _ S5 (yes rfl a na)) (fun f s6 hsp => ?_) (fun _ _ z => False.elim z)
          cases f with
          | ret u => obtain ⟨v6, σ6, H6, S6, r6, q6⟩ := hsp; exact gone S6 fun s7 J7 => ⟨_, _, _, J7, r6, q6⟩
          | next => obtain ⟨σ6, H6, S6, q6⟩ := hsp; exact gone S6 fun s7 J7 => ⟨_, _, J7, q6⟩
          | brk => obtain ⟨σ6, H6, S6, q6⟩ := hsp; exact gone S6 fun s7 J7 => ⟨_, _, J7, q6⟩
          | cont => obtain ⟨σ6, H6, S6, q6⟩ := hsp; exact gone S6 fun s7 J7 => ⟨_, _, J7, q6⟩
    exact go hh wish
  refine wpAny_mono run (fun f s1 hsp => ?_) fun e s1 he => he
  cases f with
  | ret u => obtain ⟨v, σ', H', J', r, q⟩ := hsp; exact ⟨v, σ', H', J'.ofTry ok, r, q⟩
  | next => obtain ⟨σ', H', J', q⟩ := hsp; exact wpAny_execs_nil ⟨σ', H', J'.ofTry ok, q⟩
  | brk => obtain ⟨σ', H', J', q⟩ := hsp; exact ⟨σ', H', J'.ofTry ok, q⟩
  | cont => obtain ⟨σ', H', J', q⟩ := hsp; exact ⟨σ', H', J'.ofTry ok, q⟩
end Y
set_option Elab.async false
set_option linter.all false
set_option maxRecDepth 100000
set_option maxHeartbeats 1000000
/-! Y49: the name of an exception that is handled, by eight looks and a join -/
namespace Y
open PySem PySem.Spec L2
open PyProof.Rows hiding St
section
variable {X : Cx}
/-- isinstance(e, c) of the exception that is pinned -/
theorem call_isP {p : Addr × Obj} {D : Addr} (hp : p ∈ X.pn) (C : ExcC X.K D) (hz : Zc (.ref D) none p.2) (hf : ∃ vs, p.2.data = .fields vs) : CallR X (.builtin "isinstance") (rIsE X.K D p.1) := by
  intro pins s σ H xs us Q I r h
  obtain ⟨c, cv, b, rfl, hcv, e, q⟩ := h
  have key : ∃ u, us = [Value.ref p.1, u] ∧ u = cv := by
    cases r with
    | cons rx rr =>
      cases rr with
      | cons rt rr =>
        cases rr
        cases rx
        exact ⟨_, rfl, hcv _ rt⟩
  obtain ⟨_, rfl, rfl⟩ := key
  have got := (I.pin p (List.mem_append_left _ hp)).1
  have J : PySem.W.InstAt s.heap p.1 p.2 D none := by
    obtain ⟨a, oc, od, oda, osl⟩ := p
    obtain ⟨vs, hv⟩ := hf
    obtain ⟨h1, h2⟩ := hz
    dsimp only at h1 h2 hv
    subst h1 h2 hv
    exact ⟨got, rfl, rfl, trivial⟩
  exact PySem.W.kia_one (PySem.W.handS_kitx_exc C.hg C.hk C.hs C.hd C.ha C.hn C.ht C.hm) I.kIn J e (fun z => nomatch z) fun tk => ⟨.bl b, H, I.kept (t' := tk) fun _ _ z => z, rfl, q⟩
end
/-- one look -/
def tIse (K : PySem.W.Frag) (D a : Addr) (c : V) : TE := tCB (rIsE K D a) (tCons (tVar 0) (tCons (tC c) tNil))
def AnsI (K : PySem.W.Frag) (D : Addr) (c : V) (b : Bool) : Prop := ∃ cv, (∀ u, RelV c u → u = cv) ∧ PySem.W.kitOne K (.ref D) cv = some b
def sel (ts : List Str) (bs : List Bool) : List Str := ((ts.zip bs).filter (·.2)).map (·.1)
abbrev tSel (K : PySem.W.Frag) : TE := tLc (iZipX K (tCons (tVar 2) (tCons (tVar 1) tNil))) (gTup K 2 (gCons (gName 3) (gCons (gName 4) gNil))) (tB (tVar 4)) (tVar 3) [3, 4]
theorem tI_ok {K : PySem.W.Frag} {D a : Addr} {c : V} {b : Bool} {σ : L2.St} {H : Hp} {Q : VK} (h : AnsI K D c b) (e : σ[0]? = some (some (.ref a))) (q : Q (.bl b) H) : tIse K D a c σ H Q := by
  obtain ⟨cv, h1, h2⟩ := h
  exact ⟨_, e, c, cv, b, rfl, h1, h2, q⟩
theorem sel_take {ts : List Str} {bs : List Bool} {i : Nat} {t : Str} {b : Bool} (ht : ts[i]? = some t) (hb : bs[i]? = some b) : sel (ts.take (i + 1)) (bs.take (i + 1)) = sel (ts.take i) (bs.take i) ++ (if b then [t] else []) := by
  unfold sel
  have lt : i < ts.length := (List.getElem?_eq_some_iff.mp ht).1
  have lb : i < bs.length := (List.getElem?_eq_some_iff.mp hb).1
  rw [List.take_succ, List.take_succ, ht, hb]
  rw [List.zip_append (by rw [List.length_take, List.length_take]; omega), List.filter_append, List.map_append]
  congr 1
  cases b <;> rfl
theorem sel_ok {K : PySem.W.Frag} {σ : L2.St} {H : Hp} {Q : VK} {ts : List Str} {bs : List Bool} {lt lk : Addr} (hl : σ.length = 5) (e2 : σ[2]? = some (some (.ref lt))) (e1 : σ[1]? = some (some (.ref lk))) (ht : H lt = some (.lst (ts.map .str))) (hk : H lk = some (.lst (bs.map .bl)))
    (hn : ts.length = bs.length) (hs : ts.length ≤ sizeLine) (q : ∀ D H', (∀ b o, H b = some o → H' b = some o) → H' D = some (.lst ((sel ts bs).map .str)) → Q (.ref D) H') : tSel K σ H Q := by
  refine ⟨_, e2, _, e1, lt, lk, _, _, rfl, SqL.of ht, SqL.of hk, fun D hD => ?_⟩
  refine ⟨fun i m H' => i + m = ts.length ∧ (∀ b o, H b = some o → H' b = some o) ∧ H' D = some (.lst ((sel (ts.take i) (bs.take i)).map .str)), ⟨ts.length, by omega, fun b o e => by rw [upd_ne (ne_of_none e hD)]; exact e, upd_same⟩, ?_⟩
  rintro i m H' ⟨him, up, hD'⟩
  by_cases hi : i < ts.length
  · obtain ⟨t, et⟩ : ∃ t, ts[i]? = some t := ⟨_, List.getElem?_eq_getElem hi⟩
    obtain ⟨b, eb⟩ : ∃ b, bs[i]? = some b := ⟨_, List.getElem?_eq_getElem (by omega)⟩
    have et' : (ts.map V.str)[i]? = some (.str t) := by rw [List.getElem?_map, et] <;> rfl
    have eb' : (bs.map V.bl)[i]? = some (.bl b) := by rw [List.getElem?_map, eb] <;> rfl
    refine .inr ⟨⟨_, _, _, _, SqL.of (up _ _ ht), SqL.of (up _ _ hk), et', eb'⟩, fun H2 => (i + 1) + (m - 1) = ts.length ∧ (∀ b o, H b = some o → H2 b = some o) ∧ H2 D = some (.lst ((sel (ts.take (i + 1)) (bs.take (i + 1))).map .str)), fun H2 w => ⟨m - 1, by omega, w⟩, ?_⟩
    rintro v H2 ⟨T, x, y, rfl, hT, rfl, hx, hy⟩
    have q1 := hx _ (SqL.of (up _ _ ht))
    have q2 := hy _ (SqL.of (up _ _ hk))
    rw [et'] at q1
    rw [eb'] at q2
    cases q1
    cases q2
    have hwl : (wipe σ [3, 4]).length = 5 := by rw [wipe_length, hl]
    have up2 : ∀ c o, H' c = some o → upd H' T (.tup [V.str t, V.bl b]) c = some o := fun c o e => by rw [upd_ne (ne_of_none e hT)]; exact e
    have hD2 : upd H' T (.tup [V.str t, V.bl b]) D = _ := up2 D _ hD'
    refine ⟨T, _, rfl, SqT.of upd_same, rfl, _, _, rfl, _, _, rfl, rfl, ?_, _, List.getElem?_set_self (by rw [List.length_set, hwl]; decide), b, rfl, ?_⟩
    · rw [wipe_eq (σ := wipe σ [3, 4]) (by simp) fun j hj => ?_]
      · exact wipe_eq (wipe_length σ _) fun j hj => wipe_out hj
      · rw [List.getElem?_set_ne (fun e => hj (by simp [← e])), List.getElem?_set_ne (fun e => hj (by simp [← e]))]
    · have sz : (sel (ts.take i) (bs.take i)).length ≤ i := by
        unfold sel
        rw [List.length_map]
        refine Nat.le_trans (List.length_filter_le _ _) ?_
        rw [List.length_zip, List.length_take]
        omega
      cases b with
      | true =>
        refine iteT ⟨.str t, ?_, _, hD2, by rw [List.length_map]; omega, by omega, fun c o e => ?_, ?_⟩
        · rw [List.getElem?_set_ne (by decide), List.getElem?_set_self (by rw [hwl]; decide)]
        · rw [upd_ne fun z => ?_]
          · exact up2 c o (up c o e)
          · rw [z, hD] at e
            cases e
        · rw [upd_same, sel_take et eb, List.map_append] <;> rfl
      | false =>
        refine iteF ⟨by omega, fun c o e => up2 c o (up c o e), ?_⟩
        rw [hD2, sel_take et eb]
        simp
  · have e : i = ts.length := by omega
    refine .inl ⟨⟨_, _, SqL.of (up _ _ ht), SqL.of (up _ _ hk), by rw [List.length_map]; omega⟩, q D H' up ?_⟩
    rw [hD', List.take_of_length_le (by omega), List.take_of_length_le (by omega)]
/-- "".join(..) of the texts that are chosen -/
def rJoin (K : PySem.W.Frag) : V → List V → Hp → VK → Prop := fun x xs H Q => ∃ a p, ∃ ys : List Str, x = .str a ∧ xs = [.ref p] ∧ (SqL K H p (ys.map V.str) ∨ SqT K H p (ys.map V.str)) ∧ (ys.map (·.length)).sum + ys.length * a.length ≤ 16777216 ∧ Q (.str (Txt.join a ys)) H
def titles : List Str := ["Full", "NoComer", "NoCourtesy", "NoHall", "NotThere", "Taken", "TooMany", "+"]
abbrev tS2 (c : Str) (t : TA) : TA := tCons (tC (.str c)) t
abbrev tNm (K : PySem.W.Frag) (D a : Addr) (c1 c2 c3 c4 c5 c6 c7 c8 : V) : TS :=
  tSeq (tAsg (tLst (tCons (tIse K D a c1) (tCons (tIse K D a c2) (tCons (tIse K D a c3) (tCons (tIse K D a c4) tNil))))) (gName 1))
    (tSeq (tAsg (tOp rCat (tVar 1) (tLst (tCons (tIse K D a c5) (tCons (tIse K D a c6) (tCons (tIse K D a c7) (tCons (tIse K D a c8) tNil)))))) (gName 1))
      (tSeq (tAsg (tLst (tS2 "Full" (tS2 "NoComer" (tS2 "NoCourtesy" (tS2 "NoHall" (tS2 "NotThere" (tS2 "Taken" (tS2 "TooMany" (tS2 "+" tNil))))))))) (gName 2))
        (tRet (tMet K .str (rJoin K) (tC (.str "")) (tCons (tSel K) tNil)))))
theorem nm_ok {K : PySem.W.Frag} {D a : Addr} {c1 c2 c3 c4 c5 c6 c7 c8 : V} {b1 b2 b3 b4 b5 b6 b7 b8 : Bool} {H : Hp} {E : Ends} (a1 : AnsI K D c1 b1) (a2 : AnsI K D c2 b2) (a3 : AnsI K D c3 b3) (a4 : AnsI K D c4 b4) (a5 : AnsI K D c5 b5) (a6 : AnsI K D c6 b6) (a7 : AnsI K D c7 b7) (a8 : AnsI K D c8 b8)
    (hz : ((sel titles [b1, b2, b3, b4, b5, b6, b7, b8]).map (·.length)).sum ≤ 16777216) (q : ∀ H2, (∀ b o, H b = some o → H2 b = some o) → E.rt (.str (Txt.join "" (sel titles [b1, b2, b3, b4, b5, b6, b7, b8]))) H2) :
    tNm K D a c1 c2 c3 c4 c5 c6 c7 c8 E [some (.ref a), none, none, none, none] H := by
  refine tI_ok a1 rfl (tI_ok a2 rfl (tI_ok a3 rfl (tI_ok a4 rfl ⟨by show 4 ≤ sizeLine; decide, fun p1 n1 => ?_⟩)))
  have u1 : ∀ b o, H b = some o → upd H p1 (.lst [V.bl b1, V.bl b2, V.bl b3, V.bl b4]) b = some o := fun b o e => by rw [upd_ne (ne_of_none e n1)]; exact e
  refine ⟨.ref p1, rfl, tI_ok a5 rfl (tI_ok a6 rfl (tI_ok a7 rfl (tI_ok a8 rfl ⟨by show 4 ≤ sizeLine; decide, fun p2 n2 => ?_⟩)))⟩
  generalize hH1 : upd H p1 (.lst [V.bl b1, V.bl b2, V.bl b3, V.bl b4]) = H1 at u1 n2 ⊢
  have g1 : H1 p1 = some (.lst [V.bl b1, V.bl b2, V.bl b3, V.bl b4]) := by rw [← hH1]; exact upd_same
  have u2 : ∀ b o, H1 b = some o → upd H1 p2 (.lst [V.bl b5, V.bl b6, V.bl b7, V.bl b8]) b = some o := fun b o e => by rw [upd_ne (ne_of_none e n2)]; exact e
  refine ⟨p1, p2, _, _, rfl, rfl, u2 _ _ g1, upd_same, by show 8 ≤ sizeLine; decide, fun p3 n3 => ?_⟩
  generalize hH2 : upd H1 p2 (.lst [V.bl b5, V.bl b6, V.bl b7, V.bl b8]) = H2 at u2 n3 ⊢
  have u3 : ∀ b o, H2 b = some o → upd H2 p3 (.lst ([V.bl b1, V.bl b2, V.bl b3, V.bl b4] ++ [V.bl b5, V.bl b6, V.bl b7, V.bl b8])) b = some o := fun b o e => by rw [upd_ne (ne_of_none e n3)]; exact e
  refine ⟨by show 8 ≤ sizeLine; decide, fun p4 n4 => ?_⟩
  have g3 : upd H2 p3 (.lst ([V.bl b1, V.bl b2, V.bl b3, V.bl b4] ++ [V.bl b5, V.bl b6, V.bl b7, V.bl b8])) p3 = some (.lst ([b1, b2, b3, b4, b5, b6, b7, b8].map V.bl)) := upd_same
  generalize upd H2 p3 (.lst ([V.bl b1, V.bl b2, V.bl b3, V.bl b4] ++ [V.bl b5, V.bl b6, V.bl b7, V.bl b8])) = H3 at u3 n4 g3 ⊢
  have u4 : ∀ b o, H3 b = some o → upd H3 p4 (.lst (titles.map V.str)) b = some o := fun b o e => by rw [upd_ne (ne_of_none e n4)]; exact e
  refine ⟨rfl, ?_⟩
  show tSel K ((([some (V.ref a), none, none, none, none].set 1 (some (V.ref p1))).set 1 (some (V.ref p3))).set 2 (some (V.ref p4))) (upd H3 p4 (.lst (titles.map V.str))) fun x H2 => rJoin K (V.str "") [x] H2 E.rt
  refine sel_ok (ts := titles) (bs := [b1, b2, b3, b4, b5, b6, b7, b8]) (lt := p4) (lk := p3) ?h1 ?h2 ?h3 upd_same (u4 _ _ g3) rfl (by show 8 ≤ sizeLine; decide) fun D' H' up hD => ?_
  case h1 => rfl
  case h2 => rfl
  case h3 => rfl
  exact ⟨"", D', _, rfl, rfl, .inl (SqL.of hD), by rw [show (Str.ofString "").length = 0 from rfl, Nat.mul_zero, Nat.add_zero]; exact hz, q H' fun b o e => up b o (u4 b o (u3 b o (u2 b o (u1 b o e))))⟩
end Y
set_option Elab.async false
set_option linter.all false
set_option maxRecDepth 100000
set_option maxHeartbeats 1000000
/-! Y50: _law_name_of called where an exception is handled; _law_try of a lambda -/
namespace Y
open PySem PySem.Spec L2
open PyProof.Rows hiding St
open LamX (CodeO)
/-- a def called where an exception is handled: its promise told of the very state -/
theorem run_hot {CX : CXT} {P : Program} {w : World} {K : PySem.W.Frag} {mg : Str → Option Value} {base : Heap} {k : Nat} {f : Addr} {name qual : Str} {params : Arguments} {body : List Stmt} {scope : Scope} {dV kV doc pm cdv ct oc : Value} {an od : Option Addr}
    {osl : Array (Option Value)} {N ps : List Str} (lk : K.lookup f = some ⟨oc, od, .func (PySem.W.fnOf name qual params body scope dV kV doc pm an cdv ct), osl⟩) (hcd : PySem.W.codeIn K cdv qual = true) (S : FnScope N ps scope)
    {A : Around} {outer : List Env} {s : Shared} {H : Hp} {args : Args} {us : List Value} {vs : List V} {Q : VK} {E : XK} {p : Addr × Obj} (hr : L2H.RoomH (k + 1) A) (hp : L2H.PinOk outer H s p) (e0 : Env0 P w K mg base A outer s H)
    (hb : BindsTo s (PySem.W.fnOf name qual params body scope dV kV doc pm an cdv ct) args (ps.zip us)) (r : Vals vs us) (hl : vs.length = ps.length)
    (hbody : L2H.RoomH k (A.deeper (envOfC qual scope s.heap.objs.size f cdv)) → ∃ t, PSs (L2H.cxH CX P w K mg base N qual scope f cdv A outer s H E p) body t ∧ t { nx := fun _ H' => Q .non H', rt := Q } (L2.start N vs) H) :
    codeAny (model P w) A (.call (.ref f) args) (CR CX outer P w H s Q E) s := by
  have KX : K.In s.heap := e0.mod.kin.keeps fun b o e => (e0.bs b o e).1
  have lim : s.heap.NoLimit := e0.mod.nolimit.keeps fun b o e => (e0.bs b o e).1
  have kinds : ∀ y ∈ ps.zip us, scope.names.lookup y.1 = some .local ∨ (scope.names.lookup y.1 = some .cell ∧ ((cellsFrom (s.heap.objs.size + 1) scope.names []).lookup y.1).isSome = true) := fun ⟨n, v⟩ hy =>
    (S.par n (List.of_mem_zip hy).1).elim .inl fun q => .inr ⟨q, PySem.W.cellsFrom_some _ _ _ (.inl q)⟩
  refine codeAny_call_function hr.depth (KX _ _ lk) rfl S.co S.gen rfl (PySem.W.codeRec_of KX hcd) (hb _ _ _ _ ?_)
  refine wpAny_newFunctionEnv_cells S.kind kinds fun env he s1 x => ?_
  subst he
  refine ⟨lim.keeps x.toInCall.keep, codeAny_func ?_⟩
  obtain ⟨t, ht, hq⟩ := hbody (hr.deeper _)
  refine wpAny_mono (ht.run [] s1 (L2.start N vs) H _ (L2H.inv_startH S hp e0 hl r x) hq) (fun fl s' hs => ?_) fun e s' hs => hs
  cases fl with
  | ret u => obtain ⟨v, σ', H', J, rv, q⟩ := hs; exact ⟨v, H', J.os, J.bare, J.base, J.hok, rv, q⟩
  | next => obtain ⟨σ', H', J, q⟩ := hs; exact ⟨V.non, H', J.os, J.bare, J.base, J.hok, rfl, q⟩
  | brk => obtain ⟨_, _, _, q⟩ := hs; exact False.elim q
  | cont => obtain ⟨_, _, _, q⟩ := hs; exact False.elim q
/-- which of the eight looks say yes -/
def looksOf (n : Nat) : List Bool := [decide (n = 1), decide (n = 2), decide (n = 3), decide (n = 4), decide (n = 5), decide (n = 6), decide (n = 7), true]
def exName (n : Nat) : Str := Txt.join "" (sel titles (looksOf n))
/-- what is known of the n-th class of exceptions -/
structure NmC (K : PySem.W.Frag) (xc : Nat → Addr) (n : Nat) : Prop where
  ec : ExcC K (xc n)
  i1 : PySem.W.kitOne K (.ref (xc n)) (.ref (xc 1)) = some (decide (n = 1))
  i2 : PySem.W.kitOne K (.ref (xc n)) (.ref (xc 2)) = some (decide (n = 2))
  i3 : PySem.W.kitOne K (.ref (xc n)) (.ref (xc 3)) = some (decide (n = 3))
  i4 : PySem.W.kitOne K (.ref (xc n)) (.ref (xc 4)) = some (decide (n = 4))
  i5 : PySem.W.kitOne K (.ref (xc n)) (.ref (xc 5)) = some (decide (n = 5))
  i6 : PySem.W.kitOne K (.ref (xc n)) (.ref (xc 6)) = some (decide (n = 6))
  i7 : PySem.W.kitOne K (.ref (xc n)) (.ref (xc 7)) = some (decide (n = 7))
  ve : PySem.W.kitOne K (.ref (xc n)) (.type "ValueError") = some true
  e7 : PySem.W.exmOne K (.ref (xc n)) (.ref (xc 7)) = some (decide (n = 7))
  e0 : PySem.W.exmOne K (.ref (xc n)) (.ref (xc 0)) = some true
theorem ans_ref {K : PySem.W.Frag} {D C : Addr} {b : Bool} (h : PySem.W.kitOne K (.ref D) (.ref C) = some b) : AnsI K D (.ref C) b := ⟨.ref C, fun u e => e, h⟩
theorem ans_ty {K : PySem.W.Frag} {D : Addr} {n : String} {b : Bool} (h : PySem.W.kitOne K (.ref D) (.type n) = some b) : AnsI K D (.ty n) b := ⟨.type n, fun u e => e, h⟩
abbrev tNmX (K : PySem.W.Frag) (xc : Nat → Addr) (D a : Addr) : TS := tNm K D a (.ref (xc 1)) (.ref (xc 2)) (.ref (xc 3)) (.ref (xc 4)) (.ref (xc 5)) (.ref (xc 6)) (.ref (xc 7)) (.ty "ValueError")
theorem looks_small (n : Nat) : ((sel titles (looksOf n)).map (·.length)).sum ≤ 16777216 := by
  have h : ∀ b1 b2 b3 b4 b5 b6 b7 b8 : Bool, ((sel titles [b1, b2, b3, b4, b5, b6, b7, b8]).map (·.length)).sum ≤ 16777216 := by decide +kernel
  exact h ..
theorem nmX_ok {K : PySem.W.Frag} {xc : Nat → Addr} {n : Nat} {a : Addr} {H : Hp} {E : Ends} (N : NmC K xc n) (q : ∀ H2, (∀ b o, H b = some o → H2 b = some o) → E.rt (.str (exName n)) H2) : tNmX K xc (xc n) a E [some (.ref a), none, none, none, none] H :=
  nm_ok (ans_ref N.i1) (ans_ref N.i2) (ans_ref N.i3) (ans_ref N.i4) (ans_ref N.i5) (ans_ref N.i6) (ans_ref N.i7) (ans_ty N.ve) (looks_small n) q
/-- the def's body, read wherever an exception without a dict is handled -/
def NmBody (P : Program) (w : World) (K : PySem.W.Frag) (mg : Str → Option Value) (base : Heap) (xc : Nat → Addr) (st : Stmt) (f : Addr) : Prop :=
  ∀ (cdv : Value) (A : Around) (outer : List Env) (s : Shared) (H : Hp) (p : Addr × Obj) (n : Nat), HotX (L2H.cxH CX0 P w K mg base ["e", "kinds", "titles", "title", "kind"] "_law_name_of" (defScope st) f cdv A outer s H E0 p) → ExcC K (xc n) → Zc (.ref (xc n)) none p.2 → (∃ vs, p.2.data = .fields vs) →
    PSs (L2H.cxH CX0 P w K mg base ["e", "kinds", "titles", "title", "kind"] "_law_name_of" (defScope st) f cdv A outer s H E0 p) (defBody st) (tNmX K xc (xc n) p.1)
theorem pe_nameOf {X : Cx} {st : Stmt} {f a : Addr} {fd : FuncData} {oe : Obj} {cls : Value} {d : Option Addr} {pn : List (Addr × Obj)} {xc : Nat → Addr} {i : Nat} {q1 q2 pos : Pos} (F : Fun X.K "_law_name_of" "_law_name_of" st f fd) (S : FnScope ["e", "kinds", "titles", "title", "kind"] ["e"] (defScope st))
    (B : Binds X.K fd ["e"] []) (body : NmBody X.prog X.w X.K X.mg X.base xc st f) (hr : L2.Room 1 X.A) (hg : Gl X "_law_name_of") (hm : X.mg "_law_name_of" = some (.ref f)) (hz : L2N.Zn cls d oe) (hf : ∃ vs, oe.data = .fields vs) (hN : X.N[i]? = some "e") (hv : Vis X.env.scope "e") :
    PE (X.suite a ((a, oe) :: pn)) (.Call (.Name "_law_name_of" q1) [.Name "e" q2] [] pos) (fun σ H Q => σ[i]? = some (some (.ref a)) ∧ ∃ n, cls = .ref (xc n) ∧ d = none ∧ NmC X.K xc n ∧ ∀ H2, (∀ b o, H b = some o → H2 b = some o) → Q (.str (exName n)) H2) := by
  refine ⟨fun pins s σ H Q I ⟨ea, n, ec, ed, N, q⟩ => ?_⟩
  subst ec ed
  obtain ⟨oc, od, kV, doc, pm, an, cdv, ct, osl, rfl, lk, hcd⟩ := F.ex
  refine wpAny_Call_Name_kw (ld_glob I hg hm ?_ (by decide))
  have pa : PA (X.suite a ((a, oe) :: pn)) [.Name "e" q2] (tCons (tVar i) tNil) := pa_cons (pe_var hN hv) pa_nil
  refine PySem.W.callWith_K (h₀ := X.base) I.ok.mod.kin F.kp (thn (pa.run pos pins s σ H (fun vs H1 => vs = [V.ref a] ∧ H1 = H) I ⟨_, ea, rfl, rfl⟩) fun us s1 ⟨vs, H1, I1, r1, ev, eH⟩ => ⟨I1.kIn, ?_⟩)
  subst ev
  rw [eH] at I1
  have eu : us = [Value.ref a] := by
    cases r1 with
    | cons ra rr => cases rr; cases ra; rfl
  subst eu
  have P1 := I1.pin (a, oe) (List.mem_append_left _ List.mem_cons_self)
  have hpin : L2H.PinOk X.stack H s1 (a, oe) := ⟨P1.1, P1.2.1, fun hm => (List.mem_cons.mp (I1.stkSub a hm)).elim P1.2.2.1 P1.2.2.2.1, P1.2.2.2.2⟩
  obtain ⟨vs, hd⟩ := hf
  have b := B s1 [Value.ref a] I1.kIn rfl
  rw [List.append_nil] at b
  show wpAny _ _ (call (Value.ref f) [Value.ref a]) _ _ s1
  have rc : codeAny (model X.prog X.w) (X.A.mark (some (Value.ref a))) (.call (.ref f) ⟨[.ref a], []⟩) (CR CX0 X.stack X.prog X.w H s1 Q E0) s1 := by
    refine run_hot (k := 0) lk hcd S (⟨hr.dp, hr.un⟩ : L2H.RoomH (0 + 1) (X.A.mark (some (Value.ref a)))) hpin I1.env0 b r1 rfl fun _ => ⟨_, body cdv _ _ _ _ (a, oe) n ?_ N.ec ⟨hz.1, hz.2.1⟩ ⟨vs, hd⟩, ?_⟩
    · exact ⟨a, oe, vs, rfl, P1.1, hd, hz.2.2 vs hd, P1.2.1, hpin.nofs, fun z => nomatch (show a ∈ ([] : List Addr) from z)⟩
    · exact nmX_ok N q
  refine wpAny_call (codeAny_mono rc fun r s' hq => ?_)
  cases r with
  | error e => exact False.elim hq
  | ok fl =>
    cases fl with
    | ret u => exact I1.after hq
    | next => exact False.elim hq
    | brk => exact False.elim hq
    | cont => exact False.elim hq
/-- what _law_try makes of its lambda -/
def TTry (K : PySem.W.Frag) (xc : Nat → Addr) : (XK → Hp → VK → Prop) → Hp → VK → Prop := fun tl H Q =>
  tl (fun cls d H' => ∃ n, n ≠ 7 ∧ cls = .ref (xc n) ∧ d = none ∧ NmC K xc n ∧ ∀ H2, (∀ b o, H' b = some o → H2 b = some o) → Q (.str (exName n)) H2) H (fun v H' => ∀ p, H' p = none → Q (.ref p) (upd H' p (.lst [v])))
abbrev tryB (q1 q2 q3 q4 q5 q6 q7 q8 q9 q10 q11 q12 q13 q14 q15 q16 q17 q18 q19 q20 q21 q22 q23 q24 q25 q26 q27 q28 q29 q30 : Pos) (j : Nat) : List Stmt :=
  [.Assign [.Name "found" q1] (.Constant .none j q2) q3,
   .Try [.Assign [.Name "found" q4] (.List [.Call (.Name "door" q5) [] [] q6] q7) q8]
     [.ExceptHandler (some (.Name "TooMany" q9)) (some "e") [.Assign [.Name "found" q10] (.BinOp (.Call (.Name "_law_name_of" q11) [.Name "e" q12] [] q13) .Add (.Call (.Name "str" q14) [.Attribute (.Name "e" q15) "most" q16] [] q17) q18) q19] q20,
      .ExceptHandler (some (.Name "SeatError" q21)) (some "e") [.Assign [.Name "found" q22] (.Call (.Name "_law_name_of" q23) [.Name "e" q24] [] q25) q26] q27] [] [] q28,
   .Return (some (.Name "found" q29)) q30]
theorem try_gives {X : Cx} {st : Stmt} {f : Addr} {fd : FuncData} {xc : Nat → Addr} {sg : Scope} {g : Addr} {cdg : Value} {q : Str} {q1 q2 q3 q4 q5 q6 q7 q8 q9 q10 q11 q12 q13 q14 q15 q16 q17 q18 q19 q20 q21 q22 q23 q24 q25 q26 q27 q28 q29 q30 : Pos} {j : Nat} (Sg : FnScope ["door", "found", "e"] ["door"] sg) (F : Fun X.K "_law_name_of" "_law_name_of" st f fd) (S : FnScope ["e", "kinds", "titles", "title", "kind"] ["e"] (defScope st))
    (B : Binds X.K fd ["e"] []) (body : NmBody X.prog X.w X.K X.mg X.base xc st f) (hm : X.mg "_law_name_of" = some (.ref f)) (h7 : X.mg "TooMany" = some (.ref (xc 7))) (h0 : X.mg "SeatError" = some (.ref (xc 0)))
    (gn : sg.names.lookup ("_law_name_of" : Str) = some .globalImplicit) (g7 : sg.names.lookup ("TooMany" : Str) = some .globalImplicit) (g0 : sg.names.lookup ("SeatError" : Str) = some .globalImplicit) (le : sg.names.lookup ("e" : Str) = some .local) (lf : sg.names.lookup ("found" : Str) = some .local) :
    GivesN X ["door", "found", "e"] "_law_try" sg g cdg (tryB q1 q2 q3 q4 q5 q6 q7 q8 q9 q10 q11 q12 q13 q14 q15 q16 q17 q18 q19 q20 q21 q22 q23 q24 q25 q26 q27 q28 q29 q30 j) "door" q (TTry X.K xc) := by
  intro fl c' s H Q tl mono hr act hco h
  have vis : ∀ {x : Str}, sg.names.lookup x = some .local → Vis sg x := fun h => .inl h
  let tb : WX → TS := fun W D σ H1 => σ[0]? = some (some (.ref fl)) ∧ H1 c' = some (CodeO c' q) ∧ tl (L2.WE W σ) H1 fun v H2 => ∀ p, H2 p = none → D.nx (σ.set 1 (some (.ref p))) (upd H2 p (.lst [v]))
  let ts : Addr → Value → Option Addr → TS := fun a cls d D σ H1 => σ[2]? = some (some (.ref a)) ∧ ∃ n, cls = .ref (xc n) ∧ d = none ∧ NmC X.K xc n ∧ ∀ H2, (∀ b o, H1 b = some o → H2 b = some o) → D.nx (σ.set 1 (some (.str (exName n)))) H2
  refine ⟨_, pss_cons (ps_set (i := 1) Sg.nd rfl (.inl lf) pe_non) (pss_cons (ps_tryA (i := 2) (tb := tb) (l := [(.ref (xc 7), fun _ _ _ => tNever), (.ref (xc 0), ts)]) rfl rfl Sg.nd rfl le (fun W pn xe tk _ => ?_) (.cons ⟨g7, by decide, .inl h7⟩ (fun _ _ _ _ _ _ _ => pss_never) (.cons ⟨g0, by decide, .inl h0⟩ (fun a oe cls d pn hz hf => ?_) .nil)))
    (pss_one (ps_ret (pe_var (i := 1) rfl (vis lf))))), ?_⟩
  · have pd := act W pn xe q5 q6 tk
    have pl := pss_one (ps_set (i := 1) (pos := q8) (pos' := q4) Sg.nd rfl (.inl lf) (pe_lst (pos := q7) (pa_cons pd pa_nil)))
    exact PSs.weak pl fun D σ H1 ⟨e1, e2, e3⟩ => ⟨e1, e2, mono _ _ _ _ _ (fun _ _ _ z => z) (fun v H2 z => ⟨by show 1 ≤ sizeLine; decide, z⟩) e3⟩
  · have pn' := pe_nameOf (X := (cxOf CX0 X.prog X.w X.K X.mg X.base ["door", "found", "e"] "_law_try" sg g cdg X.A X.stack s H E0).nox) (a := a) (pn := pn) (q1 := q23) (q2 := q24) (pos := q25) (i := 2) F S B body hr gn hm hz hf rfl (vis le)
    exact PSs.weak (pss_one (ps_set (i := 1) (pos := q26) (pos' := q22) Sg.nd rfl (.inl lf) pn')) fun D σ H1 ⟨e1, n, e2, e3, e4, e5⟩ => ⟨e1, n, e2, e3, e4, e5⟩
  · refine ⟨rfl, hco, mono _ _ _ _ _ (fun cls d H1 z => ?_) (fun v H1 z p hp => ⟨_, rfl, z p hp⟩) h⟩
    obtain ⟨n, hn, e1, e2, N, z⟩ := z
    subst e1 e2
    refine ⟨decide (n = 7), N.e7, fun e => absurd (of_decide_eq_true e) hn, fun _ => ⟨true, N.e0, fun _ a na => ⟨rfl, n, rfl, rfl, N, fun H2 up => ⟨_, rfl, z H2 up⟩⟩, (fun e => nomatch e)⟩⟩
end Y
set_option Elab.async false
set_option linter.all false
set_option maxRecDepth 100000
set_option maxHeartbeats 1000000
/-! Y51: defs that raise; _law_try(lambda: ..) as an expression -/
namespace Y
open PySem PySem.Spec L2
open PyProof.Rows hiding St
/-- the numbers of the classes of exceptions -/
def xno (c : Str) : Nat := if c = "Full" then 1 else if c = "NoComer" then 2 else if c = "NoCourtesy" then 3 else if c = "NoHall" then 4 else if c = "NotThere" then 5 else if c = "Taken" then 6 else if c = "TooMany" then 7 else 0
/-- what is wished of an exception, by classes and dicts -/
def EXo (G : GK) (E : XK) : EX := fun e _ _ H =>
  if xno e.cls = 7 then ∀ i dx, e.fs = [.int i] → H dx = some (.xd [("most", V.int i)]) → E (.ref (G.cm.xc 7)) (some dx) H else E (.ref (G.cm.xc (xno e.cls))) none H
def spX (G : GK) (m : ON) : Sp := fun vs H Q E => ∃ ρ st args, RepS G H ρ st ∧ RepL G.K H ρ st.length args vs ∧ Post G (EXo G E) H ρ st.length (rV G.K) (m args st) Q
theorem Post.monoE {α χ : Type} {G : GK} {E E' : EX} {H : Hp} {ρ : Nat → Addr} {n : Nat} {Rel : Rl α χ} {r : R α} {Q : χ → Hp → Prop} (h : Post G E H ρ n Rel r Q) (k : ∀ e ρ' st' H', E e ρ' st' H' → E' e ρ' st' H') : Post G E' H ρ n Rel r Q := by
  cases r with
  | ok v st => exact h
  | ex e st => exact fun H' ρ' x s => k _ _ _ _ (h H' ρ' x s)
  | bad => exact h
theorem Post.mono {α χ : Type} {G : GK} {E : EX} {H : Hp} {ρ : Nat → Addr} {n : Nat} {Rel : Rl α χ} {r : R α} {Q Q' : χ → Hp → Prop} (h : Post G E H ρ n Rel r Q) (k : ∀ v H', Q v H' → Q' v H') : Post G E H ρ n Rel r Q' := by
  cases r with
  | ok v st => exact fun H' ρ' x e s q => k _ _ (h H' ρ' x e s q)
  | ex e st => exact h
  | bad => exact h
theorem EXo.mono {G : GK} {E E' : XK} (k : ∀ cls d H, E cls d H → E' cls d H) (e : Xn) (ρ : Nat → Addr) (st : Sto) (H : Hp) (h : EXo G E e ρ st H) : EXo G E' e ρ st H := by
  unfold EXo at h ⊢
  split
  · rename_i c
    rw [if_pos c] at h
    exact fun i dx h1 h2 => k _ _ _ (h i dx h1 h2)
  · rename_i c
    rw [if_neg c] at h
    exact k _ _ _ h
section
variable {P : Program} {w : World} {K : PySem.W.Frag} {cm : CM} {mg : Str → Option Value} {base : Heap}
theorem fn_okX {x qual : Str} {st : Stmt} {f : Addr} {fd : FuncData} {N ps : List Str} {k : Nat} {b : MS} (F : Fun K x qual st f fd) (S : FnScope N ps (defScope st)) (hl : ps.length ≤ N.length)
    (hb : ∀ (cdv : Value) (A : Around) (outer : List Env) (s : Shared) (H : Hp) (E : XK), L2.Room k (A.deeper (envOfC qual (defScope st) s.heap.objs.size f cdv)) →
      PSs (cxOf (L2N.CX P w) P w K mg base N qual (defScope st) f cdv A outer s H E) (defBody st) (tS ⟨K, cm, w⟩ (EXo ⟨K, cm, w⟩ E) b)) : FnOk P w K mg base (L2N.CX P w) (k + 1) f fd ps (spX ⟨K, cm, w⟩ (fn N.length ps.length b)) := by
  obtain ⟨oc, od, kV, doc, pm, an, cdv, ct, osl, rfl, lk, hcd⟩ := F.ex
  refine fn_of lk hcd S (fun vs H Q E h => ?_) fun A outer s H vs Q E hr h => ?_
  · obtain ⟨ρ, st, args, hs, r, hp⟩ := h
    unfold fn at hp
    split at hp
    · rename_i e
      rw [← r.length]
      exact e
    · exact hp.elim
  · obtain ⟨ρ, st, args, hs, r, hp⟩ := h
    unfold fn at hp
    split at hp
    · rename_i e
      exact ⟨_, hb cdv A outer s H E hr, ρ, st, _, hs, repE_start r (by rw [e]; exact hl), fin_post (gc_sound hs hp)⟩
    · exact hp.elim
theorem fn_okXR {x qual : Str} {st : Stmt} {f : Addr} {fd : FuncData} {N ps : List Str} {k : Nat} {b : MS} (F : Fun K x qual st f fd) (S : FnScope N ps (defScope st)) (hl : ps.length ≤ N.length)
    (hb : ∀ (cdv : Value) (A : Around) (outer : List Env) (s : Shared) (H : Hp) (E : XK), L2.Room k (A.deeper (envOfC qual (defScope st) s.heap.objs.size f cdv)) →
      PSs (cxOf (L2N.CX P w) P w K mg base N qual (defScope st) f cdv A outer s H E) (defBody st) (tS ⟨K, cm, w⟩ (EXo ⟨K, cm, w⟩ E) b)) : FnOk P w K mg base (L2N.CX P w) (k + 1) f fd ps (spX ⟨K, cm, w⟩ (fnR N.length ps.length b)) := by
  obtain ⟨oc, od, kV, doc, pm, an, cdv, ct, osl, rfl, lk, hcd⟩ := F.ex
  refine fn_of lk hcd S (fun vs H Q E h => ?_) fun A outer s H vs Q E hr h => ?_
  · obtain ⟨ρ, st, args, hs, r, hp⟩ := h
    unfold fnR at hp
    split at hp
    · rename_i e
      rw [← r.length]
      exact e
    · exact hp.elim
  · obtain ⟨ρ, st, args, hs, r, hp⟩ := h
    unfold fnR at hp
    split at hp
    · rename_i e
      exact ⟨_, hb cdv A outer s H E hr, ρ, st, _, hs, repE_start r (by rw [e]; exact hl), fin_post hp⟩
    · exact hp.elim
/-- called where nothing may be let out -/
theorem quietF {k : Nat} {f : Addr} {fd : FuncData} {ps : List Str} {m : ON} (F : FnOk P w K mg base (L2N.CX P w) k f fd ps (spX ⟨K, cm, w⟩ m)) : FnOk P w K mg base CX0 k f fd ps (spF ⟨K, cm, w⟩ m) := by
  have up : ∀ vs H Q E, spF ⟨K, cm, w⟩ m vs H Q E → spX ⟨K, cm, w⟩ m vs H Q E0 := fun vs H Q E ⟨ρ, st, args, hs, r, hp⟩ => ⟨ρ, st, args, hs, r, hp.monoE fun _ _ _ _ z => z.elim⟩
  refine ⟨fun vs H Q E h => F.len _ _ _ _ (up _ _ _ _ h), fun A outer s H args us vs Q E hr e0 hb r h => codeAny_mono (F.run A outer s H args us vs Q E0 hr e0 hb r (up _ _ _ _ h)) fun r s' hq => ?_⟩
  cases r with
  | ok fl =>
    cases fl with
    | ret u => exact hq
    | next => exact False.elim hq
    | brk => exact False.elim hq
    | cont => exact False.elim hq
  | error e =>
    obtain ⟨_, _, _, _, _, _, _, _, _, _, _, _, z⟩ := hq
    exact False.elim z
end
section
variable {X : Cx} {cm : CM} {E : XK}
/-- a def's own exceptions are taken as its promise says -/
theorem passN (tk : L2N.Takes X (fun cls d _ H => E cls d H)) : Passes (L2N.CX X.prog X.w) X E := L2N.passes_call tk fun _ _ _ _ z => z
theorem ye_callX {f : Addr} {fd : FuncData} {ps : List Str} {k : Nat} {m : ON} {x : Str} {e : Expr} {es : List Expr} {mas : MA} {p pos : Pos} (F : FnOk X.prog X.w X.K X.mg X.base (L2N.CX X.prog X.w) k f fd ps (spX (gX X cm) m)) (hx : Passes (L2N.CX X.prog X.w) X E) (hr : L2.Room k X.A) (hg : Gl X x) (hm : X.mg x = some (.ref f)) (hk : PySem.W.keepIn X.K (.ref f) = true) (hb : Binds X.K fd ps [])
    (ha : PA X (e :: es) (tA (gX X cm) (EXo (gX X cm) E) mas)) (hdb : (x == ("__debug__" : Str)) = false := by decide) (he : starEach (e :: es) X.env = (false, eval e X.env) :: starEach es X.env := by rfl) (hpl : (backTo pos (starEach es X.env)).any (·.1) = false := by rfl) :
    PE X (.Call (.Name x p) (e :: es) [] pos) (tE (gX X cm) (EXo (gX X cm) E) (mN m mas)) :=
  PE.weak (pe_call F hr hg hm hk hb .nil hx ha hdb he hpl) fun σ H Q ⟨ρ, st, env, hs, he, hp⟩ => ⟨ρ, st, env, hs, he, hp.bindI fun vs st1 H1 ρ1 xs e1 s1 r1 hp1 => by
    rw [List.append_nil]
    exact ⟨ρ1, st1, vs, s1, r1, hp1⟩⟩
theorem ye_methX {o e : Expr} {es : List Expr} {mo : ME} {mas : MA} {m : Str} {f : Addr} {fd : FuncData} {ps : List Str} {k : Nat} {mf : ON} {pos apos : Pos} {pl : Sem Bool} (ho : PE X o (tE (gX X cm) (EXo (gX X cm) E) mo)) (hC : Cls X.K (cm 0)) (hm : Meth X.K (cm 0) m f)
    (F : FnOk X.prog X.w X.K X.mg X.base (L2N.CX X.prog X.w) k f fd ps (spX (gX X cm) mf)) (hx : Passes (L2N.CX X.prog X.w) X E) (hr : L2.Room k X.A) (hb : Binds X.K fd ps []) (ha : PA X (e :: es) (tA (gX X cm) (EXo (gX X cm) E) mas))
    (hst : starEach (e :: es) X.env = (false, eval e X.env) :: starEach es X.env := by rfl) (hpl : (backTo pos (starEach es X.env)).any (·.1) = false := by rfl)
    (ht : eval (.Call (.Attribute o m apos) (e :: es) [] pos) X.env = (do
      let ov ← eval o X.env
      standAt apos.atName
      let (f, first) ← holding [ov] (getMethod ov m pl)
      callWith pos f first (backTo pos (starEach (e :: es) X.env)) (backToKw pos (keywordEach [] X.env))) := by rfl) :
    PE X (.Call (.Attribute o m apos) (e :: es) [] pos) (tE (gX X cm) (EXo (gX X cm) E) (mMth m mf mo mas)) :=
  PE.weak (pe_meth (pl := pl) ho hC hm F hr hb .nil hx ha hst hpl ht) fun σ H Q ⟨ρ, st, env, hs, he, hp⟩ => ⟨ρ, st, env, hs, he, hp.bindI fun x st1 H1 ρ1 y e1 s1 r1 hp1 => by
    have r1 : Rep X.K H1 ρ1 st1.length x y := r1
    split at hp1
    · rename_i hi
      obtain ⟨a, dx, gs, rfl, h1, h2⟩ := insM_ok s1 r1 hi
      refine ⟨a, dx, gs, rfl, h1, h2, ρ1, st1, env, s1, he.ext hs e1, hp1.bindI fun vs st2 H2 ρ2 ys e2 s2 r2 hp2 => ?_⟩
      rw [List.append_nil]
      exact ⟨ρ2, st2, x :: vs, s2, .cons (Rep.ext s1 e2 r1) r2, hp2⟩
    · exact hp1.elim⟩
theorem ye_meth0X {o : Expr} {mo : ME} {m : Str} {f : Addr} {fd : FuncData} {ps : List Str} {k : Nat} {mf : ON} {pos apos : Pos} {pl : Sem Bool} (ho : PE X o (tE (gX X cm) (EXo (gX X cm) E) mo)) (hC : Cls X.K (cm 0)) (hm : Meth X.K (cm 0) m f)
    (F : FnOk X.prog X.w X.K X.mg X.base (L2N.CX X.prog X.w) k f fd ps (spX (gX X cm) mf)) (hx : Passes (L2N.CX X.prog X.w) X E) (hr : L2.Room k X.A) (hb : Binds X.K fd ps [])
    (ht : eval (.Call (.Attribute o m apos) [] [] pos) X.env = (do
      let ov ← eval o X.env
      standAt apos.atName
      let (f, first) ← holding [ov] (getMethod ov m pl)
      callWith pos f first (backTo pos (starEach [] X.env)) (backToKw pos (keywordEach [] X.env))) := by rfl) :
    PE X (.Call (.Attribute o m apos) [] [] pos) (tE (gX X cm) (EXo (gX X cm) E) (mMth m mf mo maNil)) :=
  PE.weak (pe_meth0 (pl := pl) ho hC hm F hr hb .nil hx ht) fun σ H Q ⟨ρ, st, env, hs, he, hp⟩ => ⟨ρ, st, env, hs, he, hp.bindI fun x st1 H1 ρ1 y e1 s1 r1 hp1 => by
    have r1 : Rep X.K H1 ρ1 st1.length x y := r1
    split at hp1
    · rename_i hi
      obtain ⟨a, dx, gs, rfl, h1, h2⟩ := insM_ok s1 r1 hi
      exact ⟨a, dx, gs, rfl, h1, h2, ρ1, st1, [x], s1, .cons r1 .nil, hp1⟩
    · exact hp1.elim⟩
/-- what a class whose instances are raised must say -/
structure XcR (K : PySem.W.Frag) (C : Addr) : Prop where
  ein : ∃ bm n i, ExcBaseFacts "ValueError" n i bm ∧ PySem.W.excIn K C bm n = true
  kp : PySem.W.keepIn K (.ref C) = true
  sb : PySem.W.subIn K (.ref C) (.type "BaseException") = some true
  ty : PySem.W.typeIn K (.ref C) = some (.type "type")
theorem ys_raiseX {x m : Str} {j : Nat} {p p2 pos pos' : Pos} (hc : X.calm = true) (tk : L2N.Takes X (fun cls d _ H => E cls d H)) (R : XcR X.K (cm.xc (xno x))) (hm : X.mg x = some (.ref (cm.xc (xno x)))) (hg : Gl X x) (h7 : xno x ≠ 7) (hdb : (x == ("__debug__" : Str)) = false := by decide) :
    PS X (.Raise (some (.Call (.Name x p) [.Constant (.str m) j p2] [] pos)) none pos') (tS (gX X cm) (EXo (gX X cm) E) (msRaise1 x (.str m))) := by
  obtain ⟨bm, n, i, F, ein⟩ := R.ein
  refine PS.weak (L2N.ps_raise hc tk (L2N.pmk_own F ein hm R.kp (raises_own R.sb R.ty) hg hdb)) fun D σ H ⟨ρ, st, env, hs, he, hp⟩ => ?_
  have q : EXo (gX X cm) E ⟨x, [.str m]⟩ ρ st H := hp H ρ .refl hs
  unfold EXo at q
  rw [if_neg h7] at q
  exact q
end
/-! ### _law_try(lambda: e) -/
/-- ns: the classes that may come -/
def mTry (ns : List Nat) (m : ME) : ME := fun env st => match m env st with
  | .ok v st' => oLst [v] st'
  | .ex e st' => if xno e.cls ∈ ns ∧ xno e.cls ≠ 7 then .ok (.str (exName (xno e.cls))) st' else .bad
  | .bad => .bad
theorem grown_ext {P : Addr} {q : Str} {H H1 : Hp} {ρ : Nat → Addr} {n : Nat} (g : Grown P q H H1) : Ext H ρ n H1 ρ n := by
  rcases g with rfl | ⟨ps, more, c, hP, hc, rfl⟩
  · exact .refl
  · have at_ : ∀ b o, H b = some o → (∀ z, o ≠ .tbl z) → upd (upd H P (.tbl (ps ++ more))) c (LamX.CodeO c q) b = some o := fun b o e n => by
      rw [upd_ne (ne_of_none e hc), upd_ne fun z => ?_]
      · exact e
      · rw [z, hP] at e
        exact n ps (Option.some.inj e).symm
    refine ⟨Nat.le_refl _, fun _ _ => rfl, fun a o e nt _ => at_ a o e nt, fun _ h1 h2 => absurd h1 (Nat.not_le.mpr h2), fun a o e => ?_, fun a ob u e => at_ a _ e fun z => nofun⟩
    rw [upd_ne (ne_of_none e hc)]
    by_cases z : a = P
    · exact ⟨_, by rw [z, upd_same]⟩
    · exact ⟨o, by rw [upd_ne z]; exact e⟩
theorem RepS.grown {G : GK} {P : Addr} {q : Str} {H H1 : Hp} {ρ : Nat → Addr} {st : Sto} (s : RepS G H ρ st) (g : Grown P q H H1) (tb : LamX.Tabs G.cm.T H1) : RepS G H1 ρ st := by
  refine s.mv (fun k hk => ?_) (Ext.tups s (grown_ext g)) tb
  obtain ⟨u, e, nt⟩ := s.notT hk
  obtain ⟨u', e', nc⟩ := s.notC hk
  rw [e] at e'
  cases e'
  rw [e]
  rcases g with rfl | ⟨ps, more, c, hP, hc, rfl⟩
  · exact e
  · rw [upd_ne (ne_of_none e hc), upd_ne fun z => ?_]
    · exact e
    · rw [z, hP] at e
      exact nc.1 ps (Option.some.inj e).symm
theorem tE_mono {G : GK} {m : ME} (σ : L2.St) (E E' : XK) (H : Hp) (Q Q' : VK) (k : ∀ cls d H', E cls d H' → E' cls d H') (kq : ∀ v H', Q v H' → Q' v H') (h : tE G (EXo G E) m σ H Q) : tE G (EXo G E') m σ H Q' := by
  obtain ⟨ρ, st, env, hs, he, hp⟩ := h
  exact ⟨ρ, st, env, hs, he, (hp.monoE fun e ρ' st' H' => EXo.mono k e ρ' st' H').mono kq⟩
section
variable {X : Cx} {cm : CM} {E : EX}
theorem try_of {G : GK} {P : Addr} {q : Str} {ns : List Nat} {m : ME} (hn : ∀ n ∈ ns, NmC G.K G.cm.xc n) (σ : L2.St) (H : Hp) (Q : VK) (h : tE G E (mTry ns m) σ H Q) : tLam3 G.cm.T P q (TTry G.K G.cm.xc) (fun E' => tE G (EXo G E') m) σ H Q := by
  obtain ⟨ρ, st, env, hs, he, hp⟩ := h
  refine ⟨hs.tb, fun H1 g tb => ?_⟩
  have e1 : Ext H ρ st.length H1 ρ st.length := grown_ext g
  refine ⟨ρ, st, env, hs.grown g tb, he.ext hs e1, ?_⟩
  unfold mTry at hp
  cases hm : m env st with
  | bad => rw [hm] at hp; exact hp
  | ok v st' =>
    rw [hm] at hp
    intro H' ρ' x e2 s2 r2 p hpn
    have hp' : Post G E H ρ st.length (rV G.K) (oLst [v] st') Q := hp
    unfold oLst at hp'
    rw [if_pos (show [v].length ≤ LIM from (by decide : 1 ≤ LIM))] at hp'
    exact list_at s2 (.cons r2 .nil) hpn (Post.lift (e1.trans e2) hp')
  | ex e st' =>
    rw [hm] at hp
    intro H' ρ' e2 s2
    simp only at hp
    split at hp
    · rename_i hc
      unfold EXo
      rw [if_neg hc.2]
      refine ⟨_, hc.2, rfl, rfl, hn _ hc.1, fun H2 up => ?_⟩
      exact hp H2 ρ' (.str _) ((e1.trans e2).trans (Ext.grow up)) (s2.growAll up) (.str _)
    · exact hp.elim
/-- a quiet def whose own code object is known -/
theorem fn_okT {P : Program} {w : World} {K : PySem.W.Frag} {mg : Str → Option Value} {base : Heap} {x qual : Str} {st : Stmt} {f c : Addr} {fd : FuncData} {N ps : List Str} {k : Nat} {b : MS} (F : Fun K x qual st f fd) (hc : fd.code = .ref c) (S : FnScope N ps (defScope st)) (hl : ps.length ≤ N.length)
    (hb : ∀ (A : Around) (outer : List Env) (s : Shared) (H : Hp) (E : XK), L2.Room k (A.deeper (envOfC qual (defScope st) s.heap.objs.size f (.ref c))) →
      PSs (cxOf CX0 P w K mg base N qual (defScope st) f (.ref c) A outer s H E).nox (defBody st) (tS ⟨K, cm, w⟩ E00 b)) : FnOk P w K mg base CX0 (k + 1) f fd ps (spF ⟨K, cm, w⟩ (fn N.length ps.length b)) := by
  obtain ⟨oc, od, kV, doc, pm, an, cdv, ct, osl, rfl, lk, hcd⟩ := F.ex
  obtain rfl : cdv = .ref c := hc
  refine fn_of lk hcd S (fun vs H Q E h => ?_) fun A outer s H vs Q E hr h => ?_
  · obtain ⟨ρ, st, args, hs, r, hp⟩ := h
    unfold fn at hp
    split at hp
    · rename_i e
      rw [← r.length]
      exact e
    · exact hp.elim
  · obtain ⟨ρ, st, args, hs, r, hp⟩ := h
    unfold fn at hp
    split at hp
    · rename_i e
      exact ⟨_, (hb A outer s H E hr).nox, ρ, st, _, hs, repE_start r (by rw [e]; exact hl), fin_post (gc_sound hs hp)⟩
    · exact hp.elim
/-- _law_try(lambda: body) -/
theorem ye_try {stt stn : Stmt} {ft fn : Addr} {fdt fdn : FuncData} {c P : Addr} {k : Nat} {ns : List Nat} {mb : ME} {params : Arguments} {body : Expr} {scope : Scope} {p lpos pos : Pos} {q1 q2 q3 q4 q5 q6 q7 q8 q9 q10 q11 q12 q13 q14 q15 q16 q17 q18 q19 q20 q21 q22 q23 q24 q25 q26 q27 q28 q29 q30 : Pos} {j : Nat} (Ft : Fun X.K "_law_try" "_law_try" stt ft fdt) (St : FnScope ["door", "found", "e"] ["door"] (defScope stt)) (Bt : Binds X.K fdt ["door"] []) (et : defBody stt = tryB q1 q2 q3 q4 q5 q6 q7 q8 q9 q10 q11 q12 q13 q14 q15 q16 q17 q18 q19 q20 q21 q22 q23 q24 q25 q26 q27 q28 q29 q30 j)
    (gt : X.mg "_law_try" = some (.ref ft)) (Fn : Fun X.K "_law_name_of" "_law_name_of" stn fn fdn) (Sn : FnScope ["e", "kinds", "titles", "title", "kind"] ["e"] (defScope stn)) (Bn : Binds X.K fdn ["e"] []) (gn : X.mg "_law_name_of" = some (.ref fn)) (nb : NmBody X.prog X.w X.K X.mg X.base cm.xc stn fn)
    (h7 : X.mg "TooMany" = some (.ref (cm.xc 7))) (h0 : X.mg "SeatError" = some (.ref (cm.xc 0))) (hn : ∀ n ∈ ns, NmC X.K cm.xc n)
    (l1 : (defScope stt).names.lookup ("_law_name_of" : Str) = some .globalImplicit) (l2 : (defScope stt).names.lookup ("TooMany" : Str) = some .globalImplicit) (l3 : (defScope stt).names.lookup ("SeatError" : Str) = some .globalImplicit) (l4 : (defScope stt).names.lookup ("e" : Str) = some .local) (l5 : (defScope stt).names.lookup ("found" : Str) = some .local) (l6 : Vis (defScope stt) "door")
    (hg : Gl X "_law_try") (TB : LamX.TabB X.base X.mg c P) (hcode : X.env.code = .ref c) (hmT : (P, X.env.qual ++ "<lambda>") ∈ cm.T) (hu : ∀ p ∈ cm.T, p.1 = P → p.2 = X.env.qual ++ "<lambda>") (hr : L2.Room (k + 3) X.A) (L : LamX.LamS X.env.scope scope) (hdef : defaultsOf params X.env = ([], []))
    (hbind : ∀ (q : Str) (cl : List (Str × Addr)) (pm cv ctv : Value), bindArgs (PySem.W.kla_fn "<lambda>" q params body scope cl pm cv ctv) ⟨[], []⟩ = pure [])
    (hbody : ∀ (A : Around) (outer : List Env) (s : Shared) (H : Hp) (E : XK) (f c' : Addr), L2.Room k (A.deeper (LamX.lamEnv X scope s.heap.objs.size f c')) → PE (lamN X A outer s H E scope f c') body (tE (gX X cm) (EXo (gX X cm) E) mb)) :
    PE X (.Call (.Name "_law_try" p) [.Lambda params body scope lpos] [] pos) (tE (gX X cm) E (mTry ns mb)) := by
  obtain ⟨oc, od, kV, doc, pm, an, cdv, ct, osl, rfl, lk, hcd⟩ := Ft.ex
  refine PE.weak (pe_lamN (T := cm.T) (t := fun E' => tE (gX X cm) (EXo (gX X cm) E') mb) (TT := TTry X.K cm.xc) hg gt Ft.kp lk hcd Bt St rfl l6 ?_ TB hcode hmT hu hr L hdef hbind (fun σ E1 E2 H Q Q' => tE_mono σ E1 E2 H Q Q') hbody) fun σ H Q h => try_of (G := gX X cm) hn σ H Q h
  rw [et]
  exact try_gives St Fn Sn Bn nb gn h7 h0 l1 l2 l3 l4 l5
end
end Y
set_option Elab.async false
set_option linter.all false
set_option maxRecDepth 100000
set_option maxHeartbeats 1000000
/-! Y52: the end of a law whose defs make lambdas -/
namespace Y
open PySem PySem.Spec L2
open PyProof.Rows hiding St
/-- a tracked list may be taken for one that stands as it is -/
def spZ (sp : Sp) : Sp := fun vs H Q E => sp vs H Q E ∨ ∃ a xs, H a = some (.lst xs) ∧ ∀ o, sp vs (upd H a (.frz o (.lst xs))) Q E
theorem fn_okZ {P : Program} {w : World} {K : PySem.W.Frag} {mg : Str → Option Value} {base : Heap} {k : Nat} {f : Addr} {fd : FuncData} {ps : List Str} {sp : Sp} (F : FnOk P w K mg base CX0 k f fd ps sp) : FnOk P w K mg base CX0 k f fd ps (spZ sp) := by
  refine ⟨fun vs H Q E h => ?_, fun A outer s H args us vs Q E hr e0 hb r h => ?_⟩
  · rcases h with h | ⟨a, xs, _, h⟩
    · exact F.len _ _ _ _ h
    · exact F.len _ _ _ _ (h default)
  · rcases h with h | ⟨a, xs, ha, h⟩
    · exact F.run A outer s H args us vs Q E hr e0 hb r h
    · obtain ⟨z, its, n, rv, e⟩ := e0.hok a _ ha
      have ne : ∀ {b}, H b = none → b ≠ a := fun hb z => by rw [z, ha] at hb; cases hb
      have off : ∀ {b : Addr} {oo : Obj}, H b = none → upd H a (.frz oo (.lst xs)) b = none := fun hb => by rw [upd_ne (ne hb)]; exact hb
      have ok : HOk P w (upd H a (.frz { cls := .type "list", data := .seq its.toArray n } (.lst xs))) s.heap := fun b u q => by
        by_cases hb : b = a
        · subst hb
          rw [upd_same] at q
          cases q
          exact ⟨e, z, its, n, rv, e⟩
        · rw [upd_ne hb] at q
          refine (e0.hok b u q).stay (fun c v _ y => y) (fun c y => ?_) fun c ys y => ?_
          · rw [upd_ne fun z => ?_]
            · exact y
            · rw [z, ha] at y; cases y
          · rw [upd_ne fun z => ?_]
            · exact y
            · rw [z, ha] at y; cases y
      have e1 : Env0 P w K mg base A outer s (upd H a (.frz { cls := .type "list", data := .seq its.toArray n } (.lst xs))) :=
        ⟨e0.frames, e0.mod, fun b o y => ⟨(e0.bs b o y).1, off (e0.bs b o y).2⟩, e0.bsz, e0.funs, fun b y => off (e0.frf b y), ok, e0.bare⟩
      refine codeAny_mono (F.run A outer s _ args us vs Q E hr e1 hb r (h _)) fun r s' hq => ?_
      cases r with
      | error x => exact hq
      | ok fl =>
        cases fl with
        | next => exact False.elim hq
        | brk => exact False.elim hq
        | cont => exact False.elim hq
        | ret u =>
          obtain ⟨v, H', h1, h2, un, h4, h5, h6⟩ := hq
          refine ⟨v, H', h1, h2, ⟨fun b o y n => un.keep b o y (off n), fun b o y n => un.slot b o y (off n), fun b o y n => un.free b o y (off n), un.there, fun b ys y => un.tups b ys ?_, fun b o u y => un.frzs b o u ?_, fun b qs y => un.tbls b qs ?_⟩, h4, h5, h6⟩
          all_goals
            rw [upd_ne fun z => ?_]
            · exact y
            · rw [z, ha] at y; cases y
/-- the law's answer, whatever stands for the script -/
theorem law_in2 {K : PySem.W.Frag} {cm : CM} {H : Hp} {m : ON} {w : World} {a : Addr} {ns : List Int} (hT : LamX.Tabs cm.T H) (hm : ∃ st', m [.frl (ns.map AV.int)] [] = .ok (.bl true) st') (hF : SqF K H a (ns.map V.int)) : spF ⟨K, cm, w⟩ m [.ref a] H (fun v _ => v = .bl true) fun _ _ _ => False := by
  have hr : ∀ ns : List Int, RepL K H (fun _ => 0) 0 (ns.map AV.int) (ns.map V.int) := fun ns => by
    induction ns with
    | nil => exact .nil
    | cons i r ih => exact .cons (.int i) ih
  obtain ⟨st', e⟩ := hm
  refine ⟨fun _ => 0, [], [.frl (ns.map AV.int)], ⟨fun k o h => by simp at h, fun j k h => absurd h (Nat.not_lt_zero _), hT⟩, .cons (.frl hF (hr ns)) .nil, ?_⟩
  rw [e]
  exact fun H' ρ' x _ _ r => rep_bl r
theorem law_inZ {K : PySem.W.Frag} {cm : CM} {H : Hp} {m : ON} {w : World} {a : Addr} {ns : List Int} (hT : ∀ p ∈ cm.T, H p.1 = some (.tbl #[])) (hm : ∃ st', m [.frl (ns.map AV.int)] [] = .ok (.bl true) st') (hS : SqL K H a (ns.map V.int)) : spZ (spF ⟨K, cm, w⟩ m) [.ref a] H (fun v _ => v = .bl true) fun _ _ _ => False := by
  rcases hS with (h | ⟨o, h⟩) | h
  · refine .inr ⟨a, _, h, fun o => law_in2 (fun p hp => LamX.TabS.nil ?_) hm (.inl ⟨o, upd_same⟩)⟩
    rw [upd_ne fun z => ?_]
    · exact hT p hp
    · have := hT p hp
      rw [z, h] at this
      cases this
  · exact .inl (law_in2 (fun p hp => LamX.TabS.nil (hT p hp)) hm (.inl ⟨o, h⟩))
  · exact .inl (law_in2 (fun p hp => LamX.TabS.nil (hT p hp)) hm (.inr h))
/-- the defs' tables are empty behind the top -/
def TabsOf (K : PySem.W.Frag) (h : Heap) (xs : List Str) : Prop := ∀ x ∈ xs, ∀ c P, PySem.W.tabIn K x = some (c, P) → PySem.W.CodeHd h c P ∧ h.get? P = some { cls := .none, data := .fields #[] }
theorem walk_all {l : PySem.W.OpenLaw} {n k : Nat} {q : Program} {loose : List Str} {XP : (Str → Option Value) → Heap → Prop} {YP : World → Heap → Prop} {d : DefRec} {K : Params → PySem.W.Frag} {CX : World → CXT} {x : Str} (xs : List Str)
    (hn : l.most = some n) (hn2 : n ≤ sizeLine) (hdf : d.params.defaults = []) (hr : L2.Room k callerA) (hx : (xs.all fun x => ((recsOf q).find? fun e => e.name == x).isSome) = true) (hY : ∀ (w : World) (h : Heap), YP w h → (K w.params).In h)
    (F : ∀ (w : World) (mg : Str → Option Value) (fa : Addr) (h : Heap), (K w.params).In h → h.Ns mainGlobals mg → mg d.name = some (.ref fa) → TabsOf (K w.params) h xs → LamX.LawAtS l w (K w.params) (CX w) k n x mg fa h)
    (hCX : ∀ (w : World) (H : Hp) (s : Shared) (e : Value) (s' : Shared), CX w [] H s (fun _ _ _ => False) e s' → False) :
    PySem.W.WalkO q loose XP YP l.row.toRowW d [] (fun f vs => PySem.call f vs) := by
  refine Att.attach_callB hn hdf fun w s0 s1 mg mb fa o pm cd doc a vs ns G Y ho hd hcd hmg hobj hints hlen hbits hg => ?_
  have KX := hY w _ Y
  have tabs : TabsOf (K w.params) s1.heap xs := fun y hy c P ht => by
    obtain ⟨dL, eL⟩ := Option.isSome_iff_exists.mp (List.all_eq_true.mp hx y hy)
    exact PySem.W.tab_of G.T KX eL ht
  obtain ⟨fd, cs, sp, t1, t2, t3, hb, hsp, hF⟩ := F w mg fa _ KX G.T.g hmg tabs
  exact LamX.law_callTs KX G.T.g G.T.b G.T.builtins G.T.nolimit hg t1 t2 t3 G.T.bmain hobj hints (Nat.le_trans hlen hn2) hr hF hb (fun H hH hS => hsp H a ns hlen hbits hH hS) fun H e s' => hCX w H s1 e s'
end Y
namespace Y
open PySem
/-- the classes of exceptions in their order -/
def xcOf (x0 x1 x2 x3 x4 x5 x6 x7 : Addr) : Nat → Addr
  | 0 => x0 | 1 => x1 | 2 => x2 | 3 => x3 | 4 => x4 | 5 => x5 | 6 => x6 | _ => x7
end Y
set_option Elab.async false
set_option linter.all false
/-! Y53: where a def's table lies -/
namespace Y
open PySem PySem.W PyProof.Rows
theorem tab_mk {K : Frag} {x : Str} {f c P : Addr} {oc oc2 : Value} {od od2 : Option Addr} {fd : FuncData} {vs : Array Value} {sl sl2 : Array (Option Value)} (e : nsIn K mainGlobals x = some (some (.ref f))) (l : K.lookup f = some ⟨oc, od, .func fd, sl⟩)
    (hc : fd.code = .ref c) (l2 : K.lookup c = some ⟨oc2, od2, .fields vs, sl2⟩) (h : (vs[11]? : Option Value) = some (.ref P)) : tabIn K x = some (c, P) := by
  unfold tabIn
  rw [e]
  simp only [l, hc, l2, h]
end Y
set_option Elab.async false
set_option linter.all false
set_option maxRecDepth 100000
set_option maxHeartbeats 1000000
/-! Y54: len(set(names)), the names all different -/
namespace YS
open PySem PySem.Spec PyProof.Rows L2
section
variable {prog : Program} {w : World} {A : Around}
abbrev SetN (prog : Program) (w : World) (S : Addr) (xs : List Str) (i : Nat) (h : Heap) : Prop :=
  h.SetOf (PySem.strKind prog w) S (fun z => (xs.take i).any (· == z)) i
theorem take_new {xs : List Str} (nd : xs.Nodup) {i : Nat} (hi : i < xs.length) : ((xs.take i).any fun z => z == xs.getD i Str.empty) = false := by
  rw [Bool.eq_false_iff]
  intro h
  obtain ⟨y, hy, e⟩ := List.any_eq_true.mp h
  have e2 : y = xs.getD i Str.empty := eq_of_beq e
  rw [List.getD_eq_getElem?_getD, List.getElem?_eq_getElem hi] at e2
  simp only [Option.getD_some] at e2
  obtain ⟨j, hj⟩ := List.mem_iff_getElem?.mp hy
  rw [List.getElem?_take] at hj
  split at hj
  · rename_i c
    obtain ⟨hl, ej⟩ := List.getElem?_eq_some_iff.mp hj
    exact absurd (ej.trans e2) (List.pairwise_iff_getElem.mp nd j i hl hi c)
  · cases hj
theorem take_on {xs : List Str} {i : Nat} (hi : i < xs.length) (z : Str) :
    ((xs.take i).any (· == z) || decide (z = xs.getD i Str.empty)) = (xs.take (i + 1)).any (· == z) := by
  rw [List.take_add_one, List.any_append, List.getElem?_eq_getElem hi, List.getD_eq_getElem?_getD, List.getElem?_eq_getElem hi]
  simp only [Option.toList_some, Option.getD_some, List.any_cons, List.any_nil, Bool.or_false]
  congr 1
  rw [Bool.eq_iff_iff]
  simp only [decide_eq_true_eq, beq_iff_eq]
  exact eq_comm
/-- the loop -/
theorem loop_n {R : Result → Shared → Prop} {I : Addr} {fp wr : List Addr} {G : Array GenState → Array GenState → Prop} {n : Nat} {P : Nat → Value → Prop} {St : Nat → Shared → Prop}
    (W : WalksS prog w A.in1 I fp wr G n P St) (S : Addr) (hSf : S ∉ fp) (xs : List Str) (hsz : xs.length = n) (nd : xs.Nodup) (hb : n + 1 < scanBound) (hval : ∀ i v, P i v → ∃ t, v = .str (xs.getD i Str.empty) t) :
    ∀ (k i : Nat) (s : Shared), n - i = k → i ≤ n → St i s → SetN prog w S xs i s.heap →
      (∀ s', Moved (S :: wr) G s s' → SetN prog w S xs n s'.heap → R (.ok (.ret .none)) s') → codeAny (model prog w) A (.builtin "set.update.loop" ⟨[.ref S, .ref I], []⟩) R s := by
  have hSw : S ∉ wr := mt (W.sub S) hSf
  have up : ∀ b ∈ wr, b ∈ S :: wr := fun b => List.mem_cons_of_mem S
  have stay : ∀ {i : Nat} {s s' : Shared}, SetN prog w S xs i s.heap → Moved wr G s s' → SetN prog w S xs i s'.heap := fun {i s s'} ⟨o, es, ep, t, ho, r⟩ hm => ⟨o, es, ep, t, hm.heap S _ hSw ho, r⟩
  intro k
  induction k with
  | zero =>
    intro i s hk hi hst hS hR
    obtain rfl : i = n := by omega
    refine codeAny_builtin PyProof.Rows.F.entry_set_update_loop (?_)
    rw [Around.under_plainId PyProof.Rows.F.plain_set_update_loop]
    show wpAny _ A.in1 (pyNext (Value.ref I) >>= _) _ _ s
    refine wpAny_bind (W.done s _ _ hst fun s' hm => (?_))
    show wpAny _ A.in1 (ret .none) _ _ s'
    exact wpAny_pure (hR s' (hm.mono up) (stay hS hm))
  | succ k ih =>
    intro i s hk hi hst hS hR
    have lt : i < n := by omega
    have lt2 : i < xs.length := by omega
    refine codeAny_builtin PyProof.Rows.F.entry_set_update_loop (?_)
    rw [Around.under_plainId PyProof.Rows.F.plain_set_update_loop]
    show wpAny _ A.in1 (pyNext (Value.ref I) >>= _) _ _ s
    refine wpAny_bind (W.item i s _ _ lt hst fun v s' hP hst' hm => (?_))
    obtain ⟨t, rfl⟩ := hval i v hP
    have hS1 := stay hS hm
    show wpAny _ A.in1 (holding [.str (xs.getD i Str.empty) t] (setAdd S (Value.str (xs.getD i Str.empty) t)) >>= _) _ _ s'
    refine wpAny_bind (wpAny_holding (?_))
    unfold setAdd
    refine wpAny_holding (wpAny_bind ((PySem.strKind prog w).pyHash (k := xs.getD i Str.empty) (strKind_is ..) ?_))
    refine wpAny_setAddHashed_of (knd := PySem.strKind prog w) (s := { s' with toks := s'.toks + 1 }) (strKind_is ..) rfl hS1 (by omega) fun h' hsb hS2 => (?_)
    have hS3 : SetN prog w S xs (i + 1) h' := by
      refine SetOf_congr hS2 (fun z => take_on lt2 z) ?_
      simp only [take_new nd lt2]
      rfl
    have other : ∀ b o, b ≠ S → s'.heap.get? b = some o → h'.get? b = some o := fun b o ne e => by rw [hsb.2 b ne]; exact e
    refine wpAny_pure ⟨plainId_quiet PyProof.Rows.F.plain_set_update_loop _, ih (i + 1) _ (by omega) lt ?_ hS3 fun s2 hm2 hS4 => hR s2 (.trans W.gtrans (.then_heap (hm.mono up) (Nat.le_succ _) ?_) hm2) hS4⟩
    · exact W.frame _ s' _ _ hst' (Nat.le_succ _) fun b hb o => other b o fun z => hSf (z ▸ hb)
    · exact fun b o hb => other b o fun z => hb (z ▸ List.mem_cons_self)
end
section
variable {prog : Program} {w : World} {A : Around} {E : Value → Shared → Prop} {s : Shared}
abbrev newS (led : Bool) : Obj := { cls := .type "set", dict := none, data := .set #[] 0 (.fresh 0 0 led) }
set_option maxHeartbeats 3200000 in
/-- set(names) -/
theorem call_set_n {l : Addr} {items : Array Value} {xs : List Str} {Q : Value → Shared → Prop} (hh : A.handled = none) (hl : s.heap.IsList l items) (hi : StrsAre items.toList xs) (nd : xs.Nodup) (hb : xs.length + 1 < scanBound)
    (h : ∀ (h' : Heap) (tk : Nat), SetN prog w s.heap.objs.size xs items.size h' → (∀ b o, b < s.heap.objs.size → s.heap.get? b = some o → h'.get? b = some o) →
      Q (.ref s.heap.objs.size) { s with heap := h', toks := tk }) : wpAny (model prog w) A (call (.type "set") [.ref l]) Q E s := by
  have ⟨c, tl, hmro⟩ := PySem.F.called_set.mro
  have g1 := PySem.F.called_set.made
  have g2 := PySem.F.called_set.sub
  refine wpAny_call (codeAny_of_tree (?_))
  show wpAny _ _ (callAny (Value.type "set") _) _ _ _
  refine wpAny_pure (And.intro (Code.quiet_builtin _ (by decide +kernel)) (codeAny_builtin PySem.F.entry_type_call ?_))
  rw [Around.under_plain (weight_type_call_type "set" [Value.ref l] []) rfl]
  have g3 := PySem.F.called_set.notType
  have g4 := PySem.F.called_set.canCreate
  have g5 := PySem.F.typeCall_set_1 (.ref l)
  repeat (any_goals first | assumption | wp_step)
  refine codeAny_mono (code_set_new_1 (.ref l) (E := E) (Q₁ := fun obj s₁ => ∃ led : Bool, obj = .ref s.heap.objs.size ∧ s₁ = { s with heap := s.heap.push (newS led) }) fun led => ⟨led, rfl, rfl⟩) fun r s₁ hr => (?_)
  cases r with
  | error e => exact hr
  | ok fl =>
    cases fl with
    | ret obj =>
      obtain ⟨led, rfl, rfl⟩ := hr
      have hS : (s.heap.push (newS led)).get? s.heap.objs.size = some (newS led) := Heap.get?_push_size _ rfl
      have hT : Shared.TypeIs { s with heap := s.heap.push (newS led) } (.ref s.heap.objs.size) "set" := ⟨_, hS, rfl⟩
      have g6 := PySem.F.called_set.init.lookup
      have g7 := PySem.F.called_set.init.bind (.ref s.heap.objs.size)
      repeat (any_goals first | assumption | wp_step)
      refine codeAny_mono (codeAny_call_builtin (R := wants (fun r s₂ => r = .none ∧ ∃ h' tk, s₂ = { s with heap := h', toks := tk } ∧ SetN prog w s.heap.objs.size xs items.size h' ∧
          (∀ b o, b < s.heap.objs.size → s.heap.get? b = some o → h'.get? b = some o)) E) PySem.F.called_set.init.plain PySem.F.entry_set_init (check_set_init_1 hT (?_))) fun r₂ s₂ hr₂ => (?_)
      · obtain ⟨⟨oc, od, odt, os⟩, hol, hcl, nl, hdl⟩ := hl
        simp only at hcl hdl
        subst hcl hdl
        have hol' : (s.heap.push (newS led)).get? l = some { cls := .type "list", dict := od, data := .seq items nl, slots := os } := Heap.get?_push_of_some _ hol
        have g8 := PySem.F.sub_list_set
        have g9 := PySem.F.sub_list_frozenset
        have ga : (Value.type "list" == Value.type "dict") = false := by decide +kernel
        have hl1 : (s.heap.push (newS led)).IsList l items := ⟨_, hol', rfl, nl, rfl⟩
        unfold Builtin.«set.__init__» noKeywords Builtin.Frozenset.updateFrom
        generalize hPI : pyIter = PI
        wp_walk
        subst hPI
        refine wpAny_pyIter_list hl1 (wpAny_bind (wpAny_runValue ?_))
        have lS : l < s.heap.objs.size := Heap.lt_size hol
        have e1 : (s.heap.push (newS led)).objs.size = s.heap.objs.size + 1 := Heap.size_push ..
        have nI : l ≠ (s.heap.push (newS led)).objs.size := e1 ▸ Nat.ne_of_lt (Nat.lt_succ_of_lt lS)
        have hSf : s.heap.objs.size ∉ [(s.heap.push (newS led)).objs.size, l] := by
          simp only [List.mem_cons, List.not_mem_nil, or_false, not_or, e1]
          exact ⟨Nat.ne_of_lt (Nat.lt_succ_self _), Nat.ne_of_gt lS⟩
        have hsz : xs.length = items.size := by rw [← hi.len_eq, Array.length_toList]
        refine loop_n ((Walks.list (by simp [hh]) _ l nI items).toS) s.heap.objs.size hSf xs hsz nd (by omega) (fun i v hv => SS.strs_at hi i v (by rw [Array.getElem?_toList]; exact hv)) (items.size - 0) 0 _ (by omega) (Nat.zero_le _)
          ⟨⟨_, Heap.get?_push_size _ rfl, rfl, rfl⟩, (hl1.push _)⟩ ?z0 ?zR
        case z0 =>
          have hg : ((s.heap.push (newS led)).push { cls := .type "list_iterator", data := .fields #[.ref l, .int 0 0] }).get? s.heap.objs.size = some (newS led) := Heap.get?_push_of_some _ hS
          exact SetOf_congr ((setObjOf_fresh (knd := PySem.strKind prog w) led).setOf hg (by decide)) (fun _ => rfl) rfl
        case zR =>
          intro s' hm hS'
          obtain ⟨h', g', d', tk', os'⟩ := s'
          obtain rfl : g' = s.gens := hm.gens
          obtain rfl : d' = s.drawn := hm.drawn
          obtain rfl : os' = s.os := hm.os
          show wpAny _ _ _ _ _ _
          refine wpAny_pure (?_)
          show wpAny _ _ (ret .none) _ _ _
          refine wpAny_pure ⟨rfl, h', tk', rfl, hS', fun b o hb e => hm.heap b o ?_ (Heap.get?_push_of_some _ (Heap.get?_push_of_some _ e))⟩
          simp only [List.mem_cons, List.not_mem_nil, or_false, not_or, e1]
          exact ⟨Nat.ne_of_lt hb, Nat.ne_of_lt (Nat.lt_succ_of_lt hb)⟩
      · cases r₂ with
        | error e => exact hr₂
        | ok fl₂ =>
          cases fl₂ with
          | ret r =>
            obtain ⟨rfl, h', tk, rfl, hS', hk'⟩ := hr₂
            repeat (any_goals first | assumption | wp_step)
            exact h _ _ hS' hk'
          | _ => exact hr₂.elim
    | _ => exact hr.elim
end
end YS
set_option Elab.async false
set_option linter.all false
set_option maxRecDepth 100000
set_option maxHeartbeats 1000000
/-! Y55: len(set(names)); str(folk) -/
namespace Y
open PySem PySem.Spec L2
open PyProof.Rows hiding St
def oLenSet : O1 := fun x st => match x with
  | .loc k => match (rdL st k).bind strsA with
    | some ss => if ss.Nodup ∧ ss.length < 1000 then .ok (.int ss.length) st else .bad
    | none => .bad
  | _ => .bad
section
variable {K : PySem.W.Frag} {H : Hp} {ρ : Nat → Addr} {n : Nat}
theorem strsA_vals : ∀ {us : List AV} {ss : List Str} {ys : List V}, strsA us = some ss → RepL K H ρ n us ys → ys = ss.map V.str
  | [], ss, _, h, .nil => by
    cases h
    rfl
  | .str s :: r, ss, _, h, .cons h1 h2 => by
    cases hq : strsA r with
    | none => simp [strsA, hq] at h
    | some t =>
      simp only [strsA, hq, Option.map_some, Option.some.injEq] at h
      subst h
      rw [strsA_vals hq h2]
      cases h1
      rfl
end
section
variable {X : Cx} {cm : CM} {E : EX}
def tLenSetN (K : PySem.W.Frag) (ta : TE) : TE := fun σ H Q => ta σ H fun x H1 => ∃ l, ∃ xs : List Str, x = .ref l ∧ SqL K H1 l (xs.map V.str) ∧ xs.Nodup ∧ xs.length < 1000 ∧ Q (.int xs.length) H1
theorem pe_lenSetN {a : Expr} {ta : TE} {p p2 q pos : Pos} (hc : X.calm = true) (hg : Gl X "len") (hm : X.mg "len" = none) (hg2 : Gl X "set") (hm2 : X.mg "set" = none) (ha : PE X a ta)
    (na : starEach [a] X.env = (false, eval a X.env) :: starEach [] X.env := by rfl) : PE X (.Call (.Name "len" p) [.Call (.Name "set" p2) [a] [] q] [] pos) (tLenSetN X.K ta) := by
  refine ⟨fun pins s σ H Q I h => Call_ (ld_blt I hg hm boot_len (callWith_builtin1 (args_cons (?_) rfl) rfl rfl))⟩
  refine Call_ (ld_blt I hg2 hm2 boot_set (callWith_type1 (args_cons (?_) na) na rfl))
  refine thn (ha.run pins s σ H _ I h) fun v s1 ⟨x, H1, I1, r1, l, xs, e, hq, nd, hl, q1⟩ => args_nil (?_)
  subst e
  cases r1
  obtain ⟨its, r, pl, hz⟩ := I1.list hq
  have el : its.toArray.size = xs.length := by rw [List.size_toArray, ← r.length, List.length_map]
  refine YS.call_set_n (I1.ok.hd hc) pl.isList (by simpa using L2.strsAre_of r) nd (by unfold scanBound; omega) fun h' tk hS hk => args_nil ?_
  rw [el] at hS
  obtain ⟨o, es, ep, t, ho, hex, hd, g1, g2, g3, hf, hn⟩ := hS
  have I2 : L2.Inv X pins σ H1 { s1 with heap := h', toks := tk } := I1.kept fun b o e => hk b o (Heap.lt_size e) e
  exact call_len_set ho hex hd hf (by rw [hn] <;> omega) ⟨V.int xs.length, H1, I2.tok _, ⟨_, by rw [hn]⟩, q1⟩
theorem ye_lenSet {a : Expr} {ma : ME} {p p2 q pos : Pos} (hc : X.calm = true) (hg : Gl X "len") (hm : X.mg "len" = none) (hg2 : Gl X "set") (hm2 : X.mg "set" = none) (ha : PE X a (tE (gX X cm) E ma))
    (na : starEach [a] X.env = (false, eval a X.env) :: starEach [] X.env := by rfl) : PE X (.Call (.Name "len" p) [.Call (.Name "set" p2) [a] [] q] [] pos) (tE (gX X cm) E (mUn oLenSet ma)) :=
  PE.weak (pe_lenSetN hc hg hm hg2 hm2 ha na) fun σ H R ⟨ρ, st, env, hs, he, hp⟩ => ⟨ρ, st, env, hs, he, hp.bindI fun v st1 H1 ρ1 x e1 s1 r1 hp1 => by
    unfold oLenSet at hp1
    split at hp1
    · rename_i k
      split at hp1
      · rename_i ss q1
        split at hp1
        · rename_i c
          obtain ⟨us, q2, q3⟩ := Option.bind_eq_some_iff.mp q1
          obtain ⟨rfl, hk⟩ := rep_loc r1
          obtain ⟨ys, h1, h2⟩ := s1.lst (rdL_some q2)
          obtain rfl := strsA_vals q3 h2
          exact ⟨_, ss, rfl, SqL.of h1, c.1, c.2, Post.at (x := V.int _) hp1 s1 (.int _)⟩
        · exact hp1.elim
      · exact hp1.elim
    · exact hp1.elim⟩
end
end Y
set_option Elab.async false
set_option linter.all false
set_option maxRecDepth 100000
set_option maxHeartbeats 1000000
/-! Y56: str(folk): a list of pairs of a name and a number -/
namespace Y
open PySem PySem.Spec L2
open PyProof.Rows hiding St
def folkD (ps : List (Str × Int)) : PyData := .list (ps.map fun p => .tuple [.str p.1, .int p.2])
def pairsA : List AV → Option (List (Str × Int))
  | [] => some []
  | .tup [.str s, .int i] :: r => (pairsA r).map ((s, i) :: ·)
  | _ => none
def oStrF : ON := fun xs st => match xs with
  | [.loc k] => match (rdL st k).bind pairsA with
    | some ps => if (folkD ps).showable = true ∧ (folkD ps).shown.length ≤ sizeLine then .ok (.str (folkD ps).shown) st else .bad
    | none => .bad
  | _ => .bad
theorem folk_depth : ∀ ps : List (Str × Int), PyData.depthAll (ps.map fun p => PyData.tuple [.str p.1, .int p.2]) ≤ 3
  | [] => by simp [PyData.depthAll]
  | p :: r => by
    have h := folk_depth r
    simp only [List.map_cons, PyData.depthAll, PyData.depth]
    omega
theorem folk_plain : ∀ ps : List (Str × Int), PyData.hasDictAll (ps.map fun p => PyData.tuple [.str p.1, .int p.2]) = false
  | [] => rfl
  | p :: r => by
    simp only [List.map_cons, PyData.hasDictAll, PyData.hasDict, folk_plain r, Bool.or_self]
section
variable {X : Cx}
def rStrF (K : PySem.W.Frag) : List V → Hp → VK → Prop := fun xs H Q => ∃ (l : Addr) (ps : List (Addr × Str × Int)), xs = [.ref l] ∧ SqL K H l (ps.map fun p => V.ref p.1) ∧ (∀ p ∈ ps, SqT K H p.1 [.str p.2.1, .int p.2.2]) ∧
  (folkD (ps.map (·.2))).showable = true ∧ (folkD (ps.map (·.2))).shown.length ≤ sizeLine ∧ Q (.str (folkD (ps.map (·.2))).shown) H
theorem reads_folk {pins : List (Addr × Obj)} {σ : St} {H : Hp} {s : Shared} (I : L2.Inv X pins σ H s) : ∀ {ps : List (Addr × Str × Int)} {its : List Value}, (∀ p ∈ ps, SqT X.K H p.1 [.str p.2.1, .int p.2.2]) → Vals (ps.map fun p => V.ref p.1) its →
    ∃ as, ReadsAll s.heap its ((ps.map (·.2)).map fun p => PyData.tuple [.str p.1, .int p.2]) as
  | [], _, _, .nil => ⟨_, .nil⟩
  | p :: r, _, h, .cons r1 r2 => by
    obtain ⟨as, h1⟩ := reads_folk I (fun q hq => h q (List.mem_cons_of_mem _ hq)) r2
    obtain ⟨us, rv, ⟨o, ho, hc, n, hd⟩, _⟩ := I.tuple (h p List.mem_cons_self)
    cases r1
    cases rv with
    | cons a1 rv =>
      cases rv with
      | cons a2 rv =>
        cases rv
        obtain ⟨t1, rfl⟩ := a1
        obtain ⟨t2, rfl⟩ := a2
        exact ⟨_, .cons (.tuple ho hc hd (.cons (.str _ _) (.cons (.int _ _) .nil))) h1⟩
theorem cr_strF (hg : X.A.guards = some []) (hu : X.A.units + 64 < cLine) : CallR X (.type "str") (rStrF X.K) := by
  intro pins s σ H xs us Q I r h
  obtain ⟨l, ps, rfl, hq, ht, hs, hz, q⟩ := h
  obtain ⟨u, rfl, rx⟩ := vals1 r
  cases rx
  obtain ⟨its, rv, ⟨o, n, ho, hc, hd, hsl⟩, _⟩ := I.list hq
  obtain ⟨as, ra⟩ := reads_folk I ht rv
  have hdp : (folkD (ps.map (·.2))).depth ≤ 5 := by
    have := folk_depth (ps.map (·.2))
    unfold folkD
    simp only [PyData.depth]
    omega
  refine str_of_reads (.list ho hc hsl (by simpa using ra)) hs (fun z => ?_) hg (by show X.A.units + ((folkD (ps.map (·.2))).depth + 3) < cLine; omega) (fun _ _ e => e) (fun h' u' tk hk => ⟨V.str _, H, I.kept (t' := tk) hk, ⟨u', rfl⟩, q⟩) hz
  have e : PyData.hasDict (folkD (ps.map (·.2))) = false := by
    unfold folkD
    rw [PyData.hasDict]
    exact folk_plain _
  exact absurd (e.symm.trans z) (by simp)
theorem pairs_at {K : PySem.W.Frag} {H : Hp} {ρ : Nat → Addr} {n : Nat} : ∀ {us : List AV} {qs : List (Str × Int)} {ys : List V}, pairsA us = some qs → RepL K H ρ n us ys →
    ∃ ps : List (Addr × Str × Int), ps.map (·.2) = qs ∧ ys = ps.map (fun p => V.ref p.1) ∧ ∀ p ∈ ps, SqT K H p.1 [.str p.2.1, .int p.2.2]
  | [], qs, _, h, .nil => by
    cases h
    exact ⟨[], rfl, rfl, fun _ h => nomatch h⟩
  | v :: r, qs, _, h, .cons (x := y) (xs := ys) r1 r2 => by
    unfold pairsA at h
    split at h
    · rename_i e
      cases e
    · rename_i s i t e
      cases e
      cases hq : pairsA r with
      | none => simp [hq] at h
      | some u =>
        simp only [hq, Option.map_some, Option.some.injEq] at h
        subst h
        obtain ⟨ps, e1, e2, e3⟩ := pairs_at hq r2
        obtain ⟨a, zs, rfl, g1, g2⟩ := rep_tup r1
        cases g2 with
        | cons k1 g2 =>
          cases g2 with
          | cons k2 g2 =>
            cases g2
            cases k1
            cases k2
            refine ⟨(a, s, i) :: ps, by rw [List.map_cons, e1], by rw [List.map_cons, e2], fun p hp => ?_⟩
            rcases List.mem_cons.mp hp with rfl | hp
            · exact g1.seq
            · exact e3 p hp
    · cases h
theorem sn_strF {cm : CM} {E : EX} : SndN (gX X cm) E oStrF (rStrF X.K) := by
  intro H ρ st vs xs Q s r h
  unfold oStrF at h
  split at h
  · obtain ⟨x, rfl, rx⟩ := r.one
    obtain ⟨rfl, hk⟩ := rep_loc rx
    split at h
    · rename_i qs hx
      split at h
      · rename_i c
        obtain ⟨us, q2, q3⟩ := Option.bind_eq_some_iff.mp hx
        obtain ⟨ys, h1, r1⟩ := s.lst (rdL_some q2)
        obtain ⟨ps, rfl, rfl, ht⟩ := pairs_at q3 r1
        exact ⟨_, ps, rfl, SqL.of h1, ht, c.1, c.2, Post.at (x := V.str _) h s (.str _)⟩
      · exact h.elim
    · exact h.elim
  · exact h.elim
end
end Y
set_option Elab.async false
set_option linter.all false
set_option maxRecDepth 100000
set_option maxHeartbeats 2000000
/-! Y57: the law's own call, where its body leans on what stands around it (no text of data is under way) -/
namespace Y
open PySem PySem.Spec L2
open PyProof.Rows hiding St
/-- a def run at one place -/
theorem run_of {CX : CXT} {P : Program} {w : World} {K : PySem.W.Frag} {mg : Str → Option Value} {base : Heap} {k : Nat} {f : Addr} {name qual : Str} {params : Arguments} {body : List Stmt} {scope : Scope} {dV kV doc pm cdv ct oc : Value} {an od : Option Addr} {osl : Array (Option Value)} {N ps : List Str}
    {A : Around} {outer : List Env} {s : Shared} {H : Hp} {args : Args} {us : List Value} {vs : List V} {Q : VK} {E : XK}
    (lk : K.lookup f = some ⟨oc, od, .func (PySem.W.fnOf name qual params body scope dV kV doc pm an cdv ct), osl⟩) (hcd : PySem.W.codeIn K cdv qual = true) (S : FnScope N ps scope) (hr : L2.Room (k + 1) A) (e0 : Env0 P w K mg base A outer s H)
    (hb : BindsTo s (PySem.W.fnOf name qual params body scope dV kV doc pm an cdv ct) args (ps.zip us)) (r : Vals vs us) (hl : vs.length = ps.length)
    (ht : L2.Room k (A.deeper (envOfC qual scope s.heap.objs.size f cdv)) → ∃ t, PSs (cxOf CX P w K mg base N qual scope f cdv A outer s H E) body t ∧ t { nx := fun _ H' => Q .non H', rt := Q } (start N vs) H) :
    codeAny (model P w) A (.call (.ref f) args) (CR CX outer P w H s Q E) s := by
  have old : ∀ b o, base.get? b = some o → s.heap.get? b = some o := fun b o e => (e0.bs b o e).1
  have KX : K.In s.heap := e0.mod.kin.keeps old
  obtain ⟨t, t1, t2⟩ := ht (hr.deeper _)
  have kinds : ∀ y ∈ ps.zip us, scope.names.lookup y.1 = some .local ∨ (scope.names.lookup y.1 = some .cell ∧ ((cellsFrom (s.heap.objs.size + 1) scope.names []).lookup y.1).isSome = true) := fun y hy =>
    (S.par y.1 (List.of_mem_zip (show (y.1, y.2) ∈ _ from hy)).1).imp id fun q => ⟨q, PySem.W.cellsFrom_some _ _ _ (Or.inl q)⟩
  refine codeAny_call_function hr.depth (KX _ _ lk) rfl S.co S.gen rfl (PySem.W.codeRec_of KX hcd) (hb _ _ _ _ (wpAny_newFunctionEnv_cells S.kind kinds fun env he s1 x => ?_))
  subst he
  have I := inv_start (CX := CX) (E := E) S hr.hd e0 hl r x
  refine ⟨(e0.mod.nolimit.keeps old).keeps x.toInCall.keep, codeAny_func (wpAny_mono (t1.run [] s1 (start N vs) H _ I t2) (fun fl s' hs => ?_) fun _ _ hs => hs)⟩
  cases fl with
  | ret u => exact let ⟨v, _, H', J, rv, q⟩ := hs; ⟨v, H', J.os, J.bare, J.base, J.hok, rv, q⟩
  | next => exact let ⟨_, H', J, q⟩ := hs; ⟨.non, H', J.os, J.bare, J.base, J.hok, rfl, q⟩
  | brk => exact let ⟨_, _, _, q⟩ := hs; False.elim q
  | cont => exact let ⟨_, _, _, q⟩ := hs; False.elim q
end Y
namespace Y
open PySem PySem.Spec L2
open PyProof.Rows hiding St
abbrev tab0 : Obj := { cls := .none, data := .fields #[] }
/-- what is tracked at the law's start: the tables, and the script where the top did not write it -/
def law0 (K : PySem.W.Frag) (T : List Addr) (a : Addr) (o : Obj) (xs : List V) : Hp := fun b =>
  if b ∈ T then some (.tbl #[]) else if b = a ∧ K.lookup a = none then some (.frz o (.lst xs)) else none
section
variable {K : PySem.W.Frag} {T : List Addr} {a b : Addr} {o : Obj} {xs : List V} {u : HO}
theorem law0_tab (h : b ∈ T) : law0 K T a o xs b = some (.tbl #[]) := if_pos h
theorem law0_some (h : law0 K T a o xs b = some u) : (b ∈ T ∧ u = .tbl #[]) ∨ (b = a ∧ K.lookup a = none ∧ u = .frz o (.lst xs)) := by
  unfold law0 at h
  split at h
  · rename_i c
    exact .inl ⟨c, (Option.some.inj h).symm⟩
  · split at h
    · rename_i c
      exact .inr ⟨c.1, c.2, (Option.some.inj h).symm⟩
    · cases h
theorem law0_none (h1 : b ∉ T) (h2 : b = a → K.lookup a ≠ none) : law0 K T a o xs b = none := by
  unfold law0
  rw [if_neg h1, if_neg fun c => h2 c.1 c.2]
end
/-- a law's call, its body run with no data's text under way -/
theorem law_callG {P : Program} {w : World} {K : PySem.W.Frag} {mg mb : Str → Option Value} {fa a : Addr} {cs : List (Addr × Addr)} {s₁ : Shared} {vs : List Value} {ns : List Int} (KX : K.In s₁.heap) (G1 : s₁.heap.Ns mainGlobals mg) (G2 : s₁.heap.Ns builtinsNs mb)
    (G3 : ∀ x : Str, x ≠ "__name__" → mb x = bootBuiltins x) (G4 : s₁.heap.NoLimit) (G5 : s₁.gens = #[]) (tabs : ∀ p ∈ cs, s₁.heap.get? p.2 = some tab0 ∧ K.lookup p.2 = none ∧ PySem.W.CodeHd s₁.heap p.1 p.2)
    (G6 : ∃ (bm : Addr) (ob : Obj), mg "__builtins__" = some (.ref bm) ∧ bm ≠ builtinsNs ∧ s₁.heap.get? bm = some ob ∧ ob.cls = .type "module" ∧ ob.dict = some builtinsNs ∧ ob.data = .plain)
    (ha : s₁.heap.get? a = some { cls := .type "list", data := .seq vs.toArray }) (hi : IntsAre vs ns) (hl : ns.length ≤ sizeLine)
    (F : ∀ (base : Heap) (H : Hp), K.In base → base.Ns mainGlobals mg → (∀ p ∈ cs, LamX.TabB base mg p.1 p.2) → (∀ p ∈ cs, H p.2 = some (.tbl #[])) → SqF K H a (ns.map V.int) → Env0 P w K mg base callerA [] s₁ H →
      codeAny (model P w) callerA (.call (.ref fa) ⟨[.ref a], []⟩) (CR CX0 [] P w H s₁ (fun v _ => v = .bl true) fun _ _ _ => False) s₁) :
    codeAny (model P w) callerA (.call (.ref fa) ⟨[.ref a], []⟩) (fun r s' => r = .ok (.ret (.bool true)) ∧ OldK s₁.heap s'.heap ∧ s'.os = s₁.os ∧ AllBare s'.gens) s₁ := by
  have rv := vals_ints hi
  have n1 := hi.length
  have atT : ∀ {b : Addr}, b ∈ cs.map (·.2) → s₁.heap.get? b = some tab0 ∧ K.lookup b = none := fun {b} m => by
    obtain ⟨p, hp, rfl⟩ := List.mem_map.mp m
    exact ⟨(tabs p hp).1, (tabs p hp).2.1⟩
  have inT : ∀ p ∈ cs, p.2 ∈ cs.map (·.2) := fun p => List.mem_map_of_mem
  have aT : a ∉ cs.map (·.2) := fun m => by
    have e := (atT m).1
    rw [ha] at e
    exact absurd (congrArg Obj.data (Option.some.inj e)) (by simp)
  generalize hH : law0 K (cs.map (·.2)) a { cls := .type "list", data := .seq vs.toArray } (ns.map V.int) = H
  have some_ : ∀ {b : Addr} {u : HO}, H b = some u → (b ∈ cs.map (·.2) ∧ u = .tbl #[]) ∨ (b = a ∧ K.lookup a = none ∧ u = .frz { cls := .type "list", data := .seq vs.toArray } (.lst (ns.map V.int))) := fun h => law0_some (hH ▸ h)
  have tabH : ∀ p ∈ cs, H p.2 = some (.tbl #[]) := fun p hp => hH ▸ law0_tab (inT p hp)
  -- what is neither the script nor a table is seen
  have seen : ∀ {b : Addr} {o : Obj}, s₁.heap.get? b = some o → (∀ q n, o.data = .seq q n → False) → (o.data = .fields #[] → False) → (hidT s₁.heap H).get? b = some o := fun {b o} e h1 h2 => hidT_get e (by
    cases q : H b with
    | none => rfl
    | some u =>
      exfalso
      rcases some_ q with ⟨m, _⟩ | ⟨rfl, _⟩
      · rw [(atT m).1] at e
        cases e
        exact h2 rfl
      · rw [ha] at e
        cases e
        exact h1 _ _ rfl)
  have ns_ : ∀ {b : Addr} {m : Str → Option Value}, s₁.heap.Ns b m → (hidT s₁.heap H).Ns b m := fun ⟨o, es, ep, e, d, r⟩ => ⟨o, es, ep, seen e (fun q n z => by rw [d] at z; cases z) (fun z => by rw [d] at z; cases z), d, r⟩
  have kin : K.In (hidT s₁.heap H) := fun b o e => hidT_get (KX b o e) (by
    cases q : H b with
    | none => rfl
    | some u =>
      exfalso
      rcases some_ q with ⟨m, _⟩ | ⟨rfl, c, _⟩
      · exact absurd (e.symm.trans (atT m).2) (by simp)
      · exact absurd (e.symm.trans c) (by simp))
  have mod : L2.Mod K mg (hidT s₁.heap H) := ⟨kin, ns_ G1, ⟨mb, ns_ G2, G3⟩, let ⟨mc, h1, h2⟩ := G4; ⟨mc, ns_ h1, h2⟩⟩
  have dictG : ∀ {b : Addr} {o : Obj}, s₁.heap.get? b = some o → (∀ es ep, o.data ≠ .dict es ep) → b ≠ mainGlobals := fun {b o} e h z => by
    obtain ⟨o2, es, ep, e2, d, _⟩ := G1
    rw [z, e2] at e
    cases e
    exact h es ep d
  have TB : ∀ p ∈ cs, LamX.TabB (hidT s₁.heap H) mg p.1 p.2 := fun p hp => by
    obtain ⟨h1, h2, h3⟩ := tabs p hp
    refine ⟨?_, ?_, (dictG h1 fun es ep z => by cases z).symm⟩
    · obtain ⟨o, us, file, tf, flags, tg, inF, text, tt, e1, r1, r2, r3, rest⟩ := h3
      refine ⟨o, us, file, tf, flags, tg, inF, text, tt, seen e1 (fun q n z => by rw [r2] at z; cases z) (fun z => ?_), r1, r2, r3, rest⟩
      rw [r2] at z
      cases z
      simp at r3
    · obtain ⟨bm, ob, b1, b2, b3, b4, b5, b6⟩ := G6
      refine ⟨bm, ob, b1, b2, dictG b3 (fun es ep z => by rw [b6] at z; cases z), fun z => ?_, seen b3 (fun q n z => by rw [b6] at z; cases z) (fun z => by rw [b6] at z; cases z), b4, b5, b6⟩
      rw [z, h1] at b3
      cases b3
      cases b6
  have seq : SqF K H a (ns.map V.int) := by
    cases hk : K.lookup a with
    | some o =>
      have e := KX a o hk
      rw [ha] at e
      cases e
      exact .inr ⟨_, vs.toArray, _, hk, rfl, rfl, rfl, by rw [List.size_toArray, n1]; exact hl, by simpa using rv⟩
    | none =>
      refine .inl ⟨{ cls := .type "list", data := .seq vs.toArray }, ?_⟩
      rw [← hH]
      unfold law0
      rw [if_neg aT, if_pos ⟨rfl, hk⟩]
  have hok : HOk P w H s₁.heap := fun b u q => by
    rcases some_ q with ⟨m, rfl⟩ | ⟨rfl, _, rfl⟩
    · exact (atT m).1
    · exact ⟨ha, by rw [List.length_map]; exact hl, vs, _, rv, ha⟩
  have e0 : Env0 P w K mg (hidT s₁.heap H) callerA [] s₁ H := ⟨rfl, mod, fun b o => of_hidT, Nat.le_of_eq (hidT_size ..), trivial, fun b m => absurd m List.not_mem_nil, hok, .of_eq G5⟩
  refine codeAny_mono (F _ H kin (ns_ G1) TB tabH seq e0) fun r s' h => ?_
  match r, h with
  | .ok (.ret u), ⟨v, H', os, bare, un, hok', r', q⟩ =>
    obtain rfl : v = .bl true := q
    obtain rfl : u = Value.bool true := r'
    have same : ∀ b o, b ∉ cs.map (·.2) → s₁.heap.get? b = some o → s'.heap.get? b = some o := fun b o nb e => by
      cases q : H b with
      | none => exact un.keep b o e q List.not_mem_nil List.not_mem_nil
      | some u =>
        rcases some_ q with ⟨m, _⟩ | ⟨rfl, _, rfl⟩
        · exact absurd m nb
        · obtain ⟨y, _⟩ := hok' b _ (un.frzs b _ _ q)
          rw [ha] at e
          cases e
          exact y
    have grown : ∀ p ∈ cs, ∃ more : Array Value, s'.heap.get? p.2 = some { cls := .none, data := .fields more } := fun p hp =>
      let ⟨more, z⟩ := un.tbls p.2 #[] (tabH p hp)
      ⟨_, hok' p.2 _ z⟩
    refine ⟨rfl, ⟨fun b o e => ?_, fun b o e => ?_⟩, os, bare⟩
    · by_cases m : b ∈ cs.map (·.2)
      · obtain ⟨p, hp, rfl⟩ := List.mem_map.mp m
        obtain ⟨h1, _, h3⟩ := tabs p hp
        obtain ⟨more, y⟩ := grown p hp
        obtain rfl : o = tab0 := Option.some.inj (e.symm.trans h1)
        exact .inr (.inl ⟨(h3.tab h1).isCodeTable, rfl, #[], more, rfl, by rw [Array.empty_append]; exact y⟩)
      · exact .inl (same b o m e)
    · by_cases m : b ∈ cs.map (·.2)
      · obtain ⟨p, hp, rfl⟩ := List.mem_map.mp m
        exact let ⟨more, y⟩ := grown p hp; ⟨_, y⟩
      · exact ⟨o, same b o m e⟩
  | .ok .next, h => exact h.elim
  | .ok .brk, h => exact h.elim
  | .ok .cont, h => exact h.elim
  | .error e, h => exact h.elim
end Y
set_option Elab.async false
set_option linter.all false
set_option maxRecDepth 100000
set_option maxHeartbeats 2000000
/-! Y58: the end of a law that asks for a text of data -/
namespace Y
open PySem PySem.Spec L2
open PyProof.Rows hiding St
/-- a def that keeps its promise where no data's text is under way -/
def FnG (P : Program) (w : World) (K : PySem.W.Frag) (mg : Str → Option Value) (base : Heap) (k : Nat) (f : Addr) (fd : FuncData) (ps : List Str) (sp : Sp) : Prop :=
  ∀ (A : Around) (outer : List Env) (s : Shared) (H : Hp) (args : Args) (us : List Value) (vs : List V) (Q : VK) (E : XK), A.guards = some [] → L2.Room k A → Env0 P w K mg base A outer s H → BindsTo s fd args (ps.zip us) → Vals vs us → sp vs H Q E →
    codeAny (model P w) A (.call (.ref f) args) (CR CX0 outer P w H s Q E) s
theorem fn_okG {P : Program} {w : World} {K : PySem.W.Frag} {cm : CM} {mg : Str → Option Value} {base : Heap} {x qual : Str} {st : Stmt} {f c : Addr} {fd : FuncData} {N ps : List Str} {k : Nat} {b : MS} (F : Fun K x qual st f fd) (hc : fd.code = .ref c) (S : FnScope N ps (defScope st)) (hl : ps.length ≤ N.length)
    (hb : ∀ (A : Around) (outer : List Env) (s : Shared) (H : Hp) (E : XK), A.guards = some [] → L2.Room k (A.deeper (envOfC qual (defScope st) s.heap.objs.size f (.ref c))) →
      PSs (cxOf CX0 P w K mg base N qual (defScope st) f (.ref c) A outer s H E).nox (defBody st) (tS ⟨K, cm, w⟩ E00 b)) : FnG P w K mg base (k + 1) f fd ps (spF ⟨K, cm, w⟩ (fn N.length ps.length b)) := by
  obtain ⟨oc, od, kV, doc, pm, an, cdv, ct, osl, rfl, lk, hcd⟩ := F.ex
  obtain rfl : cdv = .ref c := hc
  intro A outer s H args us vs Q E hgd hr e0 hbd rv ⟨ρ, st, as, hs, r, hp⟩
  unfold fn at hp
  split at hp
  · rename_i e
    exact run_of lk hcd S hr e0 hbd rv (r.length.symm.trans e) fun hr => ⟨_, (hb A outer s H E hgd hr).nox, ρ, st, _, hs, repE_start r (by rw [e]; exact hl), fin_post (gc_sound hs hp)⟩
  · exact hp.elim
def LawAtG (l : PySem.W.OpenLaw) (w : World) (K : PySem.W.Frag) (n : Nat) (mg : Str → Option Value) (fa : Addr) (h : Heap) : Prop :=
  ∃ cs : List (Addr × Addr), (∀ p ∈ cs, h.get? p.2 = some tab0 ∧ K.lookup p.2 = none ∧ PySem.W.CodeHd h p.1 p.2) ∧
    ∀ (base : Heap) (H : Hp) (s : Shared) (a : Addr) (ns : List Int), ns.length ≤ n → K.In base → base.Ns mainGlobals mg → (∀ p ∈ cs, LamX.TabB base mg p.1 p.2) → (∀ p ∈ cs, H p.2 = some (.tbl #[])) → SqF K H a (ns.map V.int) → Env0 l.prog w K mg base callerA [] s H →
      codeAny (model l.prog w) callerA (.call (.ref fa) ⟨[.ref a], []⟩) (CR CX0 [] l.prog w H s (fun v _ => v = .bl true) fun _ _ _ => False) s
theorem walk_allG {l : PySem.W.OpenLaw} {n : Nat} {q : Program} {loose : List Str} {XP : (Str → Option Value) → Heap → Prop} {YP : World → Heap → Prop} {d : DefRec} {K : Params → PySem.W.Frag} (xs : List Str)
    (hn : l.most = some n) (hn2 : n ≤ sizeLine) (hdf : d.params.defaults = []) (hx : (xs.all fun x => ((recsOf q).find? fun e => e.name == x).isSome) = true) (hY : ∀ (w : World) (h : Heap), YP w h → (K w.params).In h)
    (F : ∀ (w : World) (mg : Str → Option Value) (fa : Addr) (h : Heap), (K w.params).In h → h.Ns mainGlobals mg → mg d.name = some (.ref fa) → TabsOf (K w.params) h xs → LawAtG l w (K w.params) n mg fa h) :
    PySem.W.WalkO q loose XP YP l.row.toRowW d [] (fun f vs => PySem.call f vs) := by
  refine Att.attach_callB hn hdf fun w s0 s1 mg mb fa o pm cd doc a vs ns G Y ho hd hcd hmg hobj hints hlen hbits hg => ?_
  have KX := hY w _ Y
  have tabs : TabsOf (K w.params) s1.heap xs := fun y hy c P ht => by
    obtain ⟨dL, eL⟩ := Option.isSome_iff_exists.mp (List.all_eq_true.mp hx y hy)
    exact PySem.W.tab_of G.T KX eL ht
  obtain ⟨cs, t1, hF⟩ := F w mg fa _ KX G.T.g hmg tabs
  exact law_callG KX G.T.g G.T.b G.T.builtins G.T.nolimit hg t1 G.T.bmain hobj hints (Nat.le_trans hlen hn2) fun base H k1 k2 k3 k4 k5 k6 => hF base H s1 a ns hlen k1 k2 k3 k4 k5 k6
end Y
set_option Elab.async false
set_option linter.all false
set_option maxRecDepth 100000
set_option maxHeartbeats 4000000
/-! Y59: the law's own come -/
namespace Y
open PySem
/-- the rows' wishes lie in the hall -/
def FitsS (n : Nat) (rows : List (Option Cm)) : Prop := rows.length = n ∧ ∀ t, some t ∈ rows → t.2 < n
theorem FitsS.fits {n : Nat} {rows : List (Option Cm)} (h : FitsS n rows) : Fits n rows := ⟨h.1, fun t ht => Nat.le_of_lt (h.2 t ht)⟩
theorem FitsS.set {n s : Nat} {rows : List (Option Cm)} {c : Cm} (h : FitsS n rows) (hc : c.2 < n) : FitsS n (rows.set s (some c)) := by
  refine ⟨by rw [List.length_set]; exact h.1, fun t ht => ?_⟩
  rcases List.mem_or_eq_of_mem_set ht with h1 | h1
  · exact h.2 t h1
  · cases h1; exact hc
abbrev lwT : MT := mtV (mOp oLt (mVar 4) (mOp oIx (mVar 0) (mC (.int 0))))
abbrev lwK : ME := mOrV (mOp oEq (mOp oIx (mVar 0) (mC (.int 2))) (mC (.str "sits"))) (mAndV (mOp oEq (mOp oIx (mVar 0) (mC (.int 2))) (mC (.str "farther"))) (mOrV (mOp oGt (mVar 6) (mVar 7)) (mAndV (mOp oEq (mVar 6) (mVar 7)) (mOp oLt (mOp oIx (mVar 5) (mC (.int 0))) (mOp oIx (mVar 2) (mC (.int 0)))))))
abbrev lwB : MS := (msSeq (msAsg (mOp oIx (mVar 3) (mVar 4)) (mgName 5))
    (msSeq (msIf (mtV (mOp oIs (mVar 5) (mC .non))) (msSeq (msAsg (mVar 2) (mgSub (mVar 3) (mVar 4) oSetL))
    (msRet (mN oTup (maCons (mN oTupOf (maCons (mVar 3) maNil)) (maCons (mC .non) maNil))))) msNext)
    (msSeq (msPar [6, 7] (maCons (mN (oIso m__law_far) (maCons (mVar 0) (maCons (mVar 5) (maCons (mVar 4) maNil)))) (maCons (mN (oIso m__law_far) (maCons (mVar 0) (maCons (mVar 2) (maCons (mVar 4) maNil)))) maNil)))
    (msSeq (msAsg lwK (mgName 8))
    (msSeq (msIf (mtNot (mtV (mVar 8))) (msAsg (mN oTup (maCons (mVar 2) (maCons (mVar 5) maNil))) (mgTup [(mgSub (mVar 3) (mVar 4) oSetL), (mgName 2)])) msNext)
    (msSeq (msAsg (mOp oAdd (mVar 4) (mC (.int 1))) (mgName 4))
    (msIf (mtAnd (mtV (mOp oIx (mVar 0) (mC (.int 1)))) (mtV (mOp oEq (mVar 4) (mOp oIx (mVar 0) (mC (.int 0)))))) (msAsg (mC (.int 0)) (mgName 4)) msNext)))))))
abbrev lwE (n : Nat) (r : Bool) (w : Str) (seating : AV) (c : Cm) (s : Nat) (x5 x6 x7 x8 : Option AV) : Ev := [some (encH n r w), some seating, some (encC c), some (.loc 0), some (.int s), x5, x6, x7, x8]
theorem lw_keeps {n : Nat} {r : Bool} {w : Str} {seating : AV} {t c : Cm} {s : Nat} {x8 : Option AV} {st : Sto} (hw : IsW w) :
    lwK (lwE n r w seating c s (some (encC t)) (some (.int (farF n t s))) (some (.int (farF n c s))) x8) st = .ok (.bl (staysF n w t c s)) st := by
  unfold lwK lwE
  have n1 : sTakes ≠ sSits := by decide +kernel
  have n2 : sFar ≠ sSits := by decide +kernel
  have n3 : sFar ≠ sTakes := by decide +kernel
  have n4 : sTakes ≠ sFar := by decide +kernel
  simp only [ev_OrV, ev_AndV, ev_op, ev_varS, ev_var0, ev_C, R.bind_ok, ix_H2, eq_ss, show Str.ofString "sits" = sSits from rfl, show Str.ofString "farther" = sFar from rfl]
  rcases hw with rfl | rfl | rfl
  · simp only [decide_true, if_true]
    unfold staysF
    rw [if_pos rfl]
  · simp only [n1, n4, decide_false, Bool.false_eq_true, if_false]
    unfold staysF
    rw [if_neg n1, if_pos rfl]
  · simp only [n2, decide_false, decide_true, if_true, Bool.false_eq_true, if_false, gt_ii, eq_ii, R.bind_ok, ix_C0]
    unfold staysF
    rw [if_neg n2, if_neg n3]
    by_cases h1 : farF n c s < farF n t s
    · have d1 : decide ((farF n c s : Int) < (farF n t s : Nat)) = true := decide_eq_true (by omega)
      simp only [d1, if_true, h1, true_or, decide_true]
    · have d1 : decide ((farF n c s : Int) < (farF n t s : Nat)) = false := decide_eq_false (by omega)
      simp only [d1, Bool.false_eq_true, if_false, h1, false_or]
      by_cases h2 : farF n t s = farF n c s
      · have d2 : decide ((farF n t s : Int) = (farF n c s : Nat)) = true := decide_eq_true (by omega)
        simp only [d2, if_true, h2, true_and]
        rfl
      · have d2 : decide ((farF n t s : Int) = (farF n c s : Nat)) = false := decide_eq_false (by omega)
        simp only [d2, Bool.false_eq_true, if_false, h2, false_and, decide_false]
theorem lwhile_ok {n : Nat} {r : Bool} {w : Str} {seating : AV} (hn : 0 < n ∧ n < 900) (hw : IsW w) : ∀ (f F : Nat) (s : Nat) (c : Cm) (rows : List (Option Cm)) (x5 x6 x7 x8 : Option AV) (R' : List (Option Cm)) (o : Option Cm), f < F → s < n → c.2 < n → FitsS n rows → goF n r w f s c rows = some (R', o) →
    (o = none ∧ whileN lwT lwB F (lwE n r w seating c s x5 x6 x7 x8) [.lst (rows.map encO)] = .rt (.tup [encS R', .non]) [.lst (R'.map encO)]) ∨
    ∃ e y5 y6 y7 y8, o = some e ∧ whileN lwT lwB F (lwE n r w seating c s x5 x6 x7 x8) [.lst (rows.map encO)] = .nx (lwE n r w seating e n y5 y6 y7 y8) [.lst (R'.map encO)]
  | 0, _, _, _, _, _, _, _, _, _, _, _, _, _, _, h => by simp [goF] at h
  | f + 1, 0, _, _, _, _, _, _, _, _, _, hF, _, _, _, _ => absurd hF (by omega)
  | f + 1, F + 1, s, c, rows, x5, x6, x7, x8, R', o, hF, hs, hc, hfit, h => by
    have hsl : s < rows.length := by have := hfit.1; omega
    obtain ⟨o1, ho1⟩ : ∃ o1, rows[s]? = some o1 := ⟨_, List.getElem?_eq_getElem hsl⟩
    rw [goF, ho1] at h
    have hix : oIx (.loc 0) (.int (s : Nat)) [.lst (rows.map encO)] = .ok (encO o1) [.lst (rows.map encO)] := ix_l (k := 0) rfl (atI_nat (rows_at ho1))
    have hset : oSetL (.loc 0) (.int (s : Nat)) (encC c) [.lst (rows.map encO)] = .ok () [.lst ((rows.set s (some c)).map encO)] := by
      rw [setL_ok (k := 0) (j := s) rfl (ixN_nat (by rw [List.length_map]; exact hsl)), map_set]; rfl
    have tp : ∀ rs : List (Option Cm), oTupOf [.loc 0] [.lst (rs.map encO)] = .ok (encS rs) [.lst (rs.map encO)] := fun _ => rfl
    have l2 : ∀ a b : AV, ([a, b] : List AV).length ≤ LIM := fun a b => by show 2 ≤ LIM; decide
    have ht0 : lwT (lwE n r w seating c s x5 x6 x7 x8) [.lst (rows.map encO)] = .ok true [.lst (rows.map encO)] := by
      unfold lwT lwE
      simp only [ev_tV, ev_op, ev_varS, ev_var0, ev_C, R.bind_ok, ix_H0, lt_ii, show decide ((s : Int) < (n : Nat)) = true from decide_eq_true (by omega)]
    rw [whileN, ht0]
    simp only [R.toFl_ok, if_true]
    cases o1 with
    | none =>
      cases h
      refine .inl ⟨rfl, ?_⟩
      unfold lwB lwE
      rw [ev_seq]
      simp only [ev_asg, ev_op, ev_varS, ev_var0, R.bind_ok, hix, R.toFl_ok, ev_gName, List.set]
      rw [ev_seq]
      simp only [ev_ifS, ev_tV, ev_op, ev_varS, ev_var0, ev_C, R.bind_ok, is_O, R.toFl_ok, Option.isNone_none, if_true]
      rw [ev_seq]
      simp only [ev_asg, ev_varS, ev_var0, R.bind_ok, R.toFl_ok, ev_gSub, hset, ev_ret, ev_N, ev_cons, ev_nil, tp, ev_C, tup_ok (l2 _ _), Y.step]
    | some t =>
      have ht : t.2 < n := hfit.2 t (List.mem_of_getElem? ho1)
      have hix : oIx (.loc 0) (.int (s : Nat)) [.lst (rows.map encO)] = .ok (encC t) [.lst (rows.map encO)] := hix
      obtain ⟨c', hc'⟩ : ∃ c', c' = if staysF n w t c s then c else t := ⟨_, rfl⟩
      obtain ⟨rows', hr'⟩ : ∃ rows', rows' = if staysF n w t c s then rows else rows.set s (some c) := ⟨_, rfl⟩
      simp only [← hc', ← hr'] at h
      have hc2 : c'.2 < n := by rw [hc']; split <;> assumption
      have hfit' : FitsS n rows' := by
        rw [hr']; split
        · exact hfit
        · exact hfit.set hc
      obtain ⟨y5, y6, y7, y8, hbody⟩ : ∃ y5 y6 y7 y8, lwB (lwE n r w seating c s x5 x6 x7 x8) [.lst (rows.map encO)] = .nx (lwE n r w seating c' (if r = true ∧ s + 1 = n then 0 else s + 1) y5 y6 y7 y8) [.lst (rows'.map encO)] := by
        refine ⟨some (encC t), some (.int (farF n t s)), some (.int (farF n c s)), some (.bl (staysF n w t c s)), ?_⟩
        unfold lwB
        rw [ev_seq]
        simp only [ev_asg, ev_op, ev_varS, ev_var0, R.bind_ok, hix, R.toFl_ok, ev_gName, List.set]
        rw [ev_seq]
        have i1 : oIs (encC t) .non [.lst (rows.map encO)] = .ok (.bl false) [.lst (rows.map encO)] := rfl
        simp only [ev_ifS, ev_tV, ev_op, ev_varS, ev_var0, ev_C, R.bind_ok, i1, R.toFl_ok, Bool.false_eq_true, if_false, ev_next]
        rw [ev_seq]
        simp only [ev_par, ev_cons, ev_nil, ev_N, ev_varS, ev_var0, R.bind_ok, law_far_iso hn ht hs, law_far_iso hn hc hs, R.toFl_ok, setAll, List.set]
        rw [ev_seq]
        simp only [ev_asg]
        rw [show lwK [some (encH n r w), some seating, some (encC c), some (.loc 0), some (.int s), some (encC t), some (.int (farF n t s)), some (.int (farF n c s)), x8] [.lst (rows.map encO)] = .ok (.bl (staysF n w t c s)) [.lst (rows.map encO)] from lw_keeps hw]
        simp only [R.toFl_ok, ev_gName, List.set]
        rw [ev_seq]
        have st2 : (msIf (mtNot (mtV (mVar 8))) (msAsg (mN oTup (maCons (mVar 2) (maCons (mVar 5) maNil))) (mgTup [(mgSub (mVar 3) (mVar 4) oSetL), (mgName 2)])) msNext)
            [some (encH n r w), some seating, some (encC c), some (.loc 0), some (.int s), some (encC t), some (.int (farF n t s)), some (.int (farF n c s)), some (.bl (staysF n w t c s))] [.lst (rows.map encO)] =
            .nx [some (encH n r w), some seating, some (encC c'), some (.loc 0), some (.int s), some (encC t), some (.int (farF n t s)), some (.int (farF n c s)), some (.bl (staysF n w t c s))] [.lst (rows'.map encO)] := by
          simp only [ev_ifS, ev_tNot, ev_tV, ev_varS, ev_var0, R.bind_ok, R.toFl_ok]
          rw [hc', hr']
          cases staysF n w t c s with
          | true => simp only [Bool.not_true, Bool.false_eq_true, if_false, if_true, ev_next]
          | false => simp only [Bool.not_false, if_true, Bool.false_eq_true, if_false, ev_asg, ev_N, ev_cons, ev_nil, ev_varS, ev_var0, R.bind_ok, tup_ok (l2 _ _), R.toFl_ok, ev_gTup, List.length_cons, List.length_nil, ev_gs1, ev_gs0, ev_gSub, hset, ev_gName, List.set]
        rw [st2]
        simp only
        rw [ev_seq]
        simp only [ev_asg, ev_op, ev_varS, ev_var0, ev_C, R.bind_ok, add_ii, R.toFl_ok, ev_gName, List.set, ev_ifS, ev_tAnd, ev_tV, ix_H1, ix_H0, eq_ii]
        cases r with
        | false => simp only [Bool.false_eq_true, if_false, R.toFl_ok, ev_next, false_and]; rfl
        | true =>
          by_cases hl : s + 1 = n
          · have d1 : decide ((s : Int) + 1 = (n : Nat)) = true := decide_eq_true (by omega)
            simp only [if_true, d1, R.toFl_ok, hl, and_self, ev_asg, ev_C, ev_gName, List.set]; rfl
          · have d1 : decide ((s : Int) + 1 = (n : Nat)) = false := decide_eq_false (by omega)
            simp only [if_true, d1, R.toFl_ok, hl, and_false, Bool.false_eq_true, if_false, ev_next]; rfl
      rw [hbody]
      simp only [Y.step]
      by_cases hend : r = false ∧ s + 1 = n
      · rw [if_pos hend] at h
        cases h
        obtain ⟨rfl, hl⟩ := hend
        rw [if_neg (by simp)]
        obtain ⟨G, rfl⟩ : ∃ G, F = G + 1 := ⟨F - 1, by omega⟩
        refine .inr ⟨c', y5, y6, y7, y8, rfl, ?_⟩
        rw [whileN, hl]
        have e0 : lwT (lwE n false w seating c' n y5 y6 y7 y8) [.lst (R'.map encO)] = .ok false [.lst (R'.map encO)] := by
          unfold lwT lwE
          simp only [ev_tV, ev_op, ev_varS, ev_var0, ev_C, R.bind_ok, ix_H0, lt_ii, show decide ((n : Int) < (n : Nat)) = false from decide_eq_false (by omega)]
        rw [e0]
        simp only [R.toFl_ok, Bool.false_eq_true, if_false]
      · rw [if_neg hend] at h
        have en : (if r = true ∧ s + 1 = n then 0 else s + 1) = (s + 1) % n := by
          by_cases hl : s + 1 = n
          · have : r = true := by cases r with | true => rfl | false => exact absurd ⟨rfl, hl⟩ hend
            rw [if_pos ⟨this, hl⟩, hl, Nat.mod_self]
          · rw [if_neg fun z => hl z.2, Nat.mod_eq_of_lt (by omega)]
        rw [en]
        exact lwhile_ok hn hw f F ((s + 1) % n) c' rows' y5 y6 y7 y8 R' o (by omega) (Nat.mod_lt _ hn.1) hc2 hfit' h
theorem law_come_iso {n : Nat} {r : Bool} {w : Str} {c : Cm} {rows : List (Option Cm)} {st : Sto} (hn : 0 < n ∧ n < 900) (hw : IsW w) (hc : c.2 < n) (hfit : FitsS n rows) (hfree : r = true → none ∈ rows) :
    oIso m__law_come [encH n r w, encS rows, encC c] st = .ok (.tup [encS (comeF n r w rows c).1, encO (comeF n r w rows c).2]) st := by
  have hg := go_ex (w := w) hc hfit.1 hfree
  generalize comeF n r w rows c = x at *
  obtain ⟨R', o⟩ := x
  have hb : ∃ st', b__law_come [some (encH n r w), some (encS rows), some (encC c), none, none, none, none, none, none] [] = .rt (.tup [encS R', encO o]) st' := by
    unfold b__law_come
    rw [ev_seq]
    have hlo : oListOf [encS rows] [] = .ok (.loc 0) [.lst (rows.map encO)] := rfl
    simp only [ev_par, ev_cons, ev_nil, ev_N, ev_op, ev_C, ev_varS, ev_var0, R.bind_ok, hlo, ix_C1, R.toFl_ok, setAll, List.set]
    rw [ev_seq, ev_while]
    rcases lwhile_ok (r := r) (w := w) (seating := encS rows) hn hw (n + 1) FUEL c.2 c rows none none none none R' o (by show n + 1 < 1000; omega) hc hc hfit hg with ⟨rfl, e⟩ | ⟨u, y5, y6, y7, y8, rfl, e⟩
    · rw [show whileN _ _ FUEL _ _ = _ from e]
      exact ⟨_, rfl⟩
    · rw [show whileN _ _ FUEL _ _ = _ from e]
      exact ⟨_, rfl⟩
  obtain ⟨st', hb⟩ := hb
  refine iso_ok (st' := []) ?_ ?_ ?_
  · show AV.locs (encH n r w) ++ (AV.locs (encS rows) ++ (AV.locs (encC c) ++ [])) = []
    rw [locs_S]; rfl
  · show (if 3 = 3 then gc [] (fin (b__law_come [some (encH n r w), some (encS rows), some (encC c), none, none, none, none, none, none] [])) else .bad) = _
    rw [if_pos rfl, hb]
    refine gc_drop (st := []) ?_
    show AV.locs (encS R') ++ (AV.locs (encO o) ++ []) = []
    rw [locs_S, locs_O]; rfl
  · show AV.locs (encS R') ++ (AV.locs (encO o) ++ []) = []
    rw [locs_S, locs_O]; rfl
end Y
set_option Elab.async false
set_option linter.all false
set_option maxRecDepth 100000
set_option maxHeartbeats 4000000
namespace K01
open PySem PySem.Spec L2 Y
open PyProof.Rows hiding St
def b_are_unlike : MS := (msRet (mOp oEq (mUn oLenSet (mLc (miSeq (mVar 0)) (mgName 1) mtYes (mOp oIx (mVar 1) (mC (.int 0))) (List.map Prod.snd ([("comer", 1)] : List (Str × Nat))))) (mN oLen (maCons (mVar 0) maNil))))
def m_are_unlike : ON := fn 2 1 b_are_unlike
def b_is_name : MS := (msRet (mAndV (mUn (oIsi "str") (mVar 0)) (mAndV (mChain oLe oLe (mC (.int 1)) (mN oLen (maCons (mVar 0) maNil)) (mC (.int 8))) (mN oAll (maCons (mLc (miStr (mVar 0)) (mgName 1) mtYes (mOp oInS (mVar 1) (mC (.str "abcdefghijklmnopqrstuvwxyz"))) (List.map Prod.snd ([("sign", 1)] : List (Str × Nat)))) maNil)))))
def m_is_name : ON := fn 2 1 b_is_name
def b_is_from : MS := (msRet (mAndV (mUn (oIsi "int") (mVar 0)) (mAndV (mNotV (mUn (oIsi "bool") (mVar 0))) (mChain oLe oLe (mVar 1) (mVar 0) (mVar 2)))))
def m_is_from : ON := fn 3 3 b_is_from
def b_is_comer : MS := (msRet (mAndV (mUn (oIsi "tuple") (mVar 1)) (mAndV (mOp oEq (mN oLen (maCons (mVar 1) maNil)) (mC (.int 2))) (mAndV (mN (oIso m_is_name) (maCons (mOp oIx (mVar 1) (mC (.int 0))) maNil)) (mN (oIso m_is_from) (maCons (mOp oIx (mVar 1) (mC (.int 1))) (maCons (mC (.int 0)) (maCons (mOp oSub (mOp oIx (mVar 0) (mC (.int 0))) (mC (.int 1))) maNil))))))))
def m_is_comer : ON := fn 2 2 b_is_comer
def b_is_seating : MS := (msSeq (msIf (mtOr (mtNot (mtV (mUn (oIsi "tuple") (mVar 1)))) (mtV (mOp oNe (mN oLen (maCons (mVar 1) maNil)) (mOp oIx (mVar 0) (mC (.int 0)))))) (msRet (mC (.bl false))) msNext)
    (msSeq (msAsg (mGc (mLc (miSeq (mVar 1)) (mgName 3) (mtV (mOp oIsNot (mVar 3) (mC .non))) (mVar 3) (List.map Prod.snd ([("one", 3)] : List (Str × Nat))))) (mgName 2))
    (msRet (mAndV (mN oAll (maCons (mLc (miSeq (mVar 2)) (mgName 3) mtYes (mN (oIso m_is_comer) (maCons (mVar 0) (maCons (mVar 3) maNil))) (List.map Prod.snd ([("one", 3)] : List (Str × Nat)))) maNil)) (mN m_are_unlike (maCons (mVar 2) maNil))))))
def m_is_seating : ON := fn 4 2 b_is_seating
def b_law_1 : MS := (msSeq (msAsg (mN (oIso m__law_come) (maCons (mVar 3) (maCons (mVar 6) (maCons (mVar 8) maNil)))) (mgName 9))
    (msSeq (msIf (mtOr (mtV (mOp oNe (mN (oIso m_come) (maCons (mVar 3) (maCons (mVar 6) (maCons (mVar 8) maNil)))) (mVar 9))) (mtV (mOp oIsNotB (mN (oIso m_is_seating) (maCons (mVar 3) (maCons (mOp oIx (mVar 9) (mC (.int 0))) maNil))) (mC (.bl true))))) (msRet (mC (.bl false))) msNext)
    (msSeq (msAsg (mOp oIx (mVar 9) (mC (.int 0))) (mgName 6))
    (msAsg (mGc (mOp oAdd (mVar 7) (mOp oRepL (mN oLst (maCons (mOp oIx (mVar 9) (mC (.int 1))) maNil)) (mN oInt (maCons (mOp oIsNot (mOp oIx (mVar 9) (mC (.int 1))) (mC .non)) maNil))))) (mgName 7)))))
def b_law_2 : MS := (msSeq (msAsg (mN m__law_deck (maCons (mVar 1) (maCons (mC (.int 1)) maNil))) (mgName 2))
    (msSeq (msAsg (mN m__law_hall (maCons (mVar 2) (maCons (mC (.int 12)) maNil))) (mgName 3))
    (msSeq (msAsg (mN m__law_comers (maCons (mVar 2) (maCons (mVar 3) (maCons (mC (.int 12)) maNil)))) (mgName 4))
    (msSeq (msAsg (mN oStrF (maCons (mVar 4) maNil)) (mgName 5))
    (msSeq (msAsg (mGc (mN oTup (maCons (mOp oRepT (mN oTup (maCons (mC .non) maNil)) (mOp oIx (mVar 3) (mC (.int 0)))) (maCons (mN oLst maNil) maNil)))) (mgTup [(mgName 6), (mgName 7)]))
    (msSeq (msFor (miSeq (mVar 4)) (mgName 8) b_law_1)
    (msSeq (msAsg (mN m_seated (maCons (mVar 3) (maCons (mVar 4) maNil))) (mgName 10))
    (msSeq (msIf (mtGc (mtOr (mtV (mOp oNe (mVar 10) (mN oTup (maCons (mVar 6) (maCons (mVar 7) maNil))))) (mtV (mOp oNe (mN oStrF (maCons (mVar 4) maNil)) (mVar 5))))) (msRet (mC (.bl false))) msNext)
    (msSeq (msExpr (mMet .list oAppend (mOp oIx (mVar 10) (mC (.int 1))) (maCons (mC .non) maNil)))
    (msSeq (msIf (mtGc (mtV (mOp oNe (mN m_seated (maCons (mVar 3) (maCons (mVar 4) maNil))) (mN oTup (maCons (mVar 6) (maCons (mVar 7) maNil)))))) (msRet (mC (.bl false))) msNext)
    (msSeq (msAsg (mGc (mOp oAdd (mSl oSl (mVar 3) moNone (moSome (mC (.int 2)))) (mN oTup (maCons (mOp oIx (mN oLst (maCons (mC (.str "sits")) (maCons (mC (.str "takes")) (maCons (mC (.str "farther")) maNil)))) (mN m__law_pick (maCons (mVar 2) (maCons (mC (.int 3)) maNil)))) maNil)))) (mgName 11))
    (msSeq (msAsg (mN m__law_pick (maCons (mVar 2) (maCons (mOp oIx (mVar 3) (mC (.int 0))) maNil))) (mgName 12))
    (msSeq (msAsg (mGc (mOp oAdd (mOp oAdd (mSl oSl (mVar 6) moNone (moSome (mVar 12))) (mN oTup (maCons (mC .non) maNil))) (mSl oSl (mVar 6) (moSome (mOp oAdd (mVar 12) (mC (.int 1)))) moNone))) (mgName 13))
    (msSeq (msAsg (mN oTup (maCons (mC (.str "zoe")) (maCons (mN m__law_pick (maCons (mVar 2) (maCons (mOp oIx (mVar 3) (mC (.int 0))) maNil))) maNil))) (mgName 14))
    (msSeq (msIf (mtV (mOp oNe (mN (oIso m_come) (maCons (mVar 11) (maCons (mVar 13) (maCons (mVar 14) maNil)))) (mN (oIso m__law_come) (maCons (mVar 11) (maCons (mVar 13) (maCons (mVar 14) maNil)))))) (msRet (mC (.bl false))) msNext)
    (msIf (mtGc (mtAnd (mtV (mOp oIx (mVar 3) (mC (.int 1)))) (mtAnd (mtV (mOp oNotIn (mC .non) (mVar 6))) (mtV (mOp oNe (mTry [1] (mN m_come (maCons (mVar 11) (maCons (mVar 6) (maCons (mVar 14) maNil))))) (mC (.str "Full+"))))))) (msRet (mC (.bl false))) msNext))))))))))))))))
def b_law : MS := (msSeq (msFor (miSeq (mOp oAdd (mN oLst (maCons (mC (.int 0)) maNil)) (mSl oSl (mVar 0) moNone (moSome (mC (.int 8)))))) (mgName 1) b_law_2)
    (msRet (mC (.bl true))))
def m_law : ON := fn 15 1 b_law
end K01
set_option Elab.async false
set_option linter.all false
set_option maxRecDepth 100000
set_option maxHeartbeats 4000000
namespace K01
open PySem PySem.Spec L2 Y
open PyProof.Rows hiding St
theorem lc_run {it : MI} {g : MG} {t : MT} {e : ME} {own : List Nat} {env : Ev} {st : Sto} {q : Sq} {xs : List AV} (f : AV → Option AV) (hit : it env st = .ok q st) (hlen : q.len st = xs.length) (hq : ∀ i, q.at st i = some xs[i]?)
    (h : ∀ x ∈ xs, ((g x (wipeE env own) st).bind fun env' st => (t env' st).bind fun k st => if k then (e env' st).bind fun y st => .ok (some y) st else .ok none st) = .ok (f x) st) (hl : xs.length ≤ LIM) :
    mLc it g t e own env st = .ok (.loc st.length) (st ++ [.lst (xs.filterMap f)]) := by
  have hc := lc_its (q := q) (g := g) (t := t) (e := e) (env := wipeE env own) (st := st) f hq h hl
  have h2 : (xs.filterMap f).length ≤ LIM := Nat.le_trans (List.length_filterMap_le ..) hl
  simp only [ev_lc, hit, R.bind_ok, hlen, hc, lst_ok h2]
theorem fm_map {α β γ : Type} {f : α → β} {g : β → Option γ} {h : α → γ} (e : ∀ a, g (f a) = some (h a)) : ∀ l : List α, (l.map f).filterMap g = l.map h
  | [] => rfl
  | a :: l => by rw [List.map_cons, List.filterMap_cons, e a, fm_map e l]; rfl
theorem strsA_strs : ∀ ss : List Str, strsA (ss.map AV.str) = some ss
  | [] => rfl
  | s :: r => by
    show (strsA (r.map AV.str)).map (s :: ·) = _
    rw [strsA_strs r]; rfl
def nameA : AV → Option AV := fun x => match x with | .tup (a :: _) => some a | _ => none
theorem unlike_ok {cs : List Cm} {st : Sto} {k : Nat} (hk : st[k]? = some (.lst (cs.map encC))) (nd : (cs.map (·.1)).Nodup) (hl : cs.length < 900) : m_are_unlike [.loc k] st = .ok (.bl true) st := by
  have hlc := lc_run (it := miSeq (mVar 0)) (g := mgName 1) (t := mtYes) (e := mOp oIx (mVar 1) (mC (.int 0))) (own := [1]) (env := [some (.loc k), none]) (st := st) (q := .list k) (xs := cs.map encC) nameA
    (by rw [ev_iSeq]; simp only [ev_var0, R.bind_ok, rdL_ok hk]) (len_list hk) (fun i => at_list hk) (fun x hx => by
      obtain ⟨c, hc, rfl⟩ := List.mem_map.mp hx
      simp only [wipeE, ev_gName, List.set, R.bind_ok, ev_tYes, if_true, ev_op, ev_varS, ev_var0, ev_C, ix_C0]
      rfl) (by rw [List.length_map]; simp only [LIM]; omega)
  rw [fm_map (f := encC) (g := nameA) (h := fun c : Cm => AV.str c.1) (fun _ => rfl)] at hlc
  have e0 : (cs.map fun c : Cm => AV.str c.1) = (cs.map (·.1)).map AV.str := by rw [List.map_map]; rfl
  rw [e0] at hlc
  have hb : b_are_unlike [some (.loc k), none] st = .rt (.bl true) (st ++ [.lst ((cs.map (·.1)).map AV.str)]) := by
    unfold b_are_unlike
    have e2 : oLenSet (.loc st.length) (st ++ [.lst ((cs.map (·.1)).map AV.str)]) = .ok (.int cs.length) (st ++ [.lst ((cs.map (·.1)).map AV.str)]) := by
      unfold oLenSet
      simp only [rdL_ok (at_new (st := st) (o := .lst ((cs.map (·.1)).map AV.str)) (rest := [])), Option.bind_some, strsA_strs]
      rw [if_pos ⟨nd, by rw [List.length_map]; omega⟩, List.length_map]
    have hk2 : (st ++ [Ob.lst ((cs.map (·.1)).map AV.str)])[k]? = some (.lst (cs.map encC)) := at_old hk
    rw [ev_ret, ev_op, ev_un]
    rw [show mLc (miSeq (mVar 0)) (mgName 1) mtYes (mOp oIx (mVar 1) (mC (.int 0))) (List.map Prod.snd ([("comer", 1)] : List (Str × Nat))) [some (.loc k), none] st = _ from hlc]
    simp only [R.bind_ok, e2, ev_N, ev_cons, ev_nil, ev_var0, len_l hk2, List.length_map, eq_ii, decide_true, R.toFl_ok]
  show (if 1 = 1 then gc st (fin (b_are_unlike [some (.loc k), none] st)) else .bad) = _
  rw [if_pos rfl, hb]
  exact gc_drop rfl
def zoe : Str := Str.ofString "zoe"
def ledN : List Str := zoe :: names12
theorem name_ok : ∀ s ∈ names12, m_is_name [.str s] [] = .ok (.bl true) [] := by
  intro s hs
  simp only [names12, List.mem_cons, List.not_mem_nil, or_false] at hs
  rcases hs with rfl | rfl | rfl | rfl | rfl | rfl | rfl | rfl | rfl | rfl | rfl | rfl <;> kernel_rfl
theorem from_ok {i n : Nat} (h : i < n) : m_is_from [.int i, .int 0, .int ((n : Int) - 1)] [] = .ok (.bl true) [] := by
  have hb : b_is_from [some (.int (i : Nat)), some (.int 0), some (.int ((n : Int) - 1))] [] = .rt (.bl true) [] := by
    unfold b_is_from
    have t1 : oIsi "int" (.int (i : Nat)) [] = .ok (.bl true) [] := rfl
    have t2 : oIsi "bool" (.int (i : Nat)) [] = .ok (.bl false) [] := rfl
    have c1 : oLe (.int 0) (.int (i : Nat)) [] = .ok (.bl true) [] := by
      show R.ok (AV.bl (decide ((0 : Int) ≤ (i : Nat)))) _ = _
      rw [decide_eq_true (by omega)]
    have c2 : oLe (.int (i : Nat)) (.int ((n : Int) - 1)) [] = .ok (.bl true) [] := by
      show R.ok (AV.bl (decide ((i : Int) ≤ (n : Nat) - 1))) _ = _
      rw [decide_eq_true (by omega)]
    simp only [ev_ret, ev_AndV, ev_un, ev_varS, ev_var0, R.bind_ok, t1, if_true, ev_NotV, t2, Bool.not_false, ev_chain, c1, c2, R.toFl_ok]
  show (if 3 = 3 then gc [] (fin (b_is_from [some (.int (i : Nat)), some (.int 0), some (.int ((n : Int) - 1))] [])) else .bad) = _
  rw [if_pos rfl, hb]
  exact gc_same rfl
theorem comer_ok {n : Nat} {r : Bool} {w : Str} {c : Cm} (h : c.1 ∈ names12) (hc : c.2 < n) : m_is_comer [encH n r w, encC c] [] = .ok (.bl true) [] := by
  have hb : b_is_comer [some (encH n r w), some (encC c)] [] = .rt (.bl true) [] := by
    unfold b_is_comer
    have t1 : oIsi "tuple" (encC c) [] = .ok (.bl true) [] := rfl
    have i1 : oIso m_is_name [.str c.1] [] = .ok (.bl true) [] := iso_ok rfl (name_ok _ h) rfl
    have i2 : oIso m_is_from [.int (c.2 : Nat), .int 0, .int ((n : Int) - 1)] [] = .ok (.bl true) [] := iso_ok rfl (from_ok hc) rfl
    simp only [ev_ret, ev_AndV, ev_un, ev_varS, ev_var0, R.bind_ok, t1, if_true, ev_op, ev_N, ev_cons, ev_nil, len_t, ev_C, List.length_cons, List.length_nil, eq_ii, ix_C0, ix_C1, ix_H0, sub_ii, i1, i2, show decide (((0 + 1 + 1 : Nat) : Int) = 2) = true from rfl, R.toFl_ok]
  show (if 2 = 2 then gc [] (fin (b_is_comer [some (encH n r w), some (encC c)] [])) else .bad) = _
  rw [if_pos rfl, hb]
  exact gc_same rfl
def keepA : AV → Option AV := fun x => match x with | .non => none | _ => some x
theorem fm_keep : ∀ rows : List (Option Cm), (rows.map encO).filterMap keepA = (rows.filterMap id).map encC
  | [] => rfl
  | none :: r => by
    rw [List.map_cons, List.filterMap_cons, List.filterMap_cons]
    exact fm_keep r
  | some c :: r => by
    rw [List.map_cons, List.filterMap_cons, List.filterMap_cons]
    show encC c :: (r.map encO).filterMap keepA = encC c :: (r.filterMap id).map encC
    rw [fm_keep r]
def yesL (n : Nat) : List AV := List.replicate n (.bl true)
theorem bls_yes : ∀ n : Nat, blsA (yesL n) = some (List.replicate n true)
  | 0 => rfl
  | n + 1 => by
    show blsA (.bl true :: yesL n) = _
    unfold blsA
    rw [bls_yes n]; rfl
theorem fm_yes {α : Type} {f : α → AV} : ∀ l : List α, (l.map f).filterMap (fun _ => some (AV.bl true)) = yesL l.length
  | [] => rfl
  | a :: l => by
    rw [List.map_cons, List.filterMap_cons, fm_yes l]
    rfl
theorem seating_ok {n : Nat} {r : Bool} {w : Str} {rows : List (Option Cm)} {st : Sto} (hn : n < 900) (hf : FitsS n rows) (hm : ∀ c, some c ∈ rows → c.1 ∈ names12) (nd : ((rows.filterMap id).map (·.1)).Nodup) : oIso m_is_seating [encH n r w, encS rows] st = .ok (.bl true) st := by
  have hlen := hf.1
  have hS : ∀ c ∈ rows.filterMap id, some c ∈ rows := fun c hc => by
    obtain ⟨o, ho, e⟩ := List.mem_filterMap.mp hc
    obtain rfl : o = some c := e
    exact ho
  have hSl : (rows.filterMap id).length ≤ n := by rw [← hlen]; exact List.length_filterMap_le ..
  generalize hSe : rows.filterMap id = S at *
  have hb : ∃ g, b_is_seating [some (encH n r w), some (encS rows), none, none] [] = .rt (.bl true) g := by
    unfold b_is_seating
    have t1 : oIsi "tuple" (encS rows) [] = .ok (.bl true) [] := rfl
    rw [ev_seq]
    simp only [ev_ifS, ev_tOr, ev_tNot, ev_tV, ev_un, ev_op, ev_N, ev_cons, ev_nil, ev_varS, ev_var0, ev_C, R.bind_ok, t1, Bool.not_true, Bool.false_eq_true, if_false, len_t, List.length_map, hlen, ix_H0, ne_ii, decide_true, R.toFl_ok, ev_next]
    have h1 := lc_run (it := miSeq (mVar 1)) (g := mgName 3) (t := mtV (mOp oIsNot (mVar 3) (mC .non))) (e := mVar 3) (own := [3]) (env := [some (encH n r w), some (encS rows), none, none]) (st := []) (q := .tup (rows.map encO)) (xs := rows.map encO) keepA
      (by rw [ev_iSeq]; simp only [ev_varS, ev_var0, R.bind_ok]) rfl (fun i => rfl) (fun x hx => by
        obtain ⟨o, ho, rfl⟩ := List.mem_map.mp hx
        simp only [wipeE, ev_gName, List.set, R.bind_ok, ev_tV, ev_op, ev_varS, ev_var0, ev_C, isNot_O]
        cases o <;> rfl) (by rw [List.length_map]; simp only [LIM]; omega)
    rw [fm_keep, hSe] at h1
    rw [ev_seq]
    simp only [ev_asg, ev_gc]
    rw [show mLc (miSeq (mVar 1)) (mgName 3) (mtV (mOp oIsNot (mVar 3) (mC .non))) (mVar 3) (List.map Prod.snd ([("one", 3)] : List (Str × Nat))) [some (encH n r w), some (encS rows), none, none] [] = _ from h1]
    rw [show gc [] (R.ok (AV.loc (List.length ([] : Sto))) ([] ++ [Ob.lst (S.map encC)])) = .ok (.loc 0) [.lst (S.map encC)] from gc_list (st := []) locs_Cs]
    simp only [R.toFl_ok, ev_gName, List.set]
    have h2 := lc_run (it := miSeq (mVar 2)) (g := mgName 3) (t := mtYes) (e := mN (oIso m_is_comer) (maCons (mVar 0) (maCons (mVar 3) maNil))) (own := [3]) (env := [some (encH n r w), some (encS rows), some (.loc 0), none]) (st := [.lst (S.map encC)]) (q := .list 0) (xs := S.map encC) (fun _ => some (.bl true))
      (by rw [ev_iSeq]; simp only [ev_varS, ev_var0, R.bind_ok]; rfl) (len_list rfl) (fun i => at_list rfl) (fun x hx => by
        obtain ⟨c, hc, rfl⟩ := List.mem_map.mp hx
        have hcr := hS c hc
        have i1 : oIso m_is_comer [encH n r w, encC c] [.lst (S.map encC)] = .ok (.bl true) [.lst (S.map encC)] := iso_ok rfl (comer_ok (hm c hcr) (hf.2 c hcr)) rfl
        simp only [wipeE, ev_gName, List.set, R.bind_ok, ev_tYes, if_true, ev_N, ev_cons, ev_nil, ev_varS, ev_var0, i1]) (by rw [List.length_map]; simp only [LIM]; omega)
    rw [fm_yes] at h2
    have a1 : oAll [.loc 1] [.lst (S.map encC), .lst (yesL S.length)] = .ok (.bl true) [.lst (S.map encC), .lst (yesL S.length)] := by
      unfold oAll
      simp only [show rdL [Ob.lst (S.map encC), .lst (yesL S.length)] 1 = some (yesL S.length) from rfl, Option.bind_some, bls_yes]
      rw [show (List.replicate S.length true).all id = true from by simp]
    have a2 : m_are_unlike [.loc 0] [.lst (S.map encC), .lst (yesL S.length)] = .ok (.bl true) [.lst (S.map encC), .lst (yesL S.length)] := unlike_ok rfl nd (by omega)
    rw [ev_ret, ev_AndV, ev_N]
    simp only [ev_cons, ev_nil]
    rw [show mLc (miSeq (mVar 2)) (mgName 3) mtYes (mN (oIso m_is_comer) (maCons (mVar 0) (maCons (mVar 3) maNil))) (List.map Prod.snd ([("one", 3)] : List (Str × Nat))) [some (encH n r w), some (encS rows), some (.loc 0), none] [.lst (S.map encC)] = _ from h2]
    simp only [R.bind_ok, show ([Ob.lst (S.map encC)] ++ [.lst (yesL S.length)] : Sto) = [.lst (S.map encC), .lst (yesL S.length)] from rfl, List.length_cons, List.length_nil, Nat.zero_add, a1, if_true, ev_N, ev_cons, ev_nil, ev_varS, ev_var0, a2, R.toFl_ok]
    exact ⟨_, rfl⟩
  obtain ⟨g, hb⟩ := hb
  refine iso_ok (st' := []) ?_ ?_ rfl
  · show AV.locs (encH n r w) ++ (AV.locs (encS rows) ++ []) = []
    rw [locs_S]; rfl
  · show (if 2 = 2 then gc [] (fin (b_is_seating [some (encH n r w), some (encS rows), none, none] [])) else .bad) = _
    rw [if_pos rfl, hb]
    exact gc_drop (st := []) rfl
end K01
set_option Elab.async false
set_option linter.all false
set_option maxRecDepth 100000
set_option maxHeartbeats 4000000
/-! K01Q: comparing; the turn of one comer -/
namespace K01
open PySem Y
theorem eqv_all_refl : ∀ ds : List PyData, (∀ d ∈ ds, PyData.eqv d d = true) → PyData.eqvAll ds ds = true
  | [], _ => rfl
  | d :: ds, h => by
    unfold PyData.eqvAll
    rw [h d List.mem_cons_self, eqv_all_refl ds fun e he => h e (List.mem_cons_of_mem _ he)]; rfl
theorem mapO_mem {α β : Type} {f : α → Option β} : ∀ {xs : List α} {ys : List β}, mapO f xs = some ys → ∀ y ∈ ys, ∃ x ∈ xs, f x = some y
  | [], ys, h, y, hy => by cases h; cases hy
  | x :: xs, ys, h, y, hy => by
    unfold mapO at h
    split at h
    · rename_i z zs e1 e2
      cases h
      rcases List.mem_cons.mp hy with rfl | hy
      · exact ⟨x, List.mem_cons_self, e1⟩
      · obtain ⟨x', h1, h2⟩ := mapO_mem e2 y hy
        exact ⟨x', List.mem_cons_of_mem _ h1, h2⟩
    · cases h
theorem den_refl {st : Sto} : ∀ (f : Nat) (v : AV) (d : PyData), den st f v = some d → PyData.eqv d d = true
  | 0, _, _, h => by cases h
  | f + 1, v, d, h => by
    have key : ∀ (xs : List AV) (ds : List PyData), mapO (den st f) xs = some ds → PyData.eqvAll ds ds = true := fun xs ds h => eqv_all_refl ds fun d hd => by
      obtain ⟨x, _, e⟩ := mapO_mem h d hd
      exact den_refl f x d e
    cases v with
    | non => cases h; rfl
    | bl b => cases h; show (b == b) = true; simp
    | int i => cases h; show (i == i) = true; simp
    | str s => cases h; show (s == s) = true; simp
    | tup xs =>
      have h : (mapO (den st f) xs).map PyData.tuple = some d := h
      obtain ⟨ds, e, rfl⟩ := Option.map_eq_some_iff.mp h
      exact key xs ds e
    | tmp xs =>
      have h : (mapO (den st f) xs).map PyData.tuple = some d := h
      obtain ⟨ds, e, rfl⟩ := Option.map_eq_some_iff.mp h
      exact key xs ds e
    | frl xs =>
      have h : (mapO (den st f) xs).map PyData.list = some d := h
      obtain ⟨ds, e, rfl⟩ := Option.map_eq_some_iff.mp h
      exact key xs ds e
    | loc k =>
      unfold den at h
      split at h
      · rename_i xs e0
        obtain ⟨ds, e, rfl⟩ := Option.map_eq_some_iff.mp h
        exact key xs ds e
      · cases h
theorem ne_self {st : Sto} {x y : AV} {d : PyData} (h1 : den st DEEP x = some d) (h2 : den st DEEP y = some d) : oNe x y st = .ok (.bl false) st := by
  unfold oNe
  simp only [h1, h2, den_refl _ _ _ h1, Bool.not_true]
def dO : Option Cm → PyData
  | none => .none
  | some c => dC c
section
variable {st : Sto}
theorem den_O {f : Nat} {o : Option Cm} : den st (f + 2) (encO o) = some (dO o) := by cases o <;> rfl
theorem den_S {f : Nat} {rows : List (Option Cm)} : den st (f + 3) (encS rows) = some (.tuple (rows.map dO)) := by
  show (mapO (den st (f + 2)) (rows.map encO)).map PyData.tuple = _
  rw [mapO_map (f := den st (f + 2)) (h := encO) (r := dO) (fun o _ => den_O)]; rfl
theorem den_L {f i : Nat} {cs : List Cm} (hi : st[i]? = some (.lst (cs.map encC))) : den st (f + 3) (.loc i) = some (.list (cs.map dC)) := by
  show (match st[i]? with | some (.lst xs) => (mapO (den st (f + 2)) xs).map PyData.list | _ => none) = _
  rw [hi]
  simp only
  rw [mapO_C (f := f)]; rfl
theorem ne_due {rows : List (Option Cm)} {o : Option Cm} : oNe (.tup [encS rows, encO o]) (.tup [encS rows, encO o]) st = .ok (.bl false) st := by
  have h : den st DEEP (.tup [encS rows, encO o]) = some (.tuple [.tuple (rows.map dO), dO o]) := by
    show (mapO (den st 15) [encS rows, encO o]).map PyData.tuple = _
    simp only [mapO, den_S (f := 12), den_O (f := 13)]; rfl
  exact ne_self h h
theorem ne_told {rows : List (Option Cm)} {outs : List Cm} {i j : Nat} (hi : st[i]? = some (.lst (outs.map encC))) (hj : st[j]? = some (.lst (outs.map encC))) : oNe (.tup [encS rows, .loc i]) (.tup [encS rows, .loc j]) st = .ok (.bl false) st := by
  have h : ∀ i, st[i]? = some (.lst (outs.map encC)) → den st DEEP (.tup [encS rows, .loc i]) = some (.tuple [.tuple (rows.map dO), .list (outs.map dC)]) := fun i hi => by
    show (mapO (den st 15) [encS rows, .loc i]).map PyData.tuple = _
    simp only [mapO, den_S (f := 12), den_L (f := 12) hi]; rfl
  exact ne_self (h i hi) (h j hj)
theorem ne_str {s : Str} : oNe (.str s) (.str s) st = .ok (.bl false) st := ne_self (d := .str s) rfl rfl
theorem add_ll {a b : Nat} {xs ys : List AV} (h1 : st[a]? = some (.lst xs)) (h2 : st[b]? = some (.lst ys)) (hl : xs.length + ys.length ≤ LIM) : oAdd (.loc a) (.loc b) st = .ok (.loc st.length) (st ++ [.lst (xs ++ ys)]) := by
  unfold oAdd
  simp only [h1, h2]
  rw [if_pos hl]
end
def outsF (outs : List Cm) : Option Cm → List Cm
  | none => outs
  | some o => outs ++ [o]
abbrev outE : ME := mOp oAdd (mVar 7) (mOp oRepL (mN oLst (maCons (mOp oIx (mVar 9) (mC (.int 1))) maNil)) (mN oInt (maCons (mOp oIsNot (mOp oIx (mVar 9) (mC (.int 1))) (mC .non)) maNil)))
theorem out_ok {env : Ev} {st : Sto} {j : Nat} {outs : List Cm} {a : AV} {o : Option Cm} (h7 : env[7]? = some (some (.loc j))) (h9 : env[9]? = some (some (.tup [a, encO o]))) (hj : st[j]? = some (.lst (outs.map encC))) (hl : outs.length < 900) :
    mGc outE env st = .ok (.loc st.length) (st ++ [.lst ((outsF outs o).map encC)]) := by
  obtain ⟨b, hb⟩ : ∃ b, b = o.isSome := ⟨_, rfl⟩
  have l1 : oLst [encO o] st = .ok (.loc st.length) (st ++ [.lst [encO o]]) := lst_ok (by show 1 ≤ LIM; decide)
  have e1 : (st ++ [Ob.lst [encO o]]).length = st.length + 1 := by simp
  have at1 : (st ++ [Ob.lst [encO o]])[st.length]? = some (.lst [encO o]) := at_new
  have r1 : oRepL (.loc st.length) (.int (if b then 1 else 0)) (st ++ [.lst [encO o]]) = .ok (.loc (st.length + 1)) (st ++ [.lst [encO o]] ++ [.lst (if b then [encO o] else [])]) := by
    unfold oRepL
    simp only [at1]
    cases b
    · rw [if_pos ⟨by decide, by decide, by show 1 ≤ 1000; decide⟩, e1]; rfl
    · rw [if_pos ⟨by decide, by decide, by show 1 ≤ 1000; decide⟩, e1]; rfl
  have a1 : (st ++ [Ob.lst [encO o]] ++ [Ob.lst (if b then [encO o] else [])])[j]? = some (.lst (outs.map encC)) := at_old (at_old hj)
  have a2 : (st ++ [Ob.lst [encO o]] ++ [Ob.lst (if b then [encO o] else [])])[st.length + 1]? = some (.lst (if b then [encO o] else [])) := by
    rw [← e1]; exact at_new
  have e2 : (st ++ [Ob.lst [encO o]] ++ [Ob.lst (if b then [encO o] else [])]).length = st.length + 2 := by simp
  have s1 := add_ll a1 a2 (by rw [List.length_map]; simp only [LIM]; split <;> simp <;> omega)
  rw [e2] at s1
  have hv : outs.map encC ++ (if b then [encO o] else []) = (outsF outs o).map encC := by
    rw [hb]
    cases o with
    | none => simp [outsF]
    | some c => simp [outsF, encO]
  rw [hv] at s1
  have hi : oInt [.bl b] (st ++ [.lst [encO o]]) = .ok (.int (if b then 1 else 0)) (st ++ [.lst [encO o]]) := by cases b <;> rfl
  have hm : outE env st = .ok (.loc (st.length + 2)) (st ++ [.lst [encO o], .lst (if b then [encO o] else []), .lst ((outsF outs o).map encC)]) := by
    unfold outE
    simp only [ev_op, ev_N, ev_cons, ev_nil, ev_var h7, ev_var h9, ev_C, R.bind_ok, ix_C1, l1, isNot_O, ← hb, hi, r1, s1]
    simp
  rw [ev_gc, hm]
  exact gc_new (st' := st) (j := 2) locs_Cs rfl oldOk_app rfl
/-- those seated so far -/
def sat (n : Nat) (r : Bool) (w : Str) (cs : List Cm) (i : Nat) : List (Option Cm) × List Cm := seatF n r w (cs.take i) (emptyR n) []
structure SatI (n : Nat) (r : Bool) (cs : List Cm) (i : Nat) (p : List (Option Cm) × List Cm) : Prop where
  fit : FitsS n p.1
  nm : ∀ c, some c ∈ p.1 → c.1 ∈ names12
  nd : ((p.1.filterMap id).map (·.1)).Nodup
  few : p.2.length ≤ i
  free : i < cs.length → r = true → none ∈ p.1
theorem sat_i {n most : Nat} {r : Bool} {w : Str} {cs : List Cm} (F : Folk n most r cs) (hn : 0 < n) {i : Nat} (hi : i ≤ cs.length) : SatI n r cs i (sat n r w cs i) := by
  have sub : ∀ c ∈ cs.take i, c ∈ cs := fun c => List.mem_of_mem_take
  have W : Way n r (cs.take i) (sat n r w cs i).1 (sat n r w cs i).2 := seated_way (w := w) hn (fun c hc => F.lt c (sub c hc)) (fun hr => Nat.le_trans (by rw [List.length_take]; omega) (F.ring hr))
  obtain ⟨h1, h2, h3, h4⟩ := seat_inv (w := w) hn F.lt F.ring i hi
  have mem : ∀ c, some c ∈ (sat n r w cs i).1 → c ∈ cs := fun c hc => sub c (W.perm.subset (List.mem_append_left _ (List.mem_filterMap.mpr ⟨some c, hc, rfl⟩)))
  refine ⟨⟨h1.1, fun c hc => F.lt c (mem c hc)⟩, fun c hc => F.names c (mem c hc), ?_, h3, fun hlt hr => ?_⟩
  · have e := (W.perm.map (·.1)).nodup_iff.mpr ((List.take_sublist i cs).map (·.1) |>.nodup F.nd)
    rw [List.map_append] at e
    exact (List.nodup_append.mp e).1
  · have h5 := F.ring hr
    have hp : 0 < (sat n r w cs i).1.countP Option.isNone := by unfold sat free at *; omega
    obtain ⟨o, ho, hz⟩ := List.countP_pos_iff.mp hp
    cases o with
    | none => exact ho
    | some _ => cases hz
theorem sat_next {n : Nat} {r : Bool} {w : Str} {cs : List Cm} {i : Nat} {c : Cm} (hc : cs[i]? = some c) :
    sat n r w cs (i + 1) = ((comeF n r w (sat n r w cs i).1 c).1, outsF (sat n r w cs i).2 (comeF n r w (sat n r w cs i).1 c).2) := by
  unfold sat
  rw [List.take_succ, hc, Option.toList_some, seat_app, seatF, seatF]
  cases (comeF n r w (seatF n r w (cs.take i) (emptyR n) []).1 c).2 <;> rfl
abbrev lawE (s : Option AV) (cell : Int) (d n : Nat) (r : Bool) (w : Str) (c0 : Nat) (tx : Str) (rows : List (Option Cm)) (j : Nat) (x8 x9 x10 x11 x12 x13 x14 : Option AV) : Ev :=
  [s, some (.int cell), some (.loc d), some (encH n r w), some (.loc c0), some (.str tx), some (encS rows), some (.loc j), x8, x9, x10, x11, x12, x13, x14]
theorem one_ok {n most i : Nat} {r : Bool} {w : Str} {cs : List Cm} {c : Cm} {st : Sto} {j d c0 : Nat} {s : Option AV} {cell : Int} {tx : Str} {x9 x10 x11 x12 x13 x14 : Option AV} (F : Folk n most r cs) (hn : 0 < n ∧ n < 900) (hm : most < 800) (hw : IsW w) (hc : cs[i]? = some c)
    (hj : st[j]? = some (.lst ((sat n r w cs i).2.map encC))) :
    ∃ y9, b_law_1 (lawE s cell d n r w c0 tx (sat n r w cs i).1 j (some (encC c)) x9 x10 x11 x12 x13 x14) st = .nx (lawE s cell d n r w c0 tx (sat n r w cs (i + 1)).1 st.length (some (encC c)) y9 x10 x11 x12 x13 x14) (st ++ [.lst ((sat n r w cs (i + 1)).2.map encC)]) := by
  have hi := (List.getElem?_eq_some_iff.mp hc).1
  have hm2 := F.most
  have A := sat_i (w := w) F hn.1 (Nat.le_of_lt hi)
  have B := sat_i (w := w) F hn.1 hi
  rw [sat_next hc] at B ⊢
  have hcm : c ∈ cs := List.mem_of_getElem? hc
  generalize sat n r w cs i = p at *
  have lc := F.lt c hcm
  have k1 := law_come_iso (w := w) (st := st) hn hw lc A.fit (A.free hi)
  have k2 := come_iso (w := w) (st := st) hn lc A.fit.fits (A.free hi)
  generalize comeF n r w p.1 c = q at *
  have k3 : oIso m_is_seating [encH n r w, encS q.1] st = .ok (.bl true) st := seating_ok hn.2 B.fit B.nm B.nd
  refine ⟨some (.tup [encS q.1, encO q.2]), ?_⟩
  unfold b_law_1 lawE
  rw [ev_seq]
  simp only [ev_asg, ev_N, ev_cons, ev_nil, ev_varS, ev_var0, R.bind_ok, k1, R.toFl_ok, ev_gName, List.set]
  rw [ev_seq]
  have t1 : oIsNotB (.bl true) (.bl true) st = .ok (.bl false) st := rfl
  simp only [ev_ifS, ev_tOr, ev_tV, ev_op, ev_N, ev_cons, ev_nil, ev_varS, ev_var0, ev_C, R.bind_ok, k2, ne_due, Bool.false_eq_true, if_false, ix_C0, k3, t1, R.toFl_ok, ev_next]
  rw [ev_seq]
  simp only [ev_asg, ev_op, ev_varS, ev_var0, ev_C, R.bind_ok, ix_C0, R.toFl_ok, ev_gName, List.set]
  have o1 := out_ok (env := [s, some (.int cell), some (.loc d), some (encH n r w), some (.loc c0), some (.str tx), some (encS q.1), some (.loc j), some (encC c), some (.tup [encS q.1, encO q.2]), x10, x11, x12, x13, x14]) (st := st) (j := j) (outs := p.2) (a := encS q.1) (o := q.2) rfl rfl hj (by have := A.few; omega)
  rw [show mGc (mOp oAdd (mVar 7) (mOp oRepL (mN oLst (maCons (mOp oIx (mVar 9) (mC (.int 1))) maNil)) (mN oInt (maCons (mOp oIsNot (mOp oIx (mVar 9) (mC (.int 1))) (mC .non)) maNil)))) _ st = _ from o1]
  simp only [R.toFl_ok, ev_gName, List.set]
end K01
set_option Elab.async false
set_option linter.all false
set_option maxRecDepth 100000
set_option maxHeartbeats 4000000
/-! K01R: the folk's text; the turn of the law -/
namespace K01
open PySem Y
theorem name_len : ∀ s ∈ names12, (reprText s).length ≤ 8 := by decide +kernel
theorem int_len : ∀ k < 12, (PyData.shown (.int (k : Nat))).length ≤ 2 := by decide +kernel
def prs (cs : List Cm) : List (Str × Int) := cs.map fun c => (c.1, (c.2 : Int))
def txF (cs : List Cm) : Str := (folkD (prs cs)).shown
theorem pairs_C : ∀ cs : List Cm, pairsA (cs.map encC) = some (prs cs)
  | [] => rfl
  | c :: cs => by
    show (pairsA (cs.map encC)).map ((c.1, (c.2 : Int)) :: ·) = _
    rw [pairs_C cs]; rfl
theorem show_C : ∀ cs : List Cm, (∀ c ∈ cs, c.2 < 12) → PyData.showableAll ((prs cs).map fun p => PyData.tuple [.str p.1, .int p.2]) = true
  | [], _ => rfl
  | c :: cs, h => by
    have ih := show_C cs fun d hd => h d (List.mem_cons_of_mem _ hd)
    have h1 : decide ((c.2 : Int).natAbs.log2 < 1920) = true := decide_eq_true (by
      have := h c List.mem_cons_self
      have h2 := Nat.log2_le_self c.2
      rw [Int.natAbs_natCast]
      omega)
    show PyData.showableAll (PyData.tuple [.str c.1, .int (c.2 : Nat)] :: (prs cs).map fun p => PyData.tuple [.str p.1, .int p.2]) = true
    simp only [PyData.showableAll, PyData.showable, ih, h1, Bool.and_self]
theorem size_C : ∀ cs : List Cm, (∀ c ∈ cs, c.2 < 12) → (∀ c ∈ cs, c.1 ∈ names12) → ((PyData.shownAll ((prs cs).map fun p => PyData.tuple [.str p.1, .int p.2])).map (·.length)).sum ≤ 20 * cs.length ∧ (PyData.shownAll ((prs cs).map fun p => PyData.tuple [.str p.1, .int p.2])).length = cs.length
  | [], _, _ => ⟨Nat.le_refl _, rfl⟩
  | c :: cs, h, h' => by
    obtain ⟨i1, i2⟩ := size_C cs (fun d hd => h d (List.mem_cons_of_mem _ hd)) fun d hd => h' d (List.mem_cons_of_mem _ hd)
    have e : PyData.shownAll ((prs (c :: cs)).map fun p => PyData.tuple [.str p.1, .int p.2]) = tupleText [reprText c.1, PyData.shown (.int (c.2 : Nat))] :: PyData.shownAll ((prs cs).map fun p => PyData.tuple [.str p.1, .int p.2]) := by
      show PyData.shownAll (PyData.tuple [.str c.1, .int (c.2 : Nat)] :: (prs cs).map fun p => PyData.tuple [.str p.1, .int p.2]) = _
      simp only [PyData.shownAll, PyData.shown]
    have t := tupleText_len_le [reprText c.1, PyData.shown (.int (c.2 : Nat))]
    have n1 := name_len c.1 (h' c List.mem_cons_self)
    have n2 := int_len c.2 (h c List.mem_cons_self)
    simp only [List.map_cons, List.map_nil, List.sum_cons, List.sum_nil, List.length_cons, List.length_nil] at t
    rw [e, List.map_cons, List.sum_cons]
    exact ⟨by rw [List.length_cons]; omega, by rw [List.length_cons, List.length_cons, i2]⟩
theorem str_ok {st : Sto} {k : Nat} {cs : List Cm} (hk : st[k]? = some (.lst (cs.map encC))) (h1 : ∀ c ∈ cs, c.2 < 12) (h2 : ∀ c ∈ cs, c.1 ∈ names12) (hl : cs.length < 900) : oStrF [.loc k] st = .ok (.str (txF cs)) st := by
  unfold oStrF
  simp only [rdL_ok hk, Option.bind_some, pairs_C]
  obtain ⟨i1, i2⟩ := size_C cs h1 h2
  have hs : (folkD (prs cs)).showable = true := by
    unfold folkD
    rw [PyData.showable]
    exact show_C cs h1
  have hz : (folkD (prs cs)).shown.length ≤ sizeLine := by
    unfold folkD
    rw [PyData.shown]
    have := listText_len_le (PyData.shownAll ((prs cs).map fun p => PyData.tuple [.str p.1, .int p.2]))
    unfold sizeLine
    omega
  rw [if_pos ⟨hs, hz⟩]
  rfl
theorem cut_drop {xs : List AV} {k : Nat} (h : k ≤ xs.length) : cutA xs (some (k : Int)) none = xs.drop k := by
  unfold cutA
  have e1 : HT.sIx xs.length 0 (some (k : Int)) = min k xs.length := HT.sIx_nat _ _ _
  have e2 : HT.sIx xs.length xs.length none = xs.length := rfl
  rw [e1, e2, Nat.min_eq_left h, List.take_of_length_le (by rw [List.length_drop]; omega)]
theorem IsW_pick {i : Nat} (hi : i < 3) : ∃ w, IsW w ∧ (if i = 0 then AV.str sSits else if i = 1 then .str sTakes else .str sFar) = .str w := by
  match i, hi with
  | 0, _ => exact ⟨_, .inl rfl, rfl⟩
  | 1, _ => exact ⟨_, .inr (.inl rfl), rfl⟩
  | 2, _ => exact ⟨_, .inr (.inr rfl), rfl⟩
/-- a full ring takes nobody -/
theorem full_ok {n : Nat} {w : Str} {c : Cm} {rows : List (Option Cm)} {st : Sto} (h : rows.any Option.isNone = false) : m_come [encH n true w, encS rows, encC c] st = .ex ⟨Str.ofString "Full", [.str (Str.ofString "a full ring")]⟩ st := by
  have hb : b_come [some (encH n true w), some (encS rows), some (encC c), none, none, none, none, none, none] st = .ex ⟨Str.ofString "Full", [.str (Str.ofString "a full ring")]⟩ st := by
    unfold b_come
    rw [ev_seq]
    simp only [ev_asg, ev_var0, R.toFl_ok, ev_gTup, List.length_cons, List.length_nil, if_true, ev_gs1, ev_gs0, ev_gName, R.bind_ok, List.set]
    rw [ev_seq]
    have hif : (msIf (mtAnd (mtV (mVar 4)) (mtV (mOp oNotIn (mC .non) (mVar 1)))) (msRaise1 (Str.ofString "Full") (.str (Str.ofString "a full ring"))) msNext) [some (encH n true w), some (encS rows), some (encC c), some (.int n), some (.bl true), some (.str w), none, none, none] st =
        .ex ⟨Str.ofString "Full", [.str (Str.ofString "a full ring")]⟩ st := by
      simp only [ev_ifS, ev_tAnd, ev_tV, ev_op, ev_varS, ev_var0, ev_C, R.bind_ok, notIn_ok, if_true, h, Bool.not_false, R.toFl_ok]
      rfl
    rw [hif]
  show (if 3 = 3 then gc st (fin (b_come [some (encH n true w), some (encS rows), some (encC c), none, none, none, none, none, none] st)) else .bad) = _
  rw [if_pos rfl, hb]
  rfl
theorem try_full {m : ME} {env : Ev} {st : Sto} {fs : List AV} (h : m env st = .ex ⟨Str.ofString "Full", fs⟩ st) : mTry [1] m env st = .ok (.str (Str.ofString "Full+")) st := by
  unfold mTry
  rw [h]
  have e1 : xno (Str.ofString "Full") = 1 := by decide +kernel
  simp only [e1]
  rw [if_pos ⟨by simp, by decide⟩]
  have e2 : exName 1 = Str.ofString "Full+" := by decide +kernel
  rw [e2]
end K01
set_option Elab.async false
set_option linter.all false
set_option maxRecDepth 100000
set_option maxHeartbeats 4000000
/-! K01S: the law -/
namespace K01
open PySem Y
abbrev b_rest : MS := (msSeq (msAsg (mN m_seated (maCons (mVar 3) (maCons (mVar 4) maNil))) (mgName 10))
    (msSeq (msIf (mtGc (mtOr (mtV (mOp oNe (mVar 10) (mN oTup (maCons (mVar 6) (maCons (mVar 7) maNil))))) (mtV (mOp oNe (mN oStrF (maCons (mVar 4) maNil)) (mVar 5))))) (msRet (mC (.bl false))) msNext)
    (msSeq (msExpr (mMet .list oAppend (mOp oIx (mVar 10) (mC (.int 1))) (maCons (mC .non) maNil)))
    (msSeq (msIf (mtGc (mtV (mOp oNe (mN m_seated (maCons (mVar 3) (maCons (mVar 4) maNil))) (mN oTup (maCons (mVar 6) (maCons (mVar 7) maNil)))))) (msRet (mC (.bl false))) msNext)
    (msSeq (msAsg (mGc (mOp oAdd (mSl oSl (mVar 3) moNone (moSome (mC (.int 2)))) (mN oTup (maCons (mOp oIx (mN oLst (maCons (mC (.str "sits")) (maCons (mC (.str "takes")) (maCons (mC (.str "farther")) maNil)))) (mN m__law_pick (maCons (mVar 2) (maCons (mC (.int 3)) maNil)))) maNil)))) (mgName 11))
    (msSeq (msAsg (mN m__law_pick (maCons (mVar 2) (maCons (mOp oIx (mVar 3) (mC (.int 0))) maNil))) (mgName 12))
    (msSeq (msAsg (mGc (mOp oAdd (mOp oAdd (mSl oSl (mVar 6) moNone (moSome (mVar 12))) (mN oTup (maCons (mC .non) maNil))) (mSl oSl (mVar 6) (moSome (mOp oAdd (mVar 12) (mC (.int 1)))) moNone))) (mgName 13))
    (msSeq (msAsg (mN oTup (maCons (mC (.str "zoe")) (maCons (mN m__law_pick (maCons (mVar 2) (maCons (mOp oIx (mVar 3) (mC (.int 0))) maNil))) maNil))) (mgName 14))
    (msSeq (msIf (mtV (mOp oNe (mN (oIso m_come) (maCons (mVar 11) (maCons (mVar 13) (maCons (mVar 14) maNil)))) (mN (oIso m__law_come) (maCons (mVar 11) (maCons (mVar 13) (maCons (mVar 14) maNil)))))) (msRet (mC (.bl false))) msNext)
    (msIf (mtGc (mtAnd (mtV (mOp oIx (mVar 3) (mC (.int 1)))) (mtAnd (mtV (mOp oNotIn (mC .non) (mVar 6))) (mtV (mOp oNe (mTry [1] (mN m_come (maCons (mVar 11) (maCons (mVar 6) (maCons (mVar 14) maNil))))) (mC (.str "Full+"))))))) (msRet (mC (.bl false))) msNext))))))))))
theorem rest_ok {n j d c0 kc : Nat} {r : Bool} {w : Str} {cs : List Cm} {st : Sto} {s x8 x9 x10 x11 x12 x13 x14 : Option AV} {cell m : Int} {cells : List AV} (F : Folk n 12 r cs) (hn : 0 < n ∧ n ≤ 12) (hw : IsW w) (hc : st[c0]? = some (.lst (cs.map encC)))
    (hj : st[j]? = some (.lst ((sat n r w cs cs.length).2.map encC))) (hd : DeckAt st d m) (hm : m < 800000) (hk : st[kc]? = some (.lst cells)) (dk : d ≠ kc) (dc : d ≠ c0) :
    ∃ e' st', e'.length = 13 ∧ b_rest (lawE s cell d n r w c0 (txF cs) (sat n r w cs cs.length).1 j x8 x9 x10 x11 x12 x13 x14) st = .nx (s :: some (.int cell) :: e') st' ∧ st'[kc]? = some (.lst cells) := by
  have hn9 : 0 < n ∧ n < 900 := by omega
  have hcl := F.most
  have A := sat_i (w := w) F hn.1 (Nat.le_refl cs.length)
  have g0 : ∀ (S : Sto) (k : Nat), S[k]? = some (.lst (cs.map encC)) → m_seated [encH n r w, .loc k] S = .ok (.tup [encS (sat n r w cs cs.length).1, .loc S.length]) (S ++ [.lst ((sat n r w cs cs.length).2.map encC)]) := fun S k h => by
    have := seated_ok (w := w) hn9 h (by omega) F.lt F.ring
    rw [this]
    unfold sat
    rw [List.take_length]
  generalize sat n r w cs cs.length = p at *
  have few := A.few
  -- told
  have t1 := g0 st c0 hc
  obtain ⟨L, hL⟩ : ∃ L, L = st.length := ⟨_, rfl⟩
  obtain ⟨st1, h1⟩ : ∃ st1, st1 = st ++ [Ob.lst (p.2.map encC)] := ⟨_, rfl⟩
  rw [← h1, ← hL] at t1
  have c1 : st1[c0]? = some (.lst (cs.map encC)) := by rw [h1]; exact at_old hc
  have j1 : st1[j]? = some (.lst (p.2.map encC)) := by rw [h1]; exact at_old hj
  have l1 : st1[L]? = some (.lst (p.2.map encC)) := by rw [h1, hL]; exact at_new
  have lim2 : ∀ a b : AV, ([a, b] : List AV).length ≤ LIM := fun a b => by show 2 ≤ LIM; decide
  have lt12 : ∀ c ∈ cs, c.2 < 12 := fun c hc => by have := F.lt c hc; omega
  unfold b_rest lawE
  rw [ev_seq]
  simp only [ev_asg, ev_N, ev_cons, ev_nil, ev_varS, ev_var0, R.bind_ok, t1, R.toFl_ok, ev_gName, List.set]
  -- it is what was found
  have q1 : ∀ x8 x9 : Option AV, (mtGc (mtOr (mtV (mOp oNe (mVar 10) (mN oTup (maCons (mVar 6) (maCons (mVar 7) maNil))))) (mtV (mOp oNe (mN oStrF (maCons (mVar 4) maNil)) (mVar 5)))))
      [s, some (.int cell), some (.loc d), some (encH n r w), some (.loc c0), some (.str (txF cs)), some (encS p.1), some (.loc j), x8, x9, some (.tup [encS p.1, .loc L]), x11, x12, x13, x14] st1 = .ok false st1 := fun x8 x9 => mtGc_drop (g := []) (by
    rw [List.append_nil]
    simp only [ev_tOr, ev_tV, ev_op, ev_N, ev_cons, ev_nil, ev_varS, ev_var0, R.bind_ok, tup_ok (lim2 _ _), ne_told l1 j1, Bool.false_eq_true, if_false, str_ok c1 lt12 F.names (by omega), ne_str])
  rw [ev_seq]
  simp only [ev_ifS, q1, R.toFl_ok, Bool.false_eq_true, if_false, ev_next]
  -- a stranger among those out
  obtain ⟨st2, h2⟩ : ∃ st2, st2 = st ++ [Ob.lst (p.2.map encC ++ [.non])] := ⟨_, rfl⟩
  have hap : oAppend (.loc L) [.non] st1 = .ok .non st2 := by
    rw [app_ok l1 (by rw [List.length_map]; simp only [LIM]; omega), h1, hL, set_new, h2]
  have ty1 : isTy st1 .list (.loc L) = true := isTy_l l1
  rw [ev_seq]
  simp only [ev_expr, ev_met, ev_op, ev_varS, ev_var0, ev_C, R.bind_ok, ix_C1, ty1, if_true, ev_cons, ev_nil, hap, R.toFl_ok]
  have c2 : st2[c0]? = some (.lst (cs.map encC)) := by rw [h2]; exact at_old hc
  have j2 : st2[j]? = some (.lst (p.2.map encC)) := by rw [h2]; exact at_old hj
  have k2 : st2[kc]? = some (.lst cells) := by rw [h2]; exact at_old hk
  have d2 : DeckAt st2 d m := by rw [h2]; exact hd.old
  have q2 : ∀ x8 x9 x10 : Option AV, (mtGc (mtV (mOp oNe (mN m_seated (maCons (mVar 3) (maCons (mVar 4) maNil))) (mN oTup (maCons (mVar 6) (maCons (mVar 7) maNil))))))
      [s, some (.int cell), some (.loc d), some (encH n r w), some (.loc c0), some (.str (txF cs)), some (encS p.1), some (.loc j), x8, x9, x10, x11, x12, x13, x14] st2 = .ok false st2 := fun x8 x9 x10 => mtGc_drop (g := [.lst (p.2.map encC)]) (by
    have a1 : (st2 ++ [Ob.lst (p.2.map encC)])[st2.length]? = some (.lst (p.2.map encC)) := at_new
    have a2 : (st2 ++ [Ob.lst (p.2.map encC)])[j]? = some (.lst (p.2.map encC)) := at_old j2
    simp only [ev_tV, ev_op, ev_N, ev_cons, ev_nil, ev_varS, ev_var0, R.bind_ok, g0 st2 c0 c2, tup_ok (lim2 _ _), ne_told a1 a2])
  rw [ev_seq]
  simp only [ev_ifS, q2, R.toFl_ok, Bool.false_eq_true, if_false, ev_next]
  -- another courtesy
  obtain ⟨i3, S3', p3, b3, D3'⟩ := pick_d (st := st2 ++ [.lst [.str sSits, .str sTakes, .str sFar]]) (lim := 3) d2.old (by omega) (by omega)
  obtain ⟨S3, D3, rfl⟩ := D3'.app d2.lt
  obtain ⟨w', hw', ew⟩ := IsW_pick b3
  have l3 : oLst [.str (Str.ofString "sits"), .str (Str.ofString "takes"), .str (Str.ofString "farther")] st2 = .ok (.loc st2.length) (st2 ++ [.lst [.str sSits, .str sTakes, .str sFar]]) := lst_ok lim3
  have p3 : m__law_pick [.loc d, .int 3] (st2 ++ [.lst [.str sSits, .str sTakes, .str sFar]]) = .ok (.int i3) (S3 ++ [.lst [.str sSits, .str sTakes, .str sFar]]) := p3
  have x3 := three_ix' (a := .str sSits) (b := .str sTakes) (c := .str sFar) (st := st2) b3 D3.len
  rw [ew] at x3
  have o1 : ∀ S : Sto, oTup [.str w'] S = .ok (.tup [.str w']) S := fun S => tup_ok (by show 1 ≤ LIM; decide)
  have o2 : ∀ S : Sto, oSl (encH n r w) none (some 2) S = .ok (.tup [.int n, .bl r]) S := fun S => rfl
  have o3 : ∀ S : Sto, oAdd (.tup [.int n, .bl r]) (.tup [.str w']) S = .ok (encH n r w') S := fun S => rfl
  rw [ev_seq]
  simp only [ev_asg, ev_gc, ev_op, ev_sl, ev_oNone, ev_oSome, ev_N, ev_cons, ev_nil, ev_varS, ev_var0, ev_C, R.bind_ok, o2, l3, p3, x3, o1, o3]
  rw [gc_val (v := encH n r w') rfl D3.len D3.old]
  simp only [R.toFl_ok, ev_gName, List.set]
  have k3 := D3.at dk k2
  -- a gap
  obtain ⟨gp, S4, p4, b4, D4⟩ := pick_d (lim := n) D3.deck (by omega) (by omega)
  have k4 := D4.at dk k3
  rw [ev_seq]
  simp only [ev_asg, ev_op, ev_N, ev_cons, ev_nil, ev_varS, ev_var0, ev_C, R.bind_ok, ix_H0, p4, R.toFl_ok, ev_gName, List.set]
  have hlen := A.fit.1
  have s1 : ∀ S : Sto, oSl (encS p.1) none (some (gp : Nat)) S = .ok (.tup ((p.1.take gp).map encO)) S := fun S => by
    show R.ok (AV.tup (cutA (p.1.map encO) none (some ((gp : Nat) : Int)))) S = _
    rw [cut_take, List.map_take]
  have s2 : ∀ S : Sto, oSl (encS p.1) (some ((gp : Int) + 1)) none S = .ok (.tup ((p.1.drop (gp + 1)).map encO)) S := fun S => by
    show R.ok (AV.tup (cutA (p.1.map encO) (some ((gp : Int) + 1)) none)) S = _
    have : ((gp : Int) + 1) = ((gp + 1 : Nat) : Int) := by omega
    rw [this, cut_drop (by rw [List.length_map]; omega), List.map_drop]
  have s3 : ∀ S : Sto, oAdd (.tup ((p.1.take gp).map encO)) (.tup [.non]) S = .ok (.tup ((p.1.take gp).map encO ++ [.non])) S := fun S => by
    unfold oAdd
    simp only
    rw [if_pos (by rw [List.length_map, List.length_take]; simp only [LIM, List.length_cons, List.length_nil]; omega)]
  have s4 : ∀ S : Sto, oAdd (.tup ((p.1.take gp).map encO ++ [.non])) (.tup ((p.1.drop (gp + 1)).map encO)) S = .ok (encS (p.1.set gp none)) S := fun S => by
    unfold oAdd
    simp only
    rw [if_pos (by simp only [List.length_append, List.length_map, List.length_take, List.length_drop, LIM, List.length_cons, List.length_nil]; omega)]
    rw [List.set_eq_take_append_cons_drop, if_pos (by omega)]
    simp [encO]
  have o4 : ∀ S : Sto, oTup [.non] S = .ok (.tup [.non]) S := fun S => tup_ok (by show 1 ≤ LIM; decide)
  rw [ev_seq]
  simp only [ev_asg, ev_gc, ev_op, ev_sl, ev_oNone, ev_oSome, ev_N, ev_cons, ev_nil, ev_varS, ev_var0, ev_C, R.bind_ok, s1, o4, s3, add_ii, s2, s4]
  rw [gc_same rfl]
  simp only [R.toFl_ok, ev_gName, List.set]
  -- who is new
  obtain ⟨v, S5, p5, b5, D5⟩ := pick_d (lim := n) D4.deck (by omega) (by omega)
  have k5 := D5.at dk k4
  have o5 : oTup [.str (Str.ofString "zoe"), .int (v : Nat)] S5 = .ok (encC (zoe, v)) S5 := tup_ok (lim2 _ _)
  rw [ev_seq]
  simp only [ev_asg, ev_op, ev_N, ev_cons, ev_nil, ev_varS, ev_var0, ev_C, R.bind_ok, ix_H0, p5, o5, R.toFl_ok, ev_gName, List.set]
  have fo : FitsS n (p.1.set gp none) := by
    refine ⟨by rw [List.length_set]; exact hlen, fun t ht => ?_⟩
    rcases List.mem_or_eq_of_mem_set ht with h | h
    · exact A.fit.2 t h
    · cases h
  have fr : r = true → none ∈ p.1.set gp none := fun _ => List.mem_iff_getElem?.mpr ⟨gp, List.getElem?_set_self (by omega)⟩
  have c5 : oIso m_come [encH n r w', encS (p.1.set gp none), encC (zoe, v)] S5 = _ := come_iso (w := w') (st := S5) hn9 (c := (zoe, v)) b5 fo.fits fr
  have e5 : oIso m__law_come [encH n r w', encS (p.1.set gp none), encC (zoe, v)] S5 = _ := law_come_iso (w := w') (st := S5) hn9 hw' (c := (zoe, v)) b5 fo fr
  rw [ev_seq]
  simp only [ev_ifS, ev_tV, ev_op, ev_N, ev_cons, ev_nil, ev_varS, ev_var0, ev_C, R.bind_ok, c5, e5, ne_due, R.toFl_ok, Bool.false_eq_true, if_false, ev_next]
  -- a full ring
  have q3 : ∀ x8 x9 x10 x12 x13 : Option AV, (mtGc (mtAnd (mtV (mOp oIx (mVar 3) (mC (.int 1)))) (mtAnd (mtV (mOp oNotIn (mC .non) (mVar 6))) (mtV (mOp oNe (mTry [1] (mN m_come (maCons (mVar 11) (maCons (mVar 6) (maCons (mVar 14) maNil))))) (mC (.str (Str.ofString "Full+"))))))))
      [s, some (.int cell), some (.loc d), some (encH n r w), some (.loc c0), some (.str (txF cs)), some (encS p.1), some (.loc j), x8, x9, x10, some (encH n r w'), x12, x13, some (encC (zoe, v))] S5 = .ok false S5 := fun x8 x9 x10 x12 x13 => mtGc_drop (g := []) (by
    rw [List.append_nil]
    simp only [ev_tAnd, ev_tV, ev_op, ev_varS, ev_var0, ev_C, R.bind_ok, ix_H1, notIn_ok]
    cases r with
    | false => rfl
    | true =>
      cases ha : p.1.any Option.isNone with
      | true => rfl
      | false =>
        have f1 := full_ok (n := n) (w := w') (c := (zoe, v)) (st := S5) ha
        rw [try_full (m := mN m_come (maCons (mVar 11) (maCons (mVar 6) (maCons (mVar 14) maNil)))) (fs := [.str (Str.ofString "a full ring")]) (by simp only [ev_N, ev_cons, ev_nil, ev_varS, ev_var0, R.bind_ok, f1])]
        simp only [if_true, Bool.not_false, R.bind_ok, ne_str])
  simp only [ev_ifS, q3, R.toFl_ok, Bool.false_eq_true, if_false, ev_next]
  exact ⟨_, _, rfl, rfl, k5⟩
end K01
set_option Elab.async false
set_option linter.all false
set_option maxRecDepth 100000
set_option maxHeartbeats 4000000
/-! K01W: the law -/
namespace K01
open PySem Y
theorem turn_ok (st : Sto) (kc : Nat) (cells : List AV) (s : Option AV) (cell : Int) (e : Ev) (he : e.length = 13) (hk : st[kc]? = some (.lst cells)) :
    ∃ e' st', e'.length = 13 ∧ b_law_2 (s :: some (.int cell) :: e) st = .nx (s :: some (.int cell) :: e') st' ∧ st'[kc]? = some (.lst cells) := by
  match e, he with
  | [x2, x3, x4, x5, x6, x7, x8, x9, x10, x11, x12, x13, x14], _ =>
  obtain ⟨da, db, e1, q1, q2, q3⟩ := deck_ok cell 1 st
  have hkl := (List.getElem?_eq_some_iff.mp hk).1
  obtain ⟨d, hd⟩ : ∃ d, d = st.length := ⟨_, rfl⟩
  obtain ⟨S0, hS0⟩ : ∃ S0, S0 = st ++ [Ob.lst [.int da, .int db, .int 1]] := ⟨_, rfl⟩
  rw [← hd, ← hS0] at e1
  have D0 : DeckAt S0 d 1 := ⟨da, db, 1, by rw [hS0, hd]; exact at_new, q1, q2, q3, by omega, by omega⟩
  have k0 : S0[kc]? = some (.lst cells) := by rw [hS0]; exact at_old hk
  have hdk : d ≠ kc := by omega
  obtain ⟨n, r, w, S1, h1, n1, n2, hw, D1⟩ := hall_ok (most := 12) D0 (by omega) (by omega)
  obtain ⟨cs, S2, h2, D2, F⟩ := comers_ok (n := n) (r := r) (w := w) (most := 12) D1.deck (by omega) (by omega) (by omega)
  have hn : 0 < n ∧ n < 900 := by omega
  have k2 : S2[kc]? = some (.lst cells) := D2.at hdk (D1.at hdk k0)
  have c6 := F.most
  have lt12 : ∀ c ∈ cs, c.2 < 12 := fun c hc => by have := F.lt c hc; omega
  obtain ⟨c0, hc0⟩ : ∃ c0, c0 = S1.length := ⟨_, rfl⟩
  obtain ⟨T0, hT0⟩ : ∃ T0, T0 = S2 ++ [Ob.lst (cs.map encC)] := ⟨_, rfl⟩
  rw [← hc0, ← hT0] at h2
  have a0 : T0[c0]? = some (.lst (cs.map encC)) := by rw [hT0, hc0, ← D2.len]; exact at_new
  have kT0 : T0[kc]? = some (.lst cells) := by rw [hT0]; exact at_old k2
  have dT0 : DeckAt T0 d (1 + 4 + 100) := by rw [hT0]; exact D2.deck.old
  have dc : d ≠ c0 := by
    have := D0.lt
    have e := D1.len
    have : S0.length = st.length + 1 := by rw [hS0]; simp
    omega
  unfold b_law_2
  rw [ev_seq]
  simp only [ev_asg, ev_N, ev_cons, ev_nil, ev_varS, ev_var0, ev_C, R.bind_ok, e1, R.toFl_ok, ev_gName, List.set]
  have h1' : m__law_hall [.loc d, .int 12] S0 = .ok (encH n r w) S1 := h1
  rw [ev_seq]
  simp only [ev_asg, ev_N, ev_cons, ev_nil, ev_varS, ev_var0, ev_C, R.bind_ok, h1', R.toFl_ok, ev_gName, List.set]
  have h2' : m__law_comers [.loc d, encH n r w, .int 12] S1 = .ok (.loc c0) T0 := h2
  rw [ev_seq]
  simp only [ev_asg, ev_N, ev_cons, ev_nil, ev_varS, ev_var0, ev_C, R.bind_ok, h2', R.toFl_ok, ev_gName, List.set]
  rw [ev_seq]
  simp only [ev_asg, ev_N, ev_cons, ev_nil, ev_varS, ev_var0, ev_C, R.bind_ok, str_ok a0 lt12 F.names (by omega), R.toFl_ok, ev_gName, List.set]
  -- nobody sits
  have hrep : oRepT (.tup [.non]) (.int n) T0 = .ok (encS (emptyR n)) T0 := by
    unfold oRepT
    simp only
    rw [if_pos ⟨by omega, by omega, by decide, rfl⟩]
    rw [rep_nonR]
  have l0 : oLst [] T0 = .ok (.loc T0.length) (T0 ++ [.lst []]) := lst_ok (by decide)
  have o0 : oTup [.non] T0 = .ok (.tup [.non]) T0 := tup_ok (by show 1 ≤ LIM; decide)
  have gp : gc T0 (.ok (.tup [encS (emptyR n), .loc T0.length]) (T0 ++ [.lst []])) = .ok (.tup [encS (emptyR n), .loc T0.length]) (T0 ++ [.lst []]) := gc_pair (st' := T0) (g := [.lst []]) (j := 0) locs_S rfl rfl oldOk_app rfl
  rw [ev_seq]
  simp only [ev_asg, ev_gc, ev_op, ev_N, ev_cons, ev_nil, ev_varS, ev_var0, ev_C, R.bind_ok, o0, ix_H0, hrep, l0, tup_ok lim2, gp, R.toFl_ok, ev_gTup, List.length_cons, List.length_nil, if_true, ev_gs1, ev_gs0, ev_gName, List.set]
  -- they come
  obtain ⟨env, st', el, ⟨G, j, y8, y9, rfl, rfl, hj⟩⟩ := turns_nx (q := .list c0) (g := mgName 8) (b := b_law_1) (xs := cs.map encC)
    (fun i env st' => ∃ (G : Sto) (j : Nat) (y8 y9 : Option AV), env = lawE s cell d n r w c0 (txF cs) (sat n r w cs i).1 j y8 y9 x10 x11 x12 x13 x14 ∧ st' = T0 ++ G ∧ (T0 ++ G)[j]? = some (.lst ((sat n r w cs i).2.map encC)))
    (fun i env st' hi ⟨G, j, y8, y9, e1, e2, e3⟩ => by
      subst e1 e2
      exact at_list (at_old a0))
    (fun i x env st' hx ⟨G, j, y8, y9, e1, e2, e3⟩ => by
      subst e1 e2
      rw [List.getElem?_map, Option.map_eq_some_iff] at hx
      obtain ⟨c, hc, rfl⟩ := hx
      obtain ⟨z9, o1⟩ := one_ok (s := s) (cell := cell) (d := d) (c0 := c0) (tx := txF cs) (x9 := y9) (x10 := x10) (x11 := x11) (x12 := x12) (x13 := x13) (x14 := x14) F hn (by decide) hw hc e3
      refine ⟨_, _, ?_, G ++ [.lst ((sat n r w cs (i + 1)).2.map encC)], (T0 ++ G).length, some (encC c), z9, rfl, rfl, ?_⟩
      · simp only [ev_gName, R.toFl_ok, List.set]
        rw [o1, List.append_assoc]
      · rw [← List.append_assoc]
        exact at_new)
    (env := lawE s cell d n r w c0 (txF cs) (emptyR n) T0.length x8 x9 x10 x11 x12 x13 x14) (st := T0 ++ [.lst []])
    ⟨[.lst []], T0.length, x8, x9, by rfl, rfl, by exact at_new⟩
  have aG : (T0 ++ [Ob.lst []])[c0]? = some (.lst (cs.map encC)) := at_old a0
  rw [ev_seq, ev_for, ev_iSeq]
  simp only [ev_varS, ev_var0, R.bind_ok, rdL_ok aG, R.toFl_ok, len_list aG, el]
  rw [List.length_map] at hj ⊢
  exact rest_ok (s := s) (cell := cell) (kc := kc) (cells := cells) F ⟨n1, n2⟩ hw (at_old a0) hj dT0.old (by omega) (at_old kT0) hdk dc
theorem law_true (ns : List Int) (hl : ns.length ≤ 63) : ∃ st', m_law [.frl (ns.map AV.int)] [] = .ok (.bl true) st' :=
  law_frame (N := 13) (k := 8) (body := b_law_2) turn_ok ns hl
end K01
set_option Elab.async false
set_option linter.all false
set_option maxRecDepth 100000
set_option maxHeartbeats 4000000
namespace K01
open PySem PySem.Spec L2 Y
open PyProof.Rows hiding St
def topS (i : Nat) : Stmt := PySem.Challenge.pw_yieldseats_k01_whole_who_sits_where.main.body.getD i (.Pass ⟨0, 0, 0, 0⟩)
/-! ### _law_deck -/
abbrev s__law_deck : Stmt := topS 22
abbrev N__law_deck : List Str := ["cell", "turn"]
theorem sc__law_deck : FnScope N__law_deck ["cell", "turn"] (defScope s__law_deck) := ⟨rfl, rfl, rfl, by decide +kernel, rfl, by decide +kernel, by decide +kernel⟩
/-! ### _law_pick -/
abbrev s__law_pick : Stmt := topS 23
abbrev N__law_pick : List Str := ["deck", "limit", "found", "number"]
theorem sc__law_pick : FnScope N__law_pick ["deck", "limit"] (defScope s__law_pick) := ⟨rfl, rfl, rfl, by decide +kernel, rfl, by decide +kernel, by decide +kernel⟩
/-! ### _law_hall -/
abbrev s__law_hall : Stmt := topS 26
abbrev N__law_hall : List Str := ["deck", "most", "size"]
theorem sc__law_hall : FnScope N__law_hall ["deck", "most"] (defScope s__law_hall) := ⟨rfl, rfl, rfl, by decide +kernel, rfl, by decide +kernel, by decide +kernel⟩
/-! ### _law_comers -/
abbrev s__law_comers : Stmt := topS 27
abbrev N__law_comers : List Str := ["deck", "hall", "most", "left", "top", "base", "found", "k", "wish"]
theorem sc__law_comers : FnScope N__law_comers ["deck", "hall", "most"] (defScope s__law_comers) := ⟨rfl, rfl, rfl, by decide +kernel, rfl, by decide +kernel, by decide +kernel⟩
/-! ### far -/
abbrev s_far : Stmt := topS 10
abbrev N_far : List Str := ["hall", "comer", "seat"]
theorem sc_far : FnScope N_far ["hall", "comer", "seat"] (defScope s_far) := ⟨rfl, rfl, rfl, by decide +kernel, rfl, by decide +kernel, by decide +kernel⟩
/-! ### stays -/
abbrev s_stays : Stmt := topS 11
abbrev N_stays : List Str := ["hall", "there", "comer", "seat"]
theorem sc_stays : FnScope N_stays ["hall", "there", "comer", "seat"] (defScope s_stays) := ⟨rfl, rfl, rfl, by decide +kernel, rfl, by decide +kernel, by decide +kernel⟩
/-! ### come -/
abbrev s_come : Stmt := topS 12
abbrev N_come : List Str := ["hall", "seating", "comer", "size", "ring", "courtesy", "found", "seat", "there"]
theorem sc_come : FnScope N_come ["hall", "seating", "comer"] (defScope s_come) := ⟨rfl, rfl, rfl, by decide +kernel, rfl, by decide +kernel, by decide +kernel⟩
/-! ### seated -/
abbrev s_seated : Stmt := topS 13
abbrev N_seated : List Str := ["hall", "comers", "seating", "outs", "comer", "out"]
theorem sc_seated : FnScope N_seated ["hall", "comers"] (defScope s_seated) := ⟨rfl, rfl, rfl, by decide +kernel, rfl, by decide +kernel, by decide +kernel⟩
/-! ### _law_far -/
abbrev s__law_far : Stmt := topS 29
abbrev N__law_far : List Str := ["hall", "comer", "seat", "found"]
theorem sc__law_far : FnScope N__law_far ["hall", "comer", "seat"] (defScope s__law_far) := ⟨rfl, rfl, rfl, by decide +kernel, rfl, by decide +kernel, by decide +kernel⟩
/-! ### _law_come -/
abbrev s__law_come : Stmt := topS 30
abbrev N__law_come : List Str := ["hall", "seating", "comer", "rows", "seat", "there", "one", "other", "keeps"]
theorem sc__law_come : FnScope N__law_come ["hall", "seating", "comer"] (defScope s__law_come) := ⟨rfl, rfl, rfl, by decide +kernel, rfl, by decide +kernel, by decide +kernel⟩
/-! ### _law_name_of -/
abbrev s__law_name_of : Stmt := topS 24
abbrev N__law_name_of : List Str := ["e", "kinds", "titles", "title", "kind"]
theorem sc__law_name_of : FnScope N__law_name_of ["e"] (defScope s__law_name_of) := ⟨rfl, rfl, rfl, by decide +kernel, rfl, by decide +kernel, by decide +kernel⟩
/-! ### _law_try -/
abbrev s__law_try : Stmt := topS 25
abbrev N__law_try : List Str := ["door", "found", "e"]
theorem sc__law_try : FnScope N__law_try ["door"] (defScope s__law_try) := ⟨rfl, rfl, rfl, by decide +kernel, rfl, by decide +kernel, by decide +kernel⟩
/-! ### are_unlike -/
abbrev s_are_unlike : Stmt := topS 19
abbrev N_are_unlike : List Str := ["comers", "comer"]
theorem sc_are_unlike : FnScope N_are_unlike ["comers"] (defScope s_are_unlike) := ⟨rfl, rfl, rfl, by decide +kernel, rfl, by decide +kernel, by decide +kernel⟩
/-! ### is_name -/
abbrev s_is_name : Stmt := topS 17
abbrev N_is_name : List Str := ["thing", "sign"]
theorem sc_is_name : FnScope N_is_name ["thing"] (defScope s_is_name) := ⟨rfl, rfl, rfl, by decide +kernel, rfl, by decide +kernel, by decide +kernel⟩
/-! ### is_from -/
abbrev s_is_from : Stmt := topS 16
abbrev N_is_from : List Str := ["thing", "low", "high"]
theorem sc_is_from : FnScope N_is_from ["thing", "low", "high"] (defScope s_is_from) := ⟨rfl, rfl, rfl, by decide +kernel, rfl, by decide +kernel, by decide +kernel⟩
/-! ### is_comer -/
abbrev s_is_comer : Stmt := topS 18
abbrev N_is_comer : List Str := ["hall", "thing"]
theorem sc_is_comer : FnScope N_is_comer ["hall", "thing"] (defScope s_is_comer) := ⟨rfl, rfl, rfl, by decide +kernel, rfl, by decide +kernel, by decide +kernel⟩
/-! ### is_seating -/
abbrev s_is_seating : Stmt := topS 20
abbrev N_is_seating : List Str := ["hall", "thing", "some", "one"]
theorem sc_is_seating : FnScope N_is_seating ["hall", "thing"] (defScope s_is_seating) := ⟨rfl, rfl, rfl, by decide +kernel, rfl, by decide +kernel, by decide +kernel⟩
/-! ### law -/
abbrev s_law : Stmt := topS 32
abbrev N_law : List Str := ["script", "cell", "deck", "hall", "comers", "text", "seating", "outs", "comer", "due", "told", "other", "gap", "odd", "new"]
theorem sc_law : FnScope N_law ["script"] (defScope s_law) := ⟨rfl, rfl, rfl, by decide +kernel, rfl, by decide +kernel, by decide +kernel⟩
structure Ad where
  a__law_deck : Addr
  d__law_deck : FuncData
  a__law_pick : Addr
  d__law_pick : FuncData
  a__law_hall : Addr
  d__law_hall : FuncData
  a__law_comers : Addr
  d__law_comers : FuncData
  a_far : Addr
  d_far : FuncData
  a_stays : Addr
  d_stays : FuncData
  a_come : Addr
  d_come : FuncData
  a_seated : Addr
  d_seated : FuncData
  a__law_far : Addr
  d__law_far : FuncData
  a__law_come : Addr
  d__law_come : FuncData
  a__law_name_of : Addr
  d__law_name_of : FuncData
  a__law_try : Addr
  d__law_try : FuncData
  a_are_unlike : Addr
  d_are_unlike : FuncData
  a_is_name : Addr
  d_is_name : FuncData
  a_is_from : Addr
  d_is_from : FuncData
  a_is_comer : Addr
  d_is_comer : FuncData
  a_is_seating : Addr
  d_is_seating : FuncData
  a_law : Addr
  d_law : FuncData
  x_SeatError : Addr
  x_Full : Addr
  x_NoComer : Addr
  x_NoCourtesy : Addr
  x_NoHall : Addr
  x_NotThere : Addr
  x_Taken : Addr
  x_TooMany : Addr
  k_law : Addr
  p_law : Addr
  t_LETTERS : Tok
abbrev qn (x : Str) : Str := (x ++ ".<locals>.") ++ "<lambda>"
abbrev cmOf (A : Ad) : CM := ⟨fun _ => 0, xcOf A.x_SeatError A.x_Full A.x_NoComer A.x_NoCourtesy A.x_NoHall A.x_NotThere A.x_Taken A.x_TooMany, [(A.p_law, qn "law")]⟩
structure Tx (K : PySem.W.Frag) (mg : Str → Option Value) (base : Heap) (A : Ad) : Prop where
  F__law_deck : Fun K "_law_deck" "_law_deck" s__law_deck A.a__law_deck A.d__law_deck
  g__law_deck : mg "_law_deck" = some (.ref A.a__law_deck)
  b__law_deck : Binds K A.d__law_deck ["cell", "turn"] []
  F__law_pick : Fun K "_law_pick" "_law_pick" s__law_pick A.a__law_pick A.d__law_pick
  g__law_pick : mg "_law_pick" = some (.ref A.a__law_pick)
  b__law_pick : Binds K A.d__law_pick ["deck", "limit"] []
  F__law_hall : Fun K "_law_hall" "_law_hall" s__law_hall A.a__law_hall A.d__law_hall
  g__law_hall : mg "_law_hall" = some (.ref A.a__law_hall)
  b__law_hall : Binds K A.d__law_hall ["deck", "most"] []
  F__law_comers : Fun K "_law_comers" "_law_comers" s__law_comers A.a__law_comers A.d__law_comers
  g__law_comers : mg "_law_comers" = some (.ref A.a__law_comers)
  b__law_comers : Binds K A.d__law_comers ["deck", "hall", "most"] []
  F_far : Fun K "far" "far" s_far A.a_far A.d_far
  g_far : mg "far" = some (.ref A.a_far)
  b_far : Binds K A.d_far ["hall", "comer", "seat"] []
  F_stays : Fun K "stays" "stays" s_stays A.a_stays A.d_stays
  g_stays : mg "stays" = some (.ref A.a_stays)
  b_stays : Binds K A.d_stays ["hall", "there", "comer", "seat"] []
  F_come : Fun K "come" "come" s_come A.a_come A.d_come
  g_come : mg "come" = some (.ref A.a_come)
  b_come : Binds K A.d_come ["hall", "seating", "comer"] []
  F_seated : Fun K "seated" "seated" s_seated A.a_seated A.d_seated
  g_seated : mg "seated" = some (.ref A.a_seated)
  b_seated : Binds K A.d_seated ["hall", "comers"] []
  F__law_far : Fun K "_law_far" "_law_far" s__law_far A.a__law_far A.d__law_far
  g__law_far : mg "_law_far" = some (.ref A.a__law_far)
  b__law_far : Binds K A.d__law_far ["hall", "comer", "seat"] []
  F__law_come : Fun K "_law_come" "_law_come" s__law_come A.a__law_come A.d__law_come
  g__law_come : mg "_law_come" = some (.ref A.a__law_come)
  b__law_come : Binds K A.d__law_come ["hall", "seating", "comer"] []
  F__law_name_of : Fun K "_law_name_of" "_law_name_of" s__law_name_of A.a__law_name_of A.d__law_name_of
  g__law_name_of : mg "_law_name_of" = some (.ref A.a__law_name_of)
  b__law_name_of : Binds K A.d__law_name_of ["e"] []
  F__law_try : Fun K "_law_try" "_law_try" s__law_try A.a__law_try A.d__law_try
  g__law_try : mg "_law_try" = some (.ref A.a__law_try)
  b__law_try : Binds K A.d__law_try ["door"] []
  F_are_unlike : Fun K "are_unlike" "are_unlike" s_are_unlike A.a_are_unlike A.d_are_unlike
  g_are_unlike : mg "are_unlike" = some (.ref A.a_are_unlike)
  b_are_unlike : Binds K A.d_are_unlike ["comers"] []
  F_is_name : Fun K "is_name" "is_name" s_is_name A.a_is_name A.d_is_name
  g_is_name : mg "is_name" = some (.ref A.a_is_name)
  b_is_name : Binds K A.d_is_name ["thing"] []
  F_is_from : Fun K "is_from" "is_from" s_is_from A.a_is_from A.d_is_from
  g_is_from : mg "is_from" = some (.ref A.a_is_from)
  b_is_from : Binds K A.d_is_from ["thing", "low", "high"] []
  F_is_comer : Fun K "is_comer" "is_comer" s_is_comer A.a_is_comer A.d_is_comer
  g_is_comer : mg "is_comer" = some (.ref A.a_is_comer)
  b_is_comer : Binds K A.d_is_comer ["hall", "thing"] []
  F_is_seating : Fun K "is_seating" "is_seating" s_is_seating A.a_is_seating A.d_is_seating
  g_is_seating : mg "is_seating" = some (.ref A.a_is_seating)
  b_is_seating : Binds K A.d_is_seating ["hall", "thing"] []
  F_law : Fun K "law" "law" s_law A.a_law A.d_law
  g_law : mg "law" = some (.ref A.a_law)
  b_law : Binds K A.d_law ["script"] []
  cd_law : A.d_law.code = .ref A.k_law
  tb_law : LamX.TabB base mg A.k_law A.p_law
  g_SeatError : mg "SeatError" = some (.ref A.x_SeatError)
  g_Full : mg "Full" = some (.ref A.x_Full)
  g_NoComer : mg "NoComer" = some (.ref A.x_NoComer)
  g_NoCourtesy : mg "NoCourtesy" = some (.ref A.x_NoCourtesy)
  g_NoHall : mg "NoHall" = some (.ref A.x_NoHall)
  g_NotThere : mg "NotThere" = some (.ref A.x_NotThere)
  g_Taken : mg "Taken" = some (.ref A.x_Taken)
  g_TooMany : mg "TooMany" = some (.ref A.x_TooMany)
  N_Full : NmC K (cmOf A).xc 1
  R_Full : XcR K A.x_Full
  n_ValueError : mg "ValueError" = none
  n_all : mg "all" = none
  n_bool : mg "bool" = none
  n_int : mg "int" = none
  n_isinstance : mg "isinstance" = none
  n_len : mg "len" = none
  n_list : mg "list" = none
  n_min : mg "min" = none
  n_range : mg "range" = none
  n_set : mg "set" = none
  n_str : mg "str" = none
  n_tuple : mg "tuple" = none
  n_zip : mg "zip" = none
  c_LETTERS : mg "LETTERS" = some (.str "abcdefghijklmnopqrstuvwxyz" A.t_LETTERS)
section
variable {P : Program} {w : World} {K : PySem.W.Frag} {mg : Str → Option Value} {base : Heap} {A : Ad}
theorem ns_ok (T : Tx K mg base A) : ∀ n ∈ [1], NmC K (cmOf A).xc n := by
  intro n hn
  simp only [List.mem_cons, List.not_mem_nil, or_false] at hn
  rcases hn with rfl
  exact T.N_Full
theorem hu_law (T : Tx K mg base A) : ∀ p ∈ (cmOf A).T, p.1 = A.p_law → p.2 = qn "law" := by
  intro p hp e
  simp only [cmOf, List.mem_cons, List.not_mem_nil, or_false] at hp
  subst hp
  rfl
theorem ok__law_deck (T : Tx K mg base A) : FnOk P w K mg base CX0 1 A.a__law_deck A.d__law_deck ["cell", "turn"] (spF ⟨K, (cmOf A), w⟩ m__law_deck) :=
  fn_ok T.F__law_deck sc__law_deck (by decide) fun cdv A outer s H E hr => (
    (yss_cons (ys_if (yt_cmp op_ge sn_ge (ye_var 0) (ye_op op_pow sn_pow ye_int ye_int) (nomark _)) (yss_one (ys_ret (ye_lst (ya_cons (ye_op op_sub sn_sub (ye_var 0) (ye_op op_pow sn_pow ye_int ye_int)) (ya_cons (ye_op op_mod sn_mod (ye_var 0) ye_int) (ya_cons (ye_var 1) ya_nil)))))) yss_nil)
    (yss_one (ys_ret (ye_lst (ya_cons ye_int (ya_cons (ye_op op_mod sn_mod (ye_var 0) ye_int) (ya_cons (ye_var 1) ya_nil))))))))
theorem ok__law_pick (T : Tx K mg base A) : FnOk P w K mg base CX0 1 A.a__law_pick A.d__law_pick ["deck", "limit"] (spF ⟨K, (cmOf A), w⟩ m__law_pick) :=
  fn_ok T.F__law_pick sc__law_pick (by decide) fun cdv A outer s H E hr => (
    (yss_cons (ys_if (yt_cmp op_gt sn_gt (ye_ix or_ix sn_ix (ye_var 0) ye_int (fun _ _ => rfl)) ye_int (nomark _)) (yss_cons (ys_set 2 sc__law_pick.nd rfl (by first | exact Or.inl rfl | exact Or.inr rfl) (ye_op op_mod sn_mod (ye_ix or_ix sn_ix (ye_var 0) ye_int (fun _ _ => rfl)) (ye_var 1)))
    (yss_cons (ys_asg (ye_op op_fdiv sn_fdiv (ye_ix or_ix sn_ix (ye_var 0) ye_int (fun _ _ => rfl)) (ye_var 1)) (yg_sub (sl := []) (ye_var 0) ye_int set_list sn_setL))
    (yss_one (ys_ret (ye_var 2))))) yss_nil)
    (yss_cons (ys_asg (ye_op or_add sn_add (ye_ix or_ix sn_ix (ye_var 0) ye_int (fun _ _ => rfl)) ye_int) (yg_sub (sl := []) (ye_var 0) ye_int set_list sn_setL))
    (yss_cons (ys_set 3 sc__law_pick.nd rfl (by first | exact Or.inl rfl | exact Or.inr rfl) (ye_op op_mod sn_mod (ye_op op_pow sn_pow (ye_op or_add sn_add (ye_ix or_ix sn_ix (ye_var 0) ye_int (fun _ _ => rfl)) (ye_op op_mul sn_mul ye_int (ye_ix or_ix sn_ix (ye_var 0) ye_int (fun _ _ => rfl)))) ye_int) ye_int))
    (yss_cons (ys_set 2 sc__law_pick.nd rfl (by first | exact Or.inl rfl | exact Or.inr rfl) (ye_op op_fdiv sn_fdiv (ye_op op_mod sn_mod (ye_op op_pow sn_pow (ye_op or_add sn_add (ye_var 3) (ye_op op_mul sn_mul ye_int (ye_ix or_ix sn_ix (ye_var 0) ye_int (fun _ _ => rfl)))) ye_int) ye_int) ye_int))
    (yss_cons (ys_if (yt_cmp op_gt sn_gt (ye_var 1) ye_int (nomark _)) (yss_one (ys_ret (ye_op op_mod sn_mod (ye_op or_add sn_add (ye_op op_mul sn_mul (ye_var 2) ye_int) (ye_var 3)) (ye_var 1)))) yss_nil)
    (yss_one (ys_ret (ye_op op_mod sn_mod (ye_var 2) (ye_var 1))))))))))
theorem ok__law_hall (T : Tx K mg base A) : FnOk P w K mg base CX0 2 A.a__law_hall A.d__law_hall ["deck", "most"] (spF ⟨K, (cmOf A), w⟩ m__law_hall) :=
  fn_ok T.F__law_hall sc__law_hall (by decide) fun cdv A outer s H E hr => (
    (yss_cons (ys_set 2 sc__law_hall.nd rfl (by first | exact Or.inl rfl | exact Or.inr rfl) (ye_gc (ye_ix or_ix sn_ix (ye_lst (ya_cons (ye_var 1) (ya_cons (ye_op or_add sn_add ye_int (ye_call (ok__law_pick T) (hr.mono (by decide)) (by rfl) T.g__law_pick T.F__law_pick.kp T.b__law_pick (ya_cons (ye_var 0) (ya_cons (ye_var 1) ya_nil)))) ya_nil))) (ye_call (ok__law_pick T) (hr.mono (by decide)) (by rfl) T.g__law_pick T.F__law_pick.kp T.b__law_pick (ya_cons (ye_var 0) (ya_cons ye_int ya_nil))) (fun _ _ => rfl))))
    (yss_one (ys_ret (ye_tup (ya_cons (ye_var 2) (ya_cons (ye_cmp (op_eqP hr.units) sn_eq (ye_call (ok__law_pick T) (hr.mono (by decide)) (by rfl) T.g__law_pick T.F__law_pick.kp T.b__law_pick (ya_cons (ye_var 0) (ya_cons ye_int ya_nil))) ye_int (nomark _)) (ya_cons (ye_ix or_ix sn_ix (ye_lst (ya_cons ye_str (ya_cons ye_str (ya_cons ye_str ya_nil)))) (ye_call (ok__law_pick T) (hr.mono (by decide)) (by rfl) T.g__law_pick T.F__law_pick.kp T.b__law_pick (ya_cons (ye_var 0) (ya_cons ye_int ya_nil))) (fun _ _ => rfl)) ya_nil))))))))
theorem ok__law_comers (T : Tx K mg base A) : FnOk P w K mg base CX0 2 A.a__law_comers A.d__law_comers ["deck", "hall", "most"] (spF ⟨K, (cmOf A), w⟩ m__law_comers) :=
  fn_ok T.F__law_comers sc__law_comers (by decide) fun cdv A outer s H E hr => (
    (yss_cons (ys_set 3 sc__law_comers.nd rfl (by first | exact Or.inl rfl | exact Or.inr rfl) (ye_lst (ya_cons ye_str (ya_cons ye_str (ya_cons ye_str (ya_cons ye_str (ya_cons ye_str (ya_cons ye_str (ya_cons ye_str (ya_cons ye_str (ya_cons ye_str (ya_cons ye_str (ya_cons ye_str (ya_cons ye_str ya_nil))))))))))))))
    (yss_cons (ys_set 4 sc__law_comers.nd rfl (by first | exact Or.inl rfl | exact Or.inr rfl) (ye_if (yt_val (ye_ix or_ix sn_ix (ye_var 1) ye_int (fun _ _ => rfl))) (ye_callB (call_min2 rfl) sn_min2 (by rfl) T.n_min (by decide +kernel) (ya_cons (ye_var 2) (ya_cons (ye_ix or_ix sn_ix (ye_var 1) ye_int (fun _ _ => rfl)) ya_nil))) (ye_var 2)))
    (yss_cons (ys_set 5 sc__law_comers.nd rfl (by first | exact Or.inl rfl | exact Or.inr rfl) (ye_call (ok__law_pick T) (hr.mono (by decide)) (by rfl) T.g__law_pick T.F__law_pick.kp T.b__law_pick (ya_cons (ye_var 0) (ya_cons (ye_ix or_ix sn_ix (ye_var 1) ye_int (fun _ _ => rfl)) ya_nil))))
    (yss_cons (ys_set 6 sc__law_comers.nd rfl (by first | exact Or.inl rfl | exact Or.inr rfl) (ye_lst ya_nil))
    (yss_cons (ys_for PassesOwn.never rfl (yi_r1 (by rfl) T.n_range (ya_cons (ye_ix or_ix sn_ix (ye_lst (ya_cons (ye_var 4) (ya_cons (ye_call (ok__law_pick T) (hr.mono (by decide)) (by rfl) T.g__law_pick T.F__law_pick.kp T.b__law_pick (ya_cons (ye_var 0) (ya_cons (ye_op or_add sn_add (ye_var 4) ye_int) ya_nil))) ya_nil))) (ye_call (ok__law_pick T) (hr.mono (by decide)) (by rfl) T.g__law_pick T.F__law_pick.kp T.b__law_pick (ya_cons (ye_var 0) (ya_cons ye_int ya_nil))) (fun _ _ => rfl)) ya_nil)) (yg_name 7 sc__law_comers.nd rfl (by first | exact Or.inl rfl | exact Or.inr rfl)) (yss_cons (ys_set 8 sc__law_comers.nd rfl (by first | exact Or.inl rfl | exact Or.inr rfl) (ye_gc (ye_ix or_ix sn_ix (ye_lst (ya_cons (ye_op op_mod sn_mod (ye_op or_add sn_add (ye_var 5) (ye_call (ok__law_pick T) (hr.mono (by decide)) (by rfl) T.g__law_pick T.F__law_pick.kp T.b__law_pick (ya_cons (ye_var 0) (ya_cons ye_int ya_nil)))) (ye_ix or_ix sn_ix (ye_var 1) ye_int (fun _ _ => rfl))) (ya_cons (ye_call (ok__law_pick T) (hr.mono (by decide)) (by rfl) T.g__law_pick T.F__law_pick.kp T.b__law_pick (ya_cons (ye_var 0) (ya_cons (ye_ix or_ix sn_ix (ye_var 1) ye_int (fun _ _ => rfl)) ya_nil))) ya_nil))) (ye_call (ok__law_pick T) (hr.mono (by decide)) (by rfl) T.g__law_pick T.F__law_pick.kp T.b__law_pick (ya_cons (ye_var 0) (ya_cons ye_int ya_nil))) (fun _ _ => rfl))))
    (yss_one (ys_expr (ye_met (T := .list) PySem.F.plainAttrs_list PySem.F.slot_list_append PySem.F.type_list_append mt_append sn_append (ye_var 6) (ya_cons (ye_tup (ya_cons (ye_met (T := .list) PySem.F.plainAttrs_list PySem.F.slot_list_pop PySem.F.type_list_pop mt_popAt sn_popAt (ye_var 3) (ya_cons (ye_call (ok__law_pick T) (hr.mono (by decide)) (by rfl) T.g__law_pick T.F__law_pick.kp T.b__law_pick (ya_cons (ye_var 0) (ya_cons (ye_callB cr_len sn_len (by rfl) T.n_len PySem.boot_len (ya_cons (ye_var 3) ya_nil)) ya_nil))) ya_nil)) (ya_cons (ye_var 8) ya_nil))) ya_nil))))))
    (yss_one (ys_ret (ye_var 6)))))))))
theorem ok_far (T : Tx K mg base A) : FnOk P w K mg base CX0 1 A.a_far A.d_far ["hall", "comer", "seat"] (spF ⟨K, (cmOf A), w⟩ m_far) :=
  fn_ok T.F_far sc_far (by decide) fun cdv A outer s H E hr => (
    (yss_one (ys_ret (ye_op op_mod sn_mod (ye_op op_sub sn_sub (ye_var 2) (ye_ix or_ix sn_ix (ye_var 1) ye_int (fun _ _ => rfl))) (ye_ix or_ix sn_ix (ye_var 0) ye_int (fun _ _ => rfl))))))
theorem ok_stays (T : Tx K mg base A) : FnOk P w K mg base CX0 2 A.a_stays A.d_stays ["hall", "there", "comer", "seat"] (spF ⟨K, (cmOf A), w⟩ m_stays) :=
  fn_ok T.F_stays sc_stays (by decide) fun cdv A outer s H E hr => (
    (yss_cons (ys_if (yt_cmp (op_eqP hr.units) sn_eq (ye_ix or_ix sn_ix (ye_var 0) ye_int (fun _ _ => rfl)) ye_str (nomark _)) (yss_one (ys_ret ye_bl)) yss_nil)
    (yss_cons (ys_if (yt_cmp (op_eqP hr.units) sn_eq (ye_ix or_ix sn_ix (ye_var 0) ye_int (fun _ _ => rfl)) ye_str (nomark _)) (yss_one (ys_ret ye_bl)) yss_nil)
    (yss_one (ys_ret (ye_cmp (op_ltD hr.units) sn_ltD (ye_tup (ya_cons (ye_un un_neg sn_neg (ye_callI (ok_far T) (hr.mono (by decide)) (by rfl) T.g_far T.F_far.kp T.b_far (ya_cons (ye_var 0) (ya_cons (ye_var 1) (ya_cons (ye_var 3) ya_nil))))) (ya_cons (ye_ix or_ix sn_ix (ye_var 1) ye_int (fun _ _ => rfl)) ya_nil))) (ye_tup (ya_cons (ye_un un_neg sn_neg (ye_callI (ok_far T) (hr.mono (by decide)) (by rfl) T.g_far T.F_far.kp T.b_far (ya_cons (ye_var 0) (ya_cons (ye_var 2) (ya_cons (ye_var 3) ya_nil))))) (ya_cons (ye_ix or_ix sn_ix (ye_var 2) ye_int (fun _ _ => rfl)) ya_nil))) (nomark _)))))))
theorem ok_come (T : Tx K mg base A) : FnOk P w K mg base (L2N.CX P w) 3 A.a_come A.d_come ["hall", "seating", "comer"] (spX ⟨K, (cmOf A), w⟩ m_come) :=
  fn_okX T.F_come sc_come (by decide) fun cdv A outer s H E hr => (
    (yss_cons (ys_asg (ye_var 0) (yg_tup (sl := [3, 4, 5]) rfl (ygs_cons (yg_name 3 sc_come.nd rfl (by first | exact Or.inl rfl | exact Or.inr rfl)) (ygs_cons (yg_name 4 sc_come.nd rfl (by first | exact Or.inl rfl | exact Or.inr rfl)) (ygs_cons (yg_name 5 sc_come.nd rfl (by first | exact Or.inl rfl | exact Or.inr rfl)) ygs_nil (by decide)) (by decide)) (by decide))))
    (yss_cons (ys_if (PW.pt (yw_and (yt_val (ye_var 4)) (yw_one (yt_cmp (op_notInP hr.units) sn_notIn ye_non (ye_var 1) (by rfl))))) (yss_one (ys_raiseX rfl (L2N.takes_of rfl rfl rfl rfl) T.R_Full T.g_Full (by rfl) (by decide))) yss_nil)
    (yss_cons (ys_set 6 sc_come.nd rfl (by first | exact Or.inl rfl | exact Or.inr rfl) (ye_callTy call_list_of sn_listOf (by rfl) T.n_list (by decide +kernel) (ya_cons (ye_var 1) ya_nil)))
    (yss_cons (ys_set 7 sc_come.nd rfl (by first | exact Or.inl rfl | exact Or.inr rfl) (ye_ix or_ix sn_ix (ye_var 2) ye_int (fun _ _ => rfl)))
    (yss_cons (ys_while (L2.passes_of rfl) (yt_cmp op_notN sn_isNot (ye_ix or_ix sn_ix (ye_var 6) (ye_var 7) (fun _ _ => rfl)) ye_non (nomark _)) (yss_cons (ys_set 8 sc_come.nd rfl (by first | exact Or.inl rfl | exact Or.inr rfl) (ye_ix or_ix sn_ix (ye_var 6) (ye_var 7) (fun _ _ => rfl)))
    (yss_cons (ys_if (yt_not (yt_val (ye_callI (ok_stays T) (hr.mono (by decide)) (by rfl) T.g_stays T.F_stays.kp T.b_stays (ya_cons (ye_var 0) (ya_cons (ye_var 8) (ya_cons (ye_var 2) (ya_cons (ye_var 7) ya_nil))))))) (yss_cons (ys_asg (ye_var 2) (yg_sub (sl := []) (ye_var 6) (ye_var 7) set_list sn_setL))
    (yss_one (ys_set 2 sc_come.nd rfl (by first | exact Or.inl rfl | exact Or.inr rfl) (ye_var 8)))) yss_nil)
    (yss_cons (ys_if (PW.pt (yw_and (yt_not (yt_val (ye_var 4))) (yw_one (yt_cmp (op_eqP hr.units) sn_eq (ye_var 7) (ye_op op_sub sn_sub (ye_var 3) ye_int) (nomark _))))) (yss_one (ys_ret (ye_tup (ya_cons (ye_callTy cr_tupP sn_tupOf (by rfl) T.n_tuple (by decide +kernel) (ya_cons (ye_var 6) ya_nil)) (ya_cons (ye_var 2) ya_nil))))) yss_nil)
    (yss_one (ys_set 7 sc_come.nd rfl (by first | exact Or.inl rfl | exact Or.inr rfl) (ye_op op_mod sn_mod (ye_op or_add sn_add (ye_var 7) ye_int) (ye_var 3))))))))
    (yss_cons (ys_asg (ye_var 2) (yg_sub (sl := []) (ye_var 6) (ye_var 7) set_list sn_setL))
    (yss_one (ys_ret (ye_tup (ya_cons (ye_callTy cr_tupP sn_tupOf (by rfl) T.n_tuple (by decide +kernel) (ya_cons (ye_var 6) ya_nil)) (ya_cons ye_non ya_nil))))))))))))
theorem ok_seated (T : Tx K mg base A) : FnOk P w K mg base CX0 4 A.a_seated A.d_seated ["hall", "comers"] (spF ⟨K, (cmOf A), w⟩ m_seated) :=
  fn_ok T.F_seated sc_seated (by decide) fun cdv A outer s H E hr => (
    (yss_cons (ys_set 2 sc_seated.nd rfl (by first | exact Or.inl rfl | exact Or.inr rfl) (ye_op op_repA sn_repT (ye_tup (ya_cons ye_non ya_nil)) (ye_ix or_ix sn_ix (ye_var 0) ye_int (fun _ _ => rfl))))
    (yss_cons (ys_set 3 sc_seated.nd rfl (by first | exact Or.inl rfl | exact Or.inr rfl) (ye_lst ya_nil))
    (yss_cons (ys_for PassesOwn.never rfl (yi_seq (ye_var 1)) (yg_name 4 sc_seated.nd rfl (by first | exact Or.inl rfl | exact Or.inr rfl)) (yss_cons (ys_asg (ye_callI (quietF (ok_come T)) (hr.mono (by decide)) (by rfl) T.g_come T.F_come.kp T.b_come (ya_cons (ye_var 0) (ya_cons (ye_var 2) (ya_cons (ye_var 4) ya_nil)))) (yg_tup (sl := [2, 5]) rfl (ygs_cons (yg_name 2 sc_seated.nd rfl (by first | exact Or.inl rfl | exact Or.inr rfl)) (ygs_cons (yg_name 5 sc_seated.nd rfl (by first | exact Or.inl rfl | exact Or.inr rfl)) ygs_nil (by decide)) (by decide))))
    (yss_one (ys_if (yt_cmp op_notN sn_isNot (ye_var 5) ye_non (nomark _)) (yss_one (ys_expr (ye_met (T := .list) PySem.F.plainAttrs_list PySem.F.slot_list_append PySem.F.type_list_append mt_append sn_append (ye_var 3) (ya_cons (ye_var 5) ya_nil)))) yss_nil))))
    (yss_one (ys_ret (ye_tup (ya_cons (ye_var 2) (ya_cons (ye_var 3) ya_nil)))))))))
theorem ok__law_far (T : Tx K mg base A) : FnOk P w K mg base CX0 1 A.a__law_far A.d__law_far ["hall", "comer", "seat"] (spF ⟨K, (cmOf A), w⟩ m__law_far) :=
  fn_ok T.F__law_far sc__law_far (by decide) fun cdv A outer s H E hr => (
    (yss_cons (ys_set 3 sc__law_far.nd rfl (by first | exact Or.inl rfl | exact Or.inr rfl) ye_int)
    (yss_cons (ys_while PassesOwn.never (yt_cmp (op_neP hr.units) sn_ne (ye_op op_mod sn_mod (ye_op or_add sn_add (ye_ix or_ix sn_ix (ye_var 1) ye_int (fun _ _ => rfl)) (ye_var 3)) (ye_ix or_ix sn_ix (ye_var 0) ye_int (fun _ _ => rfl))) (ye_var 2) (nomark _)) (yss_one (ys_set 3 sc__law_far.nd rfl (by first | exact Or.inl rfl | exact Or.inr rfl) (ye_op or_add sn_add (ye_var 3) ye_int))))
    (yss_one (ys_ret (ye_var 3))))))
theorem ok__law_come (T : Tx K mg base A) : FnOk P w K mg base CX0 2 A.a__law_come A.d__law_come ["hall", "seating", "comer"] (spF ⟨K, (cmOf A), w⟩ m__law_come) :=
  fn_ok T.F__law_come sc__law_come (by decide) fun cdv A outer s H E hr => (
    (yss_cons (ys_par2 (i := 3) (j := 4) rfl sc__law_come.nd rfl rfl  (by decide)  rfl rfl  (ya_cons (ye_callTy call_list_of sn_listOf (by rfl) T.n_list (by decide +kernel) (ya_cons (ye_var 1) ya_nil)) (ya_cons (ye_ix or_ix sn_ix (ye_var 2) ye_int (fun _ _ => rfl)) ya_nil)) (by rfl))
    (yss_cons (ys_while PassesOwn.never (yt_cmp or_lt sn_lt (ye_var 4) (ye_ix or_ix sn_ix (ye_var 0) ye_int (fun _ _ => rfl)) (nomark _)) (yss_cons (ys_set 5 sc__law_come.nd rfl (by first | exact Or.inl rfl | exact Or.inr rfl) (ye_ix or_ix sn_ix (ye_var 3) (ye_var 4) (fun _ _ => rfl)))
    (yss_cons (ys_if (yt_cmp op_isN sn_is (ye_var 5) ye_non (nomark _)) (yss_cons (ys_asg (ye_var 2) (yg_sub (sl := []) (ye_var 3) (ye_var 4) set_list sn_setL))
    (yss_one (ys_ret (ye_tup (ya_cons (ye_callTy cr_tupP sn_tupOf (by rfl) T.n_tuple (by decide +kernel) (ya_cons (ye_var 3) ya_nil)) (ya_cons ye_non ya_nil)))))) yss_nil)
    (yss_cons (ys_par2 (i := 6) (j := 7) rfl sc__law_come.nd rfl rfl  (by decide)  rfl rfl  (ya_cons (ye_callI (ok__law_far T) (hr.mono (by decide)) (by rfl) T.g__law_far T.F__law_far.kp T.b__law_far (ya_cons (ye_var 0) (ya_cons (ye_var 5) (ya_cons (ye_var 4) ya_nil)))) (ya_cons (ye_callI (ok__law_far T) (hr.mono (by decide)) (by rfl) T.g__law_far T.F__law_far.kp T.b__law_far (ya_cons (ye_var 0) (ya_cons (ye_var 2) (ya_cons (ye_var 4) ya_nil)))) ya_nil)) (by rfl))
    (yss_cons (ys_set 8 sc__law_come.nd rfl (by first | exact Or.inl rfl | exact Or.inr rfl) (yv_or (ye_cmp (op_eqP hr.units) sn_eq (ye_ix or_ix sn_ix (ye_var 0) ye_int (fun _ _ => rfl)) ye_str (nomark _)) (yv_one (yv_and (ye_cmp (op_eqP hr.units) sn_eq (ye_ix or_ix sn_ix (ye_var 0) ye_int (fun _ _ => rfl)) ye_str (nomark _)) (yv_one (yv_or (ye_cmp op_gt sn_gt (ye_var 6) (ye_var 7) (nomark _)) (yv_one (yv_and (ye_cmp (op_eqP hr.units) sn_eq (ye_var 6) (ye_var 7) (nomark _)) (yv_one (ye_cmp or_lt sn_lt (ye_ix or_ix sn_ix (ye_var 5) ye_int (fun _ _ => rfl)) (ye_ix or_ix sn_ix (ye_var 2) ye_int (fun _ _ => rfl)) (nomark _)))))))))))
    (yss_cons (ys_if (yt_not (yt_val (ye_var 8))) (yss_one (ys_asg (ye_tup (ya_cons (ye_var 2) (ya_cons (ye_var 5) ya_nil))) (yg_tup (sl := [2, 3, 4]) rfl (ygs_cons (yg_sub (sl := []) (ye_var 3) (ye_var 4) set_list sn_setL) (ygs_cons (yg_name 2 sc__law_come.nd rfl (by first | exact Or.inl rfl | exact Or.inr rfl)) ygs_nil (by decide)) (by decide))))) yss_nil)
    (yss_cons (ys_set 4 sc__law_come.nd rfl (by first | exact Or.inl rfl | exact Or.inr rfl) (ye_op or_add sn_add (ye_var 4) ye_int))
    (yss_one (ys_if (PW.pt (yw_and (yt_val (ye_ix or_ix sn_ix (ye_var 0) ye_int (fun _ _ => rfl))) (yw_one (yt_cmp (op_eqP hr.units) sn_eq (ye_var 4) (ye_ix or_ix sn_ix (ye_var 0) ye_int (fun _ _ => rfl)) (nomark _))))) (yss_one (ys_set 4 sc__law_come.nd rfl (by first | exact Or.inl rfl | exact Or.inr rfl) ye_int)) yss_nil)))))))))
    (yss_one (ys_ret (ye_tup (ya_cons (ye_callTy cr_tupP sn_tupOf (by rfl) T.n_tuple (by decide +kernel) (ya_cons (ye_var 3) ya_nil)) (ya_cons (ye_var 2) ya_nil))))))))
theorem nb (T : Tx K mg base A) : NmBody P w K mg base (cmOf A).xc s__law_name_of A.a__law_name_of := by
  intro cdv A' outer s H p n hx C hz hf
  exact (pss_cons (ps_set (i := 1) sc__law_name_of.nd rfl (.inl rfl) (pe_lst (pa_cons (pe_callB (call_isP List.mem_cons_self C hz hf) (by rfl) T.n_isinstance (by decide +kernel) (pa_cons (pe_var (i := 0) rfl (.inl rfl)) (pa_cons (pe_glob (v := .ref A.x_Full) (by rfl) T.g_Full rfl) pa_nil))) (pa_cons (pe_callB (call_isP List.mem_cons_self C hz hf) (by rfl) T.n_isinstance (by decide +kernel) (pa_cons (pe_var (i := 0) rfl (.inl rfl)) (pa_cons (pe_glob (v := .ref A.x_NoComer) (by rfl) T.g_NoComer rfl) pa_nil))) (pa_cons (pe_callB (call_isP List.mem_cons_self C hz hf) (by rfl) T.n_isinstance (by decide +kernel) (pa_cons (pe_var (i := 0) rfl (.inl rfl)) (pa_cons (pe_glob (v := .ref A.x_NoCourtesy) (by rfl) T.g_NoCourtesy rfl) pa_nil))) (pa_cons (pe_callB (call_isP List.mem_cons_self C hz hf) (by rfl) T.n_isinstance (by decide +kernel) (pa_cons (pe_var (i := 0) rfl (.inl rfl)) (pa_cons (pe_glob (v := .ref A.x_NoHall) (by rfl) T.g_NoHall rfl) pa_nil))) pa_nil)))))) (pss_cons (ps_set (i := 1) sc__law_name_of.nd rfl (.inl rfl) (pe_op op_cat (pe_var (i := 1) rfl (.inl rfl)) (pe_lst (pa_cons (pe_callB (call_isP List.mem_cons_self C hz hf) (by rfl) T.n_isinstance (by decide +kernel) (pa_cons (pe_var (i := 0) rfl (.inl rfl)) (pa_cons (pe_glob (v := .ref A.x_NotThere) (by rfl) T.g_NotThere rfl) pa_nil))) (pa_cons (pe_callB (call_isP List.mem_cons_self C hz hf) (by rfl) T.n_isinstance (by decide +kernel) (pa_cons (pe_var (i := 0) rfl (.inl rfl)) (pa_cons (pe_glob (v := .ref A.x_Taken) (by rfl) T.g_Taken rfl) pa_nil))) (pa_cons (pe_callB (call_isP List.mem_cons_self C hz hf) (by rfl) T.n_isinstance (by decide +kernel) (pa_cons (pe_var (i := 0) rfl (.inl rfl)) (pa_cons (pe_glob (v := .ref A.x_TooMany) (by rfl) T.g_TooMany rfl) pa_nil))) (pa_cons (pe_callB (call_isP List.mem_cons_self C hz hf) (by rfl) T.n_isinstance (by decide +kernel) (pa_cons (pe_var (i := 0) rfl (.inl rfl)) (pa_cons (pe_bltn (v := .ty "ValueError") (by rfl) T.n_ValueError (by decide +kernel) rfl) pa_nil))) pa_nil))))))) (pss_cons (ps_set (i := 2) sc__law_name_of.nd rfl (.inl rfl) (pe_lst (pa_cons pe_str (pa_cons pe_str (pa_cons pe_str (pa_cons pe_str (pa_cons pe_str (pa_cons pe_str (pa_cons pe_str (pa_cons pe_str pa_nil)))))))))) (pss_one (ps_ret (pe_met (T := .str) PySem.F.plainAttrs_str PySem.F.slot_str_join PySem.F.type_str_join mt_join pe_str (pa_cons (pe_lcX (own := [("title", 3), ("kind", 4)]) hx sc__law_name_of.nd (pix_zip (by rfl) T.n_zip (pa_cons (pe_var (i := 2) rfl (.inl rfl)) (pa_cons (pe_var (i := 1) rfl (.inl rfl)) pa_nil))) (blkOk_by (own := [("title", 3), ("kind", 4)]) (N := N__law_name_of) (sc := defScope s__law_name_of) (by decide +kernel)) (fun _ _ _ _ _ h => pg_tupX h (pgs_cons (pg_name (i := 3) sc__law_name_of.nd rfl (.inl rfl)) (pgs_cons (pg_name (i := 4) sc__law_name_of.nd rfl (.inl rfl)) pgs_nil))) (fun _ _ _ _ _ => pts_one (pt_val (pe_var (i := 4) rfl (.inl rfl)))) (fun _ _ _ _ _ => (pe_var (i := 3) rfl (.inl rfl)))) pa_nil)))))))
theorem ok_are_unlike (T : Tx K mg base A) : FnOk P w K mg base CX0 1 A.a_are_unlike A.d_are_unlike ["comers"] (spF ⟨K, (cmOf A), w⟩ m_are_unlike) :=
  fn_ok T.F_are_unlike sc_are_unlike (by decide) fun cdv A outer s H E hr => (
    (yss_one (ys_ret (ye_cmp (op_eqP hr.units) sn_eq (ye_lenSet rfl (by rfl) T.n_len (by rfl) T.n_set (ye_lc [("comer", 1)] rfl sc_are_unlike.nd (yi_seq (ye_var 0)) (blkOk_by (own := [("comer", 1)]) (N := N_are_unlike) (sc := defScope s_are_unlike) (by decide +kernel)) (fun _ _ _ _ _ => (yg_name 1 sc_are_unlike.nd rfl (by first | exact Or.inl rfl | exact Or.inr rfl))) (fun _ _ _ _ _ => yts_nil) (fun _ _ _ _ _ => (ye_ix or_ix sn_ix (ye_var 1) ye_int (fun _ _ => rfl))) (by decide))) (ye_callB cr_len sn_len (by rfl) T.n_len PySem.boot_len (ya_cons (ye_var 0) ya_nil)) (nomark _)))))
theorem ok_is_name (T : Tx K mg base A) : FnOk P w K mg base CX0 1 A.a_is_name A.d_is_name ["thing"] (spF ⟨K, (cmOf A), w⟩ m_is_name) :=
  fn_ok T.F_is_name sc_is_name (by decide) fun cdv A outer s H E hr => (
    (yss_one (ys_ret (yv_and (ye_isi (by rfl) T.n_isinstance (by decide +kernel) (by rfl) T.n_str (by decide +kernel) (by decide) (ye_var 0)) (yv_and (ye_chain or_le or_le sn_le sn_le ye_int (ye_callB cr_len sn_len (by rfl) T.n_len PySem.boot_len (ya_cons (ye_var 0) ya_nil)) ye_int (by rfl)) (yv_one (ye_callB (cr_all rfl) sn_all (by rfl) T.n_all (by decide +kernel) (ya_cons (ye_lc [("sign", 1)] rfl sc_is_name.nd (yi_str (ye_var 0)) (blkOk_by (own := [("sign", 1)]) (N := N_is_name) (sc := defScope s_is_name) (by decide +kernel)) (fun _ _ _ _ _ => (yg_name 1 sc_is_name.nd rfl (by first | exact Or.inl rfl | exact Or.inr rfl))) (fun _ _ _ _ _ => yts_nil) (fun _ _ _ _ _ => (ye_cmp op_in_str sn_inS (ye_var 1) (ye_glob (y := (V.str "abcdefghijklmnopqrstuvwxyz")) (by rfl) T.c_LETTERS ⟨_, rfl⟩ (fun _ _ _ => (.str _))) (by rfl))) (by decide)) ya_nil))))))))
theorem ok_is_from (T : Tx K mg base A) : FnOk P w K mg base CX0 1 A.a_is_from A.d_is_from ["thing", "low", "high"] (spF ⟨K, (cmOf A), w⟩ m_is_from) :=
  fn_ok T.F_is_from sc_is_from (by decide) fun cdv A outer s H E hr => (
    (yss_one (ys_ret (yv_and (ye_isi (by rfl) T.n_isinstance (by decide +kernel) (by rfl) T.n_int (by decide +kernel) (by decide) (ye_var 0)) (yv_and (yv_not (ye_isi (by rfl) T.n_isinstance (by decide +kernel) (by rfl) T.n_bool (by decide +kernel) (by decide) (ye_var 0))) (yv_one (ye_chain or_le or_le sn_le sn_le (ye_var 1) (ye_var 0) (ye_var 2) (by rfl))))))))
theorem ok_is_comer (T : Tx K mg base A) : FnOk P w K mg base CX0 2 A.a_is_comer A.d_is_comer ["hall", "thing"] (spF ⟨K, (cmOf A), w⟩ m_is_comer) :=
  fn_ok T.F_is_comer sc_is_comer (by decide) fun cdv A outer s H E hr => (
    (yss_one (ys_ret (yv_and (ye_isi (by rfl) T.n_isinstance (by decide +kernel) (by rfl) T.n_tuple (by decide +kernel) (by decide) (ye_var 1)) (yv_and (ye_cmp (op_eqP hr.units) sn_eq (ye_callB cr_len sn_len (by rfl) T.n_len PySem.boot_len (ya_cons (ye_var 1) ya_nil)) ye_int (nomark _)) (yv_and (ye_callI (ok_is_name T) (hr.mono (by decide)) (by rfl) T.g_is_name T.F_is_name.kp T.b_is_name (ya_cons (ye_ix or_ix sn_ix (ye_var 1) ye_int (fun _ _ => rfl)) ya_nil)) (yv_one (ye_callI (ok_is_from T) (hr.mono (by decide)) (by rfl) T.g_is_from T.F_is_from.kp T.b_is_from (ya_cons (ye_ix or_ix sn_ix (ye_var 1) ye_int (fun _ _ => rfl)) (ya_cons ye_int (ya_cons (ye_op op_sub sn_sub (ye_ix or_ix sn_ix (ye_var 0) ye_int (fun _ _ => rfl)) ye_int) ya_nil)))))))))))
theorem ok_is_seating (T : Tx K mg base A) : FnOk P w K mg base CX0 3 A.a_is_seating A.d_is_seating ["hall", "thing"] (spF ⟨K, (cmOf A), w⟩ m_is_seating) :=
  fn_ok T.F_is_seating sc_is_seating (by decide) fun cdv A outer s H E hr => (
    (yss_cons (ys_if (PW.pt (yw_or (yt_not (yt_val (ye_isi (by rfl) T.n_isinstance (by decide +kernel) (by rfl) T.n_tuple (by decide +kernel) (by decide) (ye_var 1)))) (yw_oner (yt_cmp (op_neP hr.units) sn_ne (ye_callB cr_len sn_len (by rfl) T.n_len PySem.boot_len (ya_cons (ye_var 1) ya_nil)) (ye_ix or_ix sn_ix (ye_var 0) ye_int (fun _ _ => rfl)) (nomark _))))) (yss_one (ys_ret ye_bl)) yss_nil)
    (yss_cons (ys_setLc 2 [("one", 3)] rfl sc_is_seating.nd rfl rfl (sw_true rfl rfl rfl (by decide +kernel)) (yi_seq (ye_var 1)) (blkOk_by (own := [("one", 3)]) (N := N_is_seating) (sc := defScope s_is_seating) (by decide +kernel)) (fun _ _ _ _ _ => (yg_name 3 sc_is_seating.nd rfl (by first | exact Or.inl rfl | exact Or.inr rfl))) (fun _ _ _ _ _ => (yts_one (yt_cmp op_notN sn_isNot (ye_var 3) ye_non (nomark _)))) (fun _ _ _ _ _ => (ye_var 3)) (by decide))
    (yss_one (ys_ret (yv_and (ye_callB (cr_all rfl) sn_all (by rfl) T.n_all (by decide +kernel) (ya_cons (ye_lc [("one", 3)] rfl sc_is_seating.nd (yi_seq (ye_var 2)) (blkOk_by (own := [("one", 3)]) (N := N_is_seating) (sc := defScope s_is_seating) (by decide +kernel)) (fun _ _ _ _ _ => (yg_name 3 sc_is_seating.nd rfl (by first | exact Or.inl rfl | exact Or.inr rfl))) (fun _ _ _ _ _ => yts_nil) (fun _ _ _ _ _ => (ye_callI (ok_is_comer T) (hr.mono (by decide)) (by rfl) T.g_is_comer T.F_is_comer.kp T.b_is_comer (ya_cons (ye_var 0) (ya_cons (ye_var 3) ya_nil)))) (by decide)) ya_nil)) (yv_one (ye_call (ok_are_unlike T) (hr.mono (by decide)) (by rfl) T.g_are_unlike T.F_are_unlike.kp T.b_are_unlike (ya_cons (ye_var 2) ya_nil)))))))))
theorem ok_law (T : Tx K mg base A) : FnG P w K mg base 8 A.a_law A.d_law ["script"] (spF ⟨K, (cmOf A), w⟩ m_law) :=
  fn_okG T.F_law T.cd_law sc_law (by decide) fun A outer s H E hgd hr => (
    (yss_cons (ys_for PassesOwn.never rfl (yi_seq (ye_op or_add sn_add (ye_lst (ya_cons ye_int ya_nil)) (ye_slice or_sl sn_sl (ye_var 0) yo_none (yo_some ye_int)))) (yg_name 1 sc_law.nd rfl (by first | exact Or.inl rfl | exact Or.inr rfl)) (yss_cons (ys_set 2 sc_law.nd rfl (by first | exact Or.inl rfl | exact Or.inr rfl) (ye_call (ok__law_deck T) (hr.mono (by decide)) (by rfl) T.g__law_deck T.F__law_deck.kp T.b__law_deck (ya_cons (ye_var 1) (ya_cons ye_int ya_nil))))
    (yss_cons (ys_set 3 sc_law.nd rfl (by first | exact Or.inl rfl | exact Or.inr rfl) (ye_call (ok__law_hall T) (hr.mono (by decide)) (by rfl) T.g__law_hall T.F__law_hall.kp T.b__law_hall (ya_cons (ye_var 2) (ya_cons ye_int ya_nil))))
    (yss_cons (ys_set 4 sc_law.nd rfl (by first | exact Or.inl rfl | exact Or.inr rfl) (ye_call (ok__law_comers T) (hr.mono (by decide)) (by rfl) T.g__law_comers T.F__law_comers.kp T.b__law_comers (ya_cons (ye_var 2) (ya_cons (ye_var 3) (ya_cons ye_int ya_nil)))))
    (yss_cons (ys_set 5 sc_law.nd rfl (by first | exact Or.inl rfl | exact Or.inr rfl) (ye_callTy (cr_strF hgd hr.units) sn_strF (by rfl) T.n_str (by decide +kernel) (ya_cons (ye_var 4) ya_nil)))
    (yss_cons (ys_asg (ye_gc (ye_tup (ya_cons (ye_op op_repA sn_repT (ye_tup (ya_cons ye_non ya_nil)) (ye_ix or_ix sn_ix (ye_var 3) ye_int (fun _ _ => rfl))) (ya_cons (ye_lst ya_nil) ya_nil)))) (yg_tup (sl := [6, 7]) rfl (ygs_cons (yg_name 6 sc_law.nd rfl (by first | exact Or.inl rfl | exact Or.inr rfl)) (ygs_cons (yg_name 7 sc_law.nd rfl (by first | exact Or.inl rfl | exact Or.inr rfl)) ygs_nil (by decide)) (by decide))))
    (yss_cons (ys_for PassesOwn.never rfl (yi_seq (ye_var 4)) (yg_name 8 sc_law.nd rfl (by first | exact Or.inl rfl | exact Or.inr rfl)) (yss_cons (ys_set 9 sc_law.nd rfl (by first | exact Or.inl rfl | exact Or.inr rfl) (ye_callI (ok__law_come T) (hr.mono (by decide)) (by rfl) T.g__law_come T.F__law_come.kp T.b__law_come (ya_cons (ye_var 3) (ya_cons (ye_var 6) (ya_cons (ye_var 8) ya_nil)))))
    (yss_cons (ys_if (PW.pt (yw_or (yt_cmp (op_neP hr.units) sn_ne (ye_callI (quietF (ok_come T)) (hr.mono (by decide)) (by rfl) T.g_come T.F_come.kp T.b_come (ya_cons (ye_var 3) (ya_cons (ye_var 6) (ya_cons (ye_var 8) ya_nil)))) (ye_var 9) (nomark _)) (yw_oner (yt_cmp op_notBl sn_isNotB (ye_callI (ok_is_seating T) (hr.mono (by decide)) (by rfl) T.g_is_seating T.F_is_seating.kp T.b_is_seating (ya_cons (ye_var 3) (ya_cons (ye_ix or_ix sn_ix (ye_var 9) ye_int (fun _ _ => rfl)) ya_nil))) ye_bl (nomark _))))) (yss_one (ys_ret ye_bl)) yss_nil)
    (yss_cons (ys_set 6 sc_law.nd rfl (by first | exact Or.inl rfl | exact Or.inr rfl) (ye_ix or_ix sn_ix (ye_var 9) ye_int (fun _ _ => rfl)))
    (yss_one (ys_set 7 sc_law.nd rfl (by first | exact Or.inl rfl | exact Or.inr rfl) (ye_gc (ye_op or_add sn_add (ye_var 7) (ye_op op_rep sn_repL (ye_lst (ya_cons (ye_ix or_ix sn_ix (ye_var 9) ye_int (fun _ _ => rfl)) ya_nil)) (ye_callTy call_int1 sn_int (by rfl) T.n_int (by decide +kernel) (ya_cons (ye_cmp op_notN sn_isNot (ye_ix or_ix sn_ix (ye_var 9) ye_int (fun _ _ => rfl)) ye_non (nomark _)) ya_nil)))))))))))
    (yss_cons (ys_set 10 sc_law.nd rfl (by first | exact Or.inl rfl | exact Or.inr rfl) (ye_call (ok_seated T) (hr.mono (by decide)) (by rfl) T.g_seated T.F_seated.kp T.b_seated (ya_cons (ye_var 3) (ya_cons (ye_var 4) ya_nil))))
    (yss_cons (ys_if (yt_gc (PW.pt (yw_or (yt_cmp (op_neP hr.units) sn_ne (ye_var 10) (ye_tup (ya_cons (ye_var 6) (ya_cons (ye_var 7) ya_nil))) (nomark _)) (yw_oner (yt_cmp (op_neP hr.units) sn_ne (ye_callTy (cr_strF hgd hr.units) sn_strF (by rfl) T.n_str (by decide +kernel) (ya_cons (ye_var 4) ya_nil)) (ye_var 5) (nomark _)))))) (yss_one (ys_ret ye_bl)) yss_nil)
    (yss_cons (ys_expr (ye_met (T := .list) PySem.F.plainAttrs_list PySem.F.slot_list_append PySem.F.type_list_append mt_append sn_append (ye_ix or_ix sn_ix (ye_var 10) ye_int (fun _ _ => rfl)) (ya_cons ye_non ya_nil)))
    (yss_cons (ys_if (yt_gc (yt_cmp (op_neP hr.units) sn_ne (ye_call (ok_seated T) (hr.mono (by decide)) (by rfl) T.g_seated T.F_seated.kp T.b_seated (ya_cons (ye_var 3) (ya_cons (ye_var 4) ya_nil))) (ye_tup (ya_cons (ye_var 6) (ya_cons (ye_var 7) ya_nil))) (nomark _))) (yss_one (ys_ret ye_bl)) yss_nil)
    (yss_cons (ys_set 11 sc_law.nd rfl (by first | exact Or.inl rfl | exact Or.inr rfl) (ye_gc (ye_op or_add sn_add (ye_slice or_sl sn_sl (ye_var 3) yo_none (yo_some ye_int)) (ye_tup (ya_cons (ye_ix or_ix sn_ix (ye_lst (ya_cons ye_str (ya_cons ye_str (ya_cons ye_str ya_nil)))) (ye_call (ok__law_pick T) (hr.mono (by decide)) (by rfl) T.g__law_pick T.F__law_pick.kp T.b__law_pick (ya_cons (ye_var 2) (ya_cons ye_int ya_nil))) (fun _ _ => rfl)) ya_nil)))))
    (yss_cons (ys_set 12 sc_law.nd rfl (by first | exact Or.inl rfl | exact Or.inr rfl) (ye_call (ok__law_pick T) (hr.mono (by decide)) (by rfl) T.g__law_pick T.F__law_pick.kp T.b__law_pick (ya_cons (ye_var 2) (ya_cons (ye_ix or_ix sn_ix (ye_var 3) ye_int (fun _ _ => rfl)) ya_nil))))
    (yss_cons (ys_set 13 sc_law.nd rfl (by first | exact Or.inl rfl | exact Or.inr rfl) (ye_gc (ye_op or_add sn_add (ye_op or_add sn_add (ye_slice or_sl sn_sl (ye_var 6) yo_none (yo_some (ye_var 12))) (ye_tup (ya_cons ye_non ya_nil))) (ye_slice or_sl sn_sl (ye_var 6) (yo_some (ye_op or_add sn_add (ye_var 12) ye_int)) yo_none))))
    (yss_cons (ys_set 14 sc_law.nd rfl (by first | exact Or.inl rfl | exact Or.inr rfl) (ye_tup (ya_cons ye_str (ya_cons (ye_call (ok__law_pick T) (hr.mono (by decide)) (by rfl) T.g__law_pick T.F__law_pick.kp T.b__law_pick (ya_cons (ye_var 2) (ya_cons (ye_ix or_ix sn_ix (ye_var 3) ye_int (fun _ _ => rfl)) ya_nil))) ya_nil))))
    (yss_cons (ys_if (yt_cmp (op_neP hr.units) sn_ne (ye_callI (quietF (ok_come T)) (hr.mono (by decide)) (by rfl) T.g_come T.F_come.kp T.b_come (ya_cons (ye_var 11) (ya_cons (ye_var 13) (ya_cons (ye_var 14) ya_nil)))) (ye_callI (ok__law_come T) (hr.mono (by decide)) (by rfl) T.g__law_come T.F__law_come.kp T.b__law_come (ya_cons (ye_var 11) (ya_cons (ye_var 13) (ya_cons (ye_var 14) ya_nil)))) (nomark _)) (yss_one (ys_ret ye_bl)) yss_nil)
    (yss_one (ys_if (yt_gc (PW.pt (yw_and (yt_val (ye_ix or_ix sn_ix (ye_var 3) ye_int (fun _ _ => rfl))) (yw_and (yt_cmp (op_notInP hr.units) sn_notIn ye_non (ye_var 6) (by rfl)) (yw_one (yt_cmp (op_neP hr.units) sn_ne (ye_try (k := 4) T.F__law_try sc__law_try T.b__law_try rfl T.g__law_try T.F__law_name_of sc__law_name_of T.b__law_name_of T.g__law_name_of (nb T) T.g_TooMany T.g_SeatError (ns_ok T) (by rfl) (by rfl) (by rfl) (by rfl) (by rfl) (.inl rfl) (by rfl) T.tb_law rfl (by first | exact List.mem_cons_self | exact List.mem_cons_of_mem _ List.mem_cons_self) (hu_law T) (hr.mono (by decide)) (LamX.lamS_by (sc := defScope s_law) (by decide +kernel)) rfl (fun _ _ _ _ _ => rfl) fun _ _ _ _ _ _ _ hr => (ye_callX (ok_come T) (passN (L2N.takes_of rfl rfl rfl rfl)) (hr.mono (by decide)) (by rfl) T.g_come T.F_come.kp T.b_come (ya_cons (ye_var 11) (ya_cons (ye_var 6) (ya_cons (ye_var 14) ya_nil))))) ye_str (nomark _))))))) (yss_one (ys_ret ye_bl)) yss_nil))))))))))))))))))
    (yss_one (ys_ret ye_bl))))
end
theorem all_mk {l : PySem.W.OpenLaw} {w : World} {K : PySem.W.Frag} {h : Heap} {mg : Str → Option Value} {fa : Addr} (X : K.In h) (G : h.Ns mainGlobals mg) (hfa : mg "law" = some (.ref fa)) (hT : TabsOf K h ["law"]) (hm : ∀ ns : List Int, ns.length ≤ 63 → ∃ st', m_law [.frl (ns.map AV.int)] [] = .ok (.bl true) st')
    {od0 an0 od1 an1 od2 an2 od3 an3 od4 an4 od5 an5 od6 an6 od7 an7 od8 an8 od9 an9 od10 an10 od11 an11 od12 an12 od13 an13 od14 an14 od15 an15 od16 an16 od17 an17 : Option Addr} {sl0 sl1 sl2 sl3 sl4 sl5 sl6 sl7 sl8 sl9 sl10 sl11 sl12 sl13 sl14 sl15 sl16 sl17 : Array (Option Value)} {oc0 kV0 dc0 pm0 cd0 ct0 oc1 kV1 dc1 pm1 cd1 ct1 oc2 kV2 dc2 pm2 cd2 ct2 oc3 kV3 dc3 pm3 cd3 ct3 oc4 kV4 dc4 pm4 cd4 ct4 oc5 kV5 dc5 pm5 cd5 ct5 oc6 kV6 dc6 pm6 cd6 ct6 oc7 kV7 dc7 pm7 cd7 ct7 oc8 kV8 dc8 pm8 cd8 ct8 oc9 kV9 dc9 pm9 cd9 ct9 oc10 kV10 dc10 pm10 cd10 ct10 oc11 kV11 dc11 pm11 cd11 ct11 oc12 kV12 dc12 pm12 cd12 ct12 oc13 kV13 dc13 pm13 cd13 ct13 oc14 kV14 dc14 pm14 cd14 ct14 oc15 kV15 dc15 pm15 cd15 ct15 oc16 kV16 dc16 pm16 cd16 ct16 oc17 kV17 dc17 pm17 cd17 ct17 : Value} {f0 f1 f2 f3 f4 f5 f6 f7 f8 f9 f10 f11 f12 f13 f14 f15 f16 f17 : Addr} {X_SeatError X_Full X_NoComer X_NoCourtesy X_NoHall X_NotThere X_Taken X_TooMany : Addr} {kk_law pp_law : Addr} {tk_LETTERS : Tok}
    (a0 : PySem.W.nsIn K mainGlobals "_law_deck" = some (some (.ref f0))) (l0 : K.lookup f0 = some ⟨oc0, od0, .func (PySem.W.fnOf "_law_deck" "_law_deck" (defArgs s__law_deck) (defBody s__law_deck) (defScope s__law_deck) .none kV0 dc0 pm0 an0 cd0 ct0), sl0⟩) (c0 : PySem.W.codeIn K cd0 "_law_deck" = true) (k0 : PySem.W.keepIn K (.ref f0) = true)
    (a1 : PySem.W.nsIn K mainGlobals "_law_pick" = some (some (.ref f1))) (l1 : K.lookup f1 = some ⟨oc1, od1, .func (PySem.W.fnOf "_law_pick" "_law_pick" (defArgs s__law_pick) (defBody s__law_pick) (defScope s__law_pick) .none kV1 dc1 pm1 an1 cd1 ct1), sl1⟩) (c1 : PySem.W.codeIn K cd1 "_law_pick" = true) (k1 : PySem.W.keepIn K (.ref f1) = true)
    (a2 : PySem.W.nsIn K mainGlobals "_law_hall" = some (some (.ref f2))) (l2 : K.lookup f2 = some ⟨oc2, od2, .func (PySem.W.fnOf "_law_hall" "_law_hall" (defArgs s__law_hall) (defBody s__law_hall) (defScope s__law_hall) .none kV2 dc2 pm2 an2 cd2 ct2), sl2⟩) (c2 : PySem.W.codeIn K cd2 "_law_hall" = true) (k2 : PySem.W.keepIn K (.ref f2) = true)
    (a3 : PySem.W.nsIn K mainGlobals "_law_comers" = some (some (.ref f3))) (l3 : K.lookup f3 = some ⟨oc3, od3, .func (PySem.W.fnOf "_law_comers" "_law_comers" (defArgs s__law_comers) (defBody s__law_comers) (defScope s__law_comers) .none kV3 dc3 pm3 an3 cd3 ct3), sl3⟩) (c3 : PySem.W.codeIn K cd3 "_law_comers" = true) (k3 : PySem.W.keepIn K (.ref f3) = true)
    (a4 : PySem.W.nsIn K mainGlobals "far" = some (some (.ref f4))) (l4 : K.lookup f4 = some ⟨oc4, od4, .func (PySem.W.fnOf "far" "far" (defArgs s_far) (defBody s_far) (defScope s_far) .none kV4 dc4 pm4 an4 cd4 ct4), sl4⟩) (c4 : PySem.W.codeIn K cd4 "far" = true) (k4 : PySem.W.keepIn K (.ref f4) = true)
    (a5 : PySem.W.nsIn K mainGlobals "stays" = some (some (.ref f5))) (l5 : K.lookup f5 = some ⟨oc5, od5, .func (PySem.W.fnOf "stays" "stays" (defArgs s_stays) (defBody s_stays) (defScope s_stays) .none kV5 dc5 pm5 an5 cd5 ct5), sl5⟩) (c5 : PySem.W.codeIn K cd5 "stays" = true) (k5 : PySem.W.keepIn K (.ref f5) = true)
    (a6 : PySem.W.nsIn K mainGlobals "come" = some (some (.ref f6))) (l6 : K.lookup f6 = some ⟨oc6, od6, .func (PySem.W.fnOf "come" "come" (defArgs s_come) (defBody s_come) (defScope s_come) .none kV6 dc6 pm6 an6 cd6 ct6), sl6⟩) (c6 : PySem.W.codeIn K cd6 "come" = true) (k6 : PySem.W.keepIn K (.ref f6) = true)
    (a7 : PySem.W.nsIn K mainGlobals "seated" = some (some (.ref f7))) (l7 : K.lookup f7 = some ⟨oc7, od7, .func (PySem.W.fnOf "seated" "seated" (defArgs s_seated) (defBody s_seated) (defScope s_seated) .none kV7 dc7 pm7 an7 cd7 ct7), sl7⟩) (c7 : PySem.W.codeIn K cd7 "seated" = true) (k7 : PySem.W.keepIn K (.ref f7) = true)
    (a8 : PySem.W.nsIn K mainGlobals "_law_far" = some (some (.ref f8))) (l8 : K.lookup f8 = some ⟨oc8, od8, .func (PySem.W.fnOf "_law_far" "_law_far" (defArgs s__law_far) (defBody s__law_far) (defScope s__law_far) .none kV8 dc8 pm8 an8 cd8 ct8), sl8⟩) (c8 : PySem.W.codeIn K cd8 "_law_far" = true) (k8 : PySem.W.keepIn K (.ref f8) = true)
    (a9 : PySem.W.nsIn K mainGlobals "_law_come" = some (some (.ref f9))) (l9 : K.lookup f9 = some ⟨oc9, od9, .func (PySem.W.fnOf "_law_come" "_law_come" (defArgs s__law_come) (defBody s__law_come) (defScope s__law_come) .none kV9 dc9 pm9 an9 cd9 ct9), sl9⟩) (c9 : PySem.W.codeIn K cd9 "_law_come" = true) (k9 : PySem.W.keepIn K (.ref f9) = true)
    (a10 : PySem.W.nsIn K mainGlobals "_law_name_of" = some (some (.ref f10))) (l10 : K.lookup f10 = some ⟨oc10, od10, .func (PySem.W.fnOf "_law_name_of" "_law_name_of" (defArgs s__law_name_of) (defBody s__law_name_of) (defScope s__law_name_of) .none kV10 dc10 pm10 an10 cd10 ct10), sl10⟩) (c10 : PySem.W.codeIn K cd10 "_law_name_of" = true) (k10 : PySem.W.keepIn K (.ref f10) = true)
    (a11 : PySem.W.nsIn K mainGlobals "_law_try" = some (some (.ref f11))) (l11 : K.lookup f11 = some ⟨oc11, od11, .func (PySem.W.fnOf "_law_try" "_law_try" (defArgs s__law_try) (defBody s__law_try) (defScope s__law_try) .none kV11 dc11 pm11 an11 cd11 ct11), sl11⟩) (c11 : PySem.W.codeIn K cd11 "_law_try" = true) (k11 : PySem.W.keepIn K (.ref f11) = true)
    (a12 : PySem.W.nsIn K mainGlobals "are_unlike" = some (some (.ref f12))) (l12 : K.lookup f12 = some ⟨oc12, od12, .func (PySem.W.fnOf "are_unlike" "are_unlike" (defArgs s_are_unlike) (defBody s_are_unlike) (defScope s_are_unlike) .none kV12 dc12 pm12 an12 cd12 ct12), sl12⟩) (c12 : PySem.W.codeIn K cd12 "are_unlike" = true) (k12 : PySem.W.keepIn K (.ref f12) = true)
    (a13 : PySem.W.nsIn K mainGlobals "is_name" = some (some (.ref f13))) (l13 : K.lookup f13 = some ⟨oc13, od13, .func (PySem.W.fnOf "is_name" "is_name" (defArgs s_is_name) (defBody s_is_name) (defScope s_is_name) .none kV13 dc13 pm13 an13 cd13 ct13), sl13⟩) (c13 : PySem.W.codeIn K cd13 "is_name" = true) (k13 : PySem.W.keepIn K (.ref f13) = true)
    (a14 : PySem.W.nsIn K mainGlobals "is_from" = some (some (.ref f14))) (l14 : K.lookup f14 = some ⟨oc14, od14, .func (PySem.W.fnOf "is_from" "is_from" (defArgs s_is_from) (defBody s_is_from) (defScope s_is_from) .none kV14 dc14 pm14 an14 cd14 ct14), sl14⟩) (c14 : PySem.W.codeIn K cd14 "is_from" = true) (k14 : PySem.W.keepIn K (.ref f14) = true)
    (a15 : PySem.W.nsIn K mainGlobals "is_comer" = some (some (.ref f15))) (l15 : K.lookup f15 = some ⟨oc15, od15, .func (PySem.W.fnOf "is_comer" "is_comer" (defArgs s_is_comer) (defBody s_is_comer) (defScope s_is_comer) .none kV15 dc15 pm15 an15 cd15 ct15), sl15⟩) (c15 : PySem.W.codeIn K cd15 "is_comer" = true) (k15 : PySem.W.keepIn K (.ref f15) = true)
    (a16 : PySem.W.nsIn K mainGlobals "is_seating" = some (some (.ref f16))) (l16 : K.lookup f16 = some ⟨oc16, od16, .func (PySem.W.fnOf "is_seating" "is_seating" (defArgs s_is_seating) (defBody s_is_seating) (defScope s_is_seating) .none kV16 dc16 pm16 an16 cd16 ct16), sl16⟩) (c16 : PySem.W.codeIn K cd16 "is_seating" = true) (k16 : PySem.W.keepIn K (.ref f16) = true)
    (a17 : PySem.W.nsIn K mainGlobals "law" = some (some (.ref f17))) (l17 : K.lookup f17 = some ⟨oc17, od17, .func (PySem.W.fnOf "law" "law" (defArgs s_law) (defBody s_law) (defScope s_law) .none kV17 dc17 pm17 an17 cd17 ct17), sl17⟩) (c17 : PySem.W.codeIn K cd17 "law" = true) (k17 : PySem.W.keepIn K (.ref f17) = true)
    (t_law : PySem.W.tabIn K "law" = some (kk_law, pp_law)) (u_law : K.lookup pp_law = none)
    (zx_SeatError : PySem.W.nsIn K mainGlobals "SeatError" = some (some (.ref X_SeatError)))
    (zx_Full : PySem.W.nsIn K mainGlobals "Full" = some (some (.ref X_Full)))
    (zx_NoComer : PySem.W.nsIn K mainGlobals "NoComer" = some (some (.ref X_NoComer)))
    (zx_NoCourtesy : PySem.W.nsIn K mainGlobals "NoCourtesy" = some (some (.ref X_NoCourtesy)))
    (zx_NoHall : PySem.W.nsIn K mainGlobals "NoHall" = some (some (.ref X_NoHall)))
    (zx_NotThere : PySem.W.nsIn K mainGlobals "NotThere" = some (some (.ref X_NotThere)))
    (zx_Taken : PySem.W.nsIn K mainGlobals "Taken" = some (some (.ref X_Taken)))
    (zx_TooMany : PySem.W.nsIn K mainGlobals "TooMany" = some (some (.ref X_TooMany)))
    (en_Full : PySem.W.excIn K X_Full [.type "ValueError", .type "Exception", .type "BaseException", .type "object"] "ValueError.__new__" = true) (xk_Full : PySem.W.keepIn K (.ref X_Full) = true) (xs_Full : PySem.W.subIn K (.ref X_Full) (.type "BaseException") = some true) (xt_Full : PySem.W.typeIn K (.ref X_Full) = some (.type "type")) (eg_Full : PySem.W.findIn K (.ref X_Full) "__getattribute__" = some (some (.builtin "BaseException.__getattribute__"))) (ek_Full : PySem.W.findIn K (.ref X_Full) "__getattr__" = some none) (ed_Full : PySem.W.hasDictIn K X_Full = true) (ea_Full : PySem.W.findIn K (.ref X_Full) "__class__" = some (some (.builtin "object.__class__"))) (ei_Full : PySem.W.specialIn K (.builtin "object.__class__") "__get__" = some (some (.builtin "getset_descriptor.__get__"))) (et_Full : PySem.W.takesIn K (.builtin "object.__class__") = some true) (em_Full : PySem.W.mroIn K X_Full (.type "object") = some true) (k1_Full : PySem.W.kitOne K (.ref X_Full) (.ref X_Full) = some true) (k2_Full : PySem.W.kitOne K (.ref X_Full) (.ref X_NoComer) = some false) (k3_Full : PySem.W.kitOne K (.ref X_Full) (.ref X_NoCourtesy) = some false) (k4_Full : PySem.W.kitOne K (.ref X_Full) (.ref X_NoHall) = some false) (k5_Full : PySem.W.kitOne K (.ref X_Full) (.ref X_NotThere) = some false) (k6_Full : PySem.W.kitOne K (.ref X_Full) (.ref X_Taken) = some false) (k7_Full : PySem.W.kitOne K (.ref X_Full) (.ref X_TooMany) = some false) (kv_Full : PySem.W.kitOne K (.ref X_Full) (.type "ValueError") = some true) (f7_Full : PySem.W.exmOne K (.ref X_Full) (.ref X_TooMany) = some false) (f0_Full : PySem.W.exmOne K (.ref X_Full) (.ref X_SeatError) = some true)
    (z_ValueError : PySem.W.nsIn K mainGlobals "ValueError" = some none)
    (z_all : PySem.W.nsIn K mainGlobals "all" = some none)
    (z_bool : PySem.W.nsIn K mainGlobals "bool" = some none)
    (z_int : PySem.W.nsIn K mainGlobals "int" = some none)
    (z_isinstance : PySem.W.nsIn K mainGlobals "isinstance" = some none)
    (z_len : PySem.W.nsIn K mainGlobals "len" = some none)
    (z_list : PySem.W.nsIn K mainGlobals "list" = some none)
    (z_min : PySem.W.nsIn K mainGlobals "min" = some none)
    (z_range : PySem.W.nsIn K mainGlobals "range" = some none)
    (z_set : PySem.W.nsIn K mainGlobals "set" = some none)
    (z_str : PySem.W.nsIn K mainGlobals "str" = some none)
    (z_tuple : PySem.W.nsIn K mainGlobals "tuple" = some none)
    (z_zip : PySem.W.nsIn K mainGlobals "zip" = some none)
    (y_LETTERS : PySem.W.nsIn K mainGlobals "LETTERS" = some (some (.str "abcdefghijklmnopqrstuvwxyz" tk_LETTERS))) :
    LawAtG l w K 63 mg fa h := by
  have e := hfa.symm.trans (PySem.W.mg_of X G a17)
  cases e
  have F0 := fun_mk (st := s__law_deck) l0 c0 k0
  have b0 := F0.binds (ps := ["cell", "turn"]) fun _ _ _ _ _ _ us hl => match us, hl with | [_, _], _ => rfl
  have F1 := fun_mk (st := s__law_pick) l1 c1 k1
  have b1 := F1.binds (ps := ["deck", "limit"]) fun _ _ _ _ _ _ us hl => match us, hl with | [_, _], _ => rfl
  have F2 := fun_mk (st := s__law_hall) l2 c2 k2
  have b2 := F2.binds (ps := ["deck", "most"]) fun _ _ _ _ _ _ us hl => match us, hl with | [_, _], _ => rfl
  have F3 := fun_mk (st := s__law_comers) l3 c3 k3
  have b3 := F3.binds (ps := ["deck", "hall", "most"]) fun _ _ _ _ _ _ us hl => match us, hl with | [_, _, _], _ => rfl
  have F4 := fun_mk (st := s_far) l4 c4 k4
  have b4 := F4.binds (ps := ["hall", "comer", "seat"]) fun _ _ _ _ _ _ us hl => match us, hl with | [_, _, _], _ => rfl
  have F5 := fun_mk (st := s_stays) l5 c5 k5
  have b5 := F5.binds (ps := ["hall", "there", "comer", "seat"]) fun _ _ _ _ _ _ us hl => match us, hl with | [_, _, _, _], _ => rfl
  have F6 := fun_mk (st := s_come) l6 c6 k6
  have b6 := F6.binds (ps := ["hall", "seating", "comer"]) fun _ _ _ _ _ _ us hl => match us, hl with | [_, _, _], _ => rfl
  have F7 := fun_mk (st := s_seated) l7 c7 k7
  have b7 := F7.binds (ps := ["hall", "comers"]) fun _ _ _ _ _ _ us hl => match us, hl with | [_, _], _ => rfl
  have F8 := fun_mk (st := s__law_far) l8 c8 k8
  have b8 := F8.binds (ps := ["hall", "comer", "seat"]) fun _ _ _ _ _ _ us hl => match us, hl with | [_, _, _], _ => rfl
  have F9 := fun_mk (st := s__law_come) l9 c9 k9
  have b9 := F9.binds (ps := ["hall", "seating", "comer"]) fun _ _ _ _ _ _ us hl => match us, hl with | [_, _, _], _ => rfl
  have F10 := fun_mk (st := s__law_name_of) l10 c10 k10
  have b10 := F10.binds (ps := ["e"]) fun _ _ _ _ _ _ us hl => match us, hl with | [_], _ => rfl
  have F11 := fun_mk (st := s__law_try) l11 c11 k11
  have b11 := F11.binds (ps := ["door"]) fun _ _ _ _ _ _ us hl => match us, hl with | [_], _ => rfl
  have F12 := fun_mk (st := s_are_unlike) l12 c12 k12
  have b12 := F12.binds (ps := ["comers"]) fun _ _ _ _ _ _ us hl => match us, hl with | [_], _ => rfl
  have F13 := fun_mk (st := s_is_name) l13 c13 k13
  have b13 := F13.binds (ps := ["thing"]) fun _ _ _ _ _ _ us hl => match us, hl with | [_], _ => rfl
  have F14 := fun_mk (st := s_is_from) l14 c14 k14
  have b14 := F14.binds (ps := ["thing", "low", "high"]) fun _ _ _ _ _ _ us hl => match us, hl with | [_, _, _], _ => rfl
  have F15 := fun_mk (st := s_is_comer) l15 c15 k15
  have b15 := F15.binds (ps := ["hall", "thing"]) fun _ _ _ _ _ _ us hl => match us, hl with | [_, _], _ => rfl
  have F16 := fun_mk (st := s_is_seating) l16 c16 k16
  have b16 := F16.binds (ps := ["hall", "thing"]) fun _ _ _ _ _ _ us hl => match us, hl with | [_, _], _ => rfl
  have F17 := fun_mk (st := s_law) l17 c17 k17
  have b17 := F17.binds (ps := ["script"]) fun _ _ _ _ _ _ us hl => match us, hl with | [_], _ => rfl
  have key : ∀ base : Heap, K.In base → base.Ns mainGlobals mg → (∀ p ∈ ([(kk_law, pp_law)] : List (Addr × Addr)), LamX.TabB base mg p.1 p.2) → FnG l.prog w K mg base 8 fa _ ["script"] (spF ⟨K, ⟨fun _ => 0, xcOf X_SeatError X_Full X_NoComer X_NoCourtesy X_NoHall X_NotThere X_Taken X_TooMany, [(pp_law, qn "law")]⟩, w⟩ m_law) := fun base _ _ tb => (ok_law (A := ⟨f0, _, f1, _, f2, _, f3, _, f4, _, f5, _, f6, _, f7, _, f8, _, f9, _, f10, _, f11, _, f12, _, f13, _, f14, _, f15, _, f16, _, fa, _, X_SeatError, X_Full, X_NoComer, X_NoCourtesy, X_NoHall, X_NotThere, X_Taken, X_TooMany, kk_law, pp_law, tk_LETTERS⟩) ⟨F0, PySem.W.mg_of X G a0, b0, F1, PySem.W.mg_of X G a1, b1, F2, PySem.W.mg_of X G a2, b2, F3, PySem.W.mg_of X G a3, b3, F4, PySem.W.mg_of X G a4, b4, F5, PySem.W.mg_of X G a5, b5, F6, PySem.W.mg_of X G a6, b6, F7, PySem.W.mg_of X G a7, b7, F8, PySem.W.mg_of X G a8, b8, F9, PySem.W.mg_of X G a9, b9, F10, PySem.W.mg_of X G a10, b10, F11, PySem.W.mg_of X G a11, b11, F12, PySem.W.mg_of X G a12, b12, F13, PySem.W.mg_of X G a13, b13, F14, PySem.W.mg_of X G a14, b14, F15, PySem.W.mg_of X G a15, b15, F16, PySem.W.mg_of X G a16, b16, F17, PySem.W.mg_of X G a17, b17, PySem.W.law_code X G t_law (PySem.W.mg_of X G a17) (X _ _ l17) rfl, tb (kk_law, pp_law) (by simp), PySem.W.mg_of X G zx_SeatError, PySem.W.mg_of X G zx_Full, PySem.W.mg_of X G zx_NoComer, PySem.W.mg_of X G zx_NoCourtesy, PySem.W.mg_of X G zx_NoHall, PySem.W.mg_of X G zx_NotThere, PySem.W.mg_of X G zx_Taken, PySem.W.mg_of X G zx_TooMany, ⟨⟨eg_Full, ek_Full, xs_Full, ed_Full, ea_Full, ei_Full, et_Full, em_Full⟩, k1_Full, k2_Full, k3_Full, k4_Full, k5_Full, k6_Full, k7_Full, kv_Full, f7_Full, f0_Full⟩, ⟨⟨_, _, _, PySem.F.excBase_ValueError, en_Full⟩, xk_Full, xs_Full, xt_Full⟩, PySem.W.mg_none_of X G z_ValueError, PySem.W.mg_none_of X G z_all, PySem.W.mg_none_of X G z_bool, PySem.W.mg_none_of X G z_int, PySem.W.mg_none_of X G z_isinstance, PySem.W.mg_none_of X G z_len, PySem.W.mg_none_of X G z_list, PySem.W.mg_none_of X G z_min, PySem.W.mg_none_of X G z_range, PySem.W.mg_none_of X G z_set, PySem.W.mg_none_of X G z_str, PySem.W.mg_none_of X G z_tuple, PySem.W.mg_none_of X G z_zip, PySem.W.mg_of X G y_LETTERS⟩)
  refine ⟨[(kk_law, pp_law)], (by
    intro p hp
    simp only [List.mem_cons, List.not_mem_nil, or_false] at hp
    rcases hp with rfl
    exact ⟨(hT "law" (by simp) _ _ t_law).2, u_law, (hT "law" (by simp) _ _ t_law).1⟩), fun base H s a ns hl kb nb tb ht hS e0 => key base kb nb tb callerA [] s H _ [.ref a] [.ref a] _ _ rfl ⟨rfl, by decide, by decide⟩ e0 (.of_eq rfl) (.cons rfl .nil) (law_in2 (fun p hp => LamX.TabS.nil ?_) (hm ns hl) hS)⟩
  exact (show ∀ p ∈ ([(pp_law, qn "law")] : List (Addr × Str)), H p.1 = some (.tbl #[]) from (by
    intro p hp
    simp only [List.mem_cons, List.not_mem_nil, or_false] at hp
    rcases hp with rfl
    exact ht (kk_law, pp_law) (by simp))) p hp
end K01
set_option Elab.async false
set_option linter.all false
set_option maxRecDepth 100000
set_option maxHeartbeats 4000000
open PySem PySem.W PyProof.Rows
set_option maxHeartbeats 0 in
theorem PySem.Challenge.cw_yieldseats_k01_whole_who_sits_where_holds : PySem.Challenge.rw_yieldseats_k01_whole_who_sits_where.Holds := by
  w_on; o_law; k_head; (case hw => w_witness2)
  k_fill
  refine Y.walk_allG (l := PySem.Challenge.rw_yieldseats_k01_whole_who_sits_where) (n := 63) ["law"] rfl (by decide) rfl ?hx (by intro w h Y; first | exact PySem.W.kIn_of Y | exact PySem.W.km_in_of Y) ?F
  case hx => rfl
  case F =>
    intro w mg fa h KX G hmg ht
    refine' K01.all_mk KX G hmg ht (fun ns hl => K01.law_true ns hl) ?a0 ?l0 ?c0 ?k0 ?a1 ?l1 ?c1 ?k1 ?a2 ?l2 ?c2 ?k2 ?a3 ?l3 ?c3 ?k3 ?a4 ?l4 ?c4 ?k4 ?a5 ?l5 ?c5 ?k5 ?a6 ?l6 ?c6 ?k6 ?a7 ?l7 ?c7 ?k7 ?a8 ?l8 ?c8 ?k8 ?a9 ?l9 ?c9 ?k9 ?a10 ?l10 ?c10 ?k10 ?a11 ?l11 ?c11 ?k11 ?a12 ?l12 ?c12 ?k12 ?a13 ?l13 ?c13 ?k13 ?a14 ?l14 ?c14 ?k14 ?a15 ?l15 ?c15 ?k15 ?a16 ?l16 ?c16 ?k16 ?a17 ?l17 ?c17 ?k17 ?t_law ?u_law ?zx_SeatError ?zx_Full ?zx_NoComer ?zx_NoCourtesy ?zx_NoHall ?zx_NotThere ?zx_Taken ?zx_TooMany ?en_Full ?xk_Full ?xs_Full ?xt_Full ?eg_Full ?ek_Full ?ed_Full ?ea_Full ?ei_Full ?et_Full ?em_Full ?k1_Full ?k2_Full ?k3_Full ?k4_Full ?k5_Full ?k6_Full ?k7_Full ?kv_Full ?f7_Full ?f0_Full ?z_ValueError ?z_all ?z_bool ?z_int ?z_isinstance ?z_len ?z_list ?z_min ?z_range ?z_set ?z_str ?z_tuple ?z_zip ?y_LETTERS
    (case a0 => first | k_is | k_exc | kit_is | kts_exm)
    (case l0 => first | k_is | k_exc | kit_is | kts_exm)
    (case c0 => first | k_is | k_exc | kit_is | kts_exm)
    (case k0 => first | k_is | k_exc | kit_is | kts_exm)
    (case a1 => first | k_is | k_exc | kit_is | kts_exm)
    (case l1 => first | k_is | k_exc | kit_is | kts_exm)
    (case c1 => first | k_is | k_exc | kit_is | kts_exm)
    (case k1 => first | k_is | k_exc | kit_is | kts_exm)
    (case a2 => first | k_is | k_exc | kit_is | kts_exm)
    (case l2 => first | k_is | k_exc | kit_is | kts_exm)
    (case c2 => first | k_is | k_exc | kit_is | kts_exm)
    (case k2 => first | k_is | k_exc | kit_is | kts_exm)
    (case a3 => first | k_is | k_exc | kit_is | kts_exm)
    (case l3 => first | k_is | k_exc | kit_is | kts_exm)
    (case c3 => first | k_is | k_exc | kit_is | kts_exm)
    (case k3 => first | k_is | k_exc | kit_is | kts_exm)
    (case a4 => first | k_is | k_exc | kit_is | kts_exm)
    (case l4 => first | k_is | k_exc | kit_is | kts_exm)
    (case c4 => first | k_is | k_exc | kit_is | kts_exm)
    (case k4 => first | k_is | k_exc | kit_is | kts_exm)
    (case a5 => first | k_is | k_exc | kit_is | kts_exm)
    (case l5 => first | k_is | k_exc | kit_is | kts_exm)
    (case c5 => first | k_is | k_exc | kit_is | kts_exm)
    (case k5 => first | k_is | k_exc | kit_is | kts_exm)
    (case a6 => first | k_is | k_exc | kit_is | kts_exm)
    (case l6 => first | k_is | k_exc | kit_is | kts_exm)
    (case c6 => first | k_is | k_exc | kit_is | kts_exm)
    (case k6 => first | k_is | k_exc | kit_is | kts_exm)
    (case a7 => first | k_is | k_exc | kit_is | kts_exm)
    (case l7 => first | k_is | k_exc | kit_is | kts_exm)
    (case c7 => first | k_is | k_exc | kit_is | kts_exm)
    (case k7 => first | k_is | k_exc | kit_is | kts_exm)
    (case a8 => first | k_is | k_exc | kit_is | kts_exm)
    (case l8 => first | k_is | k_exc | kit_is | kts_exm)
    (case c8 => first | k_is | k_exc | kit_is | kts_exm)
    (case k8 => first | k_is | k_exc | kit_is | kts_exm)
    (case a9 => first | k_is | k_exc | kit_is | kts_exm)
    (case l9 => first | k_is | k_exc | kit_is | kts_exm)
    (case c9 => first | k_is | k_exc | kit_is | kts_exm)
    (case k9 => first | k_is | k_exc | kit_is | kts_exm)
    (case a10 => first | k_is | k_exc | kit_is | kts_exm)
    (case l10 => first | k_is | k_exc | kit_is | kts_exm)
    (case c10 => first | k_is | k_exc | kit_is | kts_exm)
    (case k10 => first | k_is | k_exc | kit_is | kts_exm)
    (case a11 => first | k_is | k_exc | kit_is | kts_exm)
    (case l11 => first | k_is | k_exc | kit_is | kts_exm)
    (case c11 => first | k_is | k_exc | kit_is | kts_exm)
    (case k11 => first | k_is | k_exc | kit_is | kts_exm)
    (case a12 => first | k_is | k_exc | kit_is | kts_exm)
    (case l12 => first | k_is | k_exc | kit_is | kts_exm)
    (case c12 => first | k_is | k_exc | kit_is | kts_exm)
    (case k12 => first | k_is | k_exc | kit_is | kts_exm)
    (case a13 => first | k_is | k_exc | kit_is | kts_exm)
    (case l13 => first | k_is | k_exc | kit_is | kts_exm)
    (case c13 => first | k_is | k_exc | kit_is | kts_exm)
    (case k13 => first | k_is | k_exc | kit_is | kts_exm)
    (case a14 => first | k_is | k_exc | kit_is | kts_exm)
    (case l14 => first | k_is | k_exc | kit_is | kts_exm)
    (case c14 => first | k_is | k_exc | kit_is | kts_exm)
    (case k14 => first | k_is | k_exc | kit_is | kts_exm)
    (case a15 => first | k_is | k_exc | kit_is | kts_exm)
    (case l15 => first | k_is | k_exc | kit_is | kts_exm)
    (case c15 => first | k_is | k_exc | kit_is | kts_exm)
    (case k15 => first | k_is | k_exc | kit_is | kts_exm)
    (case a16 => first | k_is | k_exc | kit_is | kts_exm)
    (case l16 => first | k_is | k_exc | kit_is | kts_exm)
    (case c16 => first | k_is | k_exc | kit_is | kts_exm)
    (case k16 => first | k_is | k_exc | kit_is | kts_exm)
    (case a17 => first | k_is | k_exc | kit_is | kts_exm)
    (case l17 => first | k_is | k_exc | kit_is | kts_exm)
    (case c17 => first | k_is | k_exc | kit_is | kts_exm)
    (case k17 => first | k_is | k_exc | kit_is | kts_exm)
    (case t_law => refine' Y.tab_mk ?e_ ?l_ ?c_ ?m_ ?h_; (case e_ => k_is); (case l_ => k_is); (case c_ => rfl); (case m_ => k_is); (case h_ => rfl))
    (case u_law => kernel_rfl)
    (case zx_SeatError => first | k_is | k_exc | kit_is | kts_exm)
    (case zx_Full => first | k_is | k_exc | kit_is | kts_exm)
    (case zx_NoComer => first | k_is | k_exc | kit_is | kts_exm)
    (case zx_NoCourtesy => first | k_is | k_exc | kit_is | kts_exm)
    (case zx_NoHall => first | k_is | k_exc | kit_is | kts_exm)
    (case zx_NotThere => first | k_is | k_exc | kit_is | kts_exm)
    (case zx_Taken => first | k_is | k_exc | kit_is | kts_exm)
    (case zx_TooMany => first | k_is | k_exc | kit_is | kts_exm)
    (case en_Full => first | k_is | k_exc | kit_is | kts_exm)
    (case xk_Full => first | k_is | k_exc | kit_is | kts_exm)
    (case xs_Full => first | k_is | k_exc | kit_is | kts_exm)
    (case xt_Full => first | k_is | k_exc | kit_is | kts_exm)
    (case eg_Full => first | k_is | k_exc | kit_is | kts_exm)
    (case ek_Full => first | k_is | k_exc | kit_is | kts_exm)
    (case ed_Full => first | k_is | k_exc | kit_is | kts_exm)
    (case ea_Full => first | k_is | k_exc | kit_is | kts_exm)
    (case ei_Full => first | k_is | k_exc | kit_is | kts_exm)
    (case et_Full => first | k_is | k_exc | kit_is | kts_exm)
    (case em_Full => first | k_is | k_exc | kit_is | kts_exm)
    (case k1_Full => first | k_is | k_exc | kit_is | kts_exm)
    (case k2_Full => first | k_is | k_exc | kit_is | kts_exm)
    (case k3_Full => first | k_is | k_exc | kit_is | kts_exm)
    (case k4_Full => first | k_is | k_exc | kit_is | kts_exm)
    (case k5_Full => first | k_is | k_exc | kit_is | kts_exm)
    (case k6_Full => first | k_is | k_exc | kit_is | kts_exm)
    (case k7_Full => first | k_is | k_exc | kit_is | kts_exm)
    (case kv_Full => first | k_is | k_exc | kit_is | kts_exm)
    (case f7_Full => first | k_is | k_exc | kit_is | kts_exm)
    (case f0_Full => first | k_is | k_exc | kit_is | kts_exm)
    (case z_ValueError => first | k_is | k_exc | kit_is | kts_exm)
    (case z_all => first | k_is | k_exc | kit_is | kts_exm)
    (case z_bool => first | k_is | k_exc | kit_is | kts_exm)
    (case z_int => first | k_is | k_exc | kit_is | kts_exm)
    (case z_isinstance => first | k_is | k_exc | kit_is | kts_exm)
    (case z_len => first | k_is | k_exc | kit_is | kts_exm)
    (case z_list => first | k_is | k_exc | kit_is | kts_exm)
    (case z_min => first | k_is | k_exc | kit_is | kts_exm)
    (case z_range => first | k_is | k_exc | kit_is | kts_exm)
    (case z_set => first | k_is | k_exc | kit_is | kts_exm)
    (case z_str => first | k_is | k_exc | kit_is | kts_exm)
    (case z_tuple => first | k_is | k_exc | kit_is | kts_exm)
    (case z_zip => first | k_is | k_exc | kit_is | kts_exm)
    (case y_LETTERS => first | k_is | k_exc | kit_is | kts_exm)
