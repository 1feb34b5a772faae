import PyProof.Rows.All
import Wide.All
import OpenK.AllK
import Wide.FinOn
import HandS.ForMost
import HandS.ForExc
import HandS.CallSlots
import HandS.Codes
import HandS.TryOnly
import HandS.Deep
import HandS.SortInts
import HandS.SortRule
import HandS.SortKw
import HandS.TupAny
import HandS.TupMul
import HandS.TupLe
import HandS.Zip
import HandS.Rev
import HandS.RevRange
import HandS.IsInst
import HandS.Flow
import HandS.Style
import HandS.Strs
import HandS.SetKeys
import HandS.TupSets
import HandS.Conv
import HandS.Small
import HandS.Keys
import KE.GoesMore
import HandS.RevTup
import PySem.Challenge.RW_everydelay_k26_covers_and_rests
section
set_option linter.all false
/-! Sem: values, environments, one combinator a construct. Plain Lean. -/
namespace Sm

/-- a value: lists are values, too -/
inductive D where
  | non | bl (b : Bool) | int (i : Int) | str (s : List Nat)
  | tup (xs : List D) | lst (xs : List D) | dic (kvs : List (D × D)) | hdl
  deriving Inhabited

/-- no list and no dict stands in it -/
def lf : D → Bool
  | .lst _ => false
  | .dic _ => false
  | .tup xs => lfs xs
  | _ => true
where lfs : List D → Bool
  | [] => true
  | x :: xs => lf x && lfs xs
abbrev lfs := lf.lfs

/-- own: no other name has it; frz: it is not to be changed any more -/
inductive Md where | own | frz
  deriving DecidableEq, Repr
abbrev Slot := Option (Md × D)
abbrev Ev := List Slot

/-- the draws -/
structure DS where
  cells : List Nat
  pos : Nat
  rest : Nat
  seed : Nat
def DS.turn (s : DS) : DS :=
  if s.rest = 0 then
    let r := s.cells.getD s.pos 0
    if r = 0 then
      let sd := (s.seed * 48271 + 11) % 2147483647
      { s with pos := s.pos + 1, rest := sd, seed := sd }
    else { s with pos := s.pos + 1, rest := r }
  else s
/-- a number below m -/
def DS.take (s : DS) (m : Nat) : Nat × DS := (s.turn.rest % m, { s.turn with rest := s.turn.rest / m })
theorem DS.take_lt (s : DS) {m : Nat} (h : 0 < m) : (s.take m).1 < m := Nat.mod_lt _ h

structure Exn where
  name : String
  arg : D

/-- what comes out: a value, an error, or nothing that is told here -/
inductive R (α : Type) where
  | ok (a : α) (s : DS)
  | exc (e : Exn) (s : DS)
  | bad
def R.bnd {α β : Type} (r : R α) (k : α → DS → R β) : R β :=
  match r with
  | .ok a s => k a s
  | .exc e s => .exc e s
  | .bad => .bad
@[simp] theorem R.bnd_ok {α β : Type} (a : α) (s : DS) (k : α → DS → R β) : (R.ok a s).bnd k = k a s := rfl
@[simp] theorem R.bnd_exc {α β : Type} (e : Exn) (s : DS) (k : α → DS → R β) : (R.exc e s : R α).bnd k = .exc e s := rfl
@[simp] theorem R.bnd_bad {α β : Type} (k : α → DS → R β) : (R.bad : R α).bnd k = .bad := rfl

/-- none: new, nobody else has it; some B: it may lie in what the slots of B hold -/
abbrev Al := Option (List Nat)
def alU : Al → Al → Al
  | none, none => none
  | none, some b => some b
  | some a, none => some a
  | some a, some b => some (a ++ b)
def norm (d : D) (al : Al) : Al := if lf d then none else al
def fr2 (fr : Bool) (al : Al) : Al := if fr then none else some (al.getD [])

/-- the most items of a list -/
def LIM : Nat := 1000000
abbrev E := Ev → DS → R (D × Al)
abbrev A := Ev → DS → R (List D × Al)
abbrev T := Ev → DS → R Bool
abbrev I := Ev → DS → R (List D × Al)
abbrev RF := R (D × Bool)
abbrev B := D → Md → Ev → Option Ev

def getS : Ev → Nat → Slot
  | [], _ => none
  | x :: _, 0 => x
  | _ :: r, i + 1 => getS r i
def setS : Ev → Nat → Slot → Ev
  | [], _, _ => []
  | _ :: r, 0, y => y :: r
  | x :: r, i + 1, y => x :: setS r i y
def frzAt (env : Ev) (i : Nat) : Ev :=
  match getS env i with
  | some (_, d) => setS env i (some (.frz, d))
  | none => env
def freeze : List Nat → Ev → Ev
  | [], env => env
  | i :: is, env => freeze is (frzAt env i)
def wipeE (env : Ev) : List Nat → Ev
  | [] => env
  | i :: is => setS (wipeE env is) i none

/-! ### expressions -/
def eC (d : D) : E := fun _ s => .ok (d, none) s
def eV (i : Nat) : E := fun env s =>
  match getS env i with
  | some (_, d) => .ok (d, norm d (some [i])) s
  | none => .bad
def eU (g : D → Option (D × Bool)) (f : E) : E := fun env s =>
  (f env s).bnd fun x s1 => match g x.1 with
    | some r => .ok (r.1, fr2 r.2 x.2) s1
    | none => .bad
def eB (g : D → D → Option (D × Bool)) (f1 f2 : E) : E := fun env s =>
  (f1 env s).bnd fun x s1 => (f2 env s1).bnd fun y s2 => match g x.1 y.1 with
    | some r => .ok (r.1, fr2 r.2 (alU x.2 y.2)) s2
    | none => .bad
/-- a op b op' c -/
def eCh (g g' : D → D → Option (D × Bool)) (f1 f2 f3 : E) : E := fun env s =>
  (f1 env s).bnd fun x s1 => (f2 env s1).bnd fun y s2 => match g x.1 y.1 with
    | some (.bl true, _) => (f3 env s2).bnd fun z s3 => match g' y.1 z.1 with
      | some (.bl b, _) => .ok (.bl b, none) s3
      | _ => .bad
    | some (.bl false, _) => .ok (.bl false, none) s2
    | _ => .bad
def eIf (t : T) (f1 f2 : E) : E := fun env s => (t env s).bnd fun b s1 => if b then f1 env s1 else f2 env s1
/-- and, or, not of bools as values -/
def eAnd (f1 f2 : E) : E := fun env s => (f1 env s).bnd fun x s1 => match x.1 with
  | .bl true => f2 env s1
  | .bl false => .ok (.bl false, none) s1
  | _ => .bad
def eOr (f1 f2 : E) : E := fun env s => (f1 env s).bnd fun x s1 => match x.1 with
  | .bl true => .ok (.bl true, none) s1
  | .bl false => f2 env s1
  | _ => .bad
def eNot (f : E) : E := fun env s => (f env s).bnd fun x s1 => match x.1 with
  | .bl b => .ok (.bl (!b), none) s1
  | _ => .bad
def aNil : A := fun _ s => .ok ([], none) s
def aCons (f : E) (r : A) : A := fun env s => (f env s).bnd fun x s1 => (r env s1).bnd fun y s2 => .ok (x.1 :: y.1, alU x.2 y.2) s2
def eTup (a : A) : E := fun env s => (a env s).bnd fun x s1 => .ok (.tup x.1, norm (.tup x.1) x.2) s1
def eLst (a : A) : E := fun env s => (a env s).bnd fun x s1 => .ok (.lst x.1, x.2) s1
/-- a built-in by values -/
def eFn (g : List D → Option (D × Bool)) (a : A) : E := fun env s =>
  (a env s).bnd fun x s1 => match g x.1 with
    | some r => .ok (r.1, fr2 r.2 x.2) s1
    | none => .bad
/-- a def -/
def eCall (m : List D → DS → RF) (a : A) : E := fun env s =>
  (a env s).bnd fun x s1 => (m x.1 s1).bnd fun r s2 => .ok (r.1, fr2 r.2 x.2) s2
/-- a bound of a slice -/
def optI (o : Option E) : Ev → DS → R (Option Int) := fun env s => match o with
  | none => .ok none s
  | some e => (e env s).bnd fun y s2 => match y.1 with
    | .int i => .ok (some i) s2
    | _ => .bad
/-- x[lo:hi] -/
def eSl (g : D → Option Int → Option Int → Option (D × Bool)) (f : E) (lo hi : Option E) : E := fun env s =>
  (f env s).bnd fun x s1 => (optI lo env s1).bnd fun l s2 => (optI hi env s2).bnd fun h s3 =>
    match g x.1 l h with
    | some r => .ok (r.1, fr2 r.2 x.2) s3
    | none => .bad

/-! ### tests -/
def truth : D → Option Bool
  | .non => some false
  | .bl b => some b
  | .int i => some (i != 0)
  | .str s => some (!s.isEmpty)
  | .tup xs => some (!xs.isEmpty)
  | .lst xs => some (!xs.isEmpty)
  | .dic xs => some (!xs.isEmpty)
  | .hdl => none
def tV (f : E) : T := fun env s => (f env s).bnd fun x s1 => match truth x.1 with
  | some b => .ok b s1
  | none => .bad
def tB (f : E) : T := fun env s => (f env s).bnd fun x s1 => match x.1 with
  | .bl b => .ok b s1
  | _ => .bad
def tAnd (t u : T) : T := fun env s => (t env s).bnd fun b s1 => if b then u env s1 else .ok false s1
def tOr (t u : T) : T := fun env s => (t env s).bnd fun b s1 => if b then .ok true s1 else u env s1
def tNot (t : T) : T := fun env s => (t env s).bnd fun b s1 => .ok (!b) s1
def tYes : T := fun _ s => .ok true s

/-! ### targets, comprehensions -/
def bName (i : Nat) : B := fun d m env => some (setS env i (some (if lf d then .own else m, d)))
def bTupL : List B → List D → Md → Ev → Option Ev
  | [], [], _, env => some env
  | b :: bs, d :: ds, m, env => match b d m env with
    | some e1 => bTupL bs ds m e1
    | none => none
  | _, _, _, _ => none
def bTup (bs : List B) : B := fun d m env => match d with
  | .tup ds => bTupL bs ds m env
  | _ => none
def compF (b : B) (t : T) (f : E) : List D → Ev → DS → R (List D × Al)
  | [], _, s => .ok ([], none) s
  | d :: ds, env, s => match b d .frz env with
    | none => .bad
    | some e1 => (t e1 s).bnd fun c s1 =>
      if c then (f e1 s1).bnd fun x s2 => (compF b t f ds env s2).bnd fun y s3 => .ok (x.1 :: y.1, alU x.2 y.2) s3
      else compF b t f ds env s1
def noExc {α : Type} : R α → R α
  | .exc _ _ => .bad
  | r => r
/-- [f for b in it if t], vs: its own slots -/
def eLc (vs : List Nat) (it : I) (b : B) (t : T) (f : E) : E := fun env s =>
  (it env s).bnd fun x s1 => (noExc (compF b t f x.1 (wipeE (freeze (x.2.getD []) env) vs) s1)).bnd fun y s2 =>
    .ok (.lst y.1, y.2.map fun bs => bs.filter (fun i => !vs.contains i) ++ x.2.getD []) s2

/-- items without lists in them; f: the new items of one turn -/
def compG (b : B) (t : T) (f : Ev → DS → R (List D)) : List D → Ev → DS → R (List D)
  | [], _, s => .ok [] s
  | d :: ds, env, s => match b d .frz env with
    | none => .bad
    | some e1 => (t e1 s).bnd fun c s1 =>
      if c then (f e1 s1).bnd fun x s2 => (compG b t f ds env s2).bnd fun y s3 => .ok (x ++ y) s3
      else compG b t f ds env s1
def lcOne (f : E) : Ev → DS → R (List D) := fun e s => (f e s).bnd fun x s1 => if lf x.1 then .ok [x.1] s1 else .bad
def lcIn (vs : List Nat) (it : I) (b : B) (t : T) (f : Ev → DS → R (List D)) : Ev → DS → R (List D) := fun e s => (it e s).bnd fun x s1 => compG b t f x.1 (wipeE (freeze (x.2.getD []) e) vs) s1
/-- [f for b in it if t for b1 in it1 if t1] -/
def eLc2 (vs : List Nat) (it : I) (b : B) (t : T) (vs1 : List Nat) (it1 : I) (b1 : B) (t1 : T) (f : E) : E := fun env s =>
  (it env s).bnd fun x s1 => (noExc (compG b t (lcIn vs1 it1 b1 t1 (lcOne f)) x.1 (wipeE (freeze (x.2.getD []) env) vs) s1)).bnd fun y s2 =>
    if y.length ≤ LIM then .ok (.lst y, none) s2 else .bad

/-! ### statements -/
inductive RS where
  | nx (env : Ev) (s : DS)
  | rt (d : D) (fr : Bool) (s : DS)
  | bk (env : Ev) (s : DS)
  | ct (env : Ev) (s : DS)
  | ex (e : Exn) (env : Ev) (s : DS)
  | bad
abbrev S := Ev → DS → RS
def R.st {α : Type} (r : R α) (env : Ev) (k : α → DS → RS) : RS :=
  match r with
  | .ok a s => k a s
  | .exc e s => .ex e env s
  | .bad => .bad
@[simp] theorem R.st_ok {α : Type} (a : α) (s : DS) (env : Ev) (k : α → DS → RS) : (R.ok a s).st env k = k a s := rfl
@[simp] theorem R.st_exc {α : Type} (e : Exn) (s : DS) (env : Ev) (k : α → DS → RS) : (R.exc e s : R α).st env k = .ex e env s := rfl
@[simp] theorem R.st_bad {α : Type} (env : Ev) (k : α → DS → RS) : (R.bad : R α).st env k = .bad := rfl
def nxO (o : Option Ev) (s : DS) : RS := match o with
  | some e => .nx e s
  | none => .bad
@[simp] theorem nxO_some (e : Ev) (s : DS) : nxO (some e) s = .nx e s := rfl
@[simp] theorem nxO_none (s : DS) : nxO none s = .bad := rfl
def RS.seq (r : RS) (k : Ev → DS → RS) : RS := match r with
  | .nx e s => k e s
  | r => r
@[simp] theorem RS.seq_nx (e : Ev) (s : DS) (k : Ev → DS → RS) : (RS.nx e s).seq k = k e s := rfl
@[simp] theorem RS.seq_rt (d : D) (f : Bool) (s : DS) (k : Ev → DS → RS) : (RS.rt d f s).seq k = .rt d f s := rfl
@[simp] theorem RS.seq_bk (e : Ev) (s : DS) (k : Ev → DS → RS) : (RS.bk e s).seq k = .bk e s := rfl
@[simp] theorem RS.seq_ct (e : Ev) (s : DS) (k : Ev → DS → RS) : (RS.ct e s).seq k = .ct e s := rfl
@[simp] theorem RS.seq_ex (x : Exn) (e : Ev) (s : DS) (k : Ev → DS → RS) : (RS.ex x e s).seq k = .ex x e s := rfl
@[simp] theorem RS.seq_bad (k : Ev → DS → RS) : (RS.bad).seq k = .bad := rfl

def sNil : S := fun env s => .nx env s
def sSeq (g h : S) : S := fun env s => (g env s).seq h
def sBrk : S := fun env s => .bk env s
def sCnt : S := fun env s => .ct env s
def sExpr (f : E) : S := fun env s => (f env s).st env fun _ s1 => .nx env s1
/-- the name that is handed back: what it alone has is handed on as new -/
def sRetV (i : Nat) : S := fun env s => match getS env i with
  | some (m, d) => .rt d (lf d || (m == .own)) s
  | none => .bad
def sRet (f : E) : S := fun env s => (f env s).st env fun x s1 => .rt x.1 x.2.isNone s1
def sRetN : S := fun _ s => .rt .non true s
def sIf (t : T) (g h : S) : S := fun env s => (t env s).st env fun b s1 => if b then g env s1 else h env s1
def sAsg (b : B) (f : E) : S := fun env s => (f env s).st env fun x s1 => match x.2 with
  | none => nxO (b x.1 .own env) s1
  | some bs => nxO (b x.1 .frz (freeze bs env)) s1
/-- a, b = x, y -/
def sPar (is : List Nat) (a : A) : S := fun env s => (a env s).st env fun x s1 => match x.2 with
  | none => nxO (bTupL (is.map bName) x.1 .own env) s1
  | some bs => nxO (bTupL (is.map bName) x.1 .frz (freeze bs env)) s1
/-- x op= e by values (intL, texts) -/
def sAug (i : Nat) (g : D → D → Option D) (f : E) : S := fun env s => match getS env i with
  | some (_, d) => (f env s).st env fun x s1 => match g d x.1 with
    | some r => if lf r then .nx (setS env i (some (.own, r))) s1 else .bad
    | none => .bad
  | none => .bad
def whileF (t : T) (g : S) : Nat → Ev → DS → RS
  | 0, _, _ => .bad
  | n + 1, env, s => (t env s).st env fun b s1 =>
    if b then match g env s1 with
      | .nx e2 s2 => whileF t g n e2 s2
      | .ct e2 s2 => whileF t g n e2 s2
      | .bk e2 s2 => .nx e2 s2
      | .rt d f s2 => .rt d f s2
      | .ex x e2 s2 => .ex x e2 s2
      | .bad => .bad
    else .nx env s1
def sWhile (n : Nat) (t : T) (g : S) : S := fun env s => whileF t g n env s
def forF (b : B) (g : S) : List D → Ev → DS → RS
  | [], env, s => .nx env s
  | d :: ds, env, s => match b d .frz env with
    | none => .bad
    | some e1 => match g e1 s with
      | .nx e2 s2 => forF b g ds e2 s2
      | .ct e2 s2 => forF b g ds e2 s2
      | .bk e2 s2 => .nx e2 s2
      | .rt d f s2 => .rt d f s2
      | .ex x e2 s2 => .ex x e2 s2
      | .bad => .bad
def sFor (it : I) (b : B) (g : S) : S := fun env s => (it env s).st env fun x s1 => forF b g x.1 (freeze (x.2.getD []) env) s1
def sRaise (n : String) : S := fun env s => .ex ⟨n, .non⟩ env s
/-- try: g  except (what c tells): h -/
def noEx : RS → RS
  | .ex _ _ _ => .bad
  | r => r
def sTry (cs : List (String × Bool)) (g h : S) : S := fun env s => match g env s with
  | .ex x e2 s2 => match cs.lookup x.name with
    | some true => noEx (h e2 s2)
    | some false => .ex x e2 s2
    | none => .bad
  | r => r

/-! lists changed in place -/
def sApp (i : Nat) (f : E) : S := fun env s => match getS env i with
  | some (.own, .lst ds) => (f env s).st env fun x s1 => match x.2 with
    | none => if ds.length < LIM then .nx (setS env i (some (.own, .lst (ds ++ [x.1])))) s1 else .bad
    | _ => .bad
  | _ => .bad
/-- x.extend(e), e a list without lists in it -/
def sExt (i : Nat) (f : E) : S := fun env s => match getS env i with
  | some (.own, .lst ds) => (f env s).st env fun x s1 => match x.1 with
    | .lst es => if lfs es = true ∧ ds.length + es.length ≤ LIM then .nx (setS env i (some (.own, .lst (ds ++ es)))) s1 else .bad
    | _ => .bad
  | _ => .bad
/-- y = x.pop() -/
def sPop (b : B) (i : Nat) : S := fun env s => match getS env i with
  | some (.own, .lst ds) => match ds.getLast? with
    | some d => if lf d then nxO (b d .own (setS env i (some (.own, .lst ds.dropLast)))) s else .bad
    | none => .bad
  | _ => .bad
/-- an index as a place -/
def ixN (n : Nat) (i : Int) : Option Nat :=
  if 0 ≤ i then (if i < n then some i.toNat else none) else (if -(n : Int) ≤ i then some (i + n).toNat else none)
/-- x[i] = e (e first) -/
def sSet (i : Nat) (fi f : E) : S := fun env s => match getS env i with
  | some (.own, .lst ds) => (f env s).st env fun x s1 => (fi env s1).st env fun y s2 => match x.2, y.1 with
    | none, .int k => match ixN ds.length k with
      | some j => .nx (setS env i (some (.own, .lst (ds.set j x.1)))) s2
      | none => .bad
    | _, _ => .bad
  | _ => .bad

/-- x[i][j] = e (e first) -/
def sSet2 (i : Nat) (fi fj f : E) : S := fun env s => match getS env i with
  | some (.own, .lst ds) => (f env s).st env fun x s1 => (fi env s1).st env fun y s2 => match y.1 with
    | .int k => match ixN ds.length k with
      | some j => match ds[j]? with
        | some (.lst es) => (fj env s2).st env fun z s3 => match x.2, z.1 with
          | none, .int l => match ixN es.length l with
            | some m => .nx (setS env i (some (.own, .lst (ds.set j (.lst (es.set m x.1)))))) s3
            | none => .bad
          | _, _ => .bad
        | _ => .bad
      | none => .bad
    | _ => .bad
  | _ => .bad

/-- x.insert(i, e) -/
def sIns (i : Nat) (fi f : E) : S := fun env s => match getS env i with
  | some (.own, .lst ds) => (fi env s).st env fun y s1 => (f env s1).st env fun x s2 => match y.1, x.2 with
    | .int k, none => if ds.length < LIM ∧ 0 ≤ k ∧ k ≤ LIM then .nx (setS env i (some (.own, .lst (ds.take k.toNat ++ [x.1] ++ ds.drop k.toNat)))) s2 else .bad
    | _, _ => .bad
  | _ => .bad
/-- x[i] op= e, values without lists -/
def sAugS (i : Nat) (g : D → D → Option D) (fi f : E) : S := fun env s => match getS env i with
  | some (.own, .lst ds) => (fi env s).st env fun y s1 => match y.1 with
    | .int k => match ixN ds.length k with
      | some j => match ds[j]? with
        | some d => (f env s1).st env fun x s2 => match g d x.1 with
          | some r => if lf d = true ∧ lf r = true then .nx (setS env i (some (.own, .lst (ds.set j r)))) s2 else .bad
          | none => .bad
        | none => .bad
      | none => .bad
    | _ => .bad
  | _ => .bad

/-! ### defs -/
def initE (ds : List D) (n : Nat) : Ev := ds.map (fun d => some (if lf d then Md.own else .frz, d)) ++ List.replicate (n - ds.length) none
/-- the body g of a def with n slots and p parameters -/
def runB (g : S) (n p : Nat) (ds : List D) (s : DS) : RF :=
  if ds.length = p then
    match g (initE ds n) s with
    | .rt d fr s1 => .ok (d, fr) s1
    | .nx _ s1 => .ok (.non, true) s1
    | .ex e _ s1 => .exc e s1
    | _ => .bad
  else .bad
end Sm
namespace Sm
/-! ### what is walked -/
/-- a list or a tuple -/
def iSeq (f : E) : I := fun env s => (f env s).bnd fun x s1 => match x.1 with
  | .lst ds => .ok (ds, x.2) s1
  | .tup ds => .ok (ds, x.2) s1
  | _ => .bad
def intL (lo : Int) (n : Nat) : List D := (List.range n).map fun (k : Nat) => D.int (lo + k)
def iRange1 (a : A) : I := fun env s => (a env s).bnd fun x s1 => match x.1 with
  | [.int j] => if -LIM ≤ j ∧ j ≤ LIM then .ok (intL 0 j.toNat, none) s1 else .bad
  | _ => .bad
def iRange2 (a : A) : I := fun env s => (a env s).bnd fun x s1 => match x.1 with
  | [.int i, .int j] => if -LIM ≤ i ∧ i ≤ LIM ∧ j - i ≤ LIM ∧ -LIM ≤ j then .ok (intL i (j - i).toNat, none) s1 else .bad
  | _ => .bad
def enumD : Nat → List D → List D
  | _, [] => []
  | n, d :: ds => .tup [.int n, d] :: enumD (n + 1) ds
def iEnum (a : A) : I := fun env s => (a env s).bnd fun x s1 => match x.1 with
  | [.lst ds] => .ok (enumD 0 ds, x.2) s1
  | [.tup ds] => .ok (enumD 0 ds, x.2) s1
  | _ => .bad
def zipD : List D → List D → List D
  | d :: ds, e :: es => .tup [d, e] :: zipD ds es
  | _, _ => []
def iZip (a : A) : I := fun env s => (a env s).bnd fun x s1 => match x.1 with
  | [.lst ds, .lst es] => .ok (zipD ds es, x.2) s1
  | [.tup ds, .tup es] => .ok (zipD ds es, x.2) s1
  | _ => .bad
def iRev (f : E) : I := fun env s => (f env s).bnd fun x s1 => match x.1 with
  | .lst ds => .ok (ds.reverse, x.2) s1
  | .tup ds => .ok (ds.reverse, x.2) s1
  | _ => .bad
end Sm
namespace Sm
/-! ### operators by values: the result, and whether it is new -/
def gAdd : D → D → Option (D × Bool)
  | .int i, .int j => some (.int (i + j), true)
  | .str a, .str b => if a.length + b.length ≤ LIM then some (.str (a ++ b), true) else none
  | .lst a, .lst b => if a.length + b.length ≤ LIM then some (.lst (a ++ b), lfs a && lfs b) else none
  | .tup a, .tup b => if a.length + b.length ≤ LIM then some (.tup (a ++ b), lfs a && lfs b) else none
  | _, _ => none
def b2z (b : Bool) : Int := if b then 1 else 0
def gSub : D → D → Option (D × Bool)
  | .int i, .int j => some (.int (i - j), true)
  | .bl a, .bl b => some (.int (b2z a - b2z b), true)
  | _, _ => none
def BIG : Int := 18446744073709551616
def gMul : D → D → Option (D × Bool)
  | .int i, .int j => if (-BIG < i ∧ i < BIG) ∨ (-BIG < j ∧ j < BIG) then some (.int (i * j), true) else none
  | .lst a, .int k => if lfs a = true ∧ -BIG / 2 ≤ k ∧ k < BIG / 2 ∧ a.length * k.toNat ≤ LIM then some (.lst (List.replicate k.toNat a).flatten, true) else none
  | .tup a, .int k => if lfs a = true ∧ -BIG / 2 ≤ k ∧ k ≤ 1000 ∧ a.length ≤ 1000 then some (.tup (List.replicate k.toNat a).flatten, true) else none
  | _, _ => none
def gDiv : D → D → Option (D × Bool)
  | .int i, .int j => if 0 < j ∧ j < 1073741824 then some (.int (i / j), true) else none
  | _, _ => none
def gMod : D → D → Option (D × Bool)
  | .int i, .int j => if 0 < j then some (.int (i % j), true) else none
  | _, _ => none
def gNeg : D → Option (D × Bool)
  | .int i => some (.int (-i), true)
  | _ => none
/-! comparisons -/
def gB (b : Bool) : Option (D × Bool) := some (.bl b, true)
def gLt : D → D → Option (D × Bool)
  | .int i, .int j => gB (decide (i < j))
  | _, _ => none
def gLe : D → D → Option (D × Bool)
  | .int i, .int j => gB (decide (i ≤ j))
  | _, _ => none
def gGt : D → D → Option (D × Bool)
  | .int i, .int j => gB (decide (j < i))
  | _, _ => none
def gGe : D → D → Option (D × Bool)
  | .int i, .int j => gB (decide (j ≤ i))
  | _, _ => none
mutual
/-- Python's == -/
def eqD : D → D → Bool
  | .non, .non => true
  | .bl a, .bl b => a == b
  | .bl a, .int j => b2z a == j
  | .int i, .bl b => i == b2z b
  | .int i, .int j => i == j
  | .str x, .str y => x == y
  | .lst xs, .lst ys => eqDs xs ys
  | .tup xs, .tup ys => eqDs xs ys
  | _, _ => false
def eqDs : List D → List D → Bool
  | [], [] => true
  | x :: xs, y :: ys => eqD x y && eqDs xs ys
  | _, _ => false
end
mutual
/-- data that == reads: no dict, not too deep -/
def okD : Nat → D → Bool
  | _, .non => true
  | _, .bl _ => true
  | _, .int _ => true
  | _, .str x => x.all fun c => decide (c < 1114112)
  | n, .lst xs => n != 0 && okDs (n - 1) xs
  | n, .tup xs => n != 0 && okDs (n - 1) xs
  | _, _ => false
def okDs : Nat → List D → Bool
  | _, [] => true
  | n, x :: xs => okD n x && okDs n xs
end
def gEq (a b : D) : Option (D × Bool) := if okD 30 a && okD 30 b then gB (eqD a b) else none
def gNe (a b : D) : Option (D × Bool) := if okD 30 a && okD 30 b then gB (!eqD a b) else none
def subL (a : List Nat) : List Nat → Bool
  | [] => a.isEmpty
  | c :: cs => a.isPrefixOf (c :: cs) || subL a cs
def gIn (a : D) : D → Option (D × Bool)
  | .lst xs => if okD 30 a && okDs 30 xs then gB (xs.any fun z => eqD z a) else none
  | .tup xs => if okD 30 a && okDs 30 xs then gB (xs.any fun z => eqD z a) else none
  | .str ys => match a with
    | .str [c] => gB (decide (c ∈ ys))
    | _ => none
  | _ => none
def negB : Option (D × Bool) → Option (D × Bool)
  | some (.bl b, f) => some (.bl (!b), f)
  | _ => none
def gNotIn (a b : D) : Option (D × Bool) := negB (gIn a b)
/-- is None; is True -/
def isN : D → Bool
  | .non => true
  | _ => false
def gIs : D → D → Option (D × Bool)
  | a, .non => gB (isN a)
  | .bl a, .bl b => gB (decide (a = b))
  | _, _ => none
def gIsNot (a b : D) : Option (D × Bool) := negB (gIs a b)
/-! places -/
def gIx : D → D → Option (D × Bool)
  | .lst xs, .int i => (ixN xs.length i).bind fun j => (xs[j]?).map fun d => (d, lf d)
  | .tup xs, .int i => (ixN xs.length i).bind fun j => (xs[j]?).map fun d => (d, lf d)
  | .str xs, .int i => (ixN xs.length i).bind fun j => (xs[j]?).map fun c => (.str [c], true)
  | _, _ => none
/-- a bound of a slice as a place -/
def sIx (n d : Nat) : Option Int → Nat
  | none => d
  | some i => if i < 0 then (i + n).toNat else min i.toNat n
def cutD {α : Type} (xs : List α) (lo hi : Option Int) : List α := (xs.drop (sIx xs.length 0 lo)).take (sIx xs.length xs.length hi - sIx xs.length 0 lo)
def gSl (d : D) (lo hi : Option Int) : Option (D × Bool) := match d with
  | .lst xs => some (.lst (cutD xs lo hi), lfs xs)
  | .tup xs => some (.tup (cutD xs lo hi), lfs xs)
  | .str xs => some (.str (cutD xs lo hi), true)
  | _ => none
def gAugI (g : Int → Int → Int) : D → D → Option D
  | .int i, .int j => some (.int (g i j))
  | _, _ => none
def augAdd : D → D → Option D := gAugI fun i j => i + j
def augSub : D → D → Option D := gAugI fun i j => i - j
def tyD : D → Option String
  | .non => some "NoneType"
  | .bl _ => some "bool"
  | .int _ => some "int"
  | .str _ => some "str"
  | .tup _ => some "tuple"
  | .lst _ => some "list"
  | .dic _ => some "dict"
  | .hdl => none
def isiTys : List String := ["bool", "int", "str", "tuple", "list", "dict"]
def isiB (a t : String) : Bool := a == t || (a == "bool" && t == "int")
def gIsi (t : String) (d : D) : Option (D × Bool) := (tyD d).map fun a => (.bl (isiB a t), true)
/-! built-in functions -/
def gLen : List D → Option (D × Bool)
  | [.lst xs] => some (.int xs.length, true)
  | [.tup xs] => some (.int xs.length, true)
  | [.str xs] => some (.int xs.length, true)
  | [.dic xs] => some (.int xs.length, true)
  | _ => none
def gTuple : List D → Option (D × Bool)
  | [.lst xs] => some (.tup xs, lfs xs)
  | [.tup xs] => some (.tup xs, lfs xs)
  | _ => none
def gList : List D → Option (D × Bool)
  | [.lst xs] => some (.lst xs, lfs xs)
  | [.tup xs] => some (.lst xs, lfs xs)
  | _ => none
/-- list(reversed(x)), x a list -/
def gLstRev : D → Option (D × Bool)
  | .lst xs => some (.lst xs.reverse, lfs xs)
  | _ => none
def gAbs : List D → Option (D × Bool)
  | [.int i] => some (.int (if i < 0 then -i else i), true)
  | _ => none
def gInt : List D → Option (D × Bool)
  | [.int i] => some (.int i, true)
  | [.bl b] => some (.int (b2z b), true)
  | _ => none
/-- the ints of a list -/
def asInts : List D → Option (List Int)
  | [] => some []
  | .int i :: r => (asInts r).map (i :: ·)
  | _ :: _ => none
def asBools : List D → Option (List Bool)
  | [] => some []
  | .bl i :: r => (asBools r).map (i :: ·)
  | _ :: _ => none
def maxI : Int → List Int → Int
  | m, [] => m
  | m, i :: r => maxI (if m < i then i else m) r
def minI : Int → List Int → Int
  | m, [] => m
  | m, i :: r => minI (if i < m then i else m) r
def gSum : List D → Option (D × Bool)
  | [.lst xs] => (asInts xs).map fun ns => (.int ns.sum, true)
  | _ => none
/-- each int once, in the order of the first ones -/
def dedI (ns : List Int) : List Int := ns.foldl (fun o k => if o.any (· == k) then o else o ++ [k]) []
/-- len(set(x)), x a list or a tuple of ints -/
def gLenSet : D → Option (D × Bool)
  | .lst xs => match asInts xs with
    | some ns => if ns.length ≤ 4000 then some (.int (dedI ns).length, true) else none
    | none => none
  | .tup xs => match asInts xs with
    | some ns => if ns.length ≤ 4000 then some (.int (dedI ns).length, true) else none
    | none => none
  | _ => none
def gAny : List D → Option (D × Bool)
  | [.lst xs] => (asBools xs).map fun ns => (.bl (ns.any id), true)
  | _ => none
def gAll : List D → Option (D × Bool)
  | [.lst xs] => (asBools xs).map fun ns => (.bl (ns.all id), true)
  | _ => none
def gMax : List D → Option (D × Bool)
  | [.lst xs] => match asInts xs with
    | some (n :: ns) => some (.int (maxI n ns), true)
    | _ => none
  | [.int i, .int j] => some (.int (if i < j then j else i), true)
  | _ => none
def gMin : List D → Option (D × Bool)
  | [.lst xs] => match asInts xs with
    | some (n :: ns) => some (.int (minI n ns), true)
    | _ => none
  | [.int i, .int j] => some (.int (if j < i then j else i), true)
  | _ => none
end Sm
namespace Sm
/-- _law_take(draw, many) -/
def mTake : List D → DS → RF
  | [.hdl, .int m], s => if 0 < m ∧ m < 1073741824 then .ok (.int ((s.take m.toNat).1 : Nat), true) (s.take m.toNat).2 else .bad
  | _, _ => .bad
/-- what _law_draw makes of a script -/
def seedOf : List Int → Nat → Nat
  | [], s => s
  | c :: cs, s => seedOf cs ((s * 48271 + c.natAbs % 65521 + 1) % 2147483647)
def drawOf (ns : List Int) : DS := ⟨ns.map Int.natAbs, 0, 0, seedOf ns 7⟩
/-- the law's slots behind its first statement: script, draw, .. -/
def lawE (m : Nat) : Ev := none :: some (.own, .hdl) :: List.replicate m none
end Sm
end
section
set_option linter.all false
/-! Plain: what a combinator term ends in (plain Lean). -/
namespace Pl
open Sm
/-- it ends in a value with P, or in an error with X -/
def okX {α : Type} (r : R α) (P : α → DS → Prop) (X : Exn → DS → Prop) : Prop := match r with
  | .ok a s => P a s
  | .exc e s => X e s
  | .bad => False
def okO {α : Type} (o : Option α) (P : α → Prop) : Prop := match o with
  | some a => P a
  | none => False
structure Po where
  nx : Ev → DS → Prop
  rt : D → Bool → DS → Prop
  bk : Ev → DS → Prop
  ct : Ev → DS → Prop
  ex : Exn → Ev → DS → Prop
def okS (r : RS) (p : Po) : Prop := match r with
  | .nx e s => p.nx e s
  | .rt d f s => p.rt d f s
  | .bk e s => p.bk e s
  | .ct e s => p.ct e s
  | .ex x e s => p.ex x e s
  | .bad => False
section
variable {α β : Type} {P : α → DS → Prop} {Q : β → DS → Prop} {X : Exn → DS → Prop} {p : Po} {env : Ev} {s : DS}
@[simp] theorem okX_ok {a : α} : okX (.ok a s) P X ↔ P a s := Iff.rfl
@[simp] theorem okX_exc {e : Exn} : okX (.exc e s : R α) P X ↔ X e s := Iff.rfl
@[simp] theorem okX_bad : okX (.bad : R α) P X ↔ False := Iff.rfl
@[simp] theorem okO_some {a : α} {P : α → Prop} : okO (some a) P ↔ P a := Iff.rfl
@[simp] theorem okO_none {P : α → Prop} : okO none P ↔ False := Iff.rfl
@[simp] theorem okX_bnd {r : R α} {k : α → DS → R β} : okX (r.bnd k) Q X ↔ okX r (fun a s => okX (k a s) Q X) X := by cases r <;> rfl
theorem okX_mono {r : R α} {P' : α → DS → Prop} {X' : Exn → DS → Prop} (h : okX r P X) (k : ∀ a s, P a s → P' a s) (k2 : ∀ e s, X e s → X' e s) : okX r P' X' := by
  cases r with
  | ok a s => exact k a s h
  | exc e s => exact k2 e s h
  | bad => exact h
theorem okX.eq {r : R α} {a : α} (h : okX r (fun b s' => b = a ∧ s' = s) fun _ _ => False) : r = .ok a s := by
  cases r with
  | ok b s' => obtain ⟨rfl, rfl⟩ := h; rfl
  | exc e s => exact h.elim
  | bad => exact h.elim
theorem okX_of_eq {r : R α} {a : α} (h : r = .ok a s) (k : P a s) : okX r P X := by rw [h]; exact k
@[simp] theorem okX_opt {γ : Type} {o : Option γ} {k : γ → R α} : okX (match o with | some r => k r | none => .bad) P X ↔ okO o fun r => okX (k r) P X := by cases o <;> rfl

@[simp] theorem okX_ite {c : Prop} [Decidable c] {r1 r2 : R α} : okX (if c then r1 else r2) P X ↔ if c then okX r1 P X else okX r2 P X := by split <;> rfl
@[simp] theorem okS_ite {c : Prop} [Decidable c] {r1 r2 : RS} : okS (if c then r1 else r2) p ↔ if c then okS r1 p else okS r2 p := by split <;> rfl
/-! expressions -/
variable {Pe : D × Al → DS → Prop} {Pa : List D × Al → DS → Prop} {Pt : Bool → DS → Prop} {f f1 f2 f3 : E} {a : A} {t u : T}
@[simp] theorem okX_eC {d : D} : okX (eC d env s) Pe X ↔ Pe (d, none) s := Iff.rfl
@[simp] theorem okX_eV {i : Nat} : okX (eV i env s) Pe X ↔ okO (getS env i) fun x => Pe (x.2, norm x.2 (some [i])) s := by
  unfold eV
  cases getS env i with
  | none => rfl
  | some x => rfl
@[simp] theorem okX_eU {g : D → Option (D × Bool)} : okX (eU g f env s) Pe X ↔ okX (f env s) (fun x s1 => okO (g x.1) fun r => Pe (r.1, fr2 r.2 x.2) s1) X := by
  unfold eU
  rw [okX_bnd]
  apply iff_of_eq
  congr 1
  funext x s1
  cases g x.1 <;> rfl
@[simp] theorem okX_eB {g : D → D → Option (D × Bool)} : okX (eB g f1 f2 env s) Pe X ↔ okX (f1 env s) (fun x s1 => okX (f2 env s1) (fun y s2 => okO (g x.1 y.1) fun r => Pe (r.1, fr2 r.2 (alU x.2 y.2)) s2) X) X := by
  unfold eB
  rw [okX_bnd]
  apply iff_of_eq
  congr 1
  funext x s1
  rw [okX_bnd]
  congr 1
  funext y s2
  cases g x.1 y.1 <;> rfl
@[simp] theorem okX_eIf : okX (eIf t f1 f2 env s) Pe X ↔ okX (t env s) (fun b s1 => okX (if b then f1 env s1 else f2 env s1) Pe X) X := by
  unfold eIf
  rw [okX_bnd]
@[simp] theorem okX_aNil : okX (aNil env s) Pa X ↔ Pa ([], none) s := Iff.rfl
@[simp] theorem okX_aCons : okX (aCons f a env s) Pa X ↔ okX (f env s) (fun x s1 => okX (a env s1) (fun y s2 => Pa (x.1 :: y.1, alU x.2 y.2) s2) X) X := by
  unfold aCons
  simp
@[simp] theorem okX_eTup : okX (eTup a env s) Pe X ↔ okX (a env s) (fun x s1 => Pe (.tup x.1, norm (.tup x.1) x.2) s1) X := by
  unfold eTup
  simp
@[simp] theorem okX_eLst : okX (eLst a env s) Pe X ↔ okX (a env s) (fun x s1 => Pe (.lst x.1, x.2) s1) X := by
  unfold eLst
  simp
@[simp] theorem okX_eFn {g : List D → Option (D × Bool)} : okX (eFn g a env s) Pe X ↔ okX (a env s) (fun x s1 => okO (g x.1) fun r => Pe (r.1, fr2 r.2 x.2) s1) X := by
  unfold eFn
  rw [okX_bnd]
  apply iff_of_eq
  congr 1
  funext x s1
  cases g x.1 <;> rfl
@[simp] theorem okX_eCall {m : List D → DS → RF} : okX (eCall m a env s) Pe X ↔ okX (a env s) (fun x s1 => okX (m x.1 s1) (fun r s2 => Pe (r.1, fr2 r.2 x.2) s2) X) X := by
  unfold eCall
  simp
def asBl : D → Option Bool
  | .bl b => some b
  | _ => none
@[simp] theorem asBl_bl {b : Bool} : asBl (.bl b) = some b := rfl
def asIn : D → Option Int
  | .int b => some b
  | _ => none
@[simp] theorem asIn_int {b : Int} : asIn (.int b) = some b := rfl
@[simp] theorem okX_tB : okX (tB f env s) Pt X ↔ okX (f env s) (fun x s1 => okO (asBl x.1) fun b => Pt b s1) X := by
  unfold tB
  rw [okX_bnd]
  apply iff_of_eq
  congr 1
  funext x s1
  obtain ⟨d, al⟩ := x
  cases d <;> rfl
@[simp] theorem okX_eAnd : okX (eAnd f1 f2 env s) Pe X ↔ okX (f1 env s) (fun x s1 => okO (asBl x.1) fun b => if b = true then okX (f2 env s1) Pe X else Pe (.bl false, none) s1) X := by
  unfold eAnd
  rw [okX_bnd]
  apply iff_of_eq
  congr 1
  funext x s1
  obtain ⟨d, al⟩ := x
  cases d with
  | bl b => cases b <;> simp
  | _ => rfl
@[simp] theorem okX_eOr : okX (eOr f1 f2 env s) Pe X ↔ okX (f1 env s) (fun x s1 => okO (asBl x.1) fun b => if b = true then Pe (.bl true, none) s1 else okX (f2 env s1) Pe X) X := by
  unfold eOr
  rw [okX_bnd]
  apply iff_of_eq
  congr 1
  funext x s1
  obtain ⟨d, al⟩ := x
  cases d with
  | bl b => cases b <;> simp
  | _ => rfl
@[simp] theorem okX_eNot : okX (eNot f env s) Pe X ↔ okX (f env s) (fun x s1 => okO (asBl x.1) fun b => Pe (.bl (!b), none) s1) X := by
  unfold eNot
  rw [okX_bnd]
  apply iff_of_eq
  congr 1
  funext x s1
  obtain ⟨d, al⟩ := x
  cases d <;> rfl
@[simp] theorem okX_tV : okX (tV f env s) Pt X ↔ okX (f env s) (fun x s1 => okO (truth x.1) fun b => Pt b s1) X := by
  unfold tV
  rw [okX_bnd]
  apply iff_of_eq
  congr 1
  funext x s1
  cases truth x.1 <;> rfl
@[simp] theorem okX_tAnd : okX (tAnd t u env s) Pt X ↔ okX (t env s) (fun b s1 => okX (if b then u env s1 else .ok false s1) Pt X) X := by
  unfold tAnd
  rw [okX_bnd]
@[simp] theorem okX_tOr : okX (tOr t u env s) Pt X ↔ okX (t env s) (fun b s1 => okX (if b then .ok true s1 else u env s1) Pt X) X := by
  unfold tOr
  rw [okX_bnd]
@[simp] theorem okX_tNot : okX (tNot t env s) Pt X ↔ okX (t env s) (fun b s1 => Pt (!b) s1) X := by
  unfold tNot
  simp
@[simp] theorem okX_tYes : okX (tYes env s) Pt X ↔ Pt true s := Iff.rfl
@[simp] theorem okX_optN {Po : Option Int → DS → Prop} : okX (optI none env s) Po X ↔ Po none s := Iff.rfl
@[simp] theorem okX_optS {Po : Option Int → DS → Prop} : okX (optI (some f) env s) Po X ↔ okX (f env s) (fun x s1 => okO (asIn x.1) fun i => Po (some i) s1) X := by
  unfold optI
  simp only [okX_bnd]
  apply iff_of_eq
  congr 1
  funext x s1
  obtain ⟨d, al⟩ := x
  cases d <;> rfl
@[simp] theorem okX_eSl {g : D → Option Int → Option Int → Option (D × Bool)} {lo hi : Option E} : okX (eSl g f lo hi env s) Pe X ↔ okX (f env s) (fun x s1 => okX (optI lo env s1) (fun l s2 => okX (optI hi env s2) (fun h s3 => okO (g x.1 l h) fun r => Pe (r.1, fr2 r.2 x.2) s3) X) X) X := by
  unfold eSl
  rw [okX_bnd]
  apply iff_of_eq
  congr 1
  funext x s1
  rw [okX_bnd]
  congr 1
  funext l s2
  rw [okX_bnd]
  congr 1
  funext h s3
  cases g x.1 l h <;> rfl
/-! what is walked -/
@[simp] theorem okX_iSeq : okX (iSeq f env s) Pa X ↔ okX (f env s) (fun x s1 => okO (match x.1 with | .lst ds => some ds | .tup ds => some ds | _ => none) fun ds => Pa (ds, x.2) s1) X := by
  unfold iSeq
  rw [okX_bnd]
  apply iff_of_eq
  congr 1
  funext x s1
  obtain ⟨d, al⟩ := x
  cases d <;> rfl
@[simp] theorem okX_iRev : okX (iRev f env s) Pa X ↔ okX (f env s) (fun x s1 => okO (match x.1 with | .lst ds => some ds | .tup ds => some ds | _ => none) fun ds => Pa (ds.reverse, x.2) s1) X := by
  unfold iRev
  rw [okX_bnd]
  apply iff_of_eq
  congr 1
  funext x s1
  obtain ⟨d, al⟩ := x
  cases d <;> rfl
/-- 0, 1, .. as naturals -/
abbrev eN (k : Nat) : D := .int k
def natL (n : Nat) : List D := (List.range n).map eN
theorem intL_zero {n : Nat} : intL 0 n = natL n := by
  unfold intL natL
  apply List.map_congr_left
  intro k _
  rw [Int.zero_add]
def rng1 : List D → Option (List D)
  | [.int j] => if -LIM ≤ j ∧ j ≤ LIM then some (natL j.toNat) else none
  | _ => none
@[simp] theorem okX_iRange1 : okX (iRange1 a env s) Pa X ↔ okX (a env s) (fun x s1 => okO (rng1 x.1) fun ds => Pa (ds, none) s1) X := by
  unfold iRange1
  rw [okX_bnd]
  apply iff_of_eq
  congr 1
  funext x s1
  obtain ⟨d, al⟩ := x
  match d with
  | [.int j] =>
    by_cases h : -(LIM : Int) ≤ j ∧ j ≤ LIM
    · simp [rng1, h, intL_zero]
    · simp [rng1, h]
  | [] => rfl
  | .non :: _ => rfl
  | .bl _ :: _ => rfl
  | .str _ :: _ => rfl
  | .tup _ :: _ => rfl
  | .lst _ :: _ => rfl
  | .dic _ :: _ => rfl
  | .hdl :: _ => rfl
  | .int _ :: _ :: _ => rfl
def rng2 : List D → Option (List D)
  | [.int i, .int j] => if -LIM ≤ i ∧ i ≤ LIM ∧ j - i ≤ LIM ∧ -LIM ≤ j then some (intL i (j - i).toNat) else none
  | _ => none
@[simp] theorem okX_iRange2 : okX (iRange2 a env s) Pa X ↔ okX (a env s) (fun x s1 => okO (rng2 x.1) fun ds => Pa (ds, none) s1) X := by
  unfold iRange2
  rw [okX_bnd]
  apply iff_of_eq
  congr 1
  funext x s1
  obtain ⟨d, al⟩ := x
  dsimp only
  by_cases hd : ∃ i j, d = [.int i, .int j]
  · obtain ⟨i, j, rfl⟩ := hd
    by_cases h : -(LIM : Int) ≤ i ∧ i ≤ LIM ∧ j - i ≤ LIM ∧ -LIM ≤ j
    · simp [rng2, h]
    · simp [rng2, h]
  · have e1 : rng2 d = none := by
      unfold rng2
      split
      · exact absurd ⟨_, _, rfl⟩ hd
      · rfl
    rw [e1]
    split
    · exact absurd ⟨_, _, rfl⟩ hd
    · rfl
def enmO : List D → Option (List D)
  | [.lst ds] => some (enumD 0 ds)
  | [.tup ds] => some (enumD 0 ds)
  | _ => none
@[simp] theorem okX_iEnum : okX (iEnum a env s) Pa X ↔ okX (a env s) (fun x s1 => okO (enmO x.1) fun ds => Pa (ds, x.2) s1) X := by
  unfold iEnum
  rw [okX_bnd]
  apply iff_of_eq
  congr 1
  funext x s1
  obtain ⟨d, al⟩ := x
  unfold enmO
  dsimp only
  split <;> simp
def zipO : List D → Option (List D)
  | [.lst ds, .lst es] => some (zipD ds es)
  | [.tup ds, .tup es] => some (zipD ds es)
  | _ => none
@[simp] theorem okX_iZip : okX (iZip a env s) Pa X ↔ okX (a env s) (fun x s1 => okO (zipO x.1) fun ds => Pa (ds, x.2) s1) X := by
  unfold iZip
  rw [okX_bnd]
  apply iff_of_eq
  congr 1
  funext x s1
  obtain ⟨d, al⟩ := x
  unfold zipO
  dsimp only
  split <;> simp
end
section
variable {X : Exn → DS → Prop} {p : Po} {env : Ev} {s : DS} {f : E} {t : T} {g h : S} {b : B}
/-! statements -/
@[simp] theorem okS_nx : okS (.nx env s) p ↔ p.nx env s := Iff.rfl
@[simp] theorem okS_rt {d : D} {fr : Bool} : okS (.rt d fr s) p ↔ p.rt d fr s := Iff.rfl
@[simp] theorem okS_bk : okS (.bk env s) p ↔ p.bk env s := Iff.rfl
@[simp] theorem okS_ct : okS (.ct env s) p ↔ p.ct env s := Iff.rfl
@[simp] theorem okS_ex {x : Exn} : okS (.ex x env s) p ↔ p.ex x env s := Iff.rfl
@[simp] theorem okS_bad : okS .bad p ↔ False := Iff.rfl
@[simp] theorem okS_st {α : Type} {r : R α} {k : α → DS → RS} : okS (r.st env k) p ↔ okX r (fun a s => okS (k a s) p) (fun e s => p.ex e env s) := by cases r <;> rfl
@[simp] theorem okS_nxO {o : Option Ev} : okS (nxO o s) p ↔ okO o fun e => p.nx e s := by cases o <;> rfl
@[simp] theorem okS_sNil : okS (sNil env s) p ↔ p.nx env s := Iff.rfl
@[simp] theorem okS_sSeq : okS (sSeq g h env s) p ↔ okS (g env s) ⟨fun e s => okS (h e s) p, p.rt, p.bk, p.ct, p.ex⟩ := by
  unfold sSeq
  cases g env s <;> rfl
@[simp] theorem okS_sBrk : okS (sBrk env s) p ↔ p.bk env s := Iff.rfl
@[simp] theorem okS_sCnt : okS (sCnt env s) p ↔ p.ct env s := Iff.rfl
@[simp] theorem okS_sExpr : okS (sExpr f env s) p ↔ okX (f env s) (fun _ s1 => p.nx env s1) (fun e s => p.ex e env s) := by
  unfold sExpr
  simp
@[simp] theorem okS_sRetV {i : Nat} : okS (sRetV i env s) p ↔ okO (getS env i) fun x => p.rt x.2 (lf x.2 || (x.1 == .own)) s := by
  unfold sRetV
  cases getS env i with
  | none => rfl
  | some x => rfl
@[simp] theorem okS_sRet : okS (sRet f env s) p ↔ okX (f env s) (fun x s1 => p.rt x.1 x.2.isNone s1) (fun e s => p.ex e env s) := by
  unfold sRet
  simp
@[simp] theorem okS_sRetN : okS (sRetN env s) p ↔ p.rt .non true s := Iff.rfl
@[simp] theorem okS_sIf : okS (sIf t g h env s) p ↔ okX (t env s) (fun b s1 => okS (if b then g env s1 else h env s1) p) (fun e s => p.ex e env s) := by
  unfold sIf
  simp
/-- a value is bound -/
def asgO (b : B) (x : D × Al) (env : Ev) : Option Ev := match x.2 with
  | none => b x.1 .own env
  | some bs => b x.1 .frz (freeze bs env)
@[simp] theorem asgO_none {d : D} : asgO b (d, none) env = b d .own env := rfl
@[simp] theorem asgO_some {d : D} {bs : List Nat} : asgO b (d, some bs) env = b d .frz (freeze bs env) := rfl
@[simp] theorem okS_sAsg : okS (sAsg b f env s) p ↔ okX (f env s) (fun x s1 => okO (asgO b x env) fun e => p.nx e s1) (fun e s => p.ex e env s) := by
  unfold sAsg
  rw [okS_st]
  apply iff_of_eq
  congr 1
  funext x s1
  obtain ⟨d, al⟩ := x
  cases al <;> simp
@[simp] theorem okS_sPar {is : List Nat} {a : A} : okS (sPar is a env s) p ↔ okX (a env s) (fun x s1 => okO (match x.2 with | none => bTupL (is.map bName) x.1 .own env | some bs => bTupL (is.map bName) x.1 .frz (freeze bs env)) fun e => p.nx e s1) (fun e s => p.ex e env s) := by
  unfold sPar
  rw [okS_st]
  apply iff_of_eq
  congr 1
  funext x s1
  obtain ⟨d, al⟩ := x
  cases al <;> simp
@[simp] theorem okS_sAug {i : Nat} {gg : D → D → Option D} : okS (sAug i gg f env s) p ↔ okO (getS env i) fun z => okX (f env s) (fun x s1 => okO (gg z.2 x.1) fun r => lf r = true ∧ p.nx (setS env i (some (.own, r))) s1) (fun e s => p.ex e env s) := by
  unfold sAug
  cases getS env i with
  | none => rfl
  | some z =>
    simp only [okO_some, okS_st]
    apply iff_of_eq
    congr 1
    funext x s1
    cases gg z.2 x.1 with
    | none => rfl
    | some r =>
      simp only [okO_some]
      split <;> simp_all
@[simp] theorem okS_sRaise {n : String} : okS (sRaise n env s) p ↔ p.ex ⟨n, .non⟩ env s := Iff.rfl
theorem okS_mono {r : RS} {p' : Po} (h : okS r p) (k1 : ∀ e s, p.nx e s → p'.nx e s) (k2 : ∀ d f s, p.rt d f s → p'.rt d f s) (k3 : ∀ e s, p.bk e s → p'.bk e s) (k4 : ∀ e s, p.ct e s → p'.ct e s) (k5 : ∀ x e s, p.ex x e s → p'.ex x e s) : okS r p' := by
  cases r with
  | nx e s => exact k1 _ _ h
  | rt d f s => exact k2 _ _ _ h
  | bk e s => exact k3 _ _ h
  | ct e s => exact k4 _ _ h
  | ex x e s => exact k5 _ _ _ h
  | bad => exact h
def ownL : Md × D → Option (List D)
  | (.own, .lst ds) => some ds
  | _ => none
@[simp] theorem ownL_own {ds : List D} : ownL (.own, .lst ds) = some ds := rfl
def lstD : D → Option (List D)
  | .lst ds => some ds
  | _ => none
@[simp] theorem lstD_lst {ds : List D} : lstD (.lst ds) = some ds := rfl
@[simp] theorem okS_sApp {i : Nat} : okS (sApp i f env s) p ↔ okO (getS env i) fun z => okO (ownL z) fun ds => okX (f env s) (fun x s1 => x.2 = none ∧ ds.length < LIM ∧ p.nx (setS env i (some (.own, .lst (ds ++ [x.1])))) s1) (fun e s => p.ex e env s) := by
  unfold sApp
  cases getS env i with
  | none => rfl
  | some z =>
    obtain ⟨m, d⟩ := z
    cases m with
    | frz => cases d <;> rfl
    | own =>
      cases d with
      | lst ds =>
        simp only [okO_some, okS_st, ownL_own]
        apply iff_of_eq
        congr 1
        funext x s1
        obtain ⟨d, al⟩ := x
        cases al with
        | none => simp
        | some bs => simp
      | _ => rfl
@[simp] theorem okS_sExt {i : Nat} : okS (sExt i f env s) p ↔ okO (getS env i) fun z => okO (ownL z) fun ds => okX (f env s) (fun x s1 => okO (lstD x.1) fun es => (lfs es = true ∧ ds.length + es.length ≤ LIM) ∧ p.nx (setS env i (some (.own, .lst (ds ++ es)))) s1) (fun e s => p.ex e env s) := by
  unfold sExt
  cases getS env i with
  | none => rfl
  | some z =>
    obtain ⟨m, d⟩ := z
    cases m with
    | frz => cases d <;> rfl
    | own =>
      cases d with
      | lst ds =>
        simp only [okO_some, okS_st, ownL_own]
        apply iff_of_eq
        congr 1
        funext x s1
        obtain ⟨d, al⟩ := x
        cases d with
        | lst es =>
          simp only [lstD_lst, okO_some, okS_ite, okS_nx, okS_bad]
          simp
        | _ => rfl
      | _ => rfl
@[simp] theorem okS_sPop {i : Nat} : okS (sPop b i env s) p ↔ okO (getS env i) fun z => okO (ownL z) fun ds => okO ds.getLast? fun d => lf d = true ∧ okO (b d .own (setS env i (some (.own, .lst ds.dropLast)))) fun e => p.nx e s := by
  unfold sPop
  cases getS env i with
  | none => rfl
  | some z =>
    obtain ⟨m, d⟩ := z
    cases m with
    | frz => cases d <;> rfl
    | own =>
      cases d with
      | lst ds =>
        simp only [okO_some, ownL_own]
        cases ds.getLast? with
        | none => rfl
        | some d =>
          simp only [okO_some, okS_ite, okS_nxO, okS_bad]
          simp
      | _ => rfl
@[simp] theorem okS_sSet {i : Nat} {fi : E} : okS (sSet i fi f env s) p ↔ okO (getS env i) fun z => okO (ownL z) fun ds => okX (f env s) (fun x s1 => okX (fi env s1) (fun y s2 => x.2 = none ∧ okO (asIn y.1) fun k => okO (ixN ds.length k) fun j => p.nx (setS env i (some (.own, .lst (ds.set j x.1)))) s2) (fun e s => p.ex e env s)) (fun e s => p.ex e env s) := by
  unfold sSet
  cases getS env i with
  | none => rfl
  | some z =>
    obtain ⟨m, d⟩ := z
    cases m with
    | frz => cases d <;> rfl
    | own =>
      cases d with
      | lst ds =>
        simp only [okO_some, okS_st, ownL_own]
        apply iff_of_eq
        congr 1
        funext x s1
        congr 1
        funext y s2
        obtain ⟨d, al⟩ := x
        obtain ⟨e, al2⟩ := y
        cases al with
        | some bs => simp
        | none =>
          cases e with
          | int k =>
            simp only [asIn_int, okO_some]
            cases ixN ds.length k with
            | none => simp
            | some j => simp
          | _ => simp [asIn]
      | _ => rfl
/-- a cut between two statements; rest: what the first may leave behind else -/
theorem okS_cut (Q : Ev → DS → Prop) (h1 : okS (g env s) ⟨Q, p.rt, p.bk, p.ct, p.ex⟩) (h2 : ∀ env s, Q env s → okS (h env s) p) : okS (sSeq g h env s) p := by
  rw [okS_sSeq]
  exact okS_mono h1 (fun e s k => h2 e s k) (fun _ _ _ k => k) (fun _ _ k => k) (fun _ _ k => k) fun _ _ _ k => k
@[simp] theorem okS_noEx {r : RS} : okS (noEx r) p ↔ okS r ⟨p.nx, p.rt, p.bk, p.ct, fun _ _ _ => False⟩ := by cases r <;> rfl
@[simp] theorem okS_sTry {cs : List (String × Bool)} : okS (sTry cs g h env s) p ↔ okS (g env s) ⟨p.nx, p.rt, p.bk, p.ct, fun x e s => match cs.lookup x.name with
    | some true => okS (noEx (h e s)) p
    | some false => p.ex x e s
    | none => False⟩ := by
  unfold sTry
  cases g env s with
  | ex x e2 s2 =>
    simp only [okS_ex]
    cases cs.lookup x.name with
    | none => rfl
    | some b => cases b <;> rfl
  | _ => rfl
/-! loops -/
def forPo (p : Po) (I : Ev → DS → Prop) : Po := ⟨I, p.rt, p.nx, I, p.ex⟩
theorem okS_forF {α : Type} {enc : α → D} : ∀ {xs : List α} {env : Ev} {s : DS} (I : List α → Ev → DS → Prop), I xs env s →
    (∀ x r env s, (∃ l, xs = l ++ x :: r) → I (x :: r) env s → okO (b (enc x) .frz env) fun e1 => okS (g e1 s) (forPo p (I r))) → (∀ env s, I [] env s → p.nx env s) → okS (forF b g (xs.map enc) env s) p
  | [], env, s, I, h0, _, hend => hend env s h0
  | x :: r, env, s, I, h0, hs, hend => by
    have h1 := hs x r env s ⟨[], rfl⟩ h0
    show okS (forF b g (enc x :: r.map enc) env s) p
    unfold forF
    cases e : b (enc x) .frz env with
    | none => rw [e] at h1; exact h1.elim
    | some e1 =>
      rw [e] at h1
      dsimp only
      have ih := fun (e2 : Ev) (s2 : DS) (h : I r e2 s2) => okS_forF I h (fun y r' env s ⟨l, hl⟩ => hs y r' env s ⟨x :: l, by rw [hl]; rfl⟩) hend
      simp only [okO_some] at h1
      cases e2 : g e1 s with
      | nx e2' s2 => rw [e2] at h1; exact ih _ _ h1
      | ct e2' s2 => rw [e2] at h1; exact ih _ _ h1
      | bk e2' s2 => rw [e2] at h1; exact h1
      | rt d f s2 => rw [e2] at h1; exact h1
      | ex x e2' s2 => rw [e2] at h1; exact h1
      | bad => rw [e2] at h1; exact h1.elim
@[simp] theorem okS_sFor {it : I} : okS (sFor it b g env s) p ↔ okX (it env s) (fun x s1 => okS (forF b g x.1 (freeze (x.2.getD []) env) s1) p) (fun e s => p.ex e env s) := by
  unfold sFor
  simp
theorem okS_whileF : ∀ {n : Nat} {env : Ev} {s : DS} (I : Nat → Ev → DS → Prop) {k : Nat}, I k env s → k < n →
    (∀ k env s, I k env s → okX (t env s) (fun b s1 => if b then okS (g env s1) (forPo p fun e s => ∃ j, j < k ∧ I j e s) else p.nx env s1) (fun e s => p.ex e env s)) → okS (whileF t g n env s) p
  | 0, _, _, _, _, _, hk, _ => absurd hk (Nat.not_lt_zero _)
  | n + 1, env, s, I, k, h0, hk, hs => by
    have h1 := hs k env s h0
    unfold whileF
    rw [okS_st]
    refine okX_mono h1 (fun b s1 h => ?_) fun e s h => h
    cases b with
    | false => exact h
    | true =>
      simp only [if_true] at h ⊢
      have ih := fun (e2 : Ev) (s2 : DS) (h : ∃ j, j < k ∧ I j e2 s2) => let ⟨j, hj, h⟩ := h; okS_whileF (n := n) I h (Nat.lt_of_lt_of_le hj (Nat.le_of_lt_succ hk)) hs
      cases e2 : g env s1 with
      | nx e2' s2 => rw [e2] at h; exact ih _ _ h
      | ct e2' s2 => rw [e2] at h; exact ih _ _ h
      | bk e2' s2 => rw [e2] at h; exact h
      | rt d f s2 => rw [e2] at h; exact h
      | ex x e2' s2 => rw [e2] at h; exact h
      | bad => rw [e2] at h; exact h.elim
/-- a loop that looks for the first x with q -/
theorem okS_forAny0 {α : Type} {enc : α → D} (q : α → Bool) (I : Ev → DS → Prop) : ∀ {xs : List α} {env : Ev} {s : DS}, I env s →
    (∀ x ∈ xs, ∀ env s, I env s → okO (b (enc x) .frz env) fun e1 => okS (g e1 s) ⟨fun e s => q x = false ∧ I e s, fun d f s => q x = true ∧ (xs.any q = true → p.rt d f s), fun _ _ => False, fun e s => q x = false ∧ I e s, fun _ _ _ => False⟩) →
    (xs.any q = false → ∀ env s, I env s → p.nx env s) → okS (forF b g (xs.map enc) env s) p
  | [], env, s, h0, _, hend => hend rfl env s h0
  | x :: r, env, s, h0, hs, hend => by
    have h1 := hs x List.mem_cons_self env s h0
    show okS (forF b g (enc x :: r.map enc) env s) p
    unfold forF
    cases e : b (enc x) .frz env with
    | none => rw [e] at h1; exact h1.elim
    | some e1 =>
      rw [e] at h1
      dsimp only
      simp only [okO_some] at h1
      have ih := fun (hq : q x = false) (e2 : Ev) (s2 : DS) (h : I e2 s2) => okS_forAny0 q I (xs := r) h (fun y hy env s h => by
        have k := hs y (List.mem_cons_of_mem _ hy) env s h
        cases e : b (enc y) .frz env with
        | none => rw [e] at k; exact k.elim
        | some e1 =>
          rw [e] at k
          exact okS_mono k (fun _ _ h => h) (fun d f s h => ⟨h.1, fun z => h.2 (by simp [z])⟩) (fun _ _ h => h) (fun _ _ h => h) (fun _ _ _ h => h)) (fun z => hend (by simp [z, hq]))
      cases e2 : g e1 s with
      | nx e2' s2 => rw [e2] at h1; exact ih h1.1 _ _ h1.2
      | ct e2' s2 => rw [e2] at h1; exact ih h1.1 _ _ h1.2
      | bk e2' s2 => rw [e2] at h1; exact h1.elim
      | rt d f s2 => rw [e2] at h1; exact h1.2 (by simp [h1.1])
      | ex x e2' s2 => rw [e2] at h1; exact h1.elim
      | bad => rw [e2] at h1; exact h1.elim
theorem okS_forAny {α : Type} {enc : α → D} {xs : List α} (q : α → Bool) (r : Bool) (hr : xs.any q = r) (I : Ev → DS → Prop) (h0 : I env s)
    (hs : ∀ x ∈ xs, ∀ env s, I env s → okO (b (enc x) .frz env) fun e1 => okS (g e1 s) ⟨fun e s => q x = false ∧ I e s, fun d f s => q x = true ∧ (r = true → p.rt d f s), fun _ _ => False, fun e s => q x = false ∧ I e s, fun _ _ _ => False⟩)
    (hend : r = false → ∀ env s, I env s → p.nx env s) : okS (forF b g (xs.map enc) env s) p := by
  subst hr
  exact okS_forAny0 q I h0 hs hend
/-- a loop that hands back the first x with q -/
theorem okS_forFind0 {α : Type} {enc : α → D} (q : α → Bool) (I : Ev → DS → Prop) : ∀ {xs : List α} {env : Ev} {s : DS}, I env s →
    (∀ x ∈ xs, ∀ env s, I env s → okO (b (enc x) .frz env) fun e1 => okS (g e1 s) ⟨fun e s => q x = false ∧ I e s, fun d f s => q x = true ∧ (xs.find? q = some x → p.rt d f s), fun _ _ => False, fun e s => q x = false ∧ I e s, fun _ _ _ => False⟩) →
    (xs.find? q = none → ∀ env s, I env s → p.nx env s) → okS (forF b g (xs.map enc) env s) p
  | [], env, s, h0, _, hend => hend rfl env s h0
  | x :: r, env, s, h0, hs, hend => by
    have h1 := hs x List.mem_cons_self env s h0
    show okS (forF b g (enc x :: r.map enc) env s) p
    unfold forF
    cases e : b (enc x) .frz env with
    | none => rw [e] at h1; exact h1.elim
    | some e1 =>
      rw [e] at h1
      dsimp only
      simp only [okO_some] at h1
      have ih := fun (hq : q x = false) (e2 : Ev) (s2 : DS) (h : I e2 s2) => okS_forFind0 q I (xs := r) h (fun y hy env s h => by
        have k := hs y (List.mem_cons_of_mem _ hy) env s h
        cases e : b (enc y) .frz env with
        | none => rw [e] at k; exact k.elim
        | some e1 =>
          rw [e] at k
          exact okS_mono k (fun _ _ h => h) (fun d f s h => ⟨h.1, fun z => h.2 (by rw [List.find?_cons, hq]; exact z)⟩) (fun _ _ h => h) (fun _ _ h => h) (fun _ _ _ h => h)) (fun z => hend (by rw [List.find?_cons, hq]; exact z))
      cases e2 : g e1 s with
      | nx e2' s2 => rw [e2] at h1; exact ih h1.1 _ _ h1.2
      | ct e2' s2 => rw [e2] at h1; exact ih h1.1 _ _ h1.2
      | bk e2' s2 => rw [e2] at h1; exact h1.elim
      | rt d f s2 => rw [e2] at h1; exact h1.2 (by rw [List.find?_cons, h1.1])
      | ex x e2' s2 => rw [e2] at h1; exact h1.elim
      | bad => rw [e2] at h1; exact h1.elim
theorem okS_forFind {α : Type} {enc : α → D} {xs : List α} (q : α → Bool) (o : Option α) (ho : xs.find? q = o) (I : Ev → DS → Prop) (h0 : I env s)
    (hs : ∀ x ∈ xs, ∀ env s, I env s → okO (b (enc x) .frz env) fun e1 => okS (g e1 s) ⟨fun e s => q x = false ∧ I e s, fun d f s => q x = true ∧ (o = some x → p.rt d f s), fun _ _ => False, fun e s => q x = false ∧ I e s, fun _ _ _ => False⟩)
    (hend : o = none → ∀ env s, I env s → p.nx env s) : okS (forF b g (xs.map enc) env s) p := by
  subst ho
  exact okS_forFind0 q I h0 hs hend
/-! defs -/
def fnPo (P : D × Bool → DS → Prop) (X : Exn → DS → Prop) : Po := ⟨fun _ s => P (.non, true) s, fun d f s => P (d, f) s, fun _ _ => False, fun _ _ => False, fun e _ s => X e s⟩
theorem okX_runB {n q : Nat} {ds : List D} {P : D × Bool → DS → Prop} (hl : ds.length = q) (h : okS (g (initE ds n) s) (fnPo P X)) : okX (runB g n q ds s) P X := by
  unfold runB
  rw [if_pos hl]
  cases e : g (initE ds n) s with
  | nx e2' s2 => rw [e] at h; exact h
  | ct e2' s2 => rw [e] at h; exact h
  | bk e2' s2 => rw [e] at h; exact h
  | rt d f s2 => rw [e] at h; exact h
  | ex x e2' s2 => rw [e] at h; exact h
  | bad => rw [e] at h; exact h.elim
theorem runB_eq {n q : Nat} {ds : List D} {v : D × Bool} (hl : ds.length = q) (h : okS (g (initE ds n) s) (fnPo (fun b s' => b = v ∧ s' = s) fun _ _ => False)) : runB g n q ds s = .ok v s := okX.eq (okX_runB hl h)
theorem okX_take {m : Int} {P : D × Bool → DS → Prop} (h : 0 < m ∧ m < 1073741824) (k : ∀ (i : Nat) s', (i : Int) < m → P (.int i, true) s') : okX (mTake [.hdl, .int m] s) P X := by
  show okX (if 0 < m ∧ m < 1073741824 then _ else _) _ _
  rw [if_pos h]
  refine k _ _ ?_
  have := DS.take_lt s (m := m.toNat) (by omega)
  omega

/-! comprehensions -/
def noX : Exn → DS → Prop := fun _ _ => False
/-- without draws: p tells which, h what -/
theorem compF_pure {α : Type} {enc : α → D} {q : α → Bool} {h : α → D} : ∀ {xs : List α}, (∀ x ∈ xs, okO (b (enc x) .frz env) fun e1 => okX (t e1 s) (fun c s1 => s1 = s ∧ c = q x ∧ (q x = true → okX (f e1 s) (fun y s2 => y = (h x, none) ∧ s2 = s) noX)) noX) →
    compF b t f (xs.map enc) env s = .ok ((xs.filter q).map h, none) s
  | [], _ => rfl
  | x :: xs, hx => by
    have h1 := hx x List.mem_cons_self
    have ih := compF_pure (xs := xs) (q := q) (h := h) fun y hy => hx y (List.mem_cons_of_mem _ hy)
    show compF b t f (enc x :: xs.map enc) env s = _
    unfold compF
    cases e : b (enc x) .frz env with
    | none => rw [e] at h1; exact h1.elim
    | some e1 =>
      rw [e] at h1
      simp only [okO_some] at h1
      cases e2 : t e1 s with
      | bad => rw [e2] at h1; exact h1.elim
      | exc _ _ => rw [e2] at h1; exact h1.elim
      | ok c s1 =>
        rw [e2] at h1
        obtain ⟨rfl, rfl, h3⟩ := h1
        dsimp only
        rw [e2]
        simp only [R.bnd_ok]
        cases hq : q x with
        | false =>
          simp only [Bool.false_eq_true, if_false]
          rw [ih, List.filter_cons_of_neg (by simp [hq])]
        | true =>
          have h4 := okX.eq (h3 hq)
          simp only [if_true]
          rw [h4]
          simp only [R.bnd_ok]
          rw [ih, List.filter_cons_of_pos hq]
          rfl
/-- what comes out of a comprehension -/
theorem okX_eLc {vs : List Nat} {it : I} {P : D × Al → DS → Prop} (h : okX (it env s) (fun x s1 => okX (compF b t f x.1 (wipeE (freeze (x.2.getD []) env) vs) s1) (fun y s2 => P (.lst y.1, y.2.map fun bs => bs.filter (fun i => !vs.contains i) ++ x.2.getD []) s2) noX) X) : okX (eLc vs it b t f env s) P X := by
  unfold eLc
  rw [okX_bnd]
  refine okX_mono h (fun x s1 h => ?_) fun _ _ h => h
  rw [okX_bnd]
  cases e : compF b t f x.1 (wipeE (freeze (x.2.getD []) env) vs) s1 with
  | ok y s2 => rw [e] at h; exact h
  | exc _ _ => rw [e] at h; exact h.elim
  | bad => rw [e] at h; exact h.elim
theorem okX_lcP {α : Type} {vs : List Nat} {it : I} {P : D × Al → DS → Prop} (xs : List α) (enc : α → D) (q : α → Bool) (h : α → D)
    (hi : okX (it env s) (fun y s1 => y.1 = xs.map enc ∧ s1 = s ∧ ∀ x ∈ xs, okO (b (enc x) .frz (wipeE (freeze (y.2.getD []) env) vs)) fun e1 => okX (t e1 s) (fun c s1 => s1 = s ∧ c = q x ∧ (q x = true → okX (f e1 s) (fun y s2 => y = (h x, none) ∧ s2 = s) noX)) noX) X)
    (hp : P (.lst ((xs.filter q).map h), none) s) : okX (eLc vs it b t f env s) P X := by
  refine okX_eLc (okX_mono hi (fun y s1 ⟨e1, e2, k⟩ => ?_) fun _ _ h => h)
  subst e2
  rw [e1, compF_pure k]
  exact hp
/-- with draws -/
theorem okX_compS {α β : Type} {enc : α → D} {en2 : β → D} {q : α → β → Prop} : ∀ {xs : List α} {s : DS} {P : List D × Al → DS → Prop}, (∀ x ∈ xs, ∀ s, okO (b (enc x) .frz env) fun e1 => okX (t e1 s) (fun c s1 => c = true → okX (f e1 s1) (fun y _ => y.2 = none ∧ ∃ z, y.1 = en2 z ∧ q x z) noX) noX) →
    (∀ (zs : List (α × β)) s', (zs.map Prod.fst).Sublist xs → (∀ z ∈ zs, q z.1 z.2) → P (zs.map fun z => en2 z.2, none) s') → okX (compF b t f (xs.map enc) env s) P noX
  | [], s, P, _, hp => hp [] s .slnil (fun _ h => nomatch h)
  | x :: xs, s, P, hx, hp => by
    have h1 := hx x List.mem_cons_self s
    have ih := fun (s : DS) (P : List D × Al → DS → Prop) => okX_compS (xs := xs) (s := s) (P := P) fun y hy => hx y (List.mem_cons_of_mem _ hy)
    show okX (compF b t f (enc x :: xs.map enc) env s) P _
    unfold compF
    cases e : b (enc x) .frz env with
    | none => rw [e] at h1; exact h1.elim
    | some e1 =>
      rw [e] at h1
      simp only [okO_some] at h1
      dsimp only
      rw [okX_bnd]
      refine okX_mono h1 (fun c s1 h1 => ?_) fun _ _ h => h
      cases c with
      | false =>
        simp only [Bool.false_eq_true, if_false]
        exact ih s1 P fun zs s' h1 h2 => hp zs s' (h1.cons _) h2
      | true =>
        simp only [if_true]
        rw [okX_bnd]
        refine okX_mono (h1 rfl) (fun y s2 ⟨h2, z, h3, h4⟩ => ?_) fun _ _ h => h
        rw [okX_bnd]
        refine ih s2 _ fun zs s' k1 k2 => ?_
        rw [h2, h3]
        exact hp ((x, z) :: zs) s' (k1.cons₂ _) fun w hw => by
          rcases List.mem_cons.mp hw with rfl | hw
          · exact h4
          · exact k2 w hw
theorem okX_lcS {α β : Type} {vs : List Nat} {it : I} {P : D × Al → DS → Prop} (xs : List α) (enc : α → D) (en2 : β → D) (q : α → β → Prop)
    (hi : okX (it env s) (fun y s1 => y.1 = xs.map enc ∧ (∀ x ∈ xs, ∀ s, okO (b (enc x) .frz (wipeE (freeze (y.2.getD []) env) vs)) fun e1 => okX (t e1 s) (fun c s1 => c = true → okX (f e1 s1) (fun y _ => y.2 = none ∧ ∃ z, y.1 = en2 z ∧ q x z) noX) noX) ∧
      ∀ (zs : List (α × β)) s', (zs.map Prod.fst).Sublist xs → (∀ z ∈ zs, q z.1 z.2) → P (.lst (zs.map fun z => en2 z.2), none) s') X) : okX (eLc vs it b t f env s) P X := by
  refine okX_eLc (okX_mono hi (fun y s1 ⟨e1, k, hp⟩ => ?_) fun _ _ h => h)
  rw [e1]
  exact okX_compS k fun zs s' h1 h2 => hp zs s' h1 h2
/-- with draws, no test -/
theorem okX_compD {α β : Type} {enc : α → D} {en2 : β → D} {q : α → β → Prop} : ∀ {xs : List α} {s : DS} {P : List D × Al → DS → Prop}, (∀ x ∈ xs, ∀ s, okO (b (enc x) .frz env) fun e1 => okX (f e1 s) (fun y _ => y.2 = none ∧ ∃ z, y.1 = en2 z ∧ q x z) noX) →
    (∀ (zs : List (α × β)) s', zs.map Prod.fst = xs → (∀ z ∈ zs, q z.1 z.2) → P (zs.map fun z => en2 z.2, none) s') → okX (compF b tYes f (xs.map enc) env s) P noX
  | [], s, P, _, hp => hp [] s rfl (fun _ h => nomatch h)
  | x :: xs, s, P, hx, hp => by
    have h1 := hx x List.mem_cons_self s
    have ih := fun (s : DS) (P : List D × Al → DS → Prop) => okX_compD (xs := xs) (s := s) (P := P) fun y hy => hx y (List.mem_cons_of_mem _ hy)
    show okX (compF b tYes f (enc x :: xs.map enc) env s) P _
    unfold compF
    cases e : b (enc x) .frz env with
    | none => rw [e] at h1; exact h1.elim
    | some e1 =>
      rw [e] at h1
      simp only [okO_some] at h1
      dsimp only [tYes]
      simp only [R.bnd_ok, if_true, okX_bnd]
      refine okX_mono h1 (fun y s2 ⟨h2, z, h3, h4⟩ => ?_) fun _ _ h => h
      refine ih s2 _ fun zs s' k1 k2 => ?_
      rw [h2, h3]
      exact hp ((x, z) :: zs) s' (by rw [List.map_cons, k1]) fun w hw => by
        rcases List.mem_cons.mp hw with rfl | hw
        · exact h4
        · exact k2 w hw
theorem okX_lcD {α β : Type} {vs : List Nat} {it : I} {P : D × Al → DS → Prop} (xs : List α) (enc : α → D) (en2 : β → D) (q : α → β → Prop)
    (hi : okX (it env s) (fun y s1 => y.1 = xs.map enc ∧ (∀ x ∈ xs, ∀ s, okO (b (enc x) .frz (wipeE (freeze (y.2.getD []) env) vs)) fun e1 => okX (f e1 s) (fun y _ => y.2 = none ∧ ∃ z, y.1 = en2 z ∧ q x z) noX) ∧
      ∀ (zs : List (α × β)) s', zs.map Prod.fst = xs → (∀ z ∈ zs, q z.1 z.2) → P (.lst (zs.map fun z => en2 z.2), none) s') X) : okX (eLc vs it b tYes f env s) P X := by
  refine okX_eLc (okX_mono hi (fun y s1 ⟨e1, k, hp⟩ => ?_) fun _ _ h => h)
  rw [e1]
  exact okX_compD k fun zs s' h1 h2 => hp zs s' h1 h2
/-- two fors, without draws -/
theorem compG_pure {α : Type} {enc : α → D} {q : α → Bool} {h : α → List D} {ff : Ev → DS → R (List D)} : ∀ {xs : List α}, (∀ x ∈ xs, okO (b (enc x) .frz env) fun e1 => okX (t e1 s) (fun c s1 => s1 = s ∧ c = q x ∧ (q x = true → okX (ff e1 s) (fun y s2 => y = h x ∧ s2 = s) noX)) noX) →
    compG b t ff (xs.map enc) env s = .ok (((xs.filter q).map h).flatten) s
  | [], _ => rfl
  | x :: xs, hx => by
    have h1 := hx x List.mem_cons_self
    have ih := compG_pure (xs := xs) (q := q) (h := h) fun y hy => hx y (List.mem_cons_of_mem _ hy)
    show compG b t ff (enc x :: xs.map enc) env s = _
    unfold compG
    cases e : b (enc x) .frz env with
    | none => rw [e] at h1; exact h1.elim
    | some e1 =>
      rw [e] at h1
      simp only [okO_some] at h1
      cases e2 : t e1 s with
      | bad => rw [e2] at h1; exact h1.elim
      | exc _ _ => rw [e2] at h1; exact h1.elim
      | ok c s1 =>
        rw [e2] at h1
        obtain ⟨rfl, rfl, h3⟩ := h1
        dsimp only
        rw [e2]
        simp only [R.bnd_ok]
        cases hq : q x with
        | false =>
          simp only [Bool.false_eq_true, if_false]
          rw [ih, List.filter_cons_of_neg (by simp [hq])]
        | true =>
          have h4 := okX.eq (h3 hq)
          simp only [if_true]
          rw [h4]
          simp only [R.bnd_ok]
          rw [ih, List.filter_cons_of_pos hq, List.map_cons, List.flatten_cons]
          rfl
theorem okX_lc2P {α β : Type} {vs vs1 : List Nat} {it it1 : I} {b1 : B} {t1 : T} {P : D × Al → DS → Prop} (xs : List α) (enc : α → D) (q : α → Bool) (ys : α → List β) (enc1 : α → β → D) (q1 : α → β → Bool) (h : α → β → D)
    (hi : okX (it env s) (fun y s1 => y.1 = xs.map enc ∧ s1 = s ∧ ∀ x ∈ xs, okO (b (enc x) .frz (wipeE (freeze (y.2.getD []) env) vs)) fun e1 => okX (t e1 s) (fun c s1 => s1 = s ∧ c = q x ∧ (q x = true → okX (it1 e1 s) (fun y1 s2 => y1.1 = (ys x).map (enc1 x) ∧ s2 = s ∧
      ∀ y ∈ ys x, okO (b1 (enc1 x y) .frz (wipeE (freeze (y1.2.getD []) e1) vs1)) fun e2 => okX (t1 e2 s) (fun c s1 => s1 = s ∧ c = q1 x y ∧ (q1 x y = true → okX (f e2 s) (fun z s2 => z.1 = h x y ∧ lf (h x y) = true ∧ s2 = s) noX)) noX) noX)) noX) X)
    (hlen : (((xs.filter q).map fun x => ((ys x).filter (q1 x)).map (h x)).flatten).length ≤ LIM)
    (hp : P (.lst (((xs.filter q).map fun x => ((ys x).filter (q1 x)).map (h x)).flatten), none) s) : okX (eLc2 vs it b t vs1 it1 b1 t1 f env s) P X := by
  unfold eLc2
  rw [okX_bnd]
  refine okX_mono hi (fun y s1 ⟨e1, e2, k⟩ => ?_) fun _ _ h => h
  subst e2
  rw [e1, okX_bnd]
  have : compG b t (lcIn vs1 it1 b1 t1 (lcOne f)) (xs.map enc) (wipeE (freeze (y.2.getD []) env) vs) s1 = .ok (((xs.filter q).map fun x => ((ys x).filter (q1 x)).map (h x)).flatten) s1 := by
    refine compG_pure fun x hx => ?_
    have k1 := k x hx
    cases e : b (enc x) .frz (wipeE (freeze (y.2.getD []) env) vs) with
    | none => rw [e] at k1; exact k1.elim
    | some e1 =>
      rw [e] at k1
      simp only [okO_some] at k1 ⊢
      refine okX_mono k1 (fun c s2 ⟨h1, h2, h3⟩ => ⟨h1, h2, fun hq => ?_⟩) fun _ _ h => h
      unfold lcIn
      rw [okX_bnd]
      refine okX_mono (h3 hq) (fun y1 s3 ⟨h4, h5, h6⟩ => ?_) fun _ _ h => h
      subst h5
      rw [h4]
      have := compG_pure (b := b1) (t := t1) (env := wipeE (freeze (y1.2.getD []) e1) vs1) (s := s3) (q := q1 x) (h := fun y => [h x y]) (ff := lcOne f) (xs := ys x) (enc := enc1 x) fun y hy => by
        have k2 := h6 y hy
        cases e : b1 (enc1 x y) .frz (wipeE (freeze (y1.2.getD []) e1) vs1) with
        | none => rw [e] at k2; exact k2.elim
        | some e2 =>
          rw [e] at k2
          simp only [okO_some] at k2 ⊢
          refine okX_mono k2 (fun c s2 ⟨h1, h2, h3⟩ => ⟨h1, h2, fun hq => ?_⟩) fun _ _ h => h
          unfold lcOne
          rw [okX_bnd]
          refine okX_mono (h3 hq) (fun z s4 ⟨h4, h5, h6⟩ => ?_) fun _ _ h => h
          subst h6
          rw [h4, if_pos h5]
          exact ⟨rfl, rfl⟩
      rw [this]
      refine ⟨?_, rfl⟩
      generalize (ys x).filter (q1 x) = l
      induction l with
      | nil => rfl
      | cons a l ih => rw [List.map_cons, List.flatten_cons, ih]; rfl
  rw [this]
  simp only [noExc, okX_ok]
  rw [if_pos hlen]
  exact hp
end
/-! values -/
@[simp] theorem lfs_nil : lfs [] = true := id rfl
@[simp] theorem lfs_cons {d : D} {ds : List D} : lfs (d :: ds) = (lf d && lfs ds) := id rfl
@[simp] theorem lf_int {i : Int} : lf (.int i) = true := id rfl
@[simp] theorem lf_bl {i : Bool} : lf (.bl i) = true := id rfl
@[simp] theorem lf_non : lf .non = true := id rfl
@[simp] theorem lf_str {l : List Nat} : lf (.str l) = true := id rfl
@[simp] theorem lf_hdl : lf .hdl = true := id rfl
@[simp] theorem lf_tup {ds : List D} : lf (.tup ds) = lfs ds := id rfl
@[simp] theorem lf_lst {ds : List D} : lf (.lst ds) = false := id rfl
theorem lfs_all {ds : List D} : lfs ds = true ↔ ∀ d ∈ ds, lf d = true := by
  induction ds with
  | nil => simp
  | cons d ds ih => simp [ih]
@[simp] theorem lfs_map {α : Type} {enc : α → D} (h : ∀ x, lf (enc x) = true) {xs : List α} : lfs (xs.map enc) = true := by
  rw [lfs_all]
  intro d hd
  obtain ⟨x, _, rfl⟩ := List.mem_map.mp hd
  exact h x
@[simp] theorem lfs_append {a b : List D} : lfs (a ++ b) = (lfs a && lfs b) := by
  induction a with
  | nil => rfl
  | cons d ds ih => simp [ih, Bool.and_assoc]
@[simp] theorem lfs_reverse {a : List D} : lfs a.reverse = lfs a := by
  induction a with
  | nil => rfl
  | cons d ds ih => simp [ih, Bool.and_comm]
theorem norm_lf {d : D} {al : Al} (h : lf d = true) : norm d al = none := if_pos h
@[simp] theorem norm_if {d : D} {al : Al} : norm d al = if lf d = true then none else al := rfl
theorem norm_none {d : D} : norm d none = none := by
  unfold norm
  split <;> rfl
@[simp] theorem fr2_true {al : Al} : fr2 true al = none := rfl
@[simp] theorem alU_nn : alU none none = none := rfl
@[simp] theorem alU_none' {a : Al} : alU a none = a := by cases a <;> rfl
@[simp] theorem none_alU' {a : Al} : alU none a = a := by cases a <;> rfl
@[simp] theorem getD_none : (none : Al).getD [] = [] := rfl
@[simp] theorem freeze_nil {env : Ev} : freeze [] env = env := rfl
@[simp] theorem norm_lst {ds : List D} {al : Al} : norm (.lst ds) al = al := rfl
@[simp] theorem norm_dic {ds : List (D × D)} {al : Al} : norm (.dic ds) al = al := rfl
@[simp] theorem fr2_false {al : Al} : fr2 false al = some (al.getD []) := rfl
@[simp] theorem alU_sn {a : List Nat} : alU (some a) none = some a := rfl
@[simp] theorem alU_ns {a : List Nat} : alU none (some a) = some a := rfl
@[simp] theorem alU_ss {a b : List Nat} : alU (some a) (some b) = some (a ++ b) := rfl
/-! slots -/
@[simp] theorem getS_n {i : Nat} : getS [] i = none := rfl
@[simp] theorem getS_z {x : Slot} {r : Ev} : getS (x :: r) 0 = x := rfl
@[simp] theorem getS_s {x : Slot} {r : Ev} {i : Nat} : getS (x :: r) (i + 1) = getS r i := rfl
@[simp] theorem setS_n {i : Nat} {y : Slot} : setS [] i y = [] := rfl
@[simp] theorem setS_z {x y : Slot} {r : Ev} : setS (x :: r) 0 y = y :: r := rfl
@[simp] theorem setS_s {x y : Slot} {r : Ev} {i : Nat} : setS (x :: r) (i + 1) y = x :: setS r i y := rfl
@[simp] theorem wipeE_n {env : Ev} : wipeE env [] = env := rfl
@[simp] theorem wipeE_c {env : Ev} {i : Nat} {is : List Nat} : wipeE env (i :: is) = setS (wipeE env is) i none := rfl
@[simp] theorem freeze_c {env : Ev} {i : Nat} {is : List Nat} : freeze (i :: is) env = freeze is (match getS env i with
  | some (_, d) => setS env i (some (.frz, d))
  | none => env) := rfl
@[simp] theorem bName_eq {i : Nat} {d : D} {m : Md} {env : Ev} : bName i d m env = some (setS env i (some (if lf d then .own else m, d))) := rfl
@[simp] theorem bTup_eq {bs : List B} {ds : List D} {m : Md} {env : Ev} : bTup bs (.tup ds) m env = bTupL bs ds m env := rfl
@[simp] theorem bTupL_n {m : Md} {env : Ev} : bTupL [] [] m env = some env := rfl
@[simp] theorem bTupL_c {b : B} {bs : List B} {d : D} {ds : List D} {m : Md} {env : Ev} : bTupL (b :: bs) (d :: ds) m env = match b d m env with
  | some e1 => bTupL bs ds m e1
  | none => none := rfl
@[simp] theorem initE_eq {ds : List D} {n : Nat} : initE ds n = ds.map (fun d => some (if lf d then Md.own else .frz, d)) ++ List.replicate (n - ds.length) none := rfl
/-! ends -/
section
variable {P : D × Bool → DS → Prop} {X : Exn → DS → Prop} {p : Po} {I : Ev → DS → Prop} {env : Ev} {s : DS} {d : D} {f : Bool} {x : Exn}
@[simp] theorem fnPo_nx : (fnPo P X).nx env s = P (.non, true) s := rfl
@[simp] theorem fnPo_rt : (fnPo P X).rt d f s = P (d, f) s := rfl
@[simp] theorem fnPo_ex : (fnPo P X).ex x env s = X x s := rfl
@[simp] theorem forPo_nx : (forPo p I).nx env s = I env s := rfl
@[simp] theorem forPo_ct : (forPo p I).ct env s = I env s := rfl
@[simp] theorem forPo_bk : (forPo p I).bk env s = p.nx env s := rfl
@[simp] theorem forPo_rt : (forPo p I).rt d f s = p.rt d f s := rfl
@[simp] theorem forPo_ex : (forPo p I).ex x env s = p.ex x env s := rfl
end
/-! operators -/
@[simp] theorem cast_inj {a b : Nat} : ((a : Int) = (b : Int)) ↔ a = b := Int.ofNat_inj
section
variable {i j : Int} {b c : Bool}
@[simp] theorem gAdd_int : gAdd (.int i) (.int j) = some (.int (i + j), true) := rfl
@[simp] theorem gSub_int : gSub (.int i) (.int j) = some (.int (i - j), true) := rfl
@[simp] theorem augAdd_int : augAdd (.int i) (.int j) = some (.int (i + j)) := rfl
@[simp] theorem augSub_int : augSub (.int i) (.int j) = some (.int (i - j)) := rfl
@[simp] theorem gNeg_int : gNeg (.int i) = some (.int (-i), true) := rfl
@[simp] theorem gLt_int : gLt (.int i) (.int j) = some (.bl (decide (i < j)), true) := rfl
@[simp] theorem gLe_int : gLe (.int i) (.int j) = some (.bl (decide (i ≤ j)), true) := rfl
@[simp] theorem gGt_int : gGt (.int i) (.int j) = some (.bl (decide (j < i)), true) := rfl
@[simp] theorem gGe_int : gGe (.int i) (.int j) = some (.bl (decide (j ≤ i)), true) := rfl
@[simp] theorem gEq_int : gEq (.int i) (.int j) = some (.bl (decide (i = j)), true) := rfl
@[simp] theorem gNe_int : gNe (.int i) (.int j) = some (.bl (decide (i ≠ j)), true) := by
  show some (D.bl (!(i == j)), true) = _
  by_cases h : i = j
  · subst h; simp
  · have : (i == j) = false := by simpa using h
    rw [this]; simp [h]
@[simp] theorem truth_bl : truth (.bl b) = some b := rfl
@[simp] theorem truth_non : truth .non = some false := rfl
@[simp] theorem truth_lst {ds : List D} : truth (.lst ds) = some (!ds.isEmpty) := rfl
@[simp] theorem truth_tup {ds : List D} : truth (.tup ds) = some (!ds.isEmpty) := rfl
@[simp] theorem gLen_lst {ds : List D} : gLen [.lst ds] = some (.int ds.length, true) := rfl
@[simp] theorem gLen_tup {ds : List D} : gLen [.tup ds] = some (.int ds.length, true) := rfl
@[simp] theorem gTuple_lst {ds : List D} : gTuple [.lst ds] = some (.tup ds, lfs ds) := rfl
@[simp] theorem gTuple_tup {ds : List D} : gTuple [.tup ds] = some (.tup ds, lfs ds) := rfl
theorem gEq_ok {a b : D} (ha : okD 30 a = true) (hb : okD 30 b = true) : gEq a b = some (.bl (eqD a b), true) := by
  unfold gEq
  rw [ha, hb]
  rfl
theorem gNe_ok {a b : D} (ha : okD 30 a = true) (hb : okD 30 b = true) : gNe a b = some (.bl (!eqD a b), true) := by
  unfold gNe
  rw [ha, hb]
  rfl
@[simp] theorem rng1_nat {n : Nat} (h : n ≤ 1000000) : rng1 [.int n] = some ((List.range n).map eN) := by
  unfold rng1
  dsimp only
  rw [if_pos (by simp only [LIM]; omega)]
  rfl
/-- a place given as a natural -/
theorem ixN_nat {n k : Nat} (h : k < n) : ixN n (k : Int) = some k := by
  unfold ixN
  rw [if_pos (by omega), if_pos (by omega)]
  rfl
theorem gIx_tup {xs : List D} {k : Nat} {d : D} (h : xs[k]? = some d) : gIx (.tup xs) (.int k) = some (d, lf d) := by
  have hk : k < xs.length := (List.getElem?_eq_some_iff.mp h).1
  show ((ixN xs.length k).bind fun j => (xs[j]?).map fun d => (d, lf d)) = _
  rw [ixN_nat hk]
  simp [h]
theorem gIx_lst {xs : List D} {k : Nat} {d : D} (h : xs[k]? = some d) : gIx (.lst xs) (.int k) = some (d, lf d) := gIx_tup (xs := xs) h
@[simp] theorem gIx_t0 {a : D} {r : List D} : gIx (.tup (a :: r)) (.int 0) = some (a, lf a) := gIx_tup (k := 0) rfl
@[simp] theorem gIx_t1 {a b : D} {r : List D} : gIx (.tup (a :: b :: r)) (.int 1) = some (b, lf b) := gIx_tup (k := 1) rfl
@[simp] theorem gIx_t2 {a b c : D} {r : List D} : gIx (.tup (a :: b :: c :: r)) (.int 2) = some (c, lf c) := gIx_tup (k := 2) rfl
@[simp] theorem gIx_t3 {a b c d : D} {r : List D} : gIx (.tup (a :: b :: c :: d :: r)) (.int 3) = some (d, lf d) := gIx_tup (k := 3) rfl
end
theorem gAdd_lst {a b : List D} (h : a.length + b.length ≤ 1000000) : gAdd (.lst a) (.lst b) = some (.lst (a ++ b), lfs a && lfs b) := if_pos h
theorem gAdd_tup {a b : List D} (h : a.length + b.length ≤ 1000000) : gAdd (.tup a) (.tup b) = some (.tup (a ++ b), lfs a && lfs b) := if_pos h
@[simp] theorem filter_true {α : Type} {l : List α} : l.filter (fun _ => true) = l := List.filter_eq_self.mpr fun _ _ => rfl
theorem filter_empty {α : Type} {q : α → Bool} {l : List α} : (l.filter q).isEmpty = l.all fun x => !q x := by
  induction l with
  | nil => rfl
  | cons a l ih =>
    rw [List.filter_cons, List.all_cons]
    cases q a with
    | true => rfl
    | false => simpa using ih
theorem gEq_nil {α : Type} {enc : α → D} {l : List α} (h : okDs 29 (l.map enc) = true) : gEq (.lst (l.map enc)) (.lst []) = some (.bl l.isEmpty, true) := by
  rw [gEq_ok]
  · cases l <;> rfl
  · exact h
  · rfl
theorem gNe_nil {α : Type} {enc : α → D} {l : List α} (h : okDs 29 (l.map enc) = true) : gNe (.lst (l.map enc)) (.lst []) = some (.bl (!l.isEmpty), true) := by
  rw [gNe_ok]
  · cases l <;> rfl
  · exact h
  · rfl
theorem okDs_all {n : Nat} {ds : List D} : okDs n ds = true ↔ ∀ d ∈ ds, okD n d = true := by
  induction ds with
  | nil => simp [okDs]
  | cons d ds ih => simp [okDs, ih]
theorem okDs_map {n : Nat} {α : Type} {enc : α → D} {l : List α} (h : ∀ x ∈ l, okD n (enc x) = true) : okDs n (l.map enc) = true := by
  rw [okDs_all]
  intro d hd
  obtain ⟨x, hx, rfl⟩ := List.mem_map.mp hd
  exact h x hx
theorem asBools_map {α : Type} {q : α → Bool} {l : List α} : asBools (l.map fun x => D.bl (q x)) = some (l.map q) := by
  induction l with
  | nil => rfl
  | cons a l ih =>
    show (asBools (l.map fun x => D.bl (q x))).map (q a :: ·) = _
    rw [ih]
    rfl
theorem gAll_map {α : Type} {q : α → Bool} {l : List α} : gAll [.lst (l.map fun x => D.bl (q x))] = some (.bl (l.all q), true) := by
  show (asBools _).map _ = _
  rw [asBools_map]
  simp [List.all_map]
theorem gAny_map {α : Type} {q : α → Bool} {l : List α} : gAny [.lst (l.map fun x => D.bl (q x))] = some (.bl (l.any q), true) := by
  show (asBools _).map _ = _
  rw [asBools_map]
  simp [List.any_map]
theorem asInts_map {α : Type} {q : α → Int} {l : List α} : asInts (l.map fun x => D.int (q x)) = some (l.map q) := by
  induction l with
  | nil => rfl
  | cons a l ih =>
    show (asInts (l.map fun x => D.int (q x))).map (q a :: ·) = _
    rw [ih]
    rfl
theorem enumD_map {α : Type} {enc : α → D} : ∀ {xs : List α} {n : Nat}, enumD n (xs.map enc) = (xs.zipIdx n).map fun p => .tup [.int p.2, enc p.1]
  | [], _ => rfl
  | x :: xs, n => by
    show _ :: enumD (n + 1) (xs.map enc) = _
    rw [enumD_map, List.zipIdx_cons]
    rfl
theorem get_map {α : Type} {enc : α → D} {xs : List α} {j : Nat} (d : α) (h : j < xs.length) : (xs.map enc)[j]? = some (enc (xs.getD j d)) := by
  rw [List.getElem?_map, List.getElem?_eq_getElem h, List.getD_eq_getElem?_getD, List.getElem?_eq_getElem h]
  rfl
theorem gIx_lmap {α : Type} {enc : α → D} {xs : List α} {j : Nat} (d : α) (h : j < xs.length) : gIx (.lst (xs.map enc)) (.int j) = some (enc (xs.getD j d), lf (enc (xs.getD j d))) := gIx_lst (get_map d h)
theorem gIx_tmap {α : Type} {enc : α → D} {xs : List α} {j : Nat} (d : α) (h : j < xs.length) : gIx (.tup (xs.map enc)) (.int j) = some (enc (xs.getD j d), lf (enc (xs.getD j d))) := gIx_tup (get_map d h)
theorem enumD_range {α : Type} {enc : α → D} {xs : List α} (d : α) : enumD 0 (xs.map enc) = (List.range xs.length).map fun i => .tup [.int i, enc (xs.getD i d)] := by
  rw [enumD_map]
  apply List.ext_getElem
  · simp
  · intro i h1 h2
    simp at h1 h2
    simp [List.getElem?_eq_getElem h1]
@[simp] theorem gLstRev_lst {ds : List D} : gLstRev (.lst ds) = some (.lst ds.reverse, lfs ds) := rfl
mutual
theorem eqD_refl : ∀ {n : Nat} (d : D), okD n d = true → eqD d d = true
  | _, .non, _ => rfl
  | _, .bl b, _ => by simp [eqD]
  | _, .int i, _ => by simp [eqD]
  | _, .str x, _ => by simp [eqD]
  | n, .lst xs, h => by
    have h : (n != 0 && okDs (n - 1) xs) = true := h
    exact eqDs_refl xs (Bool.and_eq_true_iff.mp h).2
  | n, .tup xs, h => by
    have h : (n != 0 && okDs (n - 1) xs) = true := h
    exact eqDs_refl xs (Bool.and_eq_true_iff.mp h).2
  | n, .dic xs, h => by
    have h : false = true := h
    cases h
  | n, .hdl, h => by
    have h : false = true := h
    cases h
theorem eqDs_refl : ∀ {n : Nat} (ds : List D), okDs n ds = true → eqDs ds ds = true
  | _, [], _ => rfl
  | n, d :: ds, h => by
    have h : (okD n d && okDs n ds) = true := h
    show (eqD d d && eqDs ds ds) = true
    rw [eqD_refl d (Bool.and_eq_true_iff.mp h).1, eqDs_refl ds (Bool.and_eq_true_iff.mp h).2]
    rfl
end
theorem gNe_self {a : D} (h : okD 30 a = true) : gNe a a = some (.bl false, true) := by
  rw [gNe_ok h h, eqD_refl a h]
  rfl
theorem gEq_self {a : D} (h : okD 30 a = true) : gEq a a = some (.bl true, true) := by
  rw [gEq_ok h h, eqD_refl a h]
@[simp] theorem gIsi_int {t : String} {i : Int} : gIsi t (.int i) = some (.bl (isiB "int" t), true) := rfl
@[simp] theorem gIsi_bl {t : String} {i : Bool} : gIsi t (.bl i) = some (.bl (isiB "bool" t), true) := rfl
@[simp] theorem gIsi_non {t : String} : gIsi t .non = some (.bl (isiB "NoneType" t), true) := rfl
@[simp] theorem gIsi_str {t : String} {i : List Nat} : gIsi t (.str i) = some (.bl (isiB "str" t), true) := rfl
@[simp] theorem gIsi_tup {t : String} {i : List D} : gIsi t (.tup i) = some (.bl (isiB "tuple" t), true) := rfl
@[simp] theorem gIsi_lst {t : String} {i : List D} : gIsi t (.lst i) = some (.bl (isiB "list" t), true) := rfl
@[simp] theorem gIsi_dic {t : String} {i : List (D × D)} : gIsi t (.dic i) = some (.bl (isiB "dict" t), true) := rfl
@[simp] theorem gIs_non {d : D} : gIs d .non = some (.bl (isN d), true) := by cases d <;> rfl
@[simp] theorem gIsNot_non {d : D} : gIsNot d .non = some (.bl (!isN d), true) := by cases d <;> rfl
@[simp] theorem isN_int {i : Int} : isN (.int i) = false := rfl
@[simp] theorem isN_non : isN .non = true := rfl
@[simp] theorem isN_tup {ds : List D} : isN (.tup ds) = false := rfl
@[simp] theorem isN_lst {ds : List D} : isN (.lst ds) = false := rfl
@[simp] theorem gNe_bl {a b : Bool} : gNe (.bl a) (.bl b) = some (.bl (a != b), true) := by
  rw [gNe_ok rfl rfl]
  rfl
@[simp] theorem gEq_bl {a b : Bool} : gEq (.bl a) (.bl b) = some (.bl (a == b), true) := by
  rw [gEq_ok rfl rfl]
  rfl
@[simp] theorem okD_int {n : Nat} {i : Int} : okD n (.int i) = true := rfl
@[simp] theorem okD_bl {n : Nat} {i : Bool} : okD n (.bl i) = true := rfl
@[simp] theorem okD_non {n : Nat} : okD n .non = true := rfl
theorem okD_tup {n : Nat} {ds : List D} (h : okDs n ds = true) : okD (n + 1) (.tup ds) = true := by
  show ((n + 1) != 0 && okDs n ds) = true
  rw [h]
  simp
theorem okD_lst {n : Nat} {ds : List D} (h : okDs n ds = true) : okD (n + 1) (.lst ds) = true := okD_tup (ds := ds) h
theorem cutD_map {α β : Type} {f : α → β} {xs : List α} {lo hi : Option Int} : cutD (xs.map f) lo hi = (cutD xs lo hi).map f := by
  unfold cutD
  rw [List.length_map, List.map_take, List.map_drop]
theorem cutD_len {α : Type} {xs : List α} {lo hi : Option Int} : (cutD xs lo hi).length ≤ xs.length := by
  unfold cutD
  rw [List.length_take, List.length_drop]
  omega
/-- xs[:k] -/
theorem cutD_to {α : Type} {xs : List α} {k : Nat} : cutD xs none (some (k : Int)) = xs.take k := by
  unfold cutD sIx
  dsimp only
  rw [if_neg (by omega), List.drop_zero, Nat.sub_zero, show ((k : Int)).toNat = k by omega]
  by_cases h : k ≤ xs.length
  · rw [Nat.min_eq_left h]
  · rw [Nat.min_eq_right (by omega), List.take_of_length_le (Nat.le_refl _), List.take_of_length_le (by omega)]
/-! slots of an environment that is not told whole -/
@[simp] theorem len_setS {x : Slot} : ∀ {env : Ev} {i : Nat}, (setS env i x).length = env.length
  | [], _ => rfl
  | _ :: _, 0 => rfl
  | y :: r, i + 1 => by
    show (y :: setS r i x).length = _
    rw [List.length_cons, len_setS, List.length_cons]
theorem getS_setS_eq {x : Slot} : ∀ {env : Ev} {i : Nat}, i < env.length → getS (setS env i x) i = x
  | [], _, h => absurd h (Nat.not_lt_zero _)
  | _ :: _, 0, _ => rfl
  | y :: r, i + 1, h => by
    show getS (setS r i x) i = x
    exact getS_setS_eq (Nat.lt_of_succ_lt_succ h)
theorem getS_setS_ne {x : Slot} : ∀ {env : Ev} {i j : Nat}, i ≠ j → getS (setS env i x) j = getS env j
  | [], _, _, _ => rfl
  | _ :: _, 0, 0, h => absurd rfl h
  | _ :: _, 0, j + 1, _ => rfl
  | _ :: _, i + 1, 0, _ => rfl
  | y :: r, i + 1, j + 1, h => by
    show getS (setS r i x) j = getS r j
    exact getS_setS_ne fun e => h (by rw [e])
end Pl
end
section
set_option linter.all false
namespace K26
open Sm
def FUEL : Nat := 100000
/-- is_integer: 0 value, 1 low, 2 high -/
def g_is_integer : S :=
    (sSeq (sIf (tOr (tNot (tV (eU (gIsi "int") (eV 0)))) (tV (eU (gIsi "bool") (eV 0)))) (sRet (eC (.bl false))) sNil)
    (sRet (eAnd (eOr (eB gIs (eV 1) (eC .non)) (eB gGe (eV 0) (eV 1))) (eOr (eB gIs (eV 2) (eC .non)) (eB gLe (eV 0) (eV 2))))))
def m_is_integer : List D → DS → RF := runB g_is_integer 3 3
/-- greatest_divisor: 0 a, 1 b -/
def g_greatest_divisor : S :=
    (sSeq (sPar [0, 1] (aCons (eFn gAbs (aCons (eV 0) aNil)) (aCons (eFn gAbs (aCons (eV 1) aNil)) aNil)))
    (sSeq (sWhile FUEL (tV (eV 1)) (sPar [0, 1] (aCons (eV 1) (aCons (eB gMod (eV 0) (eV 1)) aNil))))
    (sRetV 0)))
def m_greatest_divisor : List D → DS → RF := runB g_greatest_divisor 2 2
/-- has: 0 calendar, 1 day, 2 head, 3 ring -/
def g_has : S :=
    (sSeq (sAsg (bTup [(bName 2), (bName 3)]) (eV 0))
    (sRet (eIf (tB (eB gLt (eV 1) (eFn gLen (aCons (eV 2) aNil)))) (eB gEq (eB gIx (eV 2) (eV 1)) (eC (.int 1))) (eB gEq (eB gIx (eV 3) (eB gMod (eB gSub (eV 1) (eFn gLen (aCons (eV 2) aNil))) (eFn gLen (aCons (eV 3) aNil)))) (eC (.int 1))))))
def m_has : List D → DS → RF := runB g_has 4 2
abbrev m__law_take := mTake
/-- _law_has: 0 calendar, 1 day, 2 head, 3 ring, 4 rest -/
def g__law_has : S :=
    (sSeq (sAsg (bTup [(bName 2), (bName 3)]) (eV 0))
    (sSeq (sIf (tB (eB gLt (eV 1) (eFn gLen (aCons (eV 2) aNil)))) (sRet (eB gEq (eB gIx (eV 2) (eV 1)) (eC (.int 1)))) sNil)
    (sSeq (sAsg (bName 4) (eB gSub (eV 1) (eFn gLen (aCons (eV 2) aNil))))
    (sRet (eB gEq (eB gIx (eV 3) (eB gSub (eV 4) (eB gMul (eFn gLen (aCons (eV 3) aNil)) (eB gDiv (eV 4) (eFn gLen (aCons (eV 3) aNil)))))) (eC (.int 1)))))))
def m__law_has : List D → DS → RF := runB g__law_has 5 2
/-- is_row: 0 value, 1 low, 2 high, 3 one -/
def g_is_row : S :=
    (sRet (eAnd (eU (gIsi "tuple") (eV 0)) (eFn gAll (aCons (eLc [3] (iSeq (eV 0)) (bName 3) tYes (eCall m_is_integer (aCons (eV 3) (aCons (eV 1) (aCons (eV 2) aNil))))) aNil))))
def m_is_row : List D → DS → RF := runB g_is_row 4 3
/-- common_length: 0 a, 1 b -/
def g_common_length : S :=
    (sRet (eB gDiv (eB gMul (eV 0) (eV 1)) (eCall m_greatest_divisor (aCons (eV 0) (aCons (eV 1) aNil)))))
def m_common_length : List D → DS → RF := runB g_common_length 2 2
/-- clashing_rests: 0 rests, 1 j, 2 l, 3 s, 4 i, 5 k, 6 r -/
def g_clashing_rests : S :=
    (sSeq (sFor (iEnum (aCons (eV 0) aNil)) (bTup [(bName 1), (bTup [(bName 2), (bName 3)])]) (sFor (iRange1 (aCons (eV 1) aNil)) (bName 4) (sSeq (sAsg (bTup [(bName 5), (bName 6)]) (eB gIx (eV 0) (eV 4)))
    (sIf (tB (eB gNe (eB gMod (eB gSub (eV 6) (eV 3)) (eCall m_greatest_divisor (aCons (eV 5) (aCons (eV 2) aNil)))) (eC (.int 0)))) (sRet (eTup (aCons (eV 4) (aCons (eV 1) aNil)))) sNil))))
    (sRet (eC .non)))
def m_clashing_rests : List D → DS → RF := runB g_clashing_rests 7 1
/-- _law_row: 0 draw, 1 low, 2 high, 3 k -/
def g__law_row : S :=
    (sRet (eFn gTuple (aCons (eLc [3] (iRange1 (aCons (eB gAdd (eV 1) (eCall m__law_take (aCons (eV 0) (aCons (eB gAdd (eB gSub (eV 2) (eV 1)) (eC (.int 1))) aNil)))) aNil)) (bName 3) tYes (eCall m__law_take (aCons (eV 0) (aCons (eC (.int 2)) aNil)))) aNil)))
def m__law_row : List D → DS → RF := runB g__law_row 4 3
/-- first_gap: 0 calendars, 1 length, 2 calendar, 3 day -/
def g_first_gap : S :=
    (sSeq (sAsg (bName 1) (eC (.int 1)))
    (sSeq (sFor (iSeq (eV 0)) (bName 2) (sAsg (bName 1) (eCall m_common_length (aCons (eV 1) (aCons (eFn gLen (aCons (eB gIx (eV 2) (eC (.int 1))) aNil)) aNil)))))
    (sSeq (sFor (iRange1 (aCons (eB gAdd (eFn gMax (aCons (eB gAdd (eLst (aCons (eC (.int 0)) aNil)) (eLc [2] (iSeq (eV 0)) (bName 2) tYes (eFn gLen (aCons (eB gIx (eV 2) (eC (.int 0))) aNil)))) aNil)) (eV 1)) aNil)) (bName 3) (sIf (tNot (tV (eFn gAny (aCons (eLc [2] (iSeq (eV 0)) (bName 2) tYes (eCall m_has (aCons (eV 2) (aCons (eV 3) aNil)))) aNil)))) (sRetV 3) sNil))
    (sRet (eC .non)))))
def m_first_gap : List D → DS → RF := runB g_first_gap 4 1
/-- remainder_day: 0 rests, 1 length, 2 day, 3 k, 4 r, 5 tries -/
def g_remainder_day : S :=
    (sSeq (sAsg (bTup [(bName 1), (bName 2)]) (eTup (aCons (eC (.int 1)) (aCons (eC (.int 0)) aNil))))
    (sSeq (sFor (iSeq (eV 0)) (bTup [(bName 3), (bName 4)]) (sSeq (sAsg (bName 5) (eC (.int 0)))
    (sSeq (sWhile FUEL (tB (eB gNe (eB gMod (eV 2) (eV 3)) (eV 4))) (sSeq (sAug 2 augAdd (eV 1))
    (sSeq (sAug 5 augAdd (eC (.int 1)))
    (sIf (tB (eB gGt (eV 5) (eV 3))) (sRet (eC .non)) sNil))))
    (sSeq (sAsg (bName 1) (eCall m_common_length (aCons (eV 1) (aCons (eV 3) aNil))))
    (sAsg (bName 2) (eB gMod (eV 2) (eV 1)))))))
    (sRetV 2)))
def m_remainder_day : List D → DS → RF := runB g_remainder_day 6 1
/-- judge_no_remainder: 0 rests, 1 pair, 2 k, 3 r, 4 l, 5 s -/
def g_judge_no_remainder : S :=
    (sSeq (sIf (tOr (tNot (tV (eCall m_is_row (aCons (eV 1) (aCons (eC (.int 0)) (aCons (eB gSub (eFn gLen (aCons (eV 0) aNil)) (eC (.int 1))) aNil)))))) (tOr (tB (eB gNe (eFn gLen (aCons (eV 1) aNil)) (eC (.int 2)))) (tNot (tB (eB gLt (eB gIx (eV 1) (eC (.int 0))) (eB gIx (eV 1) (eC (.int 1)))))))) (sRaise "BadPaper") sNil)
    (sSeq (sAsg (bTup [(bTup [(bName 2), (bName 3)]), (bTup [(bName 4), (bName 5)])]) (eTup (aCons (eB gIx (eV 0) (eB gIx (eV 1) (eC (.int 0)))) (aCons (eB gIx (eV 0) (eB gIx (eV 1) (eC (.int 1)))) aNil))))
    (sIf (tB (eB gEq (eB gMod (eB gSub (eV 3) (eV 5)) (eCall m_greatest_divisor (aCons (eV 2) (aCons (eV 4) aNil)))) (eC (.int 0)))) (sRaise "BadPaper") sNil)))
def m_judge_no_remainder : List D → DS → RF := runB g_judge_no_remainder 6 2
/-- covers: 0 calendars -/
def g_covers : S :=
    (sRet (eB gIs (eCall m_first_gap (aCons (eV 0) aNil)) (eC .non)))
def m_covers : List D → DS → RF := runB g_covers 1 1
/-- _law_taken: 0 rests, 1 pair -/
def g__law_taken : S :=
    (sSeq (sTry [("DelayError", false), ("BadPaper", true)] (sExpr (eCall m_judge_no_remainder (aCons (eV 0) (aCons (eV 1) aNil)))) (sRet (eC (.bl false))))
    (sRet (eC (.bl true))))
def m__law_taken : List D → DS → RF := runB g__law_taken 2 2
/-- law: 0 script, 1 draw, 2 turn, 3 k, 4 calendars, 5 day, 6 one, 7 gaps, 8 rests, 9 length, 10 product, 11 rest, 12 fine, 13 due, 14 j, 15 i, 16 days, 17 pair, 18 good, 19 bad -/
def g_law : S :=
    (sSeq (sFor (iRange1 (aCons (eC (.int 3)) aNil)) (bName 2) (sSeq (sAsg (bName 4) (eFn gTuple (aCons (eLc [3] (iRange1 (aCons (eCall m__law_take (aCons (eV 1) (aCons (eC (.int 5)) aNil))) aNil)) (bName 3) tYes (eTup (aCons (eCall m__law_row (aCons (eV 1) (aCons (eC (.int 0)) (aCons (eC (.int 3)) aNil)))) (aCons (eCall m__law_row (aCons (eV 1) (aCons (eC (.int 1)) (aCons (eC (.int 4)) aNil)))) aNil)))) aNil)))
    (sSeq (sAsg (bName 7) (eLc [5] (iRange1 (aCons (eC (.int 40)) aNil)) (bName 5) (tB (eB gEq (eLc [6] (iSeq (eV 4)) (bName 6) (tV (eCall m__law_has (aCons (eV 6) (aCons (eV 5) aNil)))) (eV 6)) (eLst aNil))) (eV 5)))
    (sSeq (sIf (tOr (tB (eB gNe (eCall m_first_gap (aCons (eV 4) aNil)) (eIf (tB (eB gNe (eV 7) (eLst aNil))) (eB gIx (eV 7) (eC (.int 0))) (eC .non)))) (tB (eB gNe (eCall m_covers (aCons (eV 4) aNil)) (eB gEq (eV 7) (eLst aNil))))) (sRet (eC (.bl false))) sNil)
    (sSeq (sAsg (bName 8) (eLst aNil))
    (sSeq (sFor (iRange1 (aCons (eCall m__law_take (aCons (eV 1) (aCons (eC (.int 4)) aNil))) aNil)) (bName 3) (sSeq (sAsg (bName 9) (eB gAdd (eC (.int 1)) (eCall m__law_take (aCons (eV 1) (aCons (eC (.int 6)) aNil)))))
    (sApp 8 (eTup (aCons (eV 9) (aCons (eCall m__law_take (aCons (eV 1) (aCons (eV 9) aNil))) aNil))))))
    (sSeq (sAsg (bName 8) (eFn gTuple (aCons (eV 8) aNil)))
    (sSeq (sAsg (bName 10) (eC (.int 1)))
    (sSeq (sFor (iSeq (eV 8)) (bTup [(bName 9), (bName 11)]) (sAsg (bName 10) (eB gMul (eV 10) (eV 9))))
    (sSeq (sAsg (bName 12) (eLc [5] (iRange1 (aCons (eV 10) aNil)) (bName 5) (tB (eB gEq (eLc [9, 11] (iSeq (eV 8)) (bTup [(bName 9), (bName 11)]) (tB (eB gNe (eB gSub (eV 5) (eB gMul (eV 9) (eB gDiv (eV 5) (eV 9)))) (eV 11))) (eC (.int 1))) (eLst aNil))) (eV 5)))
    (sSeq (sIf (tB (eB gNe (eCall m_remainder_day (aCons (eV 8) aNil)) (eIf (tB (eB gNe (eV 12) (eLst aNil))) (eB gIx (eV 12) (eC (.int 0))) (eC .non)))) (sRet (eC (.bl false))) sNil)
    (sSeq (sAsg (bName 13) (eC .non))
    (sSeq (sFor (iRange1 (aCons (eFn gLen (aCons (eV 8) aNil)) aNil)) (bName 14) (sFor (iRange1 (aCons (eV 14) aNil)) (bName 15) (sSeq (sAsg (bName 16) (eLc [5] (iRange1 (aCons (eC (.int 36)) aNil)) (bName 5) (tAnd (tB (eB gEq (eB gMod (eV 5) (eB gIx (eB gIx (eV 8) (eV 15)) (eC (.int 0)))) (eB gIx (eB gIx (eV 8) (eV 15)) (eC (.int 1))))) (tB (eB gEq (eB gMod (eV 5) (eB gIx (eB gIx (eV 8) (eV 14)) (eC (.int 0)))) (eB gIx (eB gIx (eV 8) (eV 14)) (eC (.int 1)))))) (eV 5)))
    (sSeq (sIf (tAnd (tB (eB gEq (eV 16) (eLst aNil))) (tB (eB gIs (eV 13) (eC .non)))) (sAsg (bName 13) (eTup (aCons (eV 15) (aCons (eV 14) aNil)))) sNil)
    (sFor (iSeq (eLst (aCons (eTup (aCons (eV 15) (aCons (eV 14) aNil))) (aCons (eTup (aCons (eV 14) (aCons (eV 15) aNil))) (aCons (eTup (aCons (eV 15) (aCons (eV 15) aNil))) (aCons (eTup (aCons (eV 15) aNil)) (aCons (eTup (aCons (eV 15) (aCons (eV 14) (aCons (eV 14) aNil)))) (aCons (eLst (aCons (eV 15) (aCons (eV 14) aNil))) (aCons (eTup (aCons (eV 15) (aCons (eC (.bl true)) aNil))) aNil))))))))) (bName 17) (sSeq (sAsg (bName 18) (eAnd (eB gEq (eV 17) (eTup (aCons (eV 15) (aCons (eV 14) aNil)))) (eAnd (eU (gIsi "tuple") (eV 17)) (eAnd (eNot (eU (gIsi "bool") (eB gIx (eV 17) (eC (.int 1))))) (eB gEq (eV 16) (eLst aNil))))))
    (sIf (tAnd (tB (eB gNe (eV 17) (eTup (aCons (eV 15) (aCons (eC (.bl true)) aNil))))) (tB (eB gNe (eCall m__law_taken (aCons (eV 8) (aCons (eV 17) aNil))) (eV 18)))) (sRet (eC (.bl false))) sNil)))))))
    (sSeq (sIf (tOr (tB (eB gNe (eCall m_clashing_rests (aCons (eV 8) aNil)) (eV 13))) (tB (eB gNe (eB gEq (eV 12) (eLst aNil)) (eB gIsNot (eV 13) (eC .non))))) (sRet (eC (.bl false))) sNil)
    (sIf (tB (eB gNe (eLc [19] (iSeq (eLst (aCons (eC .non) (aCons (eC (.int 5)) (aCons (eTup (aCons (eC (.int 0)) (aCons (eC (.int 9)) aNil))) (aCons (eTup (aCons (eU gNeg (eC (.int 1))) (aCons (eC (.int 0)) aNil))) (aCons (eC (.str [97, 98])) (aCons (eTup (aCons (eC (.int 0)) (aCons (eC (.bl true)) aNil))) aNil)))))))) (bName 19) (tV (eCall m__law_taken (aCons (eV 8) (aCons (eV 19) aNil)))) (eV 19)) (eLst aNil))) (sRet (eC (.bl false))) sNil)))))))))))))))
    (sRet (eC (.bl true))))
def nLaw : Nat := 18
end K26
end
section
set_option linter.all false
set_option maxRecDepth 10000
set_option maxHeartbeats 1000000
namespace K26
open Sm Pl
/-! divisors -/
@[simp] theorem gAbs_int {i : Int} : gAbs [.int i] = some (.int (i.natAbs : Nat), true) := by
  show some (D.int (if i < 0 then -i else i), true) = _
  congr 3
  split <;> omega
theorem gMod_nat {a b : Nat} (h : 0 < b) : gMod (.int a) (.int b) = some (.int ((a % b : Nat) : Int), true) := by
  show (if 0 < (b : Int) then some (D.int ((a : Int) % b), true) else none) = _
  rw [if_pos (by omega)]
  congr 3
@[simp] theorem truth_int {i : Int} : truth (.int i) = some (i != 0) := rfl
theorem r_gcd {a b : Int} (hb : b.natAbs < 99999) {s : DS} : m_greatest_divisor [.int a, .int b] s = .ok (.int (Nat.gcd a.natAbs b.natAbs : Nat), true) s := by
  refine runB_eq rfl ?_
  unfold g_greatest_divisor
  simp
  refine okS_whileF (fun k env s' => ∃ x : Nat, Nat.gcd x k = Nat.gcd a.natAbs b.natAbs ∧ env = [some (.own, .int x), some (.own, .int k)] ∧ s' = s) (k := b.natAbs) ⟨a.natAbs, rfl, rfl, rfl⟩ (by show _ < 100000; omega) ?_
  rintro k env s' ⟨x, h1, rfl, rfl⟩
  simp
  by_cases hk : k = 0
  · subst hk
    simp at h1 ⊢
    exact h1
  · simp [hk, gMod_nat (a := x) (b := k) (by omega)]
    exact ⟨x % k, Nat.mod_lt _ (by omega), ⟨k, by rw [← h1, Nat.gcd_comm x k, Nat.gcd_rec k x, Nat.gcd_comm], rfl, rfl⟩⟩
/-! calendars -/
def eNs (l : List Nat) : D := .tup (l.map eN)
@[simp] theorem lf_eNs {l : List Nat} : lf (eNs l) = true := by simp [eNs]
structure Cal where
  head : List Nat
  ring : List Nat
def eC' (c : Cal) : D := .tup [eNs c.head, eNs c.ring]
@[simp] theorem lf_eCal {c : Cal} : lf (eC' c) = true := by simp [eC']
def at0 (l : List Nat) (k : Nat) : Nat := l.getD k 0
theorem gIx_ns {l : List Nat} {k : Nat} (h : k < l.length) : gIx (eNs l) (.int k) = some (eN (at0 l k), true) := (gIx_tmap 0 h).trans rfl
@[simp] theorem gLen_ns {l : List Nat} : gLen [eNs l] = some (.int l.length, true) := by simp [eNs]
def hasD (c : Cal) (d : Nat) : Bool := if d < c.head.length then at0 c.head d == 1 else at0 c.ring ((d - c.head.length) % c.ring.length) == 1
theorem eq1 {k : Nat} : gEq (eN k) (.int 1) = some (.bl (k == 1), true) := by
  rw [gEq_int]
  congr 3
  by_cases h : k = 1
  · subst h; rfl
  · rw [beq_false_of_ne h, decide_eq_false]
    omega
theorem r_has {c : Cal} {d : Nat} (h : 1 ≤ c.ring.length) {s : DS} : m_has [eC' c, .int d] s = .ok (.bl (hasD c d), true) s := by
  refine runB_eq rfl ?_
  unfold g_has
  have e1 : ∀ k : Nat, decide ((k : Int) = 1) = (k == 1) := fun k => by
    by_cases h : k = 1
    · subst h; rfl
    · rw [beq_false_of_ne h, decide_eq_false]
      omega
  simp [eC']
  by_cases hd : d < c.head.length
  · simp [hd, gIx_ns hd, hasD, e1]
  · have e2 : (d : Int) - (c.head.length : Int) = ((d - c.head.length : Nat) : Int) := by omega
    have hm : (d - c.head.length) % c.ring.length < c.ring.length := Nat.mod_lt _ (by omega)
    have g2 : gIx (eNs c.ring) (.int (((d - c.head.length : Nat) : Int) % (c.ring.length : Int))) = some (eN (at0 c.ring ((d - c.head.length) % c.ring.length)), true) := by
      rw [← Int.natCast_emod]
      exact gIx_ns hm
    simp [hd, e2, gMod_nat (a := d - c.head.length) (b := c.ring.length) (by omega), g2, hasD, e1]
theorem gMul_sm {i j : Int} (h : -1000000 ≤ i ∧ i ≤ 1000000) : gMul (.int i) (.int j) = some (.int (i * j), true) := by
  show (if (-BIG < i ∧ i < BIG) ∨ (-BIG < j ∧ j < BIG) then some (D.int (i * j), true) else none) = _
  have : BIG = 18446744073709551616 := rfl
  rw [if_pos (.inl (by omega))]
theorem gDiv_sm {i j : Int} (h : 0 < j ∧ j ≤ 1000000) : gDiv (.int i) (.int j) = some (.int (i / j), true) := by
  show (if 0 < j ∧ j < 1073741824 then some (D.int (i / j), true) else none) = _
  rw [if_pos (by omega)]
theorem dec1 (k : Nat) : decide ((k : Int) = 1) = (k == 1) := by
  by_cases h : k = 1
  · subst h; rfl
  · rw [beq_false_of_ne h, decide_eq_false]
    omega
theorem r_lhas {c : Cal} {d : Nat} (h : 1 ≤ c.ring.length) (h2 : c.ring.length ≤ 100) {s : DS} : m__law_has [eC' c, .int d] s = .ok (.bl (hasD c d), true) s := by
  refine runB_eq rfl ?_
  unfold g__law_has
  simp [eC']
  by_cases hd : d < c.head.length
  · simp [hd, gIx_ns hd, hasD, dec1]
  · have e2 : (d : Int) - (c.head.length : Int) = ((d - c.head.length : Nat) : Int) := by omega
    have hm : (d - c.head.length) % c.ring.length < c.ring.length := Nat.mod_lt _ (by omega)
    have g2 : gIx (eNs c.ring) (.int (((d - c.head.length : Nat) : Int) - (c.ring.length : Int) * (((d - c.head.length : Nat) : Int) / (c.ring.length : Int)))) = some (eN (at0 c.ring ((d - c.head.length) % c.ring.length)), true) := by
      rw [← gIx_ns hm]
      congr 2
      rw [Int.natCast_emod]
      have := Int.emod_add_mul_ediv ((d - c.head.length : Nat) : Int) (c.ring.length : Int)
      omega
    simp [hd, e2, gDiv_sm (j := (c.ring.length : Int)) (by omega), gMul_sm (i := (c.ring.length : Int)) (by omega), g2, hasD, dec1]
theorem r_common {a b : Nat} (ha : a ≤ 1000) (hb : b ≤ 1000) (h : 0 < a) {s : DS} : m_common_length [.int a, .int b] s = .ok (.int (Nat.lcm a b : Nat), true) s := by
  refine runB_eq rfl ?_
  unfold g_common_length
  have hg := r_gcd (a := (a : Int)) (b := (b : Int)) (by simp; omega) (s := s)
  simp at hg
  have h1 : 0 < Nat.gcd a b := Nat.gcd_pos_of_pos_left _ h
  have h2 : Nat.gcd a b ≤ a := Nat.le_of_dvd h (Nat.gcd_dvd_left _ _)
  simp [gMul_sm (i := (a : Int)) (by omega), hg, gDiv_sm (j := (Nat.gcd a b : Int)) (by omega)]
  unfold Nat.lcm
  rfl
/-! the first gap -/
structure COk (c : Cal) : Prop where
  h3 : c.head.length ≤ 3
  r1 : 1 ≤ c.ring.length
  r4 : c.ring.length ≤ 4
def lenA (cs : List Cal) : Nat := cs.foldl (fun l c => Nat.lcm l c.ring.length) 1
def maxH (cs : List Cal) : Nat := cs.foldl (fun m c => max m c.head.length) 0
theorem lenA_dvd : ∀ (cs : List Cal) (l : Nat), (∀ c ∈ cs, COk c) → l ∣ 12 → cs.foldl (fun l c => Nat.lcm l c.ring.length) l ∣ 12
  | [], l, _, h => h
  | c :: cs, l, hc, h => by
    refine lenA_dvd cs _ (fun c' h' => hc c' (List.mem_cons_of_mem _ h')) (Nat.lcm_dvd h ?_)
    obtain ⟨_, r1, r4⟩ := hc c List.mem_cons_self
    generalize c.ring.length = n at r1 r4
    match n, r1, r4 with
    | 1, _, _ => decide
    | 2, _, _ => decide
    | 3, _, _ => decide
    | 4, _, _ => decide
theorem foldl_lcm_dvd : ∀ (cs : List Cal) (l : Nat), l ∣ cs.foldl (fun l c => Nat.lcm l c.ring.length) l ∧ ∀ c ∈ cs, c.ring.length ∣ cs.foldl (fun l c => Nat.lcm l c.ring.length) l
  | [], l => ⟨Nat.dvd_refl _, fun _ h => nomatch h⟩
  | c :: cs, l => by
    obtain ⟨h1, h2⟩ := foldl_lcm_dvd cs (Nat.lcm l c.ring.length)
    refine ⟨Nat.dvd_trans (Nat.dvd_lcm_left _ _) h1, fun c' hc => ?_⟩
    rcases List.mem_cons.mp hc with rfl | hc
    · exact Nat.dvd_trans (Nat.dvd_lcm_right _ _) h1
    · exact h2 c' hc
theorem maxH_le : ∀ (cs : List Cal) (m : Nat), m ≤ 3 → (∀ c ∈ cs, COk c) → cs.foldl (fun m c => max m c.head.length) m ≤ 3
  | [], m, h, _ => h
  | c :: cs, m, h, hc => maxH_le cs (max m c.head.length) (by have := (hc c List.mem_cons_self).h3; omega) fun c' h' => hc c' (List.mem_cons_of_mem _ h')
theorem le_maxH : ∀ (cs : List Cal) (m : Nat), m ≤ cs.foldl (fun m c => max m c.head.length) m ∧ ∀ c ∈ cs, c.head.length ≤ cs.foldl (fun m c => max m c.head.length) m
  | [], m => ⟨Nat.le_refl _, fun _ h => nomatch h⟩
  | c :: cs, m => by
    obtain ⟨h1, h2⟩ := le_maxH cs (max m c.head.length)
    refine ⟨Nat.le_trans (Nat.le_max_left _ _) h1, fun c' hc => ?_⟩
    rcases List.mem_cons.mp hc with rfl | hc
    · exact Nat.le_trans (Nat.le_max_right _ _) h1
    · exact h2 c' hc
def isGap (cs : List Cal) (d : Nat) : Bool := !cs.any (hasD · d)
def gapO (cs : List Cal) : Option Nat := (List.range (maxH cs + lenA cs)).find? (isGap cs)
def oN : Option Nat → D
  | some k => .int k
  | none => .non
@[simp] theorem lf_oN {o : Option Nat} : lf (oN o) = true := by cases o <;> rfl
theorem maxI_map (m : Nat) : ∀ (cs : List Cal), maxI (m : Int) (cs.map fun c => (c.head.length : Int)) = ((cs.foldl (fun m c => max m c.head.length) m : Nat) : Int)
  | [] => rfl
  | c :: cs => by
    have h := maxI_map (max m c.head.length) cs
    rw [List.foldl_cons, ← h]
    show maxI (if (m : Int) < (c.head.length : Int) then (c.head.length : Int) else (m : Int)) _ = _
    congr 1
    split <;> omega
def i2 (cs : List Cal) (s0 : DS) (rest : List Cal) (env : Ev) (s : DS) : Prop := ∃ done, cs = done ++ rest ∧ s = s0 ∧ ∃ k2, env = [some (.own, .tup (cs.map eC')), some (.own, .int (lenA done : Nat)), k2, none]
theorem r_first_gap {cs : List Cal} (h : ∀ c ∈ cs, COk c) (hl : cs.length ≤ 100) {s : DS} : m_first_gap [.tup (cs.map eC')] s = .ok (oN (gapO cs), true) s := by
  have hL := lenA_dvd cs 1 h (by decide)
  have hL2 : lenA cs ≤ 12 := Nat.le_of_dvd (by decide) hL
  have hH := maxH_le cs 0 (by decide) h
  refine runB_eq rfl ?_
  unfold g_first_gap
  refine okS_cut (fun env s1 => s1 = s ∧ env = [some (.own, .tup (cs.map eC')), some (.own, .int 1), none, none]) ?_ ?_
  · simp
  rintro env s1 ⟨rfl, rfl⟩
  refine okS_cut (fun env s2 => s2 = s1 ∧ ∃ k2, env = [some (.own, .tup (cs.map eC')), some (.own, .int (lenA cs : Nat)), k2, none]) ?_ ?_
  · simp
    refine okS_forF (enc := eC') (xs := cs) (i2 cs s1) ?_ ?_ ?_
    · exact ⟨[], rfl, rfl, _, rfl⟩
    · rintro c r env s2 ⟨l, hl⟩ ⟨done, h4, rfl, k2, rfl⟩
      have hc := h c (by rw [h4]; simp)
      have hd := lenA_dvd done 1 (fun c hc => h c (by rw [h4]; simp [hc])) (by decide)
      have hd2 : lenA done ≤ 12 := Nat.le_of_dvd (by decide) hd
      have hd1 : 0 < lenA done := Nat.pos_of_dvd_of_pos hd (by decide)
      have g1 : gIx (eC' c) (.int 1) = some (eNs c.ring, true) := by simp [eC']
      simp [g1, r_common (a := lenA done) (b := c.ring.length) (by omega) (by have := hc.r4; omega) hd1]
      exact ⟨done ++ [c], by rw [h4]; simp, rfl, by simp [lenA]⟩
    · rintro env s2 ⟨done, h4, rfl, k2, rfl⟩
      simp at h4
      subst h4
      simp
  rintro env s2 ⟨rfl, k2, rfl⟩
  refine okS_cut (fun env s3 => s3 = s2 ∧ gapO cs = none) ?_ ?_
  · simp
    refine okX_lcP cs eC' (fun _ => true) (fun c => .int ((c.head.length : Nat) : Int)) ?_ ?_
    · simp
      intro c hc
      have g1 : gIx (eC' c) (.int 0) = some (eNs c.head, true) := by simp [eC']
      simp [g1]
    · simp only [filter_true]
      have gm : gMax [.lst (.int 0 :: cs.map fun c => .int ((c.head.length : Nat) : Int))] = some (.int (maxH cs : Nat), true) := by
        have e1 : asInts (.int 0 :: cs.map fun c => .int ((c.head.length : Nat) : Int)) = some (0 :: cs.map fun c => ((c.head.length : Nat) : Int)) := by
          show (asInts (cs.map fun c => D.int ((c.head.length : Nat) : Int))).map _ = _
          rw [asInts_map]
          rfl
        show (match asInts (.int 0 :: cs.map fun c => .int ((c.head.length : Nat) : Int)) with
          | some (n :: ns) => some (D.int (maxI n ns), true)
          | _ => none) = _
        rw [e1]
        have := maxI_map 0 cs
        dsimp only
        rw [show (0 : Int) = ((0 : Nat) : Int) from rfl, this]
        rfl
      have hH2 : maxH cs ≤ 3 := hH
      rw [gAdd_lst (by simp; omega)]
      simp [gm]
      have e2 : ((maxH cs : Int) + (lenA cs : Int)) = ((maxH cs + lenA cs : Nat) : Int) := by omega
      rw [e2, rng1_nat (n := maxH cs + lenA cs) (by omega)]
      simp
      refine okS_forFind (enc := eN) (xs := List.range (maxH cs + lenA cs)) (isGap cs) (gapO cs) rfl (fun env s3 => s3 = s2 ∧ ∃ k2 k3, env = [some (.own, .tup (cs.map eC')), some (.own, .int (lenA cs : Nat)), k2, k3]) ⟨rfl, _, _, rfl⟩ ?_ ?_
      · rintro d hd env s3 ⟨rfl, k2, k3, rfl⟩
        simp
        refine okX_lcP cs eC' (fun _ => true) (fun c => .bl (hasD c d)) ?_ ?_
        · simp
          intro c hc
          simp [r_has (h c hc).r1]
        · simp only [filter_true]
          rw [gAny_map]
          have e3 : cs.any (fun c => hasD c d) = !isGap cs d := by simp [isGap]
          rw [e3]
          simp
          cases hq : isGap cs d with
          | false => simp
          | true =>
            simp
            intro hg
            rw [hg]
            rfl
      · rintro hg env s3 ⟨rfl, k2, k3, rfl⟩
        exact ⟨rfl, hg⟩
  · rintro env s3 ⟨rfl, hg⟩
    simp [hg, oN]
/-! the rests -/
def eR (p : Nat × Nat) : D := .tup [eN p.1, eN p.2]
@[simp] theorem lf_eR {p : Nat × Nat} : lf (eR p) = true := by simp [eR]
def tryF (L k r : Nat) : Nat → Nat → Option Nat
  | 0, day => if day % k = r then some day else none
  | n + 1, day => if day % k = r then some day else tryF L k r n (day + L)
def remL : List (Nat × Nat) → Nat → Nat → Option Nat
  | [], _, day => some day
  | (k, r) :: rs, L, day => match tryF L k r k day with
    | none => none
    | some d => remL rs (Nat.lcm L k) (d % Nat.lcm L k)
theorem lcm_small {L k : Nat} (h : L ∣ 60) (h1 : 1 ≤ k) (h6 : k ≤ 6) : Nat.lcm L k ∣ 60 := by
  refine Nat.lcm_dvd h ?_
  match k, h1, h6 with
  | 1, _, _ => decide
  | 2, _, _ => decide
  | 3, _, _ => decide
  | 4, _, _ => decide
  | 5, _, _ => decide
  | 6, _, _ => decide
def iR (rs0 : List (Nat × Nat)) (s0 : DS) (rest : List (Nat × Nat)) (env : Ev) (s : DS) : Prop := ∃ L day, L ∣ 60 ∧ remL rest L day = remL rs0 1 0 ∧ s = s0 ∧ ∃ k3 k4 k5, env = [some (.own, .tup (rs0.map eR)), some (.own, .int (L : Nat)), some (.own, .int (day : Nat)), k3, k4, k5]
def iW (rs0 : List (Nat × Nat)) (s0 : DS) (L k r : Nat) (o : Option Nat) (m : Nat) (env : Ev) (s : DS) : Prop := ∃ t day, t ≤ k ∧ m = k - t ∧ tryF L k r (k - t) day = o ∧ s = s0 ∧ env = [some (.own, .tup (rs0.map eR)), some (.own, .int (L : Nat)), some (.own, .int (day : Nat)), some (.own, .int (k : Nat)), some (.own, .int (r : Nat)), some (.own, .int (t : Nat))]
theorem r_remainder {rs : List (Nat × Nat)} (h : ∀ p ∈ rs, 1 ≤ p.1 ∧ p.1 ≤ 6) {s : DS} : m_remainder_day [.tup (rs.map eR)] s = .ok (oN (remL rs 1 0), true) s := by
  refine runB_eq rfl ?_
  unfold g_remainder_day
  simp
  refine okS_forF (enc := eR) (xs := rs) (iR rs s) ?_ ?_ ?_
  · exact ⟨1, 0, by decide, rfl, rfl, _, _, _, rfl⟩
  · rintro ⟨k, r⟩ rest env s1 ⟨l, hl⟩ ⟨L, day, hL, hrem, rfl, k3, k4, k5, rfl⟩
    obtain ⟨hk1, hk6⟩ := h (k, r) (by rw [hl]; simp)
    simp only [] at hk1 hk6
    have hLp : 0 < L := Nat.pos_of_dvd_of_pos hL (by decide)
    have hL60 : L ≤ 60 := Nat.le_of_dvd (by decide) hL
    simp [eR]
    refine okS_whileF (fun m env s2 => iW rs s1 L k r (tryF L k r k day) m env s2) (k := k) ⟨0, day, Nat.zero_le _, rfl, rfl, rfl, rfl⟩ (by show k < 100000; omega) ?_
    rintro m env s2 ⟨t, d, ht, rfl, hf, rfl, rfl⟩
    simp [gMod_nat (a := d) (b := k) (by omega)]
    by_cases hd : d % k = r
    · have e1 : (d : Int) % (k : Int) = (r : Int) := by omega
      have hft : tryF L k r k day = some d := by
        rw [← hf]
        cases k - t <;> simp [tryF, hd]
      have hL2 := lcm_small hL hk1 hk6
      have hLp2 : 0 < Nat.lcm L k := Nat.pos_of_dvd_of_pos hL2 (by decide)
      simp only [e1]
      simp [r_common (a := L) (b := k) (by omega) (by omega) hLp, gMod_nat (a := d) (b := Nat.lcm L k) hLp2]
      refine ⟨Nat.lcm L k, d % Nat.lcm L k, hL2, ?_, rfl, by simp⟩
      rw [← hrem]
      simp [remL, hft]
    · have e1 : ¬ (d : Int) % (k : Int) = (r : Int) := by omega
      simp only [e1]
      simp
      have e2 : (d : Int) + (L : Int) = ((d + L : Nat) : Int) := by omega
      have e3 : (t : Int) + 1 = ((t + 1 : Nat) : Int) := by omega
      by_cases htk : t = k
      · subst htk
        have hft : tryF L t r t day = none := by
          rw [← hf, Nat.sub_self]
          simp [tryF, hd]
        have : remL rs 1 0 = none := by
          rw [← hrem]
          simp [remL, hft]
        rw [this]
        simp [oN]
        omega
      · have h4 : ¬ (k : Int) < (t : Int) + 1 := by omega
        simp only [h4]
        simp
        refine ⟨k - (t + 1), by omega, t + 1, d + L, by omega, rfl, ?_, rfl, by rw [e2, e3]⟩
        rw [← hf]
        obtain ⟨n, hn⟩ : ∃ n, k - t = n + 1 := ⟨k - t - 1, by omega⟩
        rw [hn, show k - (t + 1) = n by omega]
        simp [tryF, hd]
  · rintro env s1 ⟨L, day, hL, hrem, rfl, k3, k4, k5, rfl⟩
    simp [← hrem, remL, oN]
/-! the rests that clash -/
def gcdOk (p q : Nat × Nat) : Bool := decide (((p.2 : Int) - (q.2 : Int)) % (Nat.gcd p.1 q.1 : Nat) = 0)
/-- the first clash: j, then i below j -/
def atR (rs : List (Nat × Nat)) (k : Nat) : Nat × Nat := rs.getD k (1, 0)
def clashAt (rs : List (Nat × Nat)) (j i : Nat) : Bool := !gcdOk (atR rs i) (atR rs j)
def cl1 (rs : List (Nat × Nat)) (j : Nat) : Option Nat := (List.range j).find? (clashAt rs j)
def clJ (rs : List (Nat × Nat)) : Option Nat := (List.range rs.length).find? fun j => (cl1 rs j).isSome
def clO (rs : List (Nat × Nat)) : Option (Nat × Nat) := match clJ rs with
  | none => none
  | some j => (cl1 rs j).map fun i => (i, j)
def oP : Option (Nat × Nat) → D
  | some p => eR p
  | none => .non
@[simp] theorem lf_oP {o : Option (Nat × Nat)} : lf (oP o) = true := by cases o <;> simp [oP]
theorem r_clashing {rs : List (Nat × Nat)} (h : ∀ p ∈ rs, 1 ≤ p.1 ∧ p.1 ≤ 6) (hl : rs.length ≤ 100) {s : DS} : m_clashing_rests [.tup (rs.map eR)] s = .ok (oP (clO rs), true) s := by
  refine runB_eq rfl ?_
  unfold g_clashing_rests
  simp [enmO, enumD_range (xs := rs) (1, 0)]
  refine okS_forFind (fun j => (cl1 rs j).isSome) (clJ rs) rfl (fun env s1 => s1 = s ∧ ∃ k1 k2 k3 k4 k5 k6, env = [some (.own, .tup (rs.map eR)), k1, k2, k3, k4, k5, k6]) ⟨rfl, _, _, _, _, _, _, rfl⟩ ?_ ?_
  · rintro j hj env s1 ⟨rfl, k1, k2, k3, k4, k5, k6, rfl⟩
    have hj : j < rs.length := by simpa using hj
    have hjr := h (atR rs j) (by
      unfold atR
      rw [List.getD_eq_getElem?_getD, List.getElem?_eq_getElem hj]
      exact List.getElem_mem _)
    simp [eR, rng1_nat (n := j) (by omega)]
    refine okS_forFind (enc := eN) (xs := List.range j) (clashAt rs j) (cl1 rs j) rfl (fun env s2 => s2 = s1 ∧ ∃ k4 k5 k6, env = [some (.own, .tup (rs.map eR)), some (.own, .int (j : Nat)), some (.own, eN (atR rs j).1), some (.own, eN (atR rs j).2), k4, k5, k6]) ⟨rfl, k4, k5, k6, by simp [atR]⟩ ?_ ?_
    · rintro i hi env s2 ⟨rfl, k4, k5, k6, rfl⟩
      have hi : i < j := by simpa using hi
      have hir := h (atR rs i) (by
        unfold atR
        rw [List.getD_eq_getElem?_getD, List.getElem?_eq_getElem (by omega)]
        exact List.getElem_mem _)
      have g1 : gIx (.tup (rs.map eR)) (.int i) = some (eR (atR rs i), true) := (gIx_tmap (1, 0) (by omega)).trans (by simp [atR])
      have hg := r_gcd (a := ((atR rs i).1 : Int)) (b := ((atR rs j).1 : Int)) (by simp; omega) (s := s2)
      simp at hg
      have hgp : 0 < Nat.gcd (atR rs i).1 (atR rs j).1 := Nat.gcd_pos_of_pos_left _ (by omega)
      have gm : ∀ x : Int, gMod (.int x) (.int (Nat.gcd (atR rs i).1 (atR rs j).1 : Nat)) = some (.int (x % (Nat.gcd (atR rs i).1 (atR rs j).1 : Nat)), true) := fun x => by
        show (if 0 < ((Nat.gcd (atR rs i).1 (atR rs j).1 : Nat) : Int) then some (D.int (x % (Nat.gcd (atR rs i).1 (atR rs j).1 : Nat)), true) else none) = _
        rw [if_pos (by omega)]
      simp [g1]
      simp [eR, hg, gm]
      by_cases hq : ((atR rs i).2 : Int) - ((atR rs j).2 : Int) = 0 ∨ True
      · cases hc : clashAt rs j i with
        | false =>
          have : ((atR rs i).2 - (atR rs j).2 : Int) % (Nat.gcd (atR rs i).1 (atR rs j).1 : Nat) = 0 := by
            simpa [clashAt, gcdOk] using hc
          simp [this]
        | true =>
          have : ¬ ((atR rs i).2 - (atR rs j).2 : Int) % (Nat.gcd (atR rs i).1 (atR rs j).1 : Nat) = 0 := by
            simpa [clashAt, gcdOk] using hc
          simp [this]
          intro h1
          refine ⟨by simp [h1], fun h2 => ?_⟩
          simp [clO, h2, h1, oP, eR]
      · exact absurd (.inr trivial) hq
    · rintro hn env s2 ⟨rfl, k4, k5, k6, rfl⟩
      exact ⟨by simp [hn], rfl, _, _, _, _, _, _, rfl⟩
  · rintro hg env s1 ⟨rfl, k1, k2, k3, k4, k5, k6, rfl⟩
    simp [clO, hg, oP]
/-! pairs that are told -/
theorem r_is_integer {d : D} {lo hi : Int} {s : DS} : m_is_integer [d, .int lo, .int hi] s = .ok (.bl (match d with | .int i => decide (lo ≤ i) && decide (i ≤ hi) | _ => false), true) s ∨ d = .hdl := by
  cases d with
  | hdl => exact .inr rfl
  | int i =>
    refine .inl (runB_eq rfl ?_)
    unfold g_is_integer
    simp [isiB]
    by_cases h : lo ≤ i <;> simp [h]
  | _ =>
    refine .inl (runB_eq rfl ?_)
    unfold g_is_integer
    simp [isiB]
def okInt (lo hi : Int) : D → Bool
  | .int i => decide (lo ≤ i) && decide (i ≤ hi)
  | _ => false
theorem r_is_integer2 {d : D} (hd : d ≠ .hdl) {lo hi : Int} {s : DS} : m_is_integer [d, .int lo, .int hi] s = .ok (.bl (okInt lo hi d), true) s := by
  rcases r_is_integer (d := d) (lo := lo) (hi := hi) (s := s) with h | h
  · rw [h]
    cases d <;> rfl
  · exact absurd h hd
theorem r_is_row {ds : List D} (hno : ∀ d ∈ ds, d ≠ .hdl ∧ lf d = true) {lo hi : Int} {s : DS} : m_is_row [.tup ds, .int lo, .int hi] s = .ok (.bl (ds.all (okInt lo hi)), true) s := by
  refine runB_eq rfl ?_
  unfold g_is_row
  have hl : lfs ds = true := lfs_all.mpr fun d hd => (hno d hd).2
  simp [isiB, hl]
  refine okX_lcP ds id (fun _ => true) (fun d => .bl (okInt lo hi d)) ?_ ?_
  · simp
    intro d hd
    have := (hno d hd).2
    simp [hl, this, r_is_integer2 (hno d hd).1]
  · simp only [filter_true, gAll_map, okO_some]
    simp
theorem r_is_row0 {d : D} (hd : tyD d = some "NoneType" ∨ tyD d = some "int" ∨ tyD d = some "str" ∨ tyD d = some "list") {lo hi : Int} {s : DS} : m_is_row [d, .int lo, .int hi] s = .ok (.bl false, true) s := by
  refine runB_eq rfl ?_
  unfold g_is_row
  cases d <;> simp [tyD] at hd <;> simp [isiB]
/-- what judge_no_remainder takes -/
def takenB (rs : List (Nat × Nat)) (ds : List D) : Bool := match ds with
  | [.int a, .int b] => decide (0 ≤ a) && decide (a < b) && decide (b < rs.length) && !gcdOk (atR rs a.toNat) (atR rs b.toNat)
  | _ => false
theorem atR_ok {rs : List (Nat × Nat)} (h : ∀ p ∈ rs, 1 ≤ p.1 ∧ p.1 ≤ 6) {k : Nat} (hk : k < rs.length) : 1 ≤ (atR rs k).1 ∧ (atR rs k).1 ≤ 6 := by
  refine h _ ?_
  unfold atR
  rw [List.getD_eq_getElem?_getD, List.getElem?_eq_getElem hk]
  exact List.getElem_mem _
theorem okInt_int {lo hi : Int} {d : D} (h : okInt lo hi d = true) : ∃ i, d = .int i ∧ lo ≤ i ∧ i ≤ hi := by
  cases d <;> simp [okInt] at h
  exact ⟨_, rfl, h⟩
def jPo (b : Bool) (s0 : DS) : (D × Bool → DS → Prop) × (Exn → DS → Prop) := (fun _ s => b = true ∧ s = s0, fun e s => b = false ∧ e.name = "BadPaper" ∧ s = s0)
theorem r_judge {rs : List (Nat × Nat)} (h : ∀ p ∈ rs, 1 ≤ p.1 ∧ p.1 ≤ 6) (hl : rs.length ≤ 100) {ds : List D} (hno : ∀ d ∈ ds, d ≠ .hdl ∧ lf d = true) {s : DS} :
    okX (m_judge_no_remainder [.tup (rs.map eR), .tup ds] s) (fun _ s' => takenB rs ds = true ∧ s' = s) (fun e s' => takenB rs ds = false ∧ e.name = "BadPaper" ∧ s' = s) := by
  refine okX_runB rfl ?_
  unfold g_judge_no_remainder
  have hls : lfs ds = true := lfs_all.mpr fun d hd => (hno d hd).2
  simp [hls, r_is_row hno]
  by_cases hall : ds.all (okInt 0 ((rs.length : Int) - 1)) = true
  · by_cases h2 : ds.length = 2
    · match ds, h2 with
      | [a, b], _ =>
        simp at hall
        obtain ⟨ha, hb⟩ := hall
        obtain ⟨i, rfl, hi0, hi⟩ := okInt_int ha
        obtain ⟨j, rfl, hj0, hj⟩ := okInt_int hb
        obtain ⟨m, rfl⟩ := Int.eq_ofNat_of_zero_le hi0
        obtain ⟨n, rfl⟩ := Int.eq_ofNat_of_zero_le hj0
        have hm : m < rs.length := by omega
        have hn : n < rs.length := by omega
        simp [ha, hb]
        by_cases hlt : m < n
        · have g1 : gIx (.tup (rs.map eR)) (.int m) = some (eR (atR rs m), true) := (gIx_tmap (1, 0) hm).trans (by simp [atR])
          have g2 : gIx (.tup (rs.map eR)) (.int n) = some (eR (atR rs n), true) := (gIx_tmap (1, 0) hn).trans (by simp [atR])
          have hir := atR_ok h hm
          have hjr := atR_ok h hn
          have hg := r_gcd (a := ((atR rs m).1 : Int)) (b := ((atR rs n).1 : Int)) (by simp; omega) (s := s)
          simp at hg
          have hgp : 0 < Nat.gcd (atR rs m).1 (atR rs n).1 := Nat.gcd_pos_of_pos_left _ (by omega)
          have gm : ∀ x : Int, gMod (.int x) (.int (Nat.gcd (atR rs m).1 (atR rs n).1 : Nat)) = some (.int (x % (Nat.gcd (atR rs m).1 (atR rs n).1 : Nat)), true) := fun x => by
            show (if 0 < ((Nat.gcd (atR rs m).1 (atR rs n).1 : Nat) : Int) then some (D.int (x % (Nat.gcd (atR rs m).1 (atR rs n).1 : Nat)), true) else none) = _
            rw [if_pos (by omega)]
          simp [hlt, g1, g2]
          simp [eR, hg, gm]
          by_cases hq : ((atR rs m).2 - (atR rs n).2 : Int) % (Nat.gcd (atR rs m).1 (atR rs n).1 : Nat) = 0
          · simp [hq, takenB, gcdOk]
          · simp [hq, takenB, gcdOk, hlt, hn]
        · simp [hlt, takenB]
    · have e2 : takenB rs ds = false := by
        unfold takenB
        split
        · simp at h2
        · rfl
      have h3 : ¬ (ds.length : Int) = 2 := by omega
      simp [hall, h3, e2]
  · have e2 : takenB rs ds = false := by
      unfold takenB
      split
      · rename_i a b
        simp [okInt] at hall
        by_cases h1 : 0 ≤ a <;> by_cases h2 : a < b <;> by_cases h3 : b < (rs.length : Int) <;> simp [h1, h2, h3]
        exfalso
        have := hall h1 (by omega) (by omega)
        omega
      · rfl
    simp [e2]
    exact fun k => absurd (List.all_eq_true.mpr k) hall
theorem r_judge0 {rs : List (Nat × Nat)} {d : D} (hd : tyD d = some "NoneType" ∨ tyD d = some "int" ∨ tyD d = some "str" ∨ tyD d = some "list") {s : DS} :
    okX (m_judge_no_remainder [.tup (rs.map eR), d] s) (fun _ _ => False) (fun e s' => e.name = "BadPaper" ∧ s' = s) := by
  refine okX_runB rfl ?_
  unfold g_judge_no_remainder
  simp [r_is_row0 hd]
theorem r_taken {rs : List (Nat × Nat)} (h : ∀ p ∈ rs, 1 ≤ p.1 ∧ p.1 ≤ 6) (hl : rs.length ≤ 100) {ds : List D} (hno : ∀ d ∈ ds, d ≠ .hdl ∧ lf d = true) {s : DS} : m__law_taken [.tup (rs.map eR), .tup ds] s = .ok (.bl (takenB rs ds), true) s := by
  have hls : lfs ds = true := lfs_all.mpr fun d hd => (hno d hd).2
  refine runB_eq rfl ?_
  unfold g__law_taken
  simp [hls]
  refine okX_mono (r_judge h hl hno) ?_ ?_
  · rintro a s' ⟨h1, rfl⟩
    simp [h1]
  · rintro ⟨n, a⟩ s' ⟨h1, rfl, rfl⟩
    simp [h1, List.lookup]
theorem r_taken0 {rs : List (Nat × Nat)} {d : D} (hd : tyD d = some "NoneType" ∨ tyD d = some "int" ∨ tyD d = some "str" ∨ tyD d = some "list") {s : DS} : m__law_taken [.tup (rs.map eR), d] s = .ok (.bl false, true) s := by
  refine runB_eq rfl ?_
  unfold g__law_taken
  have : ∀ m : Md, okX (m_judge_no_remainder [.tup (rs.map eR), d] s) (fun _ _ => False) (fun e s' => e.name = "BadPaper" ∧ s' = s) := fun _ => r_judge0 hd
  simp
  refine okX_mono (r_judge0 hd) ?_ ?_
  · rintro a s' h
    exact h.elim
  · rintro ⟨n, a⟩ s' ⟨rfl, rfl⟩
    simp [List.lookup]
/-! what is drawn -/
theorem r_row {lo hi : Nat} (h : lo ≤ hi) (hh : hi ≤ 100) {s : DS} {P : D × Bool → DS → Prop} {X : Exn → DS → Prop} (k : ∀ (l : List Nat) s', lo ≤ l.length → l.length ≤ hi → P (eNs l, true) s') : okX (m__law_row [.hdl, .int lo, .int hi] s) P X := by
  refine okX_runB rfl ?_
  unfold g__law_row
  rw [okS_sRet, okX_eFn, okX_aCons]
  have e1 : ((hi : Int) - (lo : Int) + 1) = ((hi - lo + 1 : Nat) : Int) := by omega
  refine okX_eLc ?_
  simp
  rw [e1]
  refine okX_take (by omega) fun i s1 hi1 => ?_
  have e2 : ((lo : Int) + (i : Int)) = ((lo + i : Nat) : Int) := by omega
  simp only [gAdd_int, okO_some, e2]
  rw [rng1_nat (by omega)]
  simp
  refine okX_mono (okX_compD (enc := eN) (en2 := eN) (q := fun _ _ => True) (xs := List.range (lo + i)) (P := fun y s' => ∃ zs : List Nat, y = (zs.map eN, none) ∧ zs.length = lo + i) ?_ ?_) ?_ fun _ _ h => h.elim
  · intro x _ s2
    simp
    refine okX_take (by omega) fun j s3 hj => ?_
    simp
  · intro zs s' h1 _
    refine ⟨zs.map Prod.snd, by simp, ?_⟩
    have := congrArg List.length h1
    simpa using this
  · rintro y s3 ⟨zs, rfl, hz⟩
    simp
    exact k zs s3 (by omega) (by omega)
/-! periods -/
theorem hasD_per {c : Cal} {d L : Nat} (h : c.head.length + L ≤ d) (hL : c.ring.length ∣ L) : hasD c d = hasD c (d - L) := by
  unfold hasD
  rw [if_neg (by omega), if_neg (by omega)]
  obtain ⟨m, rfl⟩ := hL
  have : d - c.head.length = (d - c.ring.length * m - c.head.length) + c.ring.length * m := by omega
  rw [this, Nat.add_mul_mod_self_left]
theorem gap_per {cs : List Cal} {d : Nat} (h : maxH cs + lenA cs ≤ d) : isGap cs d = isGap cs (d - lenA cs) := by
  unfold isGap
  congr 1
  have h1 := (le_maxH cs 0).2
  have h2 := (foldl_lcm_dvd cs 1).2
  rw [Bool.eq_iff_iff, List.any_eq_true, List.any_eq_true]
  have k : ∀ c ∈ cs, hasD c d = hasD c (d - lenA cs) := fun c hc => hasD_per (by have := h1 c hc; show _ ≤ d; unfold maxH at h; omega) (h2 c hc)
  constructor
  · rintro ⟨c, hc, e⟩; exact ⟨c, hc, by rw [← k c hc]; exact e⟩
  · rintro ⟨c, hc, e⟩; exact ⟨c, hc, by rw [k c hc]; exact e⟩
theorem gap_low {cs : List Cal} (hL : 0 < lenA cs) : ∀ (n d : Nat), d ≤ n → isGap cs d = true → ∃ d', d' < maxH cs + lenA cs ∧ isGap cs d' = true
  | n, d, hd, h => by
    by_cases hlt : d < maxH cs + lenA cs
    · exact ⟨d, hlt, h⟩
    · rw [gap_per (by omega)] at h
      match n with
      | 0 => exact ⟨d - lenA cs, by omega, h⟩
      | n + 1 => exact gap_low hL n (d - lenA cs) (by omega) h
theorem find_range {p : Nat → Bool} {m n : Nat} (hmn : m ≤ n) (h : ∀ d, p d = true → ∃ d', d' < m ∧ p d' = true) : (List.range n).find? p = (List.range m).find? p := by
  obtain ⟨k, rfl⟩ := Nat.exists_eq_add_of_le hmn
  rw [List.range_add, List.find?_append]
  cases e : (List.range m).find? p with
  | some d => rfl
  | none =>
    rw [Option.none_or, List.find?_eq_none]
    intro d _ hp
    obtain ⟨d', h1, h2⟩ := h d hp
    exact absurd h2 (by simpa using List.find?_eq_none.mp e d' (by simpa using h1))
theorem gap40 {cs : List Cal} (h : ∀ c ∈ cs, COk c) : (List.range 40).find? (isGap cs) = gapO cs := by
  have hL := lenA_dvd cs 1 h (by decide)
  have hL2 : lenA cs ≤ 12 := Nat.le_of_dvd (by decide) hL
  have hL1 : 0 < lenA cs := Nat.pos_of_dvd_of_pos hL (by decide)
  have hH : maxH cs ≤ 3 := maxH_le cs 0 (by decide) h
  exact find_range (by omega) fun d hd => gap_low hL1 d d (Nat.le_refl _) hd
/-! remainders -/
structure ROk (p : Nat × Nat) : Prop where
  l1 : 1 ≤ p.1
  l6 : p.1 ≤ 6
  lt : p.2 < p.1
def sat (rs : List (Nat × Nat)) (x : Nat) : Bool := rs.all fun p => x % p.1 == p.2
theorem tryF_some {L k r : Nat} : ∀ {n day d : Nat}, tryF L k r n day = some d → ∃ t, d = day + L * t ∧ d % k = r
  | 0, day, d, h => by
    unfold tryF at h
    split at h
    · cases h; exact ⟨0, by simp, by assumption⟩
    · cases h
  | n + 1, day, d, h => by
    unfold tryF at h
    split at h
    · cases h; exact ⟨0, by simp, by assumption⟩
    · obtain ⟨t, h1, h2⟩ := tryF_some h
      exact ⟨t + 1, by rw [h1, Nat.mul_add]; omega, h2⟩
theorem tryF_none {L k r : Nat} : ∀ {n day : Nat}, tryF L k r n day = none → ∀ t, t ≤ n → (day + L * t) % k ≠ r
  | 0, day, h, t, ht => by
    unfold tryF at h
    split at h
    · cases h
    · have : t = 0 := by omega
      subst this
      simpa using by assumption
  | n + 1, day, h, t, ht => by
    unfold tryF at h
    split at h
    · cases h
    · match t with
      | 0 => simpa using by assumption
      | t + 1 =>
        have := tryF_none h t (by omega)
        rw [Nat.mul_add]
        rw [show day + (L * t + L * 1) = day + L + L * t by omega]
        exact this
theorem remL_ok : ∀ (rs : List (Nat × Nat)) (L day : Nat), day < L → (∀ p ∈ rs, ROk p) →
    match remL rs L day with
    | none => ∀ x, ¬ (x % L = day ∧ sat rs x = true)
    | some d => d % L = day ∧ sat rs d = true ∧ (∀ x, x % L = day → sat rs x = true → d ≤ x) ∧ d < L * (rs.map Prod.fst).foldr (· * ·) 1
  | [], L, day, h, _ => by
    simp only [remL, sat, List.all_nil, List.map_nil, List.foldr_nil, Nat.mul_one]
    refine ⟨Nat.mod_eq_of_lt h, trivial, fun x hx _ => ?_, h⟩
    rw [← hx]
    exact Nat.mod_le _ _
  | (k, r) :: rs, L, day, h, hr => by
    obtain ⟨l1, l6, lt⟩ := hr (k, r) List.mem_cons_self
    simp only [] at l1 l6 lt
    unfold remL
    have sc : ∀ x, sat ((k, r) :: rs) x = true ↔ x % k = r ∧ sat rs x = true := fun x => by simp [sat]
    cases e : tryF L k r k day with
    | none =>
      intro x ⟨h1, h2⟩
      have h3 := ((sc x).mp h2).1
      have hx := Nat.div_add_mod x L
      rw [h1] at hx
      refine tryF_none e (x / L % k) (by have := Nat.mod_lt (x / L) (show 0 < k by omega); omega) ?_
      rw [← h3, ← hx]
      rw [Nat.add_mod, Nat.mul_mod, Nat.mod_mod, ← Nat.mul_mod, ← Nat.add_mod, Nat.add_comm]
      simp [Nat.mul_add_div (show 0 < L by omega), Nat.div_eq_of_lt h]
    | some d =>
      obtain ⟨t, h1, h2⟩ := tryF_some e
      have hlp : 0 < Nat.lcm L k := Nat.lcm_pos (by omega) (by omega)
      have key : ∀ x, x % Nat.lcm L k = d % Nat.lcm L k ↔ x % L = day ∧ x % k = r := fun x => by
        have dL : d % L = day := by rw [h1, Nat.add_mul_mod_self_left, Nat.mod_eq_of_lt h]
        constructor
        · intro hx
          constructor
          · rw [← dL, ← Nat.mod_mod_of_dvd x (Nat.dvd_lcm_left L k), hx, Nat.mod_mod_of_dvd d (Nat.dvd_lcm_left L k)]
          · rw [← h2, ← Nat.mod_mod_of_dvd x (Nat.dvd_lcm_right L k), hx, Nat.mod_mod_of_dvd d (Nat.dvd_lcm_right L k)]
        · rintro ⟨hx1, hx2⟩
          have a1 : (L : Int) ∣ (x : Int) - (d : Int) := by
            refine Int.dvd_of_emod_eq_zero (Int.emod_eq_emod_iff_emod_sub_eq_zero.mp ?_)
            have := hx1.trans dL.symm
            omega
          have a2 : (k : Int) ∣ (x : Int) - (d : Int) := by
            refine Int.dvd_of_emod_eq_zero (Int.emod_eq_emod_iff_emod_sub_eq_zero.mp ?_)
            have := hx2.trans h2.symm
            omega
          have a3 : Nat.lcm L k ∣ ((x : Int) - (d : Int)).natAbs := Nat.lcm_dvd (Int.ofNat_dvd_left.1 a1) (Int.ofNat_dvd_left.1 a2)
          have a4 : ((Nat.lcm L k : Nat) : Int) ∣ (x : Int) - (d : Int) := Int.ofNat_dvd_left.2 a3
          have := Int.emod_eq_emod_iff_emod_sub_eq_zero.mpr (Int.emod_eq_zero_of_dvd a4)
          omega
      have ih := remL_ok rs (Nat.lcm L k) (d % Nat.lcm L k) (Nat.mod_lt _ hlp) fun p hp => hr p (List.mem_cons_of_mem _ hp)
      dsimp only
      cases e2 : remL rs (Nat.lcm L k) (d % Nat.lcm L k) with
      | none =>
        rw [e2] at ih
        intro x ⟨hx1, hx2⟩
        obtain ⟨hx3, hx4⟩ := (sc x).mp hx2
        exact ih x ⟨(key x).mpr ⟨hx1, hx3⟩, hx4⟩
      | some z =>
        rw [e2] at ih
        obtain ⟨i1, i2, i3, i4⟩ := ih
        obtain ⟨j1, j2⟩ := (key z).mp i1
        refine ⟨j1, (sc z).mpr ⟨j2, i2⟩, fun x hx1 hx2 => ?_, ?_⟩
        · obtain ⟨hx3, hx4⟩ := (sc x).mp hx2
          exact i3 x ((key x).mpr ⟨hx1, hx3⟩) hx4
        · refine Nat.lt_of_lt_of_le i4 ?_
          rw [List.map_cons, List.foldr_cons, ← Nat.mul_assoc]
          exact Nat.mul_le_mul_right _ (Nat.le_of_dvd (Nat.mul_pos (by omega) (by omega)) (Nat.lcm_dvd (Nat.dvd_mul_right _ _) (Nat.dvd_mul_left _ _)))
/-! pairs of rests -/
theorem pair36 : ∀ k < 7, ∀ r < k, ∀ l < 7, ∀ t < l, (((List.range 36).filter fun d => d % k == r && d % l == t).isEmpty) = !gcdOk (k, r) (l, t) := by
  decide +kernel
def rest1 : List (Nat × Nat) := ((List.range 7).map fun k => (List.range k).map fun r => (k, r)).flatten
def chk (rs : List (Nat × Nat)) : Bool := (remL rs 1 0).isNone == (clO rs).isSome
theorem chk1 : (rest1.all fun a => chk [a]) = true := by decide +kernel
theorem chk2 : (rest1.all fun a => rest1.all fun b => chk [a, b]) = true := by decide +kernel
theorem chk3 : (rest1.all fun a => rest1.all fun b => rest1.all fun c => chk [a, b, c]) = true := by decide +kernel
theorem mem_rest1 {p : Nat × Nat} (h : ROk p) : p ∈ rest1 := by
  obtain ⟨k, r⟩ := p
  obtain ⟨h1, h2, h3⟩ := h
  simp only [] at h1 h2 h3
  exact List.mem_flatten.mpr ⟨_, List.mem_map.mpr ⟨k, List.mem_range.mpr (by omega), rfl⟩, List.mem_map.mpr ⟨r, List.mem_range.mpr h3, rfl⟩⟩
theorem chk_all {rs : List (Nat × Nat)} (h : ∀ p ∈ rs, ROk p) (h3 : rs.length ≤ 3) : (remL rs 1 0).isNone = (clO rs).isSome := by
  have hm := fun p hp => mem_rest1 (h p hp)
  have : chk rs = true := by
    match rs, h3 with
    | [], _ => decide
    | [a], _ => exact List.all_eq_true.mp chk1 a (hm a (by simp))
    | [a, b], _ => exact List.all_eq_true.mp (List.all_eq_true.mp chk2 a (hm a (by simp))) b (hm b (by simp))
    | [a, b, c], _ => exact List.all_eq_true.mp (List.all_eq_true.mp (List.all_eq_true.mp chk3 a (hm a (by simp))) b (hm b (by simp))) c (hm c (by simp))
  exact eq_of_beq this
def prd (rs : List (Nat × Nat)) : Nat := (rs.map Prod.fst).foldr (· * ·) 1
theorem find_least {p : Nat → Bool} {n d : Nat} (hd : p d = true) (hn : d < n) (hl : ∀ x, p x = true → d ≤ x) : (List.range n).find? p = some d := by
  rw [List.find?_range_eq_some]
  refine ⟨hd, by simpa using hn, fun j hj => ?_⟩
  cases e : p j with
  | false => rfl
  | true => have := hl j e; omega
theorem rem_find {rs : List (Nat × Nat)} (h : ∀ p ∈ rs, ROk p) : (List.range (prd rs)).find? (sat rs) = remL rs 1 0 := by
  have := remL_ok rs 1 0 (by decide) h
  cases e : remL rs 1 0 with
  | none =>
    rw [e] at this
    rw [List.find?_eq_none]
    exact fun x _ hx => this x ⟨Nat.mod_one x, hx⟩
  | some d =>
    rw [e] at this
    obtain ⟨_, h2, h3, h4⟩ := this
    exact find_least h2 (by rw [Nat.one_mul] at h4; exact h4) fun x hx => h3 x (Nat.mod_one x) hx
/-! the law -/
def base (env : Ev) : Prop := env.length = 20 ∧ getS env 1 = some (.own, .hdl)
def eCs (cs : List Cal) : D := .tup (cs.map eC')
@[simp] theorem lf_eCs {cs : List Cal} : lf (eCs cs) = true := by simp [eCs]
def eRs (rs : List (Nat × Nat)) : D := .tup (rs.map eR)
@[simp] theorem lf_eRs {rs : List (Nat × Nat)} : lf (eRs rs) = true := by simp [eRs]
def st (env : Ev) (i : Nat) (d : D) : Prop := ∃ m, getS env i = some (m, d)
theorem base_set {env : Ev} {i : Nat} {x : Slot} (h : base env) (hi : i ≠ 1) : base (setS env i x) := ⟨by rw [len_setS]; exact h.1, by rw [getS_setS_ne hi]; exact h.2⟩
def g26 : S := match g_law with | g => g
theorem body_cals {env : Ev} {s : DS} (hb : base env) {p : Po} (k : ∀ cs s', (∀ c ∈ cs, COk c) → cs.length ≤ 4 → p.nx (setS env 4 (some (.own, eCs cs))) s') :
    okS ((sAsg (bName 4) (eFn gTuple (aCons (eLc [3] (iRange1 (aCons (eCall m__law_take (aCons (eV 1) (aCons (eC (.int 5)) aNil))) aNil)) (bName 3) tYes (eTup (aCons (eCall m__law_row (aCons (eV 1) (aCons (eC (.int 0)) (aCons (eC (.int 3)) aNil)))) (aCons (eCall m__law_row (aCons (eV 1) (aCons (eC (.int 1)) (aCons (eC (.int 4)) aNil)))) aNil)))) aNil))) env s) p := by
  obtain ⟨hl, h1⟩ := hb
  rw [okS_sAsg, okX_eFn, okX_aCons]
  refine okX_eLc ?_
  simp [h1]
  refine okX_take (by decide) fun i s1 hi => ?_
  rw [rng1_nat (by omega)]
  simp
  refine okX_mono (okX_compD (enc := eN) (en2 := eC') (q := fun _ c => COk c) (xs := List.range i) (P := fun y s' => ∃ cs : List Cal, y = (cs.map eC', none) ∧ cs.length = i ∧ ∀ c ∈ cs, COk c) ?_ ?_) ?_ fun _ _ h => h.elim
  · intro x _ s2
    simp [getS_setS_ne, h1]
    refine r_row (lo := 0) (hi := 3) (by decide) (by decide) fun l s3 h3 h4 => ?_
    simp [getS_setS_ne, h1]
    refine r_row (lo := 1) (hi := 4) (by decide) (by decide) fun l2 s4 h5 h6 => ?_
    simp
    exact ⟨⟨l, l2⟩, rfl, ⟨h4, h5, h6⟩⟩
  · intro zs s' h2 h3
    refine ⟨zs.map Prod.snd, by simp [Function.comp_def], ?_, ?_⟩
    · have := congrArg List.length h2
      simpa using this
    · intro c hc
      obtain ⟨z, hz, rfl⟩ := List.mem_map.mp hc
      exact h3 z hz
  · rintro y s3 ⟨cs, rfl, hz, hc⟩
    have e1 : lfs (cs.map eC') = true := lfs_map fun _ => lf_eCal
    simp [e1]
    exact k cs s3 hc (by omega)
theorem r_covers {cs : List Cal} (h : ∀ c ∈ cs, COk c) (hl : cs.length ≤ 100) {s : DS} : m_covers [eCs cs] s = .ok (.bl (gapO cs).isNone, true) s := by
  refine runB_eq rfl ?_
  unfold g_covers
  have e1 : isN (oN (gapO cs)) = (gapO cs).isNone := by cases gapO cs <;> rfl
  have := r_first_gap h hl (s := s)
  simp [eCs] at this ⊢
  simp [this, e1]
theorem find_head {α : Type} {p : α → Bool} {l : List α} : l.find? p = (l.filter p).head? := List.head?_filter.symm
def hd0 (l : List Nat) : D := oN l.head?
theorem hd0_ok {l : List Nat} {P : D × Al → DS → Prop} {X : Exn → DS → Prop} {env : Ev} {s : DS} {i : Nat} {m : Md} (h : getS env i = some (m, .lst (l.map eN))) (k : P (oN l.head?, none) s) : okX (eIf (tB (eB gNe (eV i) (eLst aNil))) (eB gIx (eV i) (eC (.int 0))) (eC .non) env s) P X := by
  cases l with
  | nil =>
    have g1 : gNe (.lst []) (.lst []) = some (.bl false, true) := rfl
    simp [h, g1]
    exact k
  | cons a l =>
    have g1 := gNe_nil (enc := eN) (l := a :: l) (okDs_map fun _ _ => rfl)
    have g2 : gIx (.lst ((a :: l).map eN)) (.int 0) = some (eN a, true) := gIx_lst (k := 0) rfl
    simp only [List.map_cons] at h g1 g2
    simp [h, g1, g2]
    exact k
theorem eq_oN {a : Option Nat} : gNe (oN a) (oN a) = some (.bl false, true) := gNe_self (by cases a <;> rfl)
def exN2 (rs : List (Nat × Nat)) (n : Nat) : Prop := True
/-- pairs of j, i that are done: the first clash -/
def clU (rs : List (Nat × Nat)) (l : List Nat) : Option (Nat × Nat) := match l.find? fun j => (cl1 rs j).isSome with
  | none => none
  | some j => (cl1 rs j).map fun i => (i, j)
def clI (rs : List (Nat × Nat)) (o : Option (Nat × Nat)) (j : Nat) (l : List Nat) : Option (Nat × Nat) := match o with
  | some p => some p
  | none => (l.find? (clashAt rs j)).map fun i => (i, j)
theorem clU_snoc {rs : List (Nat × Nat)} {l : List Nat} {j : Nat} : clU rs (l ++ [j]) = clI rs (clU rs l) j (List.range j) := by
  unfold clU clI
  rw [List.find?_append]
  cases e : l.find? fun j => (cl1 rs j).isSome with
  | some i =>
    have := List.find?_some e
    obtain ⟨x, hx⟩ := Option.isSome_iff_exists.mp this
    simp [hx]
  | none =>
    simp only [Option.none_or]
    show _ = (cl1 rs j).map _
    cases e2 : cl1 rs j with
    | none => simp [e2]
    | some x => simp [e2]
theorem clI_snoc {rs : List (Nat × Nat)} {o : Option (Nat × Nat)} {j i : Nat} {l : List Nat} : clI rs o j (l ++ [i]) = if clashAt rs j i = true ∧ clI rs o j l = none then some (i, j) else clI rs o j l := by
  unfold clI
  cases o with
  | some p => simp
  | none =>
    simp only [List.find?_append]
    cases e : l.find? (clashAt rs j) with
    | some x => simp
    | none =>
      cases e2 : clashAt rs j i <;> simp [e2]
def daysE (rs : List (Nat × Nat)) (j i : Nat) : List Nat := (List.range 36).filter fun d => d % (atR rs i).1 == (atR rs i).2 && d % (atR rs j).1 == (atR rs j).2
theorem atR_rok {rs : List (Nat × Nat)} (h : ∀ p ∈ rs, ROk p) {k : Nat} (hk : k < rs.length) : ROk (atR rs k) := by
  refine h _ ?_
  unfold atR
  rw [List.getD_eq_getElem?_getD, List.getElem?_eq_getElem hk]
  exact List.getElem_mem _
theorem daysE_ok {rs : List (Nat × Nat)} (h : ∀ p ∈ rs, ROk p) {i j : Nat} (hi : i < rs.length) (hj : j < rs.length) : (daysE rs j i).isEmpty = clashAt rs j i := by
  obtain ⟨a1, a2, a3⟩ := atR_rok h hi
  obtain ⟨b1, b2, b3⟩ := atR_rok h hj
  exact pair36 (atR rs i).1 (by omega) (atR rs i).2 a3 (atR rs j).1 (by omega) (atR rs j).2 b3
theorem okD_eC {c : Cal} {n : Nat} : okD (n + 2) (eC' c) = true := okD_tup (by simp [okDs, eNs]; exact ⟨okD_tup (okDs_map fun _ _ => rfl), okD_tup (okDs_map fun _ _ => rfl)⟩)
theorem range_split {n j : Nat} {done rest : List Nat} (h : List.range n = done ++ j :: rest) : done = List.range j := by
  have h1 : done.length = j := by
    have h4 := congrArg (fun l => l[done.length]?) h
    simp at h4
    obtain ⟨h6, h7⟩ := List.getElem?_eq_some_iff.mp h4
    simpa using h7
  have hl := congrArg List.length h
  simp at hl
  have h3 := congrArg (List.take done.length) h
  rw [List.take_left, List.take_range, Nat.min_eq_left (by omega), h1] at h3
  exact h3.symm
theorem okD_oN {o : Option Nat} {n : Nat} : okD n (oN o) = true := by cases o <;> rfl
theorem okD_oP {o : Option (Nat × Nat)} {n : Nat} : okD (n + 1) (oP o) = true := by cases o <;> rfl
@[simp] theorem getS_set_eq {x : Slot} {env : Ev} {i : Nat} (h : i < env.length) : getS (setS env i x) i = x := getS_setS_eq h
@[simp] theorem getS_set_ne {x : Slot} {env : Ev} {i j : Nat} (h : i ≠ j) : getS (setS env i x) j = getS env j := getS_setS_ne h
/-- the turn behind the drawing of calendars and rests -/
structure Tn (cs : List Cal) (env : Ev) : Prop where
  hl : env.length = 20
  h1 : getS env 1 = some (.own, .hdl)
  h4 : getS env 4 = some (.own, eCs cs)
theorem prd_le : ∀ {rs : List (Nat × Nat)}, (∀ p ∈ rs, ROk p) → prd rs ≤ 6 ^ rs.length ∧ 1 ≤ prd rs
  | [], _ => ⟨by simp [prd], by simp [prd]⟩
  | p :: rs, h => by
    obtain ⟨a1, a2⟩ := prd_le (rs := rs) fun q hq => h q (List.mem_cons_of_mem _ hq)
    obtain ⟨h1, h6, _⟩ := h p List.mem_cons_self
    have e : prd (p :: rs) = p.1 * prd rs := rfl
    rw [e, List.length_cons, Nat.pow_succ, Nat.mul_comm (6 ^ _)]
    exact ⟨Nat.mul_le_mul h6 a1, Nat.le_trans (by decide) (Nat.mul_le_mul h1 a2)⟩
def iRs (rest : List Nat) (env : Ev) (_ : DS) : Prop := ∃ rs : List (Nat × Nat), env.length = 20 ∧ getS env 1 = some (.own, .hdl) ∧ (∀ p ∈ rs, ROk p) ∧ rs.length + rest.length ≤ 3 ∧ getS env 8 = some (.own, .lst (rs.map eR))
def iPr (rs : List (Nat × Nat)) (rest : List (Nat × Nat)) (env : Ev) (_ : DS) : Prop := ∃ done, rs = done ++ rest ∧ env.length = 20 ∧ getS env 1 = some (.own, .hdl) ∧ getS env 8 = some (.own, eRs rs) ∧ getS env 10 = some (.own, .int (done.foldl (fun a p => a * p.1) 1 : Nat))
theorem foldl_prd : ∀ (rs : List (Nat × Nat)) (a : Nat), rs.foldl (fun a p => a * p.1) a = a * prd rs
  | [], a => by simp [prd]
  | p :: rs, a => by
    rw [List.foldl_cons, foldl_prd rs]
    show a * p.1 * prd rs = a * (p.1 * prd rs)
    rw [Nat.mul_assoc]
structure Rn (rs : List (Nat × Nat)) (fine : List Nat) (due : Option (Nat × Nat)) (env : Ev) : Prop where
  hl : env.length = 20
  h1 : getS env 1 = some (.own, .hdl)
  h8 : getS env 8 = some (.own, eRs rs)
  h12 : ∃ m, getS env 12 = some (m, .lst (fine.map eN))
  h13 : getS env 13 = some (.own, oP due)
def iJ (rs : List (Nat × Nat)) (fine : List Nat) (rest : List Nat) (env : Ev) (_ : DS) : Prop := ∃ done, List.range rs.length = done ++ rest ∧ Rn rs fine (clU rs done) env
def iI (rs : List (Nat × Nat)) (fine : List Nat) (o : Option (Nat × Nat)) (j : Nat) (rest : List Nat) (env : Ev) (_ : DS) : Prop := ∃ done, List.range j = done ++ rest ∧ Rn rs fine (clI rs o j done) env ∧ getS env 14 = some (.own, eN j)
inductive Kd where
  | ij | ji | ii | i1 | ijj | lij | it
def kdT : Kd → Nat → Nat → List D
  | .ij, i, j => [eN i, eN j]
  | .ji, i, j => [eN j, eN i]
  | .ii, i, _ => [eN i, eN i]
  | .i1, i, _ => [eN i]
  | .ijj, i, j => [eN i, eN j, eN j]
  | .lij, i, j => [eN i, eN j]
  | .it, i, _ => [eN i, .bl true]
def kdD (k : Kd) (i j : Nat) : D := match k with
  | .lij => .lst (kdT k i j)
  | _ => .tup (kdT k i j)
def iP (rs : List (Nat × Nat)) (fine : List Nat) (o : Option (Nat × Nat)) (i j : Nat) (_ : List Kd) (env : Ev) (_ : DS) : Prop := Rn rs fine o env ∧ getS env 14 = some (.own, eN j) ∧ getS env 15 = some (.own, eN i) ∧ ∃ m, getS env 16 = some (m, .lst ((daysE rs j i).map eN))
def gd (rs : List (Nat × Nat)) (i j : Nat) : Kd → Bool
  | .ij => clashAt rs j i
  | _ => false
theorem r_tk {rs : List (Nat × Nat)} (h : ∀ p ∈ rs, ROk p) (hl : rs.length ≤ 3) {i j : Nat} (hij : i < j) (hj : j < rs.length) (k : Kd) {s : DS} : m__law_taken [eRs rs, kdD k i j] s = .ok (.bl (gd rs i j k), true) s := by
  have h' : ∀ p ∈ rs, 1 ≤ p.1 ∧ p.1 ≤ 6 := fun p hp => ⟨(h p hp).l1, (h p hp).l6⟩
  cases k with
  | lij => exact r_taken0 (d := .lst _) (.inr (.inr (.inr rfl)))
  | it =>
    have := r_taken h' (by omega) (ds := [eN i, .bl true]) (by simp) (s := s)
    exact this
  | ij =>
    have := r_taken h' (by omega) (ds := [eN i, eN j]) (by simp) (s := s)
    have e : takenB rs [eN i, eN j] = clashAt rs j i := by
      simp [takenB, clashAt, hij, hj]
    rw [e] at this
    exact this
  | ji =>
    have := r_taken h' (by omega) (ds := [eN j, eN i]) (by simp) (s := s)
    have e : takenB rs [eN j, eN i] = false := by
      have : ¬ j < i := by omega
      simp [takenB, this]
    rw [e] at this
    exact this
  | ii =>
    have := r_taken h' (by omega) (ds := [eN i, eN i]) (by simp) (s := s)
    have e : takenB rs [eN i, eN i] = false := by simp [takenB]
    rw [e] at this
    exact this
  | i1 =>
    have := r_taken h' (by omega) (ds := [eN i]) (by simp) (s := s)
    exact this
  | ijj =>
    have := r_taken h' (by omega) (ds := [eN i, eN j, eN j]) (by simp) (s := s)
    exact this
@[simp] theorem lf_kd {k : Kd} {i j : Nat} : lf (kdD k i j) = (match k with | .lij => false | _ => true) := by cases k <;> simp [kdD, kdT]
theorem main (s : DS) : ∃ fr s', g_law (lawE nLaw) s = .rt (.bl true) fr s' := by
  suffices h : okS (g_law (lawE nLaw) s) ⟨fun _ _ => False, fun d _ _ => d = .bl true, fun _ _ => False, fun _ _ => False, fun _ _ _ => False⟩ by
    cases e : g_law (lawE nLaw) s with
    | rt d f s' =>
      rw [e] at h
      have h : d = .bl true := h
      exact ⟨f, s', by rw [h]⟩
    | _ => rw [e] at h; exact h.elim
  unfold g_law
  refine okS_cut (fun _ _ => True) ?_ (fun env s _ => by simp)
  rw [okS_sFor]
  have e3 : rng1 [.int 3] = some ((List.range 3).map eN) := rfl
  simp only [okX_iRange1, okX_aCons, okX_eC, okX_aNil, e3, okO_some, getD_none, freeze_nil]
  refine okS_forF (enc := eN) (xs := List.range 3) (fun _ env _ => env.length = 20 ∧ getS env 1 = some (.own, .hdl)) ⟨rfl, rfl⟩ ?_ fun _ _ _ => trivial
  rintro turn r env s _ ⟨hl, h1⟩
  rw [bName_eq, okO_some]
  have hl2 : (setS env 2 (some (if lf (eN turn) = true then Md.own else .frz, eN turn))).length = 20 := by simp [hl]
  have h12 : getS (setS env 2 (some (if lf (eN turn) = true then Md.own else .frz, eN turn))) 1 = some (.own, .hdl) := by simp [h1]
  revert hl2 h12
  generalize setS env 2 (some (if lf (eN turn) = true then Md.own else .frz, eN turn)) = env2
  intro hl h1
  refine okS_cut (fun env _ => ∃ cs, (∀ c ∈ cs, COk c) ∧ cs.length ≤ 4 ∧ Tn cs env) ?_ ?_
  · refine body_cals ⟨hl, h1⟩ fun cs s' h2 h3 => ?_
    exact ⟨cs, h2, h3, by simp [hl], by simp [h1], by simp [hl]⟩
  rintro env s1 ⟨cs, hcs, hcl, hl, h1, h4⟩
  refine okS_cut (fun env _ => Tn cs env ∧ ∃ m, getS env 7 = some (m, .lst (((List.range 40).filter (isGap cs)).map eN))) ?_ ?_
  · have e40 : rng1 [.int 40] = some ((List.range 40).map eN) := rfl
    rw [okS_sAsg]
    refine okX_lcP (List.range 40) eN (isGap cs) eN ?_ ?_
    · simp only [okX_iRange1, okX_aCons, okX_eC, okX_aNil, e40, okO_some, getD_none, freeze_nil, true_and]
      intro d hd
      simp
      refine okX_lcP cs eC' (fun c => hasD c d) eC' ?_ ?_
      · simp [h4, hl, eCs]
        intro c hc
        simp [hl, r_lhas (hcs c hc).r1 (by have := (hcs c hc).r4; omega)]
      · rw [gEq_nil (okDs_map fun c _ => okD_eC)]
        rw [filter_empty]
        simp [hl, isGap, List.not_any_eq_all_not]
    · simp [hl, h1, h4]
      exact ⟨by simp [hl], by simp [h1], by simp [h4]⟩
  rintro env s2 ⟨⟨hl, h1, h4⟩, m7, h7⟩
  refine okS_cut (fun env _ => env.length = 20 ∧ getS env 1 = some (.own, .hdl)) ?_ ?_
  · have hg := gap40 hcs
    rw [find_head] at hg
    have r1 := fun s => r_first_gap hcs (by omega) (s := s)
    have r2 := fun s => r_covers hcs (by omega) (s := s)
    simp only [okS_sIf, okX_tOr, okX_tB, okX_eB, okX_eCall, okX_aCons, okX_aNil, okX_eV, h4, okO_some]
    refine okX_of_eq (r1 s2) ?_
    refine hd0_ok h7 ?_
    rw [hg, eq_oN]
    have e2 := gEq_nil (enc := eN) (l := (List.range 40).filter (isGap cs)) (okDs_map fun _ _ => rfl)
    have e3 : (gapO cs).isNone = ((List.range 40).filter (isGap cs)).isEmpty := by
      rw [← hg]
      cases (List.range 40).filter (isGap cs) <;> rfl
    simp [h4, h7, e2, r2, e3]
    exact ⟨hl, h1⟩
  rintro env s3 ⟨hl, h1⟩
  refine okS_cut (fun env _ => env.length = 20 ∧ getS env 1 = some (.own, .hdl) ∧ getS env 8 = some (.own, .lst [])) ?_ ?_
  · simp [hl, h1]
  rintro env s4 ⟨hl, h1, h8⟩
  refine okS_cut (fun env s => iRs [] env s) ?_ ?_
  · rw [okS_sFor]
    simp [h1]
    refine okX_take (by decide) fun i s5 hi => ?_
    rw [rng1_nat (by omega)]
    simp
    refine okS_forF (enc := eN) (xs := List.range i) iRs ⟨[], hl, h1, (fun _ h => nomatch h), by simp; omega, h8⟩ ?_ fun _ _ h => h
    rintro x r env s6 _ ⟨rs, hl, h1, hr, hlen, h8⟩
    simp [h1, hl]
    refine okX_take (by decide) fun k s7 hk => ?_
    simp [h1, h8, hl]
    have e1 : ((1 : Int) + (k : Int)) = ((k + 1 : Nat) : Int) := by omega
    rw [e1]
    refine okX_take (by omega) fun t s8 ht => ?_
    simp at hlen
    simp [h1, h8, hl, LIM]
    refine ⟨by omega, rs ++ [(k + 1, t)], by simp [hl], by simp [h1], ?_, by simp; omega, by simp [hl, eR]⟩
    intro p hp
    rcases List.mem_append.mp hp with hp | hp
    · exact hr p hp
    · have : p = (k + 1, t) := by simpa using hp
      subst this
      exact ⟨by simp, by simp; omega, by simp; omega⟩
  rintro env s5 ⟨rs, hl, h1, hr, hrl, h8⟩
  simp at hrl
  refine okS_cut (fun env _ => env.length = 20 ∧ getS env 1 = some (.own, .hdl) ∧ getS env 8 = some (.own, eRs rs)) ?_ ?_
  · have e1 : lfs (rs.map eR) = true := lfs_map fun _ => lf_eR
    simp [h8, hl, h1, e1]
    simp [eRs]
  rintro env s6 ⟨hl, h1, h8⟩
  refine okS_cut (fun env _ => env.length = 20 ∧ getS env 1 = some (.own, .hdl) ∧ getS env 8 = some (.own, eRs rs) ∧ getS env 10 = some (.own, .int 1)) ?_ ?_
  · simp [h8, hl, h1]
  rintro env s7 ⟨hl, h1, h8, h10⟩
  obtain ⟨hp1, hp2⟩ := prd_le hr
  have hp3 : prd rs ≤ 216 := Nat.le_trans hp1 (Nat.le_trans (Nat.pow_le_pow_right (by decide) hrl) (by decide))
  refine okS_cut (fun env _ => env.length = 20 ∧ getS env 1 = some (.own, .hdl) ∧ getS env 8 = some (.own, eRs rs) ∧ getS env 10 = some (.own, .int (prd rs : Nat))) ?_ ?_
  · rw [okS_sFor]
    simp [h8]
    simp [eRs]
    refine okS_forF (enc := eR) (xs := rs) (iPr rs) ⟨[], rfl, hl, h1, h8, h10⟩ ?_ ?_
    · rintro ⟨k, t⟩ rest env s8 _ ⟨done, hd, hl, h1, h8, h10⟩
      have hk := hr (k, t) (by rw [hd]; simp)
      obtain ⟨k1, k6, _⟩ := hk
      simp only [] at k1 k6
      have hdl : done.length ≤ 3 := by
        have := congrArg List.length hd
        simp at this
        omega
      obtain ⟨hq1, hq2⟩ := prd_le (rs := done) fun p hp => hr p (by rw [hd]; simp [hp])
      have hq3 : prd done ≤ 216 := Nat.le_trans hq1 (Nat.le_trans (Nat.pow_le_pow_right (by decide) hdl) (by decide))
      rw [foldl_prd, Nat.one_mul] at h10
      simp [eR, h10, hl, gMul_sm (i := (prd done : Int)) (j := (k : Int)) (by omega)]
      refine ⟨done ++ [(k, t)], by rw [hd]; simp, by simp [hl], by simp [h1], by simp [h8], ?_⟩
      simp [hl, foldl_prd]
    · rintro env s8 ⟨done, hd, hl, h1, h8, h10⟩
      simp at hd
      subst hd
      rw [foldl_prd, Nat.one_mul] at h10
      exact ⟨hl, h1, h8, h10⟩
  rintro env s8 ⟨hl, h1, h8, h10⟩
  refine okS_cut (fun env _ => env.length = 20 ∧ getS env 1 = some (.own, .hdl) ∧ getS env 8 = some (.own, eRs rs) ∧ ∃ m, getS env 12 = some (m, .lst (((List.range (prd rs)).filter (sat rs)).map eN))) ?_ ?_
  · rw [okS_sAsg]
    refine okX_lcP (List.range (prd rs)) eN (sat rs) eN ?_ ?_
    · simp [h10, rng1_nat (n := prd rs) (by omega)]
      intro d hd
      refine okX_lcP rs eR (fun p => !(d % p.1 == p.2)) (fun _ => .int 1) ?_ ?_
      · simp [h8]
        simp [eRs]
        intro k t hp
        obtain ⟨k1, k6, _⟩ := hr (k, t) hp
        simp only [] at k1 k6
        have e1 : ((d : Int) - (k : Int) * ((d : Int) / (k : Int))) = ((d % k : Nat) : Int) := by
          rw [Int.natCast_emod]
          have := Int.emod_add_mul_ediv (d : Int) (k : Int)
          omega
        simp [eR, hl, gDiv_sm (i := (d : Int)) (j := (k : Int)) (by omega), gMul_sm (i := (k : Int)) (by omega)]
        rw [e1]
        simp
        by_cases hq : d % k = t
        · have : (d : Int) % (k : Int) = (t : Int) := by omega
          simp [hq, this]
        · have : ¬ (d : Int) % (k : Int) = (t : Int) := by omega
          simp [hq, this]
      · rw [gEq_nil (enc := fun _ : Nat × Nat => D.int 1) (okDs_map fun _ _ => rfl), filter_empty]
        simp [hl, sat]
    · simp [hl, h1, h8]
  rintro env s9 ⟨hl, h1, h8, m12, h12⟩
  have hfine : (List.range (prd rs)).find? (sat rs) = remL rs 1 0 := rem_find hr
  rw [find_head] at hfine
  revert hfine h12
  generalize (List.range (prd rs)).filter (sat rs) = fine
  intro h12 hfine
  refine okS_cut (fun env _ => env.length = 20 ∧ getS env 1 = some (.own, .hdl) ∧ getS env 8 = some (.own, eRs rs) ∧ getS env 12 = some (m12, .lst (fine.map eN))) ?_ ?_
  · have r1 := fun s => r_remainder (rs := rs) (fun p hp => ⟨(hr p hp).l1, (hr p hp).l6⟩) (s := s)
    simp only [okS_sIf, okX_tB, okX_eB, okX_eCall, okX_aCons, okX_aNil, okX_eV, h8, okO_some]
    refine okX_of_eq (r1 s9) ?_
    refine hd0_ok h12 ?_
    rw [hfine, eq_oN]
    simp
    exact ⟨hl, h1, h8, h12⟩
  rintro env s10 ⟨hl, h1, h8, h12⟩
  refine okS_cut (fun env _ => Rn rs fine none env) ?_ ?_
  · simp
    exact ⟨by simp [hl], by simp [h1], by simp [h8], ⟨_, by simp [h12]; rfl⟩, by simp [hl, oP]⟩
  rintro env s11 hR
  refine okS_cut (fun env _ => Rn rs fine (clO rs) env) ?_ ?_
  · rw [okS_sFor]
    have h8 := hR.h8
    simp [h8]
    simp [eRs, rng1_nat (n := rs.length) (by omega)]
    refine okS_forF (enc := eN) (xs := List.range rs.length) (iJ rs fine) ⟨[], rfl, hR⟩ ?_ ?_
    · rintro j rest env s12 ⟨lj, hlj⟩ ⟨done, hd, hR⟩
      have hj : j < rs.length := by
        have : j ∈ List.range rs.length := by rw [hd]; simp
        simpa using this
      have hdj : done = List.range j := range_split hd
      subst hdj
      have h8 := hR.h8
      simp [rng1_nat (n := j) (by omega), hR.hl]
      refine okS_forF (enc := eN) (xs := List.range j) (iI rs fine (clU rs (List.range j)) j) ?_ ?_ ?_
      · refine ⟨[], rfl, ?_, by simp [hR.hl]⟩
        have e1 : clI rs (clU rs (List.range j)) j [] = clU rs (List.range j) := by
          unfold clI
          cases clU rs (List.range j) <;> rfl
        rw [e1]
        exact ⟨by simp [hR.hl], by simp [hR.h1], by simp [hR.h8], by simp [hR.h12], by simp [hR.h13]⟩
      · rintro i rest2 env s13 _ ⟨done2, hd2, hR2, h14⟩
        have hdi : done2 = List.range i := range_split hd2
        subst hdi
        have hi : i < j := by
          have : i ∈ List.range j := by rw [hd2]; simp
          simpa using this
        have hiR := atR_rok hr (k := i) (by omega)
        have hjR := atR_rok hr (k := j) hj
        obtain ⟨a1, a2, a3⟩ := hiR
        obtain ⟨b1, b2, b3⟩ := hjR
        have gi : gIx (eRs rs) (.int i) = some (eR (atR rs i), true) := (gIx_tmap (1, 0) (by omega)).trans (by simp [atR])
        have gj : gIx (eRs rs) (.int j) = some (eR (atR rs j), true) := (gIx_tmap (1, 0) (by omega)).trans (by simp [atR])
        have hl := hR2.hl
        have h8 := hR2.h8
        rw [bName_eq, okO_some]
        refine okS_cut (fun env _ => Rn rs fine (clI rs (clU rs (List.range j)) j (List.range i)) env ∧ getS env 14 = some (.own, eN j) ∧ getS env 15 = some (.own, eN i) ∧ ∃ m, getS env 16 = some (m, .lst ((daysE rs j i).map eN))) ?_ ?_
        · have e36 : rng1 [.int 36] = some ((List.range 36).map eN) := rfl
          rw [okS_sAsg]
          refine okX_lcP (List.range 36) eN (fun d => d % (atR rs i).1 == (atR rs i).2 && d % (atR rs j).1 == (atR rs j).2) eN ?_ ?_
          · simp only [okX_iRange1, okX_aCons, okX_eC, okX_aNil, e36, okO_some, getD_none, freeze_nil, true_and]
            intro d hd
            have m1 := gMod_nat (a := d) (b := (atR rs i).1) (by omega)
            have m2 := gMod_nat (a := d) (b := (atR rs j).1) (by omega)
            simp [hl, h8, gi, gj, h14]
            simp [eR, m1, m2]
            by_cases q1 : d % (atR rs i).1 = (atR rs i).2
            · have q1' : (d : Int) % ((atR rs i).1 : Int) = ((atR rs i).2 : Int) := by omega
              by_cases q2 : d % (atR rs j).1 = (atR rs j).2
              · have q2' : (d : Int) % ((atR rs j).1 : Int) = ((atR rs j).2 : Int) := by omega
                simp [q1, q1', q2, q2', hl, h8, gi, gj, h14, eR, m1, m2]
              · have q2' : ¬ (d : Int) % ((atR rs j).1 : Int) = ((atR rs j).2 : Int) := by omega
                simp [q1, q1', q2, q2', hl, h8, gi, gj, h14, eR, m1, m2]
            · have q1' : ¬ (d : Int) % ((atR rs i).1 : Int) = ((atR rs i).2 : Int) := by omega
              simp [q1, q1', hl, h8, gi, gj, h14, eR, m1, m2]
          · simp [hl, h14]
            exact ⟨⟨by simp [hl], by simp [hR2.h1], by simp [h8], by simp [hR2.h12], by simp [hR2.h13]⟩, rfl⟩
        rintro env s14 ⟨hR3, h14, h15, m16, h16⟩
        have hday := daysE_ok hr (i := i) (j := j) (by omega) hj
        have ge := gEq_nil (enc := eN) (l := daysE rs j i) (okDs_map fun _ _ => rfl)
        rw [hday] at ge
        have hl := hR3.hl
        refine okS_cut (fun env _ => Rn rs fine (clI rs (clU rs (List.range j)) j (List.range i ++ [i])) env ∧ getS env 14 = some (.own, eN j) ∧ getS env 15 = some (.own, eN i) ∧ ∃ m, getS env 16 = some (m, .lst ((daysE rs j i).map eN))) ?_ ?_
        · rw [clI_snoc]
          have h13 := hR3.h13
          have hn : ∀ o, isN (oP o) = o.isNone := fun o => by cases o <;> rfl
          simp [h16, ge, h13, hn]
          cases hq : clashAt rs j i with
          | false => simp [h14, h15, h16, hR3]
          | true =>
            cases ho : clI rs (clU rs (List.range j)) j (List.range i) with
            | some p =>
              rw [ho] at hR3 h13
              simp [h14, h15, h16, hR3, h13, hn]
            | none =>
              rw [ho] at hR3 h13
              simp [h14, h15, h16, hR3, h13, hn, hl]
              exact ⟨by simp [hl], by simp [hR3.h1], by simp [hR3.h8], by simp [hR3.h12], by simp [hl, oP, eR]⟩
        rintro env s15 ⟨hR4, h14, h15, m16, h16⟩
        have hl := hR4.hl
        rw [okS_sFor]
        simp [h14, h15, hl]
        refine okS_forF (enc := fun k => kdD k i j) (xs := [Kd.ij, .ji, .ii, .i1, .ijj, .lij, .it]) (iP rs fine (clI rs (clU rs (List.range j)) j (List.range i ++ [i])) i j) ⟨hR4, h14, h15, m16, h16⟩ ?_ ?_
        · rintro k rest3 env s16 _ ⟨hR5, h14, h15, m16, h16⟩
          have hl := hR5.hl
          have ht := fun s => r_tk hr hrl hi hj k (s := s)
          rw [bName_eq, okO_some]
          obtain ⟨e17, h17⟩ : ∃ m, getS (setS env 17 (some (if lf (kdD k i j) = true then Md.own else .frz, kdD k i j))) 17 = some (m, kdD k i j) := ⟨_, getS_setS_eq (by omega)⟩
          revert h17
          have hR6 : Rn rs fine (clI rs (clU rs (List.range j)) j (List.range i ++ [i])) (setS env 17 (some (if lf (kdD k i j) = true then Md.own else .frz, kdD k i j))) := ⟨by simp [hl], by simp [hR5.h1], by simp [hR5.h8], by simp [hR5.h12], by simp [hR5.h13]⟩
          have h14' : getS (setS env 17 (some (if lf (kdD k i j) = true then Md.own else .frz, kdD k i j))) 14 = some (.own, eN j) := by simp [h14]
          have h15' : getS (setS env 17 (some (if lf (kdD k i j) = true then Md.own else .frz, kdD k i j))) 15 = some (.own, eN i) := by simp [h15]
          have h16' : getS (setS env 17 (some (if lf (kdD k i j) = true then Md.own else .frz, kdD k i j))) 16 = some (m16, .lst ((daysE rs j i).map eN)) := by simp [h16]
          revert hR6 h14' h15' h16'
          generalize setS env 17 (some (if lf (kdD k i j) = true then Md.own else .frz, kdD k i j)) = env
          intro hR5 h14 h15 h16 h17
          have hl := hR5.hl
          refine okS_cut (fun env _ => Rn rs fine (clI rs (clU rs (List.range j)) j (List.range i ++ [i])) env ∧ getS env 14 = some (.own, eN j) ∧ getS env 15 = some (.own, eN i) ∧ getS env 16 = some (m16, .lst ((daysE rs j i).map eN)) ∧ getS env 17 = some (e17, kdD k i j) ∧ getS env 18 = some (.own, .bl (gd rs i j k))) ?_ ?_
          · have hRn : ∀ x, Rn rs fine (clI rs (clU rs (List.range j)) j (List.range i ++ [i])) (setS env 18 x) := fun x => ⟨by simp [hl], by simp [hR5.h1], by simp [hR5.h8], by simp [hR5.h12], by simp [hR5.h13]⟩
            have hx : okX ((eAnd (eB gEq (eV 17) (eTup (aCons (eV 15) (aCons (eV 14) aNil)))) (eAnd (eU (gIsi "tuple") (eV 17)) (eAnd (eNot (eU (gIsi "bool") (eB gIx (eV 17) (eC (.int 1))))) (eB gEq (eV 16) (eLst aNil))))) env s16) (fun x s => x = (.bl (gd rs i j k), none)) (fun _ _ => False) := by
              have hji : (j == i) = false := by simpa using (by omega : j ≠ i)
              have hij2 : (i == j) = false := by simpa using (by omega : i ≠ j)
              cases k with
              | ij =>
                have g1 : gEq (.tup [eN i, eN j]) (.tup [eN i, eN j]) = some (.bl true, true) := gEq_self rfl
                simp [h17, h15, h14, h16, kdD, kdT, g1, isiB, ge, gd]
              | ji =>
                have g1 : gEq (.tup [eN j, eN i]) (.tup [eN i, eN j]) = some (.bl false, true) := by
                  rw [gEq_ok rfl rfl]; simp [eqD, eqDs]; omega
                simp [h17, h15, h14, h16, kdD, kdT, g1, gd]
              | ii =>
                have g1 : gEq (.tup [eN i, eN i]) (.tup [eN i, eN j]) = some (.bl false, true) := by
                  rw [gEq_ok rfl rfl]; simp [eqD, eqDs]; omega
                simp [h17, h15, h14, h16, kdD, kdT, g1, gd]
              | i1 =>
                have g1 : gEq (.tup [eN i]) (.tup [eN i, eN j]) = some (.bl false, true) := by
                  rw [gEq_ok rfl rfl]; simp [eqD, eqDs]
                simp [h17, h15, h14, h16, kdD, kdT, g1, gd]
              | ijj =>
                have g1 : gEq (.tup [eN i, eN j, eN j]) (.tup [eN i, eN j]) = some (.bl false, true) := by
                  rw [gEq_ok rfl rfl]; simp [eqD, eqDs]
                simp [h17, h15, h14, h16, kdD, kdT, g1, gd]
              | lij =>
                have g1 : gEq (.lst [eN i, eN j]) (.tup [eN i, eN j]) = some (.bl false, true) := by
                  rw [gEq_ok rfl rfl]; simp [eqD]
                simp [h17, h15, h14, h16, kdD, kdT, g1, gd]
              | it =>
                have g1 : gEq (.tup [eN i, .bl true]) (.tup [eN i, eN j]) = some (.bl (b2z true == (j : Int)), true) := by
                  rw [gEq_ok rfl rfl]; simp [eqD, eqDs]
                simp [h17, h15, h14, h16, kdD, kdT, g1, gd]
                cases b2z true == (j : Int) <;> simp [isiB, h17]
            rw [okS_sAsg]
            refine okX_mono hx ?_ fun _ _ h => h.elim
            rintro _ s17 rfl
            simp [hl, h14, h15, h16, h17, hRn]
          rintro env s17 ⟨hR6, h14, h15, h16, h17, h18⟩
          have hb : ∃ b, gNe (kdD k i j) (.tup [eN i, .bl true]) = some (.bl b, true) := by
            cases k <;> exact ⟨_, gNe_ok rfl rfl⟩
          obtain ⟨b, hb⟩ := hb
          simp [h17, h15, hb]
          cases b with
          | false => simp; exact ⟨hR6, h14, h15, m16, h16⟩
          | true =>
            simp [hR6.h8, ht, h17, h18]
            exact ⟨hR6, h14, h15, m16, h16⟩
        · rintro env s16 ⟨hR5, h14, h15, m16, h16⟩
          exact ⟨List.range i ++ [i], by rw [hd2]; simp, hR5, h14⟩
      · rintro env s13 ⟨done2, hd2, hR2, h14⟩
        simp at hd2
        subst hd2
        refine ⟨List.range j ++ [j], by rw [hd]; simp, ?_⟩
        rw [clU_snoc]
        exact hR2
    · rintro env s12 ⟨done, hd, hR⟩
      simp at hd
      subst hd
      exact hR
  rintro env s12 hR
  have hl := hR.hl
  have hchk := chk_all hr hrl
  have hfe : fine.isEmpty = (clO rs).isSome := by
    rw [← hchk, ← hfine]
    cases fine <;> rfl
  refine okS_cut (fun env _ => Rn rs fine (clO rs) env) ?_ ?_
  · have r1 := fun s => r_clashing (rs := rs) (fun p hp => ⟨(hr p hp).l1, (hr p hp).l6⟩) (by omega) (s := s)
    have g1 : gNe (oP (clO rs)) (oP (clO rs)) = some (.bl false, true) := gNe_self okD_oP
    have hn : ∀ o, isN (oP o) = o.isNone := fun o => by cases o <;> rfl
    obtain ⟨m, h12⟩ := hR.h12
    have ge := gEq_nil (enc := eN) (l := fine) (okDs_map fun _ _ => rfl)
    rw [hfe] at ge
    have h8 := hR.h8
    simp only [eRs] at h8
    simp [h8, hR.h13, r1, g1, h12, ge, hn]
    cases ho : clO rs with
    | none => rw [ho] at hR; simpa [ho] using hR
    | some p => rw [ho] at hR; simpa [ho] using hR
  rintro env s13 hR
  have hl := hR.hl
  have h8 := hR.h8
  have h' : ∀ p ∈ rs, 1 ≤ p.1 ∧ p.1 ≤ 6 := fun p hp => ⟨(hr p hp).l1, (hr p hp).l6⟩
  simp
  refine okX_lcP [D.non, .int 5, .tup [.int 0, .int 9], .tup [.int (-1), .int 0], .str [97, 98], .tup [.int 0, .bl true]] id (fun _ => false) id ?_ ?_
  · have t0 := fun s => r_taken0 (rs := rs) (d := .non) (.inl rfl) (s := s)
    have t1 := fun s => r_taken0 (rs := rs) (d := .int 5) (.inr (.inl rfl)) (s := s)
    have t2 := fun s => r_taken h' (by omega) (ds := [.int 0, .int 9]) (by simp) (s := s)
    have t3 := fun s => r_taken h' (by omega) (ds := [.int (-1), .int 0]) (by simp) (s := s)
    have t4 := fun s => r_taken0 (rs := rs) (d := .str [97, 98]) (.inr (.inr (.inl rfl))) (s := s)
    have t5 := fun s => r_taken h' (by omega) (ds := [.int 0, .bl true]) (by simp) (s := s)
    have e2 : takenB rs [.int 0, .int 9] = false := by
      have : ¬ (9 : Int) < rs.length := by omega
      simp [takenB, this]
    have e3 : takenB rs [.int (-1), .int 0] = false := by simp [takenB]
    have e5 : takenB rs [.int 0, .bl true] = false := rfl
    rw [e2] at t2
    rw [e3] at t3
    rw [e5] at t5
    simp only [eRs] at h8
    simp [hl, h8, t0, t1, t2, t3, t4, t5]
  · have : gNe (.lst []) (.lst []) = some (.bl false, true) := rfl
    simp [this]
    exact ⟨hl, hR.h1⟩
end K26
end
section
set_option Elab.async false
set_option linter.all false
set_option maxRecDepth 100000
set_option maxHeartbeats 4000000
/-! Sound1: how a value of Sem lies in the abstract heap; the state; the judgements. -/
namespace Sm
open PySem PySem.Spec L2

def keyD : Key → D
  | .inl i => .int i
  | .inr x => .str x.cps.toList
mutual
/-- v is d; F: the places of its lists and dicts -/
inductive Rep (K : PySem.W.Frag) (dr : Addr) (H : Hp) : V → D → List Addr → Prop
  | non : Rep K dr H .non .non []
  | bl (b : Bool) : Rep K dr H (.bl b) (.bl b) []
  | int (i : Int) : Rep K dr H (.int i) (.int i) []
  | str (l : List Nat) (z : l.length ≤ LIM) : Rep K dr H (.str ⟨l.toArray⟩) (.str l) []
  | hdl : Rep K dr H (.ref dr) .hdl []
  | tup {a : Addr} {vs : List V} {ds : List D} {F : List Addr} : ds.length ≤ LIM → SqT K H a vs → Reps K dr H vs ds F → Rep K dr H (.ref a) (.tup ds) F
  | lst {a : Addr} {vs : List V} {ds : List D} {F : List Addr} : ds.length ≤ LIM → H a = some (.lst vs) → Reps K dr H vs ds F → Rep K dr H (.ref a) (.lst ds) (a :: F)
  | dic {a : Addr} {kvs : List (Key × V)} {ds : List (D × D)} {F : List Addr} : ds.length ≤ LIM → H a = some (.dK kvs) → Repk K dr H kvs ds F → Rep K dr H (.ref a) (.dic ds) (a :: F)
inductive Reps (K : PySem.W.Frag) (dr : Addr) (H : Hp) : List V → List D → List Addr → Prop
  | nil : Reps K dr H [] [] []
  | cons {v : V} {d : D} {F : List Addr} {vs : List V} {ds : List D} {G : List Addr} : Rep K dr H v d F → Reps K dr H vs ds G → Reps K dr H (v :: vs) (d :: ds) (F ++ G)
inductive Repk (K : PySem.W.Frag) (dr : Addr) (H : Hp) : List (Key × V) → List (D × D) → List Addr → Prop
  | nil : Repk K dr H [] [] []
  | cons {k : Key} {v : V} {d : D} {F : List Addr} {vs : List (Key × V)} {ds : List (D × D)} {G : List Addr} : Rep K dr H v d F → Repk K dr H vs ds G → Repk K dr H ((k, v) :: vs) ((keyD k, d) :: ds) (F ++ G)
end

/-- tuples and locked things stay -/
def Imm (H H' : Hp) : Prop := ∀ a, (∀ xs, H a = some (.tup xs) → H' a = some (.tup xs)) ∧ (∀ o u, H a = some (.frz o u) → H' a = some (.frz o u))
theorem SqT.imm {K : PySem.W.Frag} {H H' : Hp} {a : Addr} {xs : List V} (h : SqT K H a xs) (m : Imm H H') : SqT K H' a xs := by
  rcases h with (h | ⟨o, h⟩) | h
  · exact .inl (.inl ((m a).1 _ h))
  · exact .inl (.inr ⟨o, (m a).2 _ _ h⟩)
  · exact .inr h
section
variable {K : PySem.W.Frag} {dr : Addr} {H H' : Hp}
mutual
theorem Rep.mono : ∀ {v : V} {d : D} {F : List Addr}, Rep K dr H v d F → Imm H H' → (∀ a ∈ F, H' a = H a) → Rep K dr H' v d F
  | _, _, _, .non, _, _ => .non
  | _, _, _, .bl b, _, _ => .bl b
  | _, _, _, .int i, _, _ => .int i
  | _, _, _, .str l z, _, _ => .str l z
  | _, _, _, .hdl, _, _ => .hdl
  | _, _, _, .tup z hs hr, m, e => .tup z (SqT.imm hs m) (Reps.mono hr m e)
  | _, _, _, .lst z hs hr, m, e => .lst z ((e _ List.mem_cons_self).trans hs) (Reps.mono hr m fun a ha => e a (List.mem_cons_of_mem _ ha))
  | _, _, _, .dic z hs hr, m, e => .dic z ((e _ List.mem_cons_self).trans hs) (Repk.mono hr m fun a ha => e a (List.mem_cons_of_mem _ ha))
theorem Reps.mono : ∀ {v : List V} {d : List D} {F : List Addr}, Reps K dr H v d F → Imm H H' → (∀ a ∈ F, H' a = H a) → Reps K dr H' v d F
  | _, _, _, .nil, _, _ => .nil
  | _, _, _, .cons h t, m, e => .cons (Rep.mono h m fun a ha => e a (List.mem_append_left _ ha)) (Reps.mono t m fun a ha => e a (List.mem_append_right _ ha))
theorem Repk.mono : ∀ {v : List (Key × V)} {d : List (D × D)} {F : List Addr}, Repk K dr H v d F → Imm H H' → (∀ a ∈ F, H' a = H a) → Repk K dr H' v d F
  | _, _, _, .nil, _, _ => .nil
  | _, _, _, .cons h t, m, e => .cons (Rep.mono h m fun a ha => e a (List.mem_append_left _ ha)) (Repk.mono t m fun a ha => e a (List.mem_append_right _ ha))
end
mutual
theorem Rep.there : ∀ {v : V} {d : D} {F : List Addr}, Rep K dr H v d F → ∀ a ∈ F, (∃ xs, H a = some (.lst xs)) ∨ ∃ xs, H a = some (.dK xs)
  | _, _, _, .non, _, h => nomatch h
  | _, _, _, .bl b, _, h => nomatch h
  | _, _, _, .int i, _, h => nomatch h
  | _, _, _, .str l _, _, h => nomatch h
  | _, _, _, .hdl, _, h => nomatch h
  | _, _, _, .tup _ hs hr, a, h => Reps.there hr a h
  | _, _, _, .lst _ hs hr, a, h => by
    rcases List.mem_cons.mp h with rfl | h
    · exact .inl ⟨_, hs⟩
    · exact Reps.there hr a h
  | _, _, _, .dic _ hs hr, a, h => by
    rcases List.mem_cons.mp h with rfl | h
    · exact .inr ⟨_, hs⟩
    · exact Repk.there hr a h
theorem Reps.there : ∀ {v : List V} {d : List D} {F : List Addr}, Reps K dr H v d F → ∀ a ∈ F, (∃ xs, H a = some (.lst xs)) ∨ ∃ xs, H a = some (.dK xs)
  | _, _, _, .nil, _, h => nomatch h
  | _, _, _, .cons h t, a, q => by
    rcases List.mem_append.mp q with q | q
    · exact Rep.there h a q
    · exact Reps.there t a q
theorem Repk.there : ∀ {v : List (Key × V)} {d : List (D × D)} {F : List Addr}, Repk K dr H v d F → ∀ a ∈ F, (∃ xs, H a = some (.lst xs)) ∨ ∃ xs, H a = some (.dK xs)
  | _, _, _, .nil, _, h => nomatch h
  | _, _, _, .cons h t, a, q => by
    rcases List.mem_append.mp q with q | q
    · exact Rep.there h a q
    · exact Repk.there t a q
end
theorem Rep.ne {v : V} {d : D} {F : List Addr} (r : Rep K dr H v d F) {a : Addr} (h : a ∈ F) : H a ≠ none := by
  rcases r.there a h with ⟨_, e⟩ | ⟨_, e⟩ <;> (rw [e]; intro q; cases q)
theorem Reps.ne {v : List V} {d : List D} {F : List Addr} (r : Reps K dr H v d F) {a : Addr} (h : a ∈ F) : H a ≠ none := by
  rcases r.there a h with ⟨_, e⟩ | ⟨_, e⟩ <;> (rw [e]; intro q; cases q)
mutual
theorem Rep.lf : ∀ {v : V} {d : D} {F : List Addr}, Rep K dr H v d F → lf d = true → F = []
  | _, _, _, .non, _ => rfl
  | _, _, _, .bl b, _ => rfl
  | _, _, _, .int i, _ => rfl
  | _, _, _, .str l _, _ => rfl
  | _, _, _, .hdl, _ => rfl
  | _, _, _, .tup _ hs hr, h => Reps.lf hr (by simpa [Sm.lf] using h)
  | _, _, _, .lst _ hs hr, h => by simp [Sm.lf] at h
  | _, _, _, .dic _ hs hr, h => by simp [Sm.lf] at h
theorem Reps.lf : ∀ {v : List V} {d : List D} {F : List Addr}, Reps K dr H v d F → lfs d = true → F = []
  | _, _, _, .nil, _ => rfl
  | _, _, _, .cons h t, q => by
    have q' := Bool.and_eq_true_iff.mp (show (Sm.lf _ && lfs _) = true from q)
    rw [Rep.lf h q'.1, Reps.lf t q'.2]
    rfl
end
theorem Reps.length : ∀ {vs : List V} {ds : List D} {F : List Addr}, Reps K dr H vs ds F → vs.length = ds.length
  | _, _, _, .nil => rfl
  | _, _, _, .cons _ t => congrArg (· + 1) (Reps.length t)
theorem Reps.get : ∀ {vs : List V} {ds : List D} {F : List Addr} {i : Nat} {d : D}, Reps K dr H vs ds F → ds[i]? = Option.some d → ∃ v G, vs[i]? = Option.some v ∧ Rep K dr H v d G ∧ ∀ a ∈ G, a ∈ F
  | _, _, _, _, _, .nil, e => by simp at e
  | _, _, _, 0, _, .cons h t, e => by
    simp at e
    subst e
    exact ⟨_, _, rfl, h, fun a ha => List.mem_append_left _ ha⟩
  | _, _, _, i + 1, _, .cons h t, e => by
    obtain ⟨v, G, e1, r, m⟩ := Reps.get (i := i) t (by simpa using e)
    exact ⟨v, G, by simpa using e1, r, fun a ha => List.mem_append_right _ (m a ha)⟩
theorem Reps.append : ∀ {vs : List V} {ds : List D} {F : List Addr} {ws : List V} {es : List D} {G : List Addr}, Reps K dr H vs ds F → Reps K dr H ws es G → Reps K dr H (vs ++ ws) (ds ++ es) (F ++ G)
  | _, _, _, _, _, _, .nil, t => t
  | _, _, _, _, _, _, .cons h r, t => by
    rw [List.append_assoc]
    exact .cons h (Reps.append r t)
theorem Reps.lfs_mk : ∀ {vs : List V} {ds : List D} {F : List Addr}, Reps K dr H vs ds F → lfs ds = true → Reps K dr H vs ds [] := fun r h => by
  have e := r.lf h
  rw [e] at r
  exact r
/-- items taken out, or put another way: where no list stands in them -/
theorem Reps.pick {vs : List V} {ds : List D} {F : List Addr} (r : Reps K dr H vs ds F) : ∀ {ws : List V} {es : List D}, Paired (fun (w : V) (e : D) => ∃ i : Nat, vs[i]? = Option.some w ∧ ds[i]? = Option.some e) ws es → ∃ G, Reps K dr H ws es G ∧ ∀ a ∈ G, a ∈ F
  | _, _, .nil => ⟨[], .nil, fun _ h => nomatch h⟩
  | _, _, .cons ⟨i, e1, e2⟩ t => by
    obtain ⟨v, G1, e3, r1, m1⟩ := r.get e2
    rw [e1] at e3
    cases e3
    obtain ⟨G2, r2, m2⟩ := Reps.pick r t
    refine ⟨_, .cons r1 r2, fun a ha => ?_⟩
    rcases List.mem_append.mp ha with h | h
    · exact m1 a h
    · exact m2 a h
theorem Reps.take : ∀ {vs : List V} {ds : List D} {F : List Addr} (n : Nat), Reps K dr H vs ds F → ∃ G, Reps K dr H (vs.take n) (ds.take n) G ∧ ∀ a ∈ G, a ∈ F
  | _, _, _, 0, _ => ⟨[], by simpa using .nil, fun _ h => nomatch h⟩
  | _, _, _, _ + 1, .nil => ⟨[], by simpa using .nil, fun _ h => nomatch h⟩
  | _, _, _, n + 1, .cons h t => by
    obtain ⟨G, r, m⟩ := Reps.take n t
    refine ⟨_, .cons h r, fun a ha => ?_⟩
    rcases List.mem_append.mp ha with q | q
    · exact List.mem_append_left _ q
    · exact List.mem_append_right _ (m a q)
theorem Reps.drop : ∀ {vs : List V} {ds : List D} {F : List Addr} (n : Nat), Reps K dr H vs ds F → ∃ G, Reps K dr H (vs.drop n) (ds.drop n) G ∧ ∀ a ∈ G, a ∈ F
  | _, _, _, 0, r => ⟨_, r, fun _ h => h⟩
  | _, _, _, _ + 1, .nil => ⟨[], by simpa using .nil, fun _ h => nomatch h⟩
  | _, _, _, n + 1, .cons h t => by
    obtain ⟨G, r, m⟩ := Reps.drop n t
    exact ⟨G, r, fun a ha => List.mem_append_right _ (m a ha)⟩
end

/-! ### the draws -/
def DrawOk (dr cl : Addr) (H : Hp) (s : DS) : Prop :=
  H dr = some (.lst [.ref cl, .int ((s.pos : Int) - 1), .int s.rest, .int s.seed]) ∧ cl ≠ dr ∧ H cl = some (.lst (s.cells.map fun (n : Nat) => V.int (n : Int))) ∧ s.seed < 2147483647
/-- all but the draws is kept -/
def Fr (dr : Addr) (H H' : Hp) : Prop := ∀ a o, a ≠ dr → H a = some o → H' a = some o
theorem Fr.refl {dr : Addr} {H : Hp} : Fr dr H H := fun _ _ _ h => h
theorem Fr.trans {dr : Addr} {H H1 H2 : Hp} (a : Fr dr H H1) (b : Fr dr H1 H2) : Fr dr H H2 := fun c o n h => b c o n (a c o n h)
theorem Fr.of_same {dr : Addr} {H H' : Hp} (h : Same H H') : Fr dr H H' := fun a o _ e => h a o e
theorem Fr.imm {dr cl : Addr} {H H' : Hp} {s : DS} (f : Fr dr H H') (d : DrawOk dr cl H s) : Imm H H' := fun a => by
  obtain ⟨e, _⟩ := d
  refine ⟨fun xs h => f a _ (fun q => ?_) h, fun o u h => f a _ (fun q => ?_) h⟩
  · rw [q, e] at h; cases h
  · rw [q, e] at h; cases h
theorem Same.imm {H H' : Hp} (h : Same H H') : Imm H H' := fun a => ⟨fun xs e => h a _ e, fun o u e => h a _ e⟩
theorem DrawOk.same {dr cl : Addr} {H H' : Hp} {s : DS} (d : DrawOk dr cl H s) (h : Same H H') : DrawOk dr cl H' s := by
  obtain ⟨e, n, e2, b⟩ := d
  exact ⟨h _ _ e, n, h _ _ e2, b⟩
theorem DrawOk.ne {dr cl : Addr} {H : Hp} {s : DS} (d : DrawOk dr cl H s) : H dr ≠ none := by
  obtain ⟨e, _⟩ := d
  rw [e]
  intro q
  cases q
theorem Fr.eq {dr : Addr} {H H' : Hp} (f : Fr dr H H') {a : Addr} (n : a ≠ dr) (h : H a ≠ none) : H' a = H a := by
  cases e : H a with
  | none => exact absurd e h
  | some o => exact f a o n e
section
variable {K : PySem.W.Frag} {dr cl : Addr} {H H' : Hp} {s : DS}
theorem Rep.fr {v : V} {d : D} {F : List Addr} (r : Rep K dr H v d F) (f : Fr dr H H') (k : DrawOk dr cl H s) (n : dr ∉ F) : Rep K dr H' v d F :=
  r.mono (f.imm k) fun a ha => f.eq (fun q => n (q ▸ ha)) (r.ne ha)
theorem Reps.fr {v : List V} {d : List D} {F : List Addr} (r : Reps K dr H v d F) (f : Fr dr H H') (k : DrawOk dr cl H s) (n : dr ∉ F) : Reps K dr H' v d F :=
  r.mono (f.imm k) fun a ha => f.eq (fun q => n (q ▸ ha)) (r.ne ha)
theorem Rep.same {v : V} {d : D} {F : List Addr} (r : Rep K dr H v d F) (f : Same H H') : Rep K dr H' v d F :=
  r.mono (Same.imm f) fun a ha => by
    cases e : H a with
    | none => exact absurd e (r.ne ha)
    | some o => exact f a o e
theorem Reps.same {v : List V} {d : List D} {F : List Addr} (r : Reps K dr H v d F) (f : Same H H') : Reps K dr H' v d F :=
  r.mono (Same.imm f) fun a ha => by
    cases e : H a with
    | none => exact absurd e (r.ne ha)
    | some o => exact f a o e
end

/-! ### the state of a def -/
/-- dr: the draws; H0: what is kept; Z: where lists of others may stand -/
structure C where
  dr : Addr
  cl : Addr
  H0 : Hp
  Z : Addr → Prop
structure Good (K : PySem.W.Frag) (c : C) (H : Hp) (σ : St) (env : Ev) (s : DS) (Fs : Nat → List Addr) : Prop where
  pres : ∀ a o, a ≠ c.dr → c.H0 a = some o → H a = some o
  draw : DrawOk c.dr c.cl H s
  drw0 : ∃ s0, DrawOk c.dr c.cl c.H0 s0
  len : env.length = σ.length
  slot : ∀ i m d, getS env i = some (m, d) → ∃ v, σ[i]? = some (some v) ∧ Rep K c.dr H v d (Fs i)
  off : ∀ i, getS env i = none → Fs i = []
  own : ∀ i d, getS env i = some (.own, d) → (Fs i).Nodup ∧ (∀ a ∈ Fs i, c.H0 a = none) ∧ ∀ j, j ≠ i → ∀ a ∈ Fs i, a ∉ Fs j
  zed : ∀ i a, a ∈ Fs i → c.H0 a = none ∨ c.Z a
  ndr : ∀ i, c.dr ∉ Fs i

def AlOk (H : Hp) (Fs : Nat → List Addr) (al : Al) (F : List Addr) : Prop :=
  match al with
  | none => F.Nodup ∧ ∀ a ∈ F, H a = none
  | some bs => ∀ a ∈ F, H a = none ∨ ∃ i ∈ bs, a ∈ Fs i

theorem Good.ne {K : PySem.W.Frag} {c : C} {H : Hp} {σ : St} {env : Ev} {s : DS} {Fs : Nat → List Addr} (g : Good K c H σ env s Fs) {i : Nat} {a : Addr} (h : a ∈ Fs i) : H a ≠ none := by
  cases e : getS env i with
  | none => rw [g.off i e] at h; cases h
  | some x =>
    obtain ⟨m, d⟩ := x
    obtain ⟨v, _, r⟩ := g.slot i m d e
    exact r.ne h
theorem Good.fr {K : PySem.W.Frag} {c : C} {H H' : Hp} {σ : St} {env : Ev} {s s' : DS} {Fs : Nat → List Addr} (g : Good K c H σ env s Fs) (f : Fr c.dr H H') (d : DrawOk c.dr c.cl H' s') : Good K c H' σ env s' Fs where
  pres := fun a o n e => f a o n (g.pres a o n e)
  draw := d
  drw0 := g.drw0
  len := g.len
  slot := fun i m d e => by
    obtain ⟨v, e1, r⟩ := g.slot i m d e
    exact ⟨v, e1, r.fr f g.draw (g.ndr i)⟩
  off := g.off
  own := g.own
  zed := g.zed
  ndr := g.ndr
theorem AlOk.ndr {K : PySem.W.Frag} {c : C} {H : Hp} {σ : St} {env : Ev} {s : DS} {Fs : Nat → List Addr} (g : Good K c H σ env s Fs) {al : Al} {F : List Addr} (h : AlOk H Fs al F) : c.dr ∉ F := fun q => by
  cases al with
  | none => exact g.draw.ne (h.2 _ q)
  | some bs =>
    rcases h _ q with e | ⟨i, _, e⟩
    · exact g.draw.ne e
    · exact g.ndr i e
/-- .. at a later heap: fewer places are free -/
theorem AlOk.back {H H1 : Hp} {Fs : Nat → List Addr} {al : Al} {F : List Addr} (h : AlOk H1 Fs al F) (k : ∀ a, H1 a = none → H a = none) : AlOk H Fs al F := by
  cases al with
  | none => exact ⟨h.1, fun a ha => k a (h.2 a ha)⟩
  | some bs => exact fun a ha => (h a ha).imp (k a) id
theorem Fr.back {dr cl : Addr} {H H1 : Hp} {s1 : DS} (f : Fr dr H H1) (d : DrawOk dr cl H1 s1) : ∀ a, H1 a = none → H a = none := fun a e => by
  cases q : H a with
  | none => rfl
  | some o =>
    by_cases n : a = dr
    · exact absurd (n ▸ e) d.ne
    · rw [f a o n q] at e; cases e
theorem AlOk.weak {H : Hp} {Fs : Nat → List Addr} {al : Al} {F : List Addr} (h : AlOk H Fs al F) : ∀ a ∈ F, H a = none ∨ ∃ i ∈ al.getD [], a ∈ Fs i := by
  cases al with
  | none => exact fun a ha => .inl (h.2 a ha)
  | some bs => exact h
theorem AlOk.join {H H1 : Hp} {Fs : Nat → List Addr} {al al' : Al} {F G : List Addr} (h : AlOk H Fs al F) (h' : AlOk H1 Fs al' G) (k : ∀ a, H1 a = none → H a = none) (ex : ∀ a ∈ F, H1 a ≠ none) : AlOk H Fs (alU al al') (F ++ G) := by
  have w1 := h.weak
  have w2 := (h'.back k).weak
  cases al with
  | none =>
    cases al' with
    | none => exact ⟨List.nodup_append.mpr ⟨h.1, h'.1, fun a ha b hb e => ex a ha (e ▸ h'.2 b hb)⟩, fun a ha => (List.mem_append.mp ha).elim (h.2 a) fun q => k a (h'.2 a q)⟩
    | some bs => exact fun a ha => (List.mem_append.mp ha).elim (fun q => .inl (h.2 a q)) fun q => w2 a q
  | some bs =>
    cases al' with
    | none => exact fun a ha => (List.mem_append.mp ha).elim (fun q => w1 a q) fun q => .inl (k a (h'.2 a q))
    | some bs' =>
      refine fun a ha => (List.mem_append.mp ha).elim (fun q => ?_) fun q => ?_
      · exact (w1 a q).imp id fun ⟨i, h1, h2⟩ => ⟨i, List.mem_append_left _ h1, h2⟩
      · exact (w2 a q).imp id fun ⟨i, h1, h2⟩ => ⟨i, List.mem_append_right _ h1, h2⟩
theorem AlOk.norm {K : PySem.W.Frag} {dr : Addr} {H H' : Hp} {Fs : Nat → List Addr} {v : V} {d : D} {al : Al} {F : List Addr} (r : Rep K dr H' v d F) (h : AlOk H Fs al F) : AlOk H Fs (norm d al) F := by
  unfold Sm.norm
  by_cases e : lf d = true
  · rw [if_pos e, r.lf e]
    exact ⟨List.nodup_nil, fun _ h => nomatch h⟩
  · rw [if_neg e]
    exact h

/-! ### the judgements -/
/-- an error is in the air: its class is what the module has under its name -/
def ExOk (mg : Str → Option Value) (e : Exn) (cls : Value) : Prop := ∃ u, mg (Str.ofString e.name) = some u ∧ cls = u
def PostE (K : PySem.W.Frag) (mg : Str → Option Value) (W : WX) (c : C) (σ : St) (H : Hp) (Fs : Nat → List Addr) (r : R (D × Al)) (Q : VK) : Prop :=
  match r with
  | .ok x s' => ∀ v H' F, Fr c.dr H H' → DrawOk c.dr c.cl H' s' → Rep K c.dr H' v x.1 F → AlOk H Fs x.2 F → Q v H'
  | .exc e s' => ∀ cls dc H', Fr c.dr H H' → DrawOk c.dr c.cl H' s' → ExOk mg e cls → W cls dc σ H'
  | .bad => False
def PostA (K : PySem.W.Frag) (mg : Str → Option Value) (W : WX) (c : C) (σ : St) (H : Hp) (Fs : Nat → List Addr) (r : R (List D × Al)) (Q : List V → Hp → Prop) : Prop :=
  match r with
  | .ok x s' => ∀ v H' F, Fr c.dr H H' → DrawOk c.dr c.cl H' s' → Reps K c.dr H' v x.1 F → AlOk H Fs x.2 F → Q v H'
  | .exc e s' => ∀ cls dc H', Fr c.dr H H' → DrawOk c.dr c.cl H' s' → ExOk mg e cls → W cls dc σ H'
  | .bad => False
def PostT (mg : Str → Option Value) (W : WX) (c : C) (σ : St) (H : Hp) (r : R Bool) (Q : Bool → Hp → Prop) : Prop :=
  match r with
  | .ok b s' => ∀ H', Fr c.dr H H' → DrawOk c.dr c.cl H' s' → Q b H'
  | .exc e s' => ∀ cls dc H', Fr c.dr H H' → DrawOk c.dr c.cl H' s' → ExOk mg e cls → W cls dc σ H'
  | .bad => False
def tE (K : PySem.W.Frag) (mg : Str → Option Value) (W : WX) (f : E) : TE := fun σ H Q => ∃ c env s Fs, Good K c H σ env s Fs ∧ PostE K mg W c σ H Fs (f env s) Q
def tA (K : PySem.W.Frag) (mg : Str → Option Value) (W : WX) (f : A) : TA := fun σ H Q => ∃ c env s Fs, Good K c H σ env s Fs ∧ PostA K mg W c σ H Fs (f env s) Q
def tT (K : PySem.W.Frag) (mg : Str → Option Value) (W : WX) (f : T) : TT := fun σ H Q => ∃ c env s Fs, Good K c H σ env s Fs ∧ PostT mg W c σ H (f env s) Q
def ERep (X : Cx) (W : WX) (e : Expr) (f : E) : Prop := PE X e (tE X.K X.mg W f)
def ARep (X : Cx) (W : WX) (es : List Expr) (f : A) : Prop := PA X es (tA X.K X.mg W f) ∧ ∀ env s x s', f env s = .ok x s' → x.1.length = es.length
def TRep (X : Cx) (W : WX) (e : Expr) (f : T) : Prop := PT X e (tT X.K X.mg W f)

theorem PE.imp {X : Cx} {e : Expr} {t t' : TE} (h : PE X e t) (k : ∀ σ H Q, t' σ H Q → t σ H Q) : PE X e t' := ⟨fun pins s σ H Q I q => h.run pins s σ H Q I (k σ H Q q)⟩
theorem PT.imp {X : Cx} {e : Expr} {t t' : TT} (h : PT X e t) (k : ∀ σ H Q, t' σ H Q → t σ H Q) : PT X e t' := ⟨fun pins s σ H Q I q => h.run pins s σ H Q I (k σ H Q q)⟩
theorem PW.imp {X : Cx} {e : Expr} {t t' : TT} (h : PW X e t) (k : ∀ σ H Q, t' σ H Q → t σ H Q) : PW X e t' := ⟨fun wh pins s σ H Q I q => h.run wh pins s σ H Q I (k σ H Q q)⟩
theorem PA.imp {X : Cx} {e : List Expr} {t t' : TA} (h : PA X e t) (k : ∀ σ H Q, t' σ H Q → t σ H Q) : PA X e t' := ⟨fun pos pins s σ H Q I q => h.run pos pins s σ H Q I (k σ H Q q)⟩
theorem PS.imp {X : Cx} {e : Stmt} {t t' : TS} (h : PS X e t) (k : ∀ D σ H, t' D σ H → t D σ H) : PS X e t' := ⟨fun pins s σ H D I q => h.run pins s σ H D I (k D σ H q)⟩
theorem PSs.imp {X : Cx} {e : List Stmt} {t t' : TS} (h : PSs X e t) (k : ∀ D σ H, t' D σ H → t D σ H) : PSs X e t' := ⟨fun pins s σ H D I q => h.run pins s σ H D I (k D σ H q)⟩

/-- one expression after another: the state between -/
theorem PostE.bnd {K : PySem.W.Frag} {mg : Str → Option Value} {W : WX} {c : C} {σ : St} {H : Hp} {env : Ev} {s : DS} {Fs : Nat → List Addr} {f : E} {Q : VK}
    (g : Good K c H σ env s Fs) (hx : ∀ e s', f env s = .exc e s' → ∀ cls dc H', Fr c.dr H H' → DrawOk c.dr c.cl H' s' → ExOk mg e cls → W cls dc σ H')
    (hb : f env s ≠ .bad)
    (h : ∀ x s' v H' F, f env s = .ok x s' → Fr c.dr H H' → Good K c H' σ env s' Fs → Rep K c.dr H' v x.1 F → AlOk H Fs x.2 F → Q v H') : tE K mg W f σ H Q := by
  refine ⟨c, env, s, Fs, g, ?_⟩
  cases e : f env s with
  | ok x s' => exact fun v H' F f1 d1 r a => h x s' v H' F e f1 (g.fr f1 d1) r a
  | exc e' s' => exact hx e' s' e
  | bad => exact hb e
end Sm
end
section
set_option Elab.async false
set_option linter.all false
set_option maxRecDepth 100000
set_option maxHeartbeats 4000000
/-! Sound2: expressions and tests. -/
namespace Sm
open PySem PySem.Spec L2

def ResOk (H : Hp) (fr : Bool) (F G : List Addr) : Prop := (fr = true → F.Nodup ∧ ∀ a ∈ F, H a = none) ∧ ∀ a ∈ F, H a = none ∨ a ∈ G
theorem AlOk.res {H H1 : Hp} {Fs : Nat → List Addr} {al : Al} {F G : List Addr} {fr : Bool} (h : AlOk H Fs al G) (k : ∀ a, H1 a = none → H a = none) (r : ResOk H1 fr F G) : AlOk H Fs (fr2 fr al) F := by
  unfold fr2
  by_cases e : fr = true
  · rw [if_pos e]
    exact ⟨(r.1 e).1, fun a ha => k a ((r.1 e).2 a ha)⟩
  · rw [if_neg e]
    exact fun a ha => (r.2 a ha).elim (fun q => .inl (k a q)) fun q => h.weak a q
theorem ResOk.nil {H : Hp} {fr : Bool} {G : List Addr} : ResOk H fr [] G := ⟨fun _ => ⟨List.nodup_nil, fun _ h => nomatch h⟩, fun _ h => nomatch h⟩

/-- an operator by values -/
def rG (K : PySem.W.Frag) (g : D → D → Option (D × Bool)) : R2 := fun x y H Q => ∃ dr d1 d2 F1 F2 r, Rep K dr H x d1 F1 ∧ Rep K dr H y d2 F2 ∧ dr ∉ F1 ++ F2 ∧ g d1 d2 = some r ∧
  ∀ z H' F, Same H H' → Rep K dr H' z r.1 F → ResOk H r.2 F (F1 ++ F2) → Q z H'
def rG1 (K : PySem.W.Frag) (g : D → Option (D × Bool)) : V → Hp → VK → Prop := fun x H Q => ∃ dr d1 F1 r, Rep K dr H x d1 F1 ∧ dr ∉ F1 ∧ g d1 = some r ∧
  ∀ z H' F, Same H H' → Rep K dr H' z r.1 F → ResOk H r.2 F F1 → Q z H'
def rGL (K : PySem.W.Frag) (g : List D → Option (D × Bool)) : List V → Hp → VK → Prop := fun xs H Q => ∃ dr ds F1 r, Reps K dr H xs ds F1 ∧ dr ∉ F1 ∧ g ds = some r ∧
  ∀ z H' F, Same H H' → Rep K dr H' z r.1 F → ResOk H r.2 F F1 → Q z H'
def rGS (K : PySem.W.Frag) (g : D → Option Int → Option Int → Option (D × Bool)) : V → Option Int → Option Int → Hp → VK → Prop := fun x lo hi H Q => ∃ dr d1 F1 r, Rep K dr H x d1 F1 ∧ dr ∉ F1 ∧ g d1 lo hi = some r ∧
  ∀ z H' F, Same H H' → Rep K dr H' z r.1 F → ResOk H r.2 F F1 → Q z H'

section
variable {X : Cx} {W : WX} {a b e : Expr} {pos p : Pos} {f f1 f2 f3 : E}
/-! ### atoms -/
theorem e_var {i : Nat} {x : Str} (hN : X.N[i]? = some x) (hv : Vis X.env.scope x) (hd : (x == ("__debug__" : Str)) = false := by decide) (hcd : (x == ("__classdict__" : Str)) = false := by decide) : ERep X W (.Name x pos) (eV i) := by
  refine PE.imp (pe_var hN hv hd hcd) fun σ H Q ⟨c, env, s, Fs, g, h⟩ => ?_
  unfold eV at h
  cases e : getS env i with
  | none => rw [e] at h; exact h.elim
  | some z =>
    obtain ⟨m, d⟩ := z
    rw [e] at h
    obtain ⟨v, e1, r⟩ := g.slot i m d e
    exact ⟨v, e1, h v H (Fs i) Fr.refl g.draw r (AlOk.norm r fun a ha => .inr ⟨i, List.mem_cons_self, ha⟩)⟩
theorem e_cst {v : V} {d : D} (h1 : PE X e (tC v)) (hr : ∀ dr H, Rep X.K dr H v d []) : ERep X W e (eC d) := by
  refine PE.imp h1 fun σ H Q ⟨c, env, s, Fs, g, h⟩ => ?_
  exact h v H [] Fr.refl g.draw (hr _ _) ⟨List.nodup_nil, fun _ h => nomatch h⟩
theorem e_int {i : Int} {j : Nat} : ERep X W (.Constant (.int i) j pos) (eC (.int i)) := e_cst pe_int fun _ _ => .int i
theorem e_bl {i : Bool} {j : Nat} : ERep X W (.Constant (.bool i) j pos) (eC (.bl i)) := e_cst pe_bl fun _ _ => .bl i
theorem e_non {j : Nat} : ERep X W (.Constant .none j pos) (eC .non) := e_cst pe_non fun _ _ => .non
theorem e_str {x : Str} {j : Nat} {l : List Nat} (h : x.cps.toList = l := by rfl) (hz : x.cps.toList.length ≤ LIM := by decide) : ERep X W (.Constant (.str x) j pos) (eC (.str l)) := e_cst pe_str fun _ _ => by
  subst h
  exact .str _ hz
/-- a constant of the module -/
theorem e_glob {x : Str} {v : V} {d : D} {u : Value} (hg : Gl X x) (hm : X.mg x = some u) (rv : RelV v u) (hr : ∀ dr H, Rep X.K dr H v d []) (hd : (x == ("__debug__" : Str)) = false := by decide) : ERep X W (.Name x pos) (eC d) :=
  e_cst (pe_glob hg hm rv hd) hr

/-! ### operators -/
theorem e_un {op : UnaryOp} {g : D → Option (D × Bool)} (ho : UnR X (unaryOp op) (rG1 X.K g)) (ha : ERep X W a f) : ERep X W (.UnaryOp op a pos) (eU g f) := by
  refine PE.imp (pe_un ho ha) fun σ H Q ⟨c, env, s, Fs, gd, h⟩ => ⟨c, env, s, Fs, gd, ?_⟩
  unfold eU at h
  cases e1 : f env s with
  | bad => rw [e1] at h; exact h.elim
  | exc x s1 => rw [e1] at h; exact h
  | ok x s1 =>
    rw [e1] at h
    intro v1 H1 F1 fr1 d1 r1 a1
    simp only [R.bnd_ok] at h
    cases e2 : g x.1 with
    | none => rw [e2] at h; exact h.elim
    | some r =>
      rw [e2] at h
      refine ⟨c.dr, x.1, F1, r, r1, a1.ndr gd, e2, fun z H' F sm rz ro => ?_⟩
      exact h z H' F (fr1.trans (Fr.of_same sm)) (d1.same sm) rz (a1.res (fr1.back d1) ro)
theorem bin_core {r : R2} {g : D → D → Option (D × Bool)} (hr : r = rG X.K g) {σ : L2.St} {H : Hp} {Q : VK} (h : tE X.K X.mg W (eB g f1 f2) σ H Q) :
    tOp r (tE X.K X.mg W f1) (tE X.K X.mg W f2) σ H Q := by
  subst hr
  obtain ⟨c, env, s, Fs, gd, h⟩ := h
  refine ⟨c, env, s, Fs, gd, ?_⟩
  unfold eB at h
  cases e1 : f1 env s with
  | bad => rw [e1] at h; exact h.elim
  | exc x s1 => rw [e1] at h; exact h
  | ok x s1 =>
    rw [e1] at h
    intro v1 H1 F1 fr1 d1 r1 a1
    simp only [R.bnd_ok] at h
    have gd1 := gd.fr fr1 d1
    refine ⟨c, env, s1, Fs, gd1, ?_⟩
    cases e2 : f2 env s1 with
    | bad => rw [e2] at h; exact h.elim
    | exc y s2 =>
      rw [e2] at h
      exact fun cls dc H' f' d' xo => h cls dc H' (fr1.trans f') d' xo
    | ok y s2 =>
      rw [e2] at h
      intro v2 H2 F2 fr2 d2 r2 a2
      simp only [R.bnd_ok] at h
      have n1 := a1.ndr gd
      have n2 := a2.ndr gd1
      cases e3 : g x.1 y.1 with
      | none => rw [e3] at h; exact h.elim
      | some r =>
        rw [e3] at h
        refine ⟨c.dr, x.1, y.1, F1, F2, r, r1.fr fr2 d1 n1, r2, fun q => (List.mem_append.mp q).elim n1 n2, e3, fun z H' F sm rz ro => ?_⟩
        refine h z H' F ((fr1.trans fr2).trans (Fr.of_same sm)) (d2.same sm) rz ?_
        exact (a1.join a2 (fr1.back d1) fun a ha => r1.ne ha).res ((fr1.trans fr2).back d2) ro
theorem e_bin {op : Operator} {g : D → D → Option (D × Bool)} (ho : OpR X (binaryOp op) (rG X.K g)) (ha : ERep X W a f1) (hb : ERep X W b f2) : ERep X W (.BinOp a op b pos) (eB g f1 f2) :=
  PE.imp (pe_op ho ha hb) fun σ H Q h => bin_core rfl h
theorem e_cmp {op : CmpOp} {g : D → D → Option (D × Bool)} (ho : OpR X (compareOp op) (rG X.K g)) (ha : ERep X W a f1) (hb : ERep X W b f2) (hm : behindInMarks op b = false := by first | exact nobehind _ (by decide) (by decide) | rfl) : ERep X W (.Compare a [op] [b] pos) (eB g f1 f2) :=
  PE.imp (pe_cmpR ho ha hb hm) fun σ H Q h => bin_core rfl h
/-- x[i] -/
theorem e_ix {g : D → D → Option (D × Bool)} (ho : IxR X (rG X.K g)) (ha : ERep X W a f1) (hb : ERep X W b f2) (hs : PlainIx b := by exact fun _ _ => rfl) : ERep X W (.Subscript a b pos) (eB g f1 f2) :=
  PE.imp (pe_ix ho ha hb hs) fun σ H Q h => bin_core rfl h

/-! ### displays, arguments -/
theorem a_nil : ARep X W [] aNil := ⟨PA.imp pa_nil fun σ H Q ⟨c, env, s, Fs, g, h⟩ => h [] H [] Fr.refl g.draw .nil ⟨List.nodup_nil, fun _ h => nomatch h⟩, fun env s x s' h => by cases h; rfl⟩
theorem a_cons {es : List Expr} {r : A} (ha : ERep X W e f) (hr : ARep X W es r) (hs : starEach (e :: es) X.env = (false, eval e X.env) :: starEach es X.env := by rfl) : ARep X W (e :: es) (aCons f r) := by
  refine ⟨PA.imp (pa_cons ha hr.1 hs) fun σ H Q ⟨c, env, s, Fs, gd, h⟩ => ⟨c, env, s, Fs, gd, ?_⟩, fun env s x s' h => ?_⟩
  case refine_2 =>
    unfold aCons at h
    cases e1 : f env s with
    | bad => rw [e1] at h; cases h
    | exc x s1 => rw [e1] at h; cases h
    | ok y s1 =>
      rw [e1] at h
      simp only [R.bnd_ok] at h
      cases e2 : r env s1 with
      | bad => rw [e2] at h; cases h
      | exc x s1 => rw [e2] at h; cases h
      | ok z s2 =>
        rw [e2] at h
        cases h
        exact congrArg (· + 1) (hr.2 _ _ _ _ e2)
  unfold aCons at h
  cases e1 : f env s with
  | bad => rw [e1] at h; exact h.elim
  | exc x s1 => rw [e1] at h; exact h
  | ok x s1 =>
    rw [e1] at h
    intro v1 H1 F1 fr1 d1 r1 a1
    simp only [R.bnd_ok] at h
    refine ⟨c, env, s1, Fs, gd.fr fr1 d1, ?_⟩
    cases e2 : r env s1 with
    | bad => rw [e2] at h; exact h.elim
    | exc y s2 =>
      rw [e2] at h
      exact fun cls dc H' f' d' xo => h cls dc H' (fr1.trans f') d' xo
    | ok y s2 =>
      rw [e2] at h
      intro v2 H2 F2 fr2 d2 r2 a2
      simp only [R.bnd_ok] at h
      exact h (v1 :: v2) H2 (F1 ++ F2) (fr1.trans fr2) d2 (.cons (r1.fr fr2 d1 (a1.ndr gd)) r2) (a1.join a2 (fr1.back d1) fun a ha => r1.ne ha)
theorem Same.upd {H : Hp} {p : Addr} {o : HO} (h : H p = none) : Same H (upd H p o) := fun b x e => by
  rw [upd_ne (ne_of_none e h)]
  exact e
theorem Reps.line {K : PySem.W.Frag} {dr : Addr} {H : Hp} {vs : List V} {ds : List D} {F : List Addr} (r : Reps K dr H vs ds F) (h : ds.length ≤ LIM) : vs.length ≤ sizeLine := by
  rw [r.length, sizeLine_eq]
  exact Nat.le_trans h (by decide)
theorem e_tup {es : List Expr} {r : A} {x1 : Nat} (h : ARep X W es r) (hl : es.length ≤ LIM := by decide) : ERep X W (.Tuple es x1 pos) (eTup r) := by
  have h2 := h.2
  refine PE.imp (pe_tup h.1) fun σ H Q ⟨c, env, s, Fs, gd, h⟩ => ⟨c, env, s, Fs, gd, ?_⟩
  unfold eTup at h
  cases e1 : r env s with
  | bad => rw [e1] at h; exact h.elim
  | exc x s1 => rw [e1] at h; exact h
  | ok x s1 =>
    rw [e1] at h
    intro v1 H1 F1 fr1 d1 r1 a1
    have hL : x.1.length ≤ LIM := by rw [h2 _ _ _ _ e1]; exact hl
    refine ⟨r1.line hL, fun p hp => ?_⟩
    have sm : Same H1 (upd H1 p (.tup v1)) := Same.upd hp
    have rz : Rep X.K c.dr (upd H1 p (.tup v1)) (.ref p) (.tup x.1) F1 := .tup hL (.inl (.inl upd_same)) (r1.same sm)
    exact h (.ref p) _ F1 (fr1.trans (Fr.of_same sm)) (d1.same sm) rz (AlOk.norm rz a1)
theorem e_lst {es : List Expr} {r : A} (h : ARep X W es r) (hl : es.length ≤ LIM := by decide) : ERep X W (.List es pos) (eLst r) := by
  have h2 := h.2
  refine PE.imp (pe_lst h.1) fun σ H Q ⟨c, env, s, Fs, gd, h⟩ => ⟨c, env, s, Fs, gd, ?_⟩
  unfold eLst at h
  cases e1 : r env s with
  | bad => rw [e1] at h; exact h.elim
  | exc x s1 => rw [e1] at h; exact h
  | ok x s1 =>
    rw [e1] at h
    intro v1 H1 F1 fr1 d1 r1 a1
    have hL : x.1.length ≤ LIM := by rw [h2 _ _ _ _ e1]; exact hl
    refine ⟨r1.line hL, fun p hp => ?_⟩
    have sm : Same H1 (upd H1 p (.lst v1)) := Same.upd hp
    have rz : Rep X.K c.dr (upd H1 p (.lst v1)) (.ref p) (.lst x.1) (p :: F1) := .lst hL upd_same (r1.same sm)
    refine h (.ref p) _ (p :: F1) (fr1.trans (Fr.of_same sm)) (d1.same sm) rz ?_
    have hp0 : H p = none := fr1.back d1 p hp
    generalize x.2 = al at a1
    cases al with
    | none =>
      refine ⟨List.nodup_cons.mpr ⟨fun q => r1.ne q hp, a1.1⟩, fun a ha => ?_⟩
      rcases List.mem_cons.mp ha with rfl | ha
      · exact hp0
      · exact a1.2 a ha
    | some bs =>
      intro a ha
      rcases List.mem_cons.mp ha with rfl | ha
      · exact .inl hp0
      · exact a1 a ha
/-- arguments given to something by values -/
theorem args_core {g : List D → Option (D × Bool)} {fa : A} {r : List V → Hp → VK → Prop} (hr : r = rGL X.K g) {σ : L2.St} {H : Hp} {Q : VK} (h : tE X.K X.mg W (eFn g fa) σ H Q) :
    tA X.K X.mg W fa σ H fun vs H1 => r vs H1 Q := by
  subst hr
  obtain ⟨c, env, s, Fs, gd, h⟩ := h
  refine ⟨c, env, s, Fs, gd, ?_⟩
  unfold eFn at h
  cases e1 : fa env s with
  | bad => rw [e1] at h; exact h.elim
  | exc x s1 => rw [e1] at h; exact h
  | ok x s1 =>
    rw [e1] at h
    intro v1 H1 F1 fr1 d1 r1 a1
    simp only [R.bnd_ok] at h
    cases e2 : g x.1 with
    | none => rw [e2] at h; exact h.elim
    | some r =>
      rw [e2] at h
      refine ⟨c.dr, x.1, F1, r, r1, a1.ndr gd, e2, fun z H' F sm rz ro => ?_⟩
      exact h z H' F (fr1.trans (Fr.of_same sm)) (d1.same sm) rz (a1.res (fr1.back d1) ro)
theorem e_fnB {g : List D → Option (D × Bool)} {id : String} {x : Str} {es : List Expr} {fa : A} (hc : CallR X (.builtin id) (rGL X.K g)) (hg : Gl X x) (hm : X.mg x = none) (hv : bootBuiltins x = some (.builtin id)) (ha : ARep X W (e :: es) fa)
    (hn : x ≠ "__name__" := by decide) (hdb : (x == ("__debug__" : Str)) = false := by decide) (he : starEach (e :: es) X.env = (false, eval e X.env) :: starEach es X.env := by rfl) (hpl : (backTo pos (starEach es X.env)).any (·.1) = false := by rfl) :
    ERep X W (.Call (.Name x p) (e :: es) [] pos) (eFn g fa) :=
  PE.imp (pe_callB hc hg hm hv ha.1 hn hdb he hpl) fun σ H Q h => args_core rfl h
theorem e_fnT {g : List D → Option (D × Bool)} {id : String} {x : Str} {es : List Expr} {fa : A} (hc : CallR X (.type id) (rGL X.K g)) (hg : Gl X x) (hm : X.mg x = none) (hv : bootBuiltins x = some (.type id)) (ha : ARep X W (e :: es) fa)
    (hn : x ≠ "__name__" := by decide) (hdb : (x == ("__debug__" : Str)) = false := by decide) (he : starEach (e :: es) X.env = (false, eval e X.env) :: starEach es X.env := by rfl) (hpl : (backTo pos (starEach es X.env)).any (·.1) = false := by rfl) :
    ERep X W (.Call (.Name x p) (e :: es) [] pos) (eFn g fa) :=
  PE.imp (pe_callTy hc hg hm hv ha.1 hn hdb he hpl) fun σ H Q h => args_core rfl h

/-! ### defs -/
def PostF (K : PySem.W.Frag) (mg : Str → Option Value) (dr cl : Addr) (H : Hp) (F : List Addr) (r : RF) (Q : VK) (E : XK) : Prop :=
  match r with
  | .ok r s' => ∀ v H' G, Fr dr H H' → DrawOk dr cl H' s' → Rep K dr H' v r.1 G → ResOk H r.2 G F → Q v H'
  | .exc e s' => ∀ cls dc H', Fr dr H H' → DrawOk dr cl H' s' → ExOk mg e cls → E cls dc H'
  | .bad => False
/-- what a def promises: it does m -/
def spF (K : PySem.W.Frag) (mg : Str → Option Value) (n : Nat) (m : List D → DS → RF) : Sp := fun vs H Q E => vs.length = n ∧ ∃ dr cl s ds F, DrawOk dr cl H s ∧ Reps K dr H vs ds F ∧ dr ∉ F ∧ PostF K mg dr cl H F (m ds s) Q E
abbrev FnRep (P : Program) (w : World) (K : PySem.W.Frag) (mg : Str → Option Value) (base : Heap) (k : Nat) (f : Addr) (fd : FuncData) (ps : List Str) (m : List D → DS → RF) : Prop :=
  FnOk P w K mg base (L2.CX P w) k f fd ps (spF K mg ps.length m)
theorem FnRep.of_eq {P : Program} {w : World} {K : PySem.W.Frag} {mg : Str → Option Value} {base : Heap} {k : Nat} {f : Addr} {fd : FuncData} {ps : List Str} {m m' : List D → DS → RF} (F : FnRep P w K mg base k f fd ps m)
    (h : ∀ ds s, ds.length = ps.length → m' ds s ≠ .bad → m ds s = m' ds s) : FnRep P w K mg base k f fd ps m' :=
  FnOk.imp F fun vs H Q E ⟨hl, dr, cl, s, ds, G, d, r, n, q⟩ => ⟨hl, dr, cl, s, ds, G, d, r, n, by
    have e : m ds s = m' ds s := h ds s (by rw [← r.length, hl]) fun z => by rw [z] at q; exact q
    rw [e]
    exact q⟩
theorem e_call {k : Nat} {fa : Addr} {fd : FuncData} {ps : List Str} {m : List D → DS → RF} {x : Str} {es : List Expr} {r : A} (F : FnRep X.prog X.w X.K X.mg X.base k fa fd ps m) (hr : Room k X.A) (hg : Gl X x) (hm : X.mg x = some (.ref fa)) (hk : PySem.W.keepIn X.K (.ref fa) = true) (hb : Binds X.K fd ps [])
    (tk : Takes X W) (ha : ARep X W (e :: es) r) (hn : (e :: es).length = ps.length := by rfl) (hdb : (x == ("__debug__" : Str)) = false := by decide) (he : starEach (e :: es) X.env = (false, eval e X.env) :: starEach es X.env := by rfl) (hpl : (backTo pos (starEach es X.env)).any (·.1) = false := by rfl) :
    ERep X W (.Call (.Name x p) (e :: es) [] pos) (eCall m r) := by
  refine PE.imp (pe_callSD F hr hg hm hk hb .nil (fun σ => passAt tk σ) ha.1 hdb he hpl) fun σ H Q ⟨c, env, s, Fs, gd, h⟩ => ⟨c, env, s, Fs, gd, ?_⟩
  unfold eCall at h
  cases e1 : r env s with
  | bad => rw [e1] at h; exact h.elim
  | exc x s1 => rw [e1] at h; exact h
  | ok y s1 =>
    rw [e1] at h
    intro v1 H1 F1 fr1 d1 r1 a1
    simp only [R.bnd_ok] at h
    rw [List.append_nil]
    refine ⟨by rw [r1.length, ha.2 _ _ _ _ e1, hn], c.dr, c.cl, s1, y.1, F1, d1, r1, a1.ndr gd, ?_⟩
    cases e2 : m y.1 s1 with
    | bad => rw [e2] at h; exact h.elim
    | exc z s2 =>
      rw [e2] at h
      exact fun cls dc H' f' d' xo => h cls dc H' (fr1.trans f') d' xo
    | ok z s2 =>
      rw [e2] at h
      exact fun v H' G f' d' rz ro => h v H' G (fr1.trans f') d' rz (a1.res (fr1.back d1) ro)
theorem e_call0 {k : Nat} {fa : Addr} {fd : FuncData} {m : List D → DS → RF} {x : Str} (F : FnRep X.prog X.w X.K X.mg X.base k fa fd [] m) (hr : Room k X.A) (hg : Gl X x) (hm : X.mg x = some (.ref fa)) (hk : PySem.W.keepIn X.K (.ref fa) = true) (hb : Binds X.K fd [] [])
    (tk : Takes X W) (hdb : (x == ("__debug__" : Str)) = false := by decide) :
    ERep X W (.Call (.Name x p) [] [] pos) (eCall (fun ds s => noExc (m ds s)) aNil) := by
  refine PE.imp (pe_call0 (E := E0) F hr hg hm hk hb .nil passL hdb) fun σ H Q ⟨c, env, s, Fs, gd, h⟩ => ?_
  unfold eCall aNil at h
  simp only [R.bnd_ok] at h
  refine ⟨rfl, c.dr, c.cl, s, [], [], gd.draw, .nil, (fun z => nomatch z), ?_⟩
  cases e2 : m [] s with
  | bad => rw [e2] at h; exact h.elim
  | exc z s2 => rw [e2] at h; exact h.elim
  | ok z s2 =>
    rw [e2] at h
    refine fun v H' G f' d' rz ro => h v H' G f' d' rz ?_
    exact AlOk.res (al := none) (G := []) ⟨List.nodup_nil, fun _ h => nomatch h⟩ (fun _ q => q) ro

/-! ### tests -/
theorem tru_rep {dr : Addr} {H : Hp} {v : V} {d : D} {F : List Addr} {k : Bool} (r : Rep X.K dr H v d F) (e : truth d = some k) : TruV X.K v H k := by
  cases r with
  | non => exact (Option.some.inj e).symm
  | bl b => exact (Option.some.inj e).symm
  | int i => exact (Option.some.inj e).symm
  | str l hz =>
    refine ⟨?_, ?_⟩
    · rw [sizeLine_eq]
      exact Nat.le_trans (by simpa [Str.length] using hz) (by decide)
    · rw [← Option.some.inj e]
      cases l <;> simp [Str.length]
      omega
  | hdl => cases e
  | tup _ hs hr =>
    refine .inr (.inl ⟨_, hs, ?_⟩)
    rw [← Option.some.inj e]
    cases hr <;> rfl
  | lst _ hs hr =>
    refine .inl ⟨_, .inl (.inl hs), ?_⟩
    rw [← Option.some.inj e]
    cases hr <;> rfl
  | dic _ hs hr =>
    refine .inr (.inr ⟨_, hs, ?_⟩)
    rw [← Option.some.inj e]
    cases hr <;> rfl
end
end Sm
end
section
set_option Elab.async false
set_option linter.all false
set_option maxRecDepth 100000
set_option maxHeartbeats 4000000
/-! Sound3: tests, targets, what is walked, comprehensions. -/
namespace Sm
open PySem PySem.Spec L2

/-! ### tests -/
def WRep (X : Cx) (W : WX) (e : Expr) (f : T) : Prop := PW X e (tT X.K X.mg W f)
section
variable {X : Cx} {W : WX} {a b e c : Expr} {rest : List Expr} {pos p : Pos} {f f1 f2 f3 : E} {t u : T}
theorem Rep.bl_inv {K : PySem.W.Frag} {dr : Addr} {H : Hp} {v : V} {b : Bool} {F : List Addr} (r : Rep K dr H v (.bl b) F) : v = .bl b := by
  cases r
  rfl
theorem tB_core {σ : L2.St} {H : Hp} {Q : Bool → Hp → Prop} (h : tT X.K X.mg W (tB f) σ H Q) : tE X.K X.mg W f σ H fun x H' => ∃ k, x = .bl k ∧ Q k H' := by
  obtain ⟨c, env, s, Fs, gd, h⟩ := h
  refine ⟨c, env, s, Fs, gd, ?_⟩
  unfold tB at h
  cases e1 : f env s with
  | bad => rw [e1] at h; exact h.elim
  | exc x s1 => rw [e1] at h; exact h
  | ok x s1 =>
    rw [e1] at h
    obtain ⟨d, al⟩ := x
    simp only [R.bnd_ok] at h
    intro v1 H1 F1 fr1 d1 r1 a1
    cases d with
    | bl k => exact ⟨k, r1.bl_inv, h H1 fr1 d1⟩
    | _ => exact h.elim
theorem tV_core {σ : L2.St} {H : Hp} {Q : Bool → Hp → Prop} (h : tT X.K X.mg W (tV f) σ H Q) : tE X.K X.mg W f σ H fun x H' => ∃ k, TruV X.K x H' k ∧ Q k H' := by
  obtain ⟨c, env, s, Fs, gd, h⟩ := h
  refine ⟨c, env, s, Fs, gd, ?_⟩
  unfold tV at h
  cases e1 : f env s with
  | bad => rw [e1] at h; exact h.elim
  | exc x s1 => rw [e1] at h; exact h
  | ok x s1 =>
    rw [e1] at h
    simp only [R.bnd_ok] at h
    intro v1 H1 F1 fr1 d1 r1 a1
    cases e2 : truth x.1 with
    | none => rw [e2] at h; exact h.elim
    | some k =>
      rw [e2] at h
      exact ⟨k, tru_rep r1 e2, h H1 fr1 d1⟩
theorem t_val (h : ERep X W e f) (he : ∀ whole, isTrue e X.env whole = (do let v ← whole; standAt e.pos; holding [v] (truthy v)) := by exact fun _ => rfl) : TRep X W e (tV f) :=
  PT.imp (pt_truth h he) fun σ H Q h => tV_core h
theorem t_cmp {op : CmpOp} {g : D → D → Option (D × Bool)} (ho : OpR X (compareOp op) (rG X.K g)) (ha : ERep X W a f1) (hb : ERep X W b f2) (hm : behindInMarks op b = false := by first | exact nobehind _ (by decide) (by decide) | rfl) : TRep X W (.Compare a [op] [b] pos) (tB (eB g f1 f2)) :=
  PT.imp (pt_cmpR ho ha hb hm) fun σ H Q h => bin_core rfl (tB_core h)
theorem chain_core {r r' : R2} {g g' : D → D → Option (D × Bool)} (hr : r = rG X.K g) (hr' : r' = rG X.K g') {σ : L2.St} {H : Hp} {Q : VK} (h : tE X.K X.mg W (eCh g g' f1 f2 f3) σ H Q) :
    tChain r r' (tE X.K X.mg W f1) (tE X.K X.mg W f2) (tE X.K X.mg W f3) σ H Q := by
  subst hr
  subst hr'
  obtain ⟨c, env, s, Fs, gd, h⟩ := h
  refine ⟨c, env, s, Fs, gd, ?_⟩
  unfold eCh at h
  cases e1 : f1 env s with
  | bad => rw [e1] at h; exact h.elim
  | exc x s1 => rw [e1] at h; exact h
  | ok x s1 =>
    rw [e1] at h
    intro v1 H1 F1 fr1 d1 r1 a1
    simp only [R.bnd_ok] at h
    have gd1 := gd.fr fr1 d1
    refine ⟨c, env, s1, Fs, gd1, ?_⟩
    cases e2 : f2 env s1 with
    | bad => rw [e2] at h; exact h.elim
    | exc y s2 =>
      rw [e2] at h
      exact fun cls dc H' f' d' xo => h cls dc H' (fr1.trans f') d' xo
    | ok y s2 =>
      rw [e2] at h
      intro v2 H2 F2 fr2 d2 r2 a2
      simp only [R.bnd_ok] at h
      have n1 := a1.ndr gd
      have n2 := a2.ndr gd1
      cases e3 : g x.1 y.1 with
      | none => rw [e3] at h; exact h.elim
      | some r =>
        rw [e3] at h
        refine ⟨c.dr, x.1, y.1, F1, F2, r, r1.fr fr2 d1 n1, r2, fun q => (List.mem_append.mp q).elim n1 n2, e3, fun z H' F sm rz ro => ?_⟩
        obtain ⟨d, fr⟩ := r
        have F12 := (fr1.trans fr2).trans (Fr.of_same sm)
        have D2 := d2.same sm
        cases d with
        | bl k =>
          refine ⟨k, rz.bl_inv, ?_⟩
          cases k with
          | false => exact h (.bl false) H' [] F12 D2 (.bl false) ⟨List.nodup_nil, fun _ h => nomatch h⟩
          | true =>
            simp only [if_true]
            have gd3 : Good X.K c H' σ env s2 Fs := gd.fr F12 D2
            refine ⟨c, env, s2, Fs, gd3, ?_⟩
            simp only at h
            cases e4 : f3 env s2 with
            | bad => rw [e4] at h; exact h.elim
            | exc y s2 =>
              rw [e4] at h
              exact fun cls dc H' f' d' xo => h cls dc H' (F12.trans f') d' xo
            | ok w s3 =>
              rw [e4] at h
              simp only [R.bnd_ok] at h
              intro v3 H3 F3 fr3 d3 r3 a3
              cases e5 : g' y.1 w.1 with
              | none => rw [e5] at h; exact h.elim
              | some q =>
                obtain ⟨qd, qf⟩ := q
                rw [e5] at h
                cases qd with
                | bl k' =>
                  refine ⟨c.dr, y.1, w.1, F2, F3, _, (r2.same sm).fr fr3 D2 n2, r3, fun q => (List.mem_append.mp q).elim n2 (a3.ndr gd3), e5, fun z' H4 F4 sm4 rz4 ro4 => ?_⟩
                  rw [rz4.bl_inv]
                  exact h (.bl k') H4 [] ((F12.trans fr3).trans (Fr.of_same sm4)) (d3.same sm4) (.bl k') ⟨List.nodup_nil, fun _ h => nomatch h⟩
                | _ => exact h.elim
        | _ => exact h.elim
theorem e_chain {op op' : CmpOp} {g g' : D → D → Option (D × Bool)} (ho : OpR X (compareOp op) (rG X.K g)) (ho' : OpR X (compareOp op') (rG X.K g')) (ha : ERep X W a f1) (hb : ERep X W b f2) (hc : ERep X W c f3) (hm : lastMarks [op, op'] [b, c] = false := by rfl) : ERep X W (.Compare a [op, op'] [b, c] pos) (eCh g g' f1 f2 f3) :=
  PE.imp (pe_chain ho ho' ha hb hc hm) fun σ H Q h => chain_core rfl rfl h
theorem t_chain {op op' : CmpOp} {g g' : D → D → Option (D × Bool)} (ho : OpR X (compareOp op) (rG X.K g)) (ho' : OpR X (compareOp op') (rG X.K g')) (ha : ERep X W a f1) (hb : ERep X W b f2) (hc : ERep X W c f3) (hm : lastMarks [op, op'] [b, c] = false := by rfl) : TRep X W (.Compare a [op, op'] [b, c] pos) (tB (eCh g g' f1 f2 f3)) :=
  PT.imp (pt_chain ho ho' ha hb hc hm) fun σ H Q h => chain_core rfl rfl (tB_core h)
/-- two tests in a row -/
theorem and_core {σ : L2.St} {H : Hp} {Q : Bool → Hp → Prop} (h : tT X.K X.mg W (tAnd t u) σ H Q) : L2.tAnd (tT X.K X.mg W t) (tT X.K X.mg W u) σ H Q := by
  obtain ⟨c, env, s, Fs, gd, h⟩ := h
  refine ⟨c, env, s, Fs, gd, ?_⟩
  unfold tAnd at h
  cases e1 : t env s with
  | bad => rw [e1] at h; exact h.elim
  | exc x s1 => rw [e1] at h; exact h
  | ok k s1 =>
    rw [e1] at h
    simp only [R.bnd_ok] at h
    intro H1 fr1 d1
    cases k with
    | false => exact h H1 fr1 d1
    | true =>
      simp only [if_true] at h ⊢
      refine ⟨c, env, s1, Fs, gd.fr fr1 d1, ?_⟩
      cases e2 : u env s1 with
      | bad => rw [e2] at h; exact h.elim
      | exc y s2 =>
        rw [e2] at h
        exact fun cls dc H' f' d' xo => h cls dc H' (fr1.trans f') d' xo
      | ok y s2 =>
        rw [e2] at h
        exact fun H2 fr2 d2 => h H2 (fr1.trans fr2) d2
theorem or_core {σ : L2.St} {H : Hp} {Q : Bool → Hp → Prop} (h : tT X.K X.mg W (tOr t u) σ H Q) : L2.tOr (tT X.K X.mg W t) (tT X.K X.mg W u) σ H Q := by
  obtain ⟨c, env, s, Fs, gd, h⟩ := h
  refine ⟨c, env, s, Fs, gd, ?_⟩
  unfold tOr at h
  cases e1 : t env s with
  | bad => rw [e1] at h; exact h.elim
  | exc x s1 => rw [e1] at h; exact h
  | ok k s1 =>
    rw [e1] at h
    simp only [R.bnd_ok] at h
    intro H1 fr1 d1
    cases k with
    | true => exact h H1 fr1 d1
    | false =>
      simp only [Bool.false_eq_true, if_false] at h ⊢
      refine ⟨c, env, s1, Fs, gd.fr fr1 d1, ?_⟩
      cases e2 : u env s1 with
      | bad => rw [e2] at h; exact h.elim
      | exc y s2 =>
        rw [e2] at h
        exact fun cls dc H' f' d' xo => h cls dc H' (fr1.trans f') d' xo
      | ok y s2 =>
        rw [e2] at h
        exact fun H2 fr2 d2 => h H2 (fr1.trans fr2) d2
theorem w_and1 (ha : TRep X W a t) : WRep X W (.BoolOp .And [a] pos) t := pw_and1 ha
theorem w_or1 (ha : TRep X W a t) : WRep X W (.BoolOp .Or [a] pos) t := pw_or1 ha
theorem w_and (ha : TRep X W a t) (hb : WRep X W (.BoolOp .And (b :: rest) pos) u) : WRep X W (.BoolOp .And (a :: b :: rest) pos) (tAnd t u) := PW.imp (pw_and ha hb) fun _ _ _ h => and_core h
theorem w_or (ha : TRep X W a t) (hb : WRep X W (.BoolOp .Or (b :: rest) pos) u) : WRep X W (.BoolOp .Or (a :: b :: rest) pos) (tOr t u) := PW.imp (pw_or ha hb) fun _ _ _ h => or_core h
theorem t_bop {op : BoolOp} {es : List Expr} (h : WRep X W (.BoolOp op es pos) t) : TRep X W (.BoolOp op es pos) t := PW.pt h
theorem t_not (ha : TRep X W a t) : TRep X W (.UnaryOp .Not a pos) (tNot t) := by
  refine PT.imp (pt_not ha) fun σ H Q ⟨c, env, s, Fs, gd, h⟩ => ⟨c, env, s, Fs, gd, ?_⟩
  unfold tNot at h
  cases e1 : t env s with
  | bad => rw [e1] at h; exact h.elim
  | exc x s1 => rw [e1] at h; exact h
  | ok k s1 =>
    rw [e1] at h
    exact h
/-! .. as values -/
theorem e_one {op : BoolOp} (h : ERep X W a f) : ERep X W (.BoolOp op [a] pos) f := pe_one h
theorem e_and (ha : ERep X W a f1) (hb : ERep X W (.BoolOp .And (b :: rest) pos) f2) : ERep X W (.BoolOp .And (a :: b :: rest) pos) (eAnd f1 f2) := by
  refine PE.imp (pe_and ha hb) fun σ H Q ⟨c, env, s, Fs, gd, h⟩ => ⟨c, env, s, Fs, gd, ?_⟩
  unfold eAnd at h
  cases e1 : f1 env s with
  | bad => rw [e1] at h; exact h.elim
  | exc x s1 => rw [e1] at h; exact h
  | ok x s1 =>
    rw [e1] at h
    obtain ⟨d, al⟩ := x
    simp only [R.bnd_ok] at h
    intro v1 H1 F1 fr1 d1 r1 a1
    cases d with
    | bl k =>
      refine ⟨k, r1.bl_inv, ?_⟩
      cases k with
      | false => exact h _ H1 [] fr1 d1 (.bl false) ⟨List.nodup_nil, fun _ h => nomatch h⟩
      | true =>
        simp only [if_true]
        refine ⟨c, env, s1, Fs, gd.fr fr1 d1, ?_⟩
        simp only at h
        cases e2 : f2 env s1 with
        | bad => rw [e2] at h; exact h.elim
        | exc y s2 =>
          rw [e2] at h
          exact fun cls dc H' f' d' xo => h cls dc H' (fr1.trans f') d' xo
        | ok y s2 =>
          rw [e2] at h
          exact fun v2 H2 F2 fr2 d2 r2 a2 => h v2 H2 F2 (fr1.trans fr2) d2 r2 (a2.back (fr1.back d1))
    | _ => exact h.elim
theorem e_or (ha : ERep X W a f1) (hb : ERep X W (.BoolOp .Or (b :: rest) pos) f2) : ERep X W (.BoolOp .Or (a :: b :: rest) pos) (eOr f1 f2) := by
  refine PE.imp (pe_or ha hb) fun σ H Q ⟨c, env, s, Fs, gd, h⟩ => ⟨c, env, s, Fs, gd, ?_⟩
  unfold eOr at h
  cases e1 : f1 env s with
  | bad => rw [e1] at h; exact h.elim
  | exc x s1 => rw [e1] at h; exact h
  | ok x s1 =>
    rw [e1] at h
    obtain ⟨d, al⟩ := x
    simp only [R.bnd_ok] at h
    intro v1 H1 F1 fr1 d1 r1 a1
    cases d with
    | bl k =>
      refine ⟨k, r1.bl_inv, ?_⟩
      cases k with
      | true => exact h _ H1 [] fr1 d1 (.bl true) ⟨List.nodup_nil, fun _ h => nomatch h⟩
      | false =>
        simp only [Bool.false_eq_true, if_false]
        refine ⟨c, env, s1, Fs, gd.fr fr1 d1, ?_⟩
        simp only at h
        cases e2 : f2 env s1 with
        | bad => rw [e2] at h; exact h.elim
        | exc y s2 =>
          rw [e2] at h
          exact fun cls dc H' f' d' xo => h cls dc H' (fr1.trans f') d' xo
        | ok y s2 =>
          rw [e2] at h
          exact fun v2 H2 F2 fr2 d2 r2 a2 => h v2 H2 F2 (fr1.trans fr2) d2 r2 (a2.back (fr1.back d1))
    | _ => exact h.elim
theorem e_not (ha : ERep X W a f) : ERep X W (.UnaryOp .Not a pos) (eNot f) := by
  refine PE.imp (pe_not ha) fun σ H Q ⟨c, env, s, Fs, gd, h⟩ => ⟨c, env, s, Fs, gd, ?_⟩
  unfold eNot at h
  cases e1 : f env s with
  | bad => rw [e1] at h; exact h.elim
  | exc x s1 => rw [e1] at h; exact h
  | ok x s1 =>
    rw [e1] at h
    obtain ⟨d, al⟩ := x
    simp only [R.bnd_ok] at h
    intro v1 H1 F1 fr1 d1 r1 a1
    cases d with
    | bl k => exact ⟨k, r1.bl_inv, h _ H1 [] fr1 d1 (.bl _) ⟨List.nodup_nil, fun _ h => nomatch h⟩⟩
    | _ => exact h.elim
theorem e_if (hc : TRep X W c t) (ha : ERep X W a f1) (hb : ERep X W b f2) : ERep X W (.IfExp c a b pos) (eIf t f1 f2) := by
  refine PE.imp (pe_ifExp hc ha hb) fun σ H Q ⟨c, env, s, Fs, gd, h⟩ => ⟨c, env, s, Fs, gd, ?_⟩
  unfold eIf at h
  cases e1 : t env s with
  | bad => rw [e1] at h; exact h.elim
  | exc x s1 => rw [e1] at h; exact h
  | ok k s1 =>
    rw [e1] at h
    simp only [R.bnd_ok] at h
    intro H1 fr1 d1
    cases k with
    | true =>
      simp only [if_true] at h ⊢
      refine ⟨c, env, s1, Fs, gd.fr fr1 d1, ?_⟩
      cases e2 : f1 env s1 with
      | bad => rw [e2] at h; exact h.elim
      | exc y s2 =>
        rw [e2] at h
        exact fun cls dc H' f' d' xo => h cls dc H' (fr1.trans f') d' xo
      | ok y s2 =>
        rw [e2] at h
        exact fun v2 H2 F2 fr2 d2 r2 a2 => h v2 H2 F2 (fr1.trans fr2) d2 r2 (a2.back (fr1.back d1))
    | false =>
      simp only [Bool.false_eq_true, if_false] at h ⊢
      refine ⟨c, env, s1, Fs, gd.fr fr1 d1, ?_⟩
      cases e2 : f2 env s1 with
      | bad => rw [e2] at h; exact h.elim
      | exc y s2 =>
        rw [e2] at h
        exact fun cls dc H' f' d' xo => h cls dc H' (fr1.trans f') d' xo
      | ok y s2 =>
        rw [e2] at h
        exact fun v2 H2 F2 fr2 d2 r2 a2 => h v2 H2 F2 (fr1.trans fr2) d2 r2 (a2.back (fr1.back d1))
end

/-! ### environments -/
theorem getS_set_self : ∀ {env : Ev} {i : Nat} {x : Slot}, i < env.length → getS (setS env i x) i = x
  | _ :: _, 0, _, _ => rfl
  | _ :: r, i + 1, x, h => getS_set_self (env := r) (i := i) (x := x) (Nat.lt_of_succ_lt_succ h)
theorem getS_set_ne : ∀ {env : Ev} {i j : Nat} {x : Slot}, j ≠ i → getS (setS env i x) j = getS env j
  | [], _, _, _, _ => rfl
  | _ :: _, 0, 0, _, h => absurd rfl h
  | _ :: _, 0, j + 1, _, _ => rfl
  | _ :: _, i + 1, 0, _, _ => rfl
  | _ :: r, i + 1, j + 1, x, h => getS_set_ne (env := r) (i := i) (j := j) (x := x) fun e => h (congrArg (· + 1) e)
theorem setS_len : ∀ {env : Ev} {i : Nat} {x : Slot}, (setS env i x).length = env.length
  | [], _, _ => rfl
  | _ :: _, 0, _ => rfl
  | _ :: r, i + 1, x => congrArg (· + 1) (setS_len (env := r))
theorem setS_out : ∀ {env : Ev} {i : Nat} {x : Slot}, env.length ≤ i → setS env i x = env
  | [], _, _, _ => rfl
  | _ :: _, 0, _, h => absurd h (by simp)
  | y :: r, i + 1, x, h => congrArg (y :: ·) (setS_out (env := r) (Nat.le_of_succ_le_succ h))
theorem getS_lt : ∀ {env : Ev} {i : Nat} {x : Md × D}, getS env i = some x → i < env.length
  | [], _, _, h => nomatch h
  | _ :: _, 0, _, _ => Nat.succ_pos _
  | _ :: r, i + 1, _, h => Nat.succ_lt_succ (getS_lt (env := r) h)
theorem getS_frzAt {env : Ev} {i j : Nat} : getS (frzAt env i) j = if j = i then (getS env i).map fun x => (Md.frz, x.2) else getS env j := by
  unfold frzAt
  cases e : getS env i with
  | none =>
    by_cases h : j = i
    · rw [if_pos h, h, e]; rfl
    · rw [if_neg h]
  | some x =>
    obtain ⟨m, d⟩ := x
    by_cases h : j = i
    · rw [if_pos h, h]
      exact getS_set_self (getS_lt e)
    · rw [if_neg h]
      exact getS_set_ne h
theorem frzAt_len {env : Ev} {i : Nat} : (frzAt env i).length = env.length := by
  unfold frzAt
  cases getS env i with
  | none => rfl
  | some x => exact setS_len
theorem freeze_len : ∀ {bs : List Nat} {env : Ev}, (freeze bs env).length = env.length
  | [], _ => rfl
  | b :: bs, env => (freeze_len (bs := bs)).trans frzAt_len
/-- what a slot holds stays; own only where it was and is not of those that are frozen -/
theorem getS_freeze : ∀ {bs : List Nat} {env : Ev} {j : Nat}, (getS (freeze bs env) j).map (·.2) = (getS env j).map (·.2) ∧ ∀ d, getS (freeze bs env) j = some (.own, d) → getS env j = some (.own, d) ∧ j ∉ bs
  | [], _, _ => ⟨rfl, fun d h => ⟨h, fun z => nomatch z⟩⟩
  | b :: bs, env, j => by
    obtain ⟨h1, h2⟩ := getS_freeze (bs := bs) (env := frzAt env b) (j := j)
    show (getS (freeze bs (frzAt env b)) j).map (·.2) = _ ∧ ∀ d, getS (freeze bs (frzAt env b)) j = some (.own, d) → _
    rw [getS_frzAt] at h1
    refine ⟨?_, fun d h => ?_⟩
    · rw [h1]
      by_cases e : j = b
      · rw [if_pos e, e]
        cases getS env b <;> rfl
      · rw [if_neg e]
    · obtain ⟨q1, q2⟩ := h2 d h
      rw [getS_frzAt] at q1
      by_cases e : j = b
      · rw [if_pos e] at q1
        cases z : getS env b with
        | none => rw [z] at q1; cases q1
        | some x => rw [z] at q1; cases q1
      · rw [if_neg e] at q1
        exact ⟨q1, fun z => (List.mem_cons.mp z).elim e q2⟩
theorem map2_some {o o' : Slot} {m : Md} {d : D} (h : o.map (·.2) = o'.map (·.2)) (e : o = some (m, d)) : ∃ m', o' = some (m', d) := by
  subst e
  cases o' with
  | none => cases h
  | some x =>
    obtain ⟨m', d'⟩ := x
    simp at h
    exact ⟨m', by rw [h]⟩
theorem map2_none {o o' : Slot} (h : o.map (·.2) = o'.map (·.2)) (e : o = none) : o' = none := by
  subst e
  cases o' with
  | none => rfl
  | some x => cases h
theorem Good.freeze {K : PySem.W.Frag} {c : C} {H : Hp} {σ : L2.St} {env : Ev} {s : DS} {Fs : Nat → List Addr} (g : Good K c H σ env s Fs) (bs : List Nat) : Good K c H σ (freeze bs env) s Fs where
  pres := g.pres
  draw := g.draw
  drw0 := g.drw0
  len := by rw [freeze_len]; exact g.len
  slot := fun i m d e => by
    obtain ⟨m', e'⟩ := map2_some (getS_freeze (bs := bs) (env := env) (j := i)).1 e
    exact g.slot i m' d e'
  off := fun i e => g.off i (map2_none (getS_freeze (bs := bs) (env := env) (j := i)).1 e)
  own := fun i d e => g.own i d ((getS_freeze (bs := bs) (env := env) (j := i)).2 d e).1
  zed := g.zed
  ndr := g.ndr

/-! ### targets -/
structure BindOk (c : C) (env : Ev) (Fs : Nat → List Addr) (m : Md) (F : List Addr) : Prop where
  own : m = .own → F.Nodup ∧ (∀ a ∈ F, c.H0 a = none) ∧ ∀ j, ∀ a ∈ F, a ∉ Fs j
  oth : ∀ j d, getS env j = some (.own, d) → ∀ a ∈ Fs j, a ∉ F
  zed : ∀ a ∈ F, c.H0 a = none ∨ c.Z a
  ndr : c.dr ∉ F
/-- behind a store into the slots is -/
def Bound (K : PySem.W.Frag) (c : C) (H : Hp) (σ : L2.St) (s : DS) (Fs : Nat → List Addr) (is : List Nat) (m : Md) (F : List Addr) (env' : Ev) (Q : L2.St → Hp → Prop) : Prop :=
  ∀ σ' Fs', Good K c H σ' env' s Fs' → (∀ i, i ∉ is → σ'[i]? = σ[i]?) → σ'.length = σ.length → (∀ i, i ∉ is → Fs' i = Fs i) → (∀ i, i ∈ is → ∀ a ∈ Fs' i, a ∈ F) →
    (∀ i, i ∈ is → ∀ d, getS env' i = some (.own, d) → m = .own ∨ Fs' i = []) → Q σ' H
def tG (K : PySem.W.Frag) (is : List Nat) (b : B) : TG := fun v σ H Q => ∃ c env s Fs d m F, Good K c H σ env s Fs ∧ Rep K c.dr H v d F ∧ BindOk c env Fs m F ∧
  match b d m env with
  | none => False
  | some env' => Bound K c H σ s Fs is m F env' Q
def tGs (K : PySem.W.Frag) (is : List Nat) (bs : List B) : TGs := fun v σ H Q => ∃ c env s Fs d m F, Good K c H σ env s Fs ∧ Reps K c.dr H v d F ∧ BindOk c env Fs m F ∧
  match bTupL bs d m env with
  | none => False
  | some env' => Bound K c H σ s Fs is m F env' Q
def GRep (X : Cx) (tg : Expr) (is : List Nat) (b : B) : Prop := PG X tg (tG X.K is b) ∧ ∀ d m env env', b d m env = some env' → ∀ j, j ∉ is → getS env' j = getS env j
def GsRep (X : Cx) (tg : List Expr) (is : List Nat) (bs : List B) : Prop := PGs X tg (tGs X.K is bs) ∧ ∀ d m env env', bTupL bs d m env = some env' → ∀ j, j ∉ is → getS env' j = getS env j
theorem PG.imp {X : Cx} {e : Expr} {t t' : TG} (h : PG X e t) (k : ∀ v σ H Q, t' v σ H Q → t v σ H Q) : PG X e t' := ⟨fun pins s σ H v u Q I r q => h.run pins s σ H v u Q I r (k v σ H Q q)⟩
theorem PGs.imp {X : Cx} {e : List Expr} {t t' : TGs} (h : PGs X e t) (k : ∀ v σ H Q, t' v σ H Q → t v σ H Q) : PGs X e t' := ⟨fun pins s σ H v u Q I r q => h.run pins s σ H v u Q I r (k v σ H Q q)⟩
theorem bind_name {K : PySem.W.Frag} {c : C} {H : Hp} {σ : L2.St} {env : Ev} {s : DS} {Fs : Nat → List Addr} {v : V} {d : D} {m : Md} {F : List Addr} (i : Nat) (g : Good K c H σ env s Fs) (r : Rep K c.dr H v d F) (bo : BindOk c env Fs m F) {Q : L2.St → Hp → Prop}
    (h : Bound K c H σ s Fs [i] m F (setS env i (some (if lf d then .own else m, d))) Q) : Q (σ.set i (some v)) H := by
  by_cases hi : i < env.length
  · have hiσ : i < σ.length := g.len ▸ hi
    have oth : ∀ j, j ≠ i → getS (setS env i (some (if lf d then .own else m, d))) j = getS env j := fun j e => getS_set_ne e
    have slf : getS (setS env i (some (if lf d then .own else m, d))) i = some (if lf d then .own else m, d) := getS_set_self hi
    refine h (σ.set i (some v)) (fun j => if j = i then F else Fs j) ?_ (fun j hj => ?_) (by rw [List.length_set]) (fun j hj => ?_) (fun j hj a ha => ?_) (fun j hj d' e => ?_)
    · refine ⟨g.pres, g.draw, g.drw0, by rw [setS_len, List.length_set]; exact g.len, fun j m' d' e => ?_, fun j e => ?_, fun j d' e => ?_, fun j a ha => ?_, fun j ha => ?_⟩
      · by_cases ej : j = i
        · subst ej
          rw [slf] at e
          cases e
          simp only [if_true]
          exact ⟨v, List.getElem?_set_self hiσ, r⟩
        · rw [oth j ej] at e
          simp only [if_neg ej]
          obtain ⟨w, e1, rw'⟩ := g.slot j m' d' e
          exact ⟨w, by rw [List.getElem?_set_ne (Ne.symm ej)]; exact e1, rw'⟩
      · by_cases ej : j = i
        · subst ej
          rw [slf] at e
          cases e
        · rw [oth j ej] at e
          simp only [if_neg ej]
          exact g.off j e
      · by_cases ej : j = i
        · subst ej
          rw [slf] at e
          simp only [if_true]
          by_cases hl : lf d = true
          · rw [r.lf hl]
            exact ⟨List.nodup_nil, (fun _ z => by cases z), (fun _ _ _ z => by cases z)⟩
          · rw [if_neg hl] at e
            cases e
            obtain ⟨o1, o2, o3⟩ := bo.own rfl
            refine ⟨o1, o2, fun k hk a ha => ?_⟩
            rw [if_neg hk]
            exact o3 k a ha
        · rw [oth j ej] at e
          simp only [if_neg ej]
          obtain ⟨o1, o2, o3⟩ := g.own j d' e
          refine ⟨o1, o2, fun k hk a ha => ?_⟩
          by_cases ek : k = i
          · rw [if_pos ek]
            exact bo.oth j d' e a ha
          · rw [if_neg ek]
            exact o3 k hk a ha
      · by_cases ej : j = i
        · rw [if_pos ej] at ha
          exact bo.zed a ha
        · rw [if_neg ej] at ha
          exact g.zed j a ha
      · by_cases ej : j = i
        · rw [if_pos ej] at ha
          exact bo.ndr ha
        · rw [if_neg ej] at ha
          exact g.ndr j ha
    · have : i ≠ j := fun e => hj (by simp [e])
      exact List.getElem?_set_ne this
    · have : j ≠ i := fun e => hj (by simp [e])
      simp only [if_neg this]
    · have : j = i := by simpa using hj
      subst this
      simpa using ha
    · have : j = i := by simpa using hj
      subst this
      rw [slf] at e
      simp only [if_true]
      by_cases hl : lf d = true
      · exact .inr (r.lf hl)
      · rw [if_neg hl] at e
        cases e
        exact .inl rfl
  · have hle : env.length ≤ i := Nat.le_of_not_lt hi
    have e1 : setS env i (some (if lf d then .own else m, d)) = env := setS_out hle
    have e2 : σ.set i (some v) = σ := List.set_eq_of_length_le (by rw [← g.len]; exact hle)
    have gn : getS env i = none := by
      cases e : getS env i with
      | none => rfl
      | some x => exact absurd (getS_lt e) hi
    rw [e1] at h
    rw [e2]
    refine h σ Fs g (fun _ _ => rfl) rfl (fun _ _ => rfl) (fun j hj a ha => ?_) (fun j hj d' e => ?_)
    · have : j = i := by simpa using hj
      subst this
      rw [g.off j gn] at ha
      cases ha
    · have : j = i := by simpa using hj
      subst this
      rw [gn] at e
      cases e
section
variable {X : Cx} {W : WX} {pos p : Pos} {e : Expr} {es : List Expr}
theorem g_name {i : Nat} {x : Str} (hN : X.N.Nodup) (hi : X.N[i]? = some x) (hx : Loc X.env.scope x) (hf : X.fn x = true ∨ X.env.scope.names.lookup x = some .local := by first | exact .inl rfl | exact .inr rfl | assumption) : GRep X (.Name x pos) [i] (bName i) := by
  refine ⟨PG.imp (pg_name hN hi hx hf) fun v σ H Q ⟨c, env, s, Fs, d, m, F, g, r, bo, h⟩ => bind_name i g r bo h, fun d m env env' h j hj => ?_⟩
  cases h
  exact getS_set_ne fun e => hj (by simp [e])
theorem gs_nil : GsRep X [] [] [] := by
  refine ⟨PGs.imp pgs_nil fun v σ H Q ⟨c, env, s, Fs, d, m, F, g, r, bo, h⟩ => ?_, fun d m env env' h j hj => ?_⟩
  · cases r with
    | nil => exact ⟨rfl, h σ Fs g (fun _ _ => rfl) rfl (fun _ _ => rfl) (fun _ z => nomatch z) (fun _ z => nomatch z)⟩
    | cons _ _ => exact h.elim
  · cases d with
    | nil => cases h; rfl
    | cons _ _ => cases h
theorem gs_cons {is1 is2 : List Nat} {b : B} {bs : List B} (h1 : GRep X e is1 b) (h2 : GsRep X es is2 bs) (hs : (assignEach (e :: es) X.env).map (·.2) = assign e X.env :: (assignEach es X.env).map (·.2) := by rfl) : GsRep X (e :: es) (is1 ++ is2) (b :: bs) := by
  obtain ⟨h1, k1⟩ := h1
  obtain ⟨h2, k2⟩ := h2
  refine ⟨PGs.imp (pgs_cons h1 h2 hs) fun v σ H Q ⟨c, env, s, Fs, d, m, F, g, r, bo, h⟩ => ?_, fun d m env env' h j hj => ?_⟩
  · cases r with
    | nil => exact h.elim
    | @cons v1 d1 F1 vs ds F2 r1 r2 =>
      refine ⟨v1, vs, rfl, c, env, s, Fs, d1, m, F1, g, r1, ⟨fun e => ?_, fun j d e a ha z => bo.oth j d e a ha (List.mem_append_left _ z), fun a ha => bo.zed a (List.mem_append_left _ ha), fun z => bo.ndr (List.mem_append_left _ z)⟩, ?_⟩
      · obtain ⟨o1, o2, o3⟩ := bo.own e
        exact ⟨(List.nodup_append.mp o1).1, fun a ha => o2 a (List.mem_append_left _ ha), fun j a ha => o3 j a (List.mem_append_left _ ha)⟩
      · simp only [bTupL] at h
        cases e1 : b d1 m env with
        | none => rw [e1] at h; exact h.elim
        | some env1 =>
          rw [e1] at h
          dsimp only at h
          intro σ1 Fs1 g1 a1 a2 a3 a4 a5
          refine ⟨c, env1, s, Fs1, ds, m, F2, g1, r2, ⟨fun e => ?_, fun j d e a ha z => ?_, fun a ha => bo.zed a (List.mem_append_right _ ha), fun z => bo.ndr (List.mem_append_right _ z)⟩, ?_⟩
          · obtain ⟨o1, o2, o3⟩ := bo.own e
            refine ⟨(List.nodup_append.mp o1).2.1, fun a ha => o2 a (List.mem_append_right _ ha), fun j a ha z => ?_⟩
            by_cases hj : j ∈ is1
            · exact (List.nodup_append.mp o1).2.2 a (a4 j hj a z) a ha rfl
            · rw [a3 j hj] at z
              exact o3 j a (List.mem_append_right _ ha) z
          · by_cases hj : j ∈ is1
            · rcases a5 j hj d e with q | q
              · exact (List.nodup_append.mp (bo.own q).1).2.2 a (a4 j hj a ha) a z rfl
              · rw [q] at ha; cases ha
            · rw [a3 j hj] at ha
              rw [k1 _ _ _ _ e1 j hj] at e
              exact bo.oth j d e a ha (List.mem_append_right _ z)
          · cases e2 : bTupL bs ds m env1 with
            | none => rw [e2] at h; exact h.elim
            | some env2 =>
              rw [e2] at h
              intro σ2 Fs2 g2 b1 b2 b3 b4 b5
              refine h σ2 Fs2 g2 (fun i hi => ?_) (b2.trans a2) (fun i hi => ?_) (fun i hi a ha => ?_) (fun i hi d e => ?_)
              · have hi' := fun z => hi (List.mem_append.mpr z)
                exact (b1 i fun z => hi' (.inr z)).trans (a1 i fun z => hi' (.inl z))
              · have hi' := fun z => hi (List.mem_append.mpr z)
                exact (b3 i fun z => hi' (.inr z)).trans (a3 i fun z => hi' (.inl z))
              · by_cases q : i ∈ is2
                · exact List.mem_append_right _ (b4 i q a ha)
                · rw [b3 i q] at ha
                  exact List.mem_append_left _ (a4 i ((List.mem_append.mp hi).resolve_right q) a ha)
              · by_cases q : i ∈ is2
                · exact b5 i q d e
                · rw [b3 i q]
                  rw [k2 _ _ _ _ e2 i q] at e
                  exact a5 i ((List.mem_append.mp hi).resolve_right q) d e
  · cases d with
    | nil => cases h
    | cons d1 ds =>
      simp only [bTupL] at h
      cases e1 : b d1 m env with
      | none => rw [e1] at h; cases h
      | some env1 =>
        rw [e1] at h
        have hj' := fun z => hj (List.mem_append.mpr z)
        exact (k2 _ _ _ _ h j fun z => hj' (.inr z)).trans (k1 _ _ _ _ e1 j fun z => hj' (.inl z))
theorem g_tup {is : List Nat} {bs : List B} {k n : Nat} (hc : X.calm = true) (h : GsRep X es is bs) (hn : (assignEach es X.env).length = n := by rfl) (hst : (assignEach es X.env).findIdx? (·.1) = none := by rfl) (hbl : bs.length = n := by rfl) : GRep X (.Tuple es k pos) is (bTup bs) := by
  obtain ⟨h, k1⟩ := h
  refine ⟨PG.imp (pg_tup hc h hn hst) fun v σ H Q ⟨c, env, s, Fs, d, m, F, g, r, bo, q⟩ => ?_, fun d m env env' h j hj => ?_⟩
  · cases d with
    | tup ds =>
      cases r with
      | tup hz hs hr =>
        refine ⟨_, _, rfl, hs, ?_, c, env, s, Fs, ds, m, F, g, hr, bo, q⟩
        rw [hr.length, ← hbl]
        have : ∀ (bs : List B) (ds : List D) (m : Md) (env : Ev), bTupL bs ds m env ≠ none → ds.length = bs.length := by
          intro bs
          induction bs with
          | nil =>
            intro ds m env z
            cases ds with
            | nil => rfl
            | cons _ _ => exact absurd rfl z
          | cons b bs ih =>
            intro ds m env z
            cases ds with
            | nil => exact absurd rfl z
            | cons d ds =>
              simp only [bTupL] at z
              cases e1 : b d m env with
              | none => rw [e1] at z; exact absurd rfl z
              | some env1 =>
                rw [e1] at z
                exact congrArg (· + 1) (ih ds m env1 z)
        refine this bs ds m env fun z => ?_
        simp only [bTup] at q
        rw [z] at q
        exact q
    | _ => exact q.elim
  · cases d with
    | tup ds => exact k1 ds m env env' h j hj
    | _ => cases h
end
end Sm
end
section
set_option Elab.async false
set_option linter.all false
set_option maxRecDepth 100000
set_option maxHeartbeats 4000000
/-! Sound4: what is walked; comprehensions. -/
namespace Sm
open PySem PySem.Spec L2 RZ RT

/-- the turns of J are the items ds, as long as the tuples and what stands at F are kept -/
def WalkOk (K : PySem.W.Frag) (dr : Addr) (J : It) (ds : List D) (H1 : Hp) (F : List Addr) : Prop :=
  ds.length ≤ LIM ∧ (∀ a ∈ F, H1 a ≠ none) ∧ ∀ H2, Imm H1 H2 → (∀ a ∈ F, H2 a = H1 a) → (∀ i, i < ds.length → J.go i H2) ∧ J.stop ds.length H2 ∧
    ∀ i d x H3, ds[i]? = some d → J.yld i H2 x H3 → Same H2 H3 ∧ ∃ G, Rep K dr H3 x d G ∧ ∀ a ∈ G, a ∈ F
def PostI (K : PySem.W.Frag) (mg : Str → Option Value) (W : WX) (c : C) (σ : L2.St) (H : Hp) (Fs : Nat → List Addr) (r : R (List D × Al)) (Q : It → Hp → Prop) : Prop :=
  match r with
  | .ok x s' => ∀ J H1 F, Fr c.dr H H1 → DrawOk c.dr c.cl H1 s' → AlOk H Fs x.2 F → WalkOk K c.dr J x.1 H1 F → Q J H1
  | .exc e s' => ∀ cls dc H', Fr c.dr H H' → DrawOk c.dr c.cl H' s' → ExOk mg e cls → W cls dc σ H'
  | .bad => False
def tI (K : PySem.W.Frag) (mg : Str → Option Value) (W : WX) (f : I) : TI := fun σ H Q => ∃ c env s Fs, Good K c H σ env s Fs ∧ PostI K mg W c σ H Fs (f env s) Q
def IRep (X : Cx) (W : WX) (tg e : Expr) (f : I) : Prop := PI X tg e (tI X.K X.mg W f)
theorem PI.imp {X : Cx} {tg e : Expr} {t t' : TI} (h : PI X tg e t) (k : ∀ σ H Q, t' σ H Q → t σ H Q) : PI X tg e t' := ⟨fun pins s σ H Q I q => h.run pins s σ H Q I (k σ H Q q)⟩

/-- a list or a tuple at a -/
def Itq (K : PySem.W.Frag) (a : Addr) (l : Bool) : It := if l then Itl K a else Itt K a
theorem walk_list {K : PySem.W.Frag} {dr : Addr} {H : Hp} {a : Addr} {vs : List V} {ds : List D} {F : List Addr} (hz : ds.length ≤ LIM) (h : H a = some (.lst vs)) (r : Reps K dr H vs ds F) : WalkOk K dr (Itl K a) ds H (a :: F) := by
  refine ⟨hz, fun b hb => ?_, fun H2 m e => ?_⟩
  · rcases List.mem_cons.mp hb with rfl | hb
    · rw [h]; intro q; cases q
    · exact r.ne hb
  · have h2 : H2 a = some (.lst vs) := (e a List.mem_cons_self).trans h
    have r2 : Reps K dr H2 vs ds F := r.mono m fun b hb => e b (List.mem_cons_of_mem _ hb)
    have sq : SqL K H2 a vs := .inl (.inl h2)
    refine ⟨fun i hi => ⟨vs, vs[i]'(by rw [r.length]; exact hi), sq, List.getElem?_eq_getElem _⟩, ⟨vs, sq, by rw [r.length]; exact Nat.le_refl _⟩, fun i d x H3 e1 hy => ?_⟩
    obtain ⟨rfl, hx⟩ := hy
    obtain ⟨v, G, e2, rv, mG⟩ := r2.get e1
    have : x = v := Option.some.inj ((hx vs sq).symm.trans e2)
    subst this
    exact ⟨fun _ _ h => h, G, rv, fun b hb => List.mem_cons_of_mem _ (mG b hb)⟩
theorem walk_tup {K : PySem.W.Frag} {dr : Addr} {H : Hp} {a : Addr} {vs : List V} {ds : List D} {F : List Addr} (hz : ds.length ≤ LIM) (h : SqT K H a vs) (r : Reps K dr H vs ds F) : WalkOk K dr (Itt K a) ds H F := by
  refine ⟨hz, fun b hb => r.ne hb, fun H2 m e => ?_⟩
  have r2 : Reps K dr H2 vs ds F := r.mono m e
  have sq : SqT K H2 a vs := SqT.imm h m
  refine ⟨fun i hi => ⟨vs, vs[i]'(by rw [r.length]; exact hi), sq, List.getElem?_eq_getElem _⟩, ⟨vs, sq, by rw [r.length]; exact Nat.le_refl _⟩, fun i d x H3 e1 hy => ?_⟩
  obtain ⟨rfl, hx⟩ := hy
  obtain ⟨v, G, e2, rv, mG⟩ := r2.get e1
  have : x = v := Option.some.inj ((hx vs sq).symm.trans e2)
  subst this
  exact ⟨fun _ _ h => h, G, rv, mG⟩
section
variable {X : Cx} {W : WX} {tg e a b : Expr} {pos p : Pos} {f : E} {fa : A}
theorem i_seq (he : ERep X W e f) : IRep X W tg e (iSeq f) := by
  refine ⟨fun pins s σ H Rx I h => ?_⟩
  obtain ⟨c, env, sd, Fs, gd, h⟩ := h
  let Q : VK := fun v H1 => (∃ a, v = .ref a ∧ (∃ xs, SqL X.K H1 a xs) ∧ Rx (Itl X.K a) H1) ∨ (∃ a, v = .ref a ∧ (∃ xs, SqT X.K H1 a xs) ∧ Rx (Itt X.K a) H1)
  have pre : tE X.K X.mg W f σ H Q := by
    refine ⟨c, env, sd, Fs, gd, ?_⟩
    unfold iSeq at h
    cases e1 : f env sd with
    | bad => rw [e1] at h; exact h.elim
    | exc x s1 => rw [e1] at h; exact h
    | ok x s1 =>
      rw [e1] at h
      obtain ⟨d, al⟩ := x
      simp only [R.bnd_ok] at h
      intro v1 H1 F1 fr1 d1 r1 a1
      cases r1 with
      | lst hz hl hr => exact .inl ⟨_, rfl, ⟨_, .inl (.inl hl)⟩, h _ H1 _ fr1 d1 a1 (walk_list hz hl hr)⟩
      | tup hz hs hr => exact .inr ⟨_, rfl, ⟨_, hs⟩, h _ H1 _ fr1 d1 a1 (walk_tup hz hs hr)⟩
      | _ => exact h.elim
  refine thn (he.run pins s σ H Q I pre) fun v s1 ⟨x, H1, I1, r1, q1⟩ => ?_
  rcases q1 with ⟨l, rfl, ⟨xs, hq⟩, q⟩ | ⟨l, rfl, ⟨xs, hq⟩, q⟩
  · cases r1
    obtain ⟨its, rv, p, hz⟩ := I1.list hq
    refine wpAny_pyIter_list p.isList ?_
    have n0 := I1.hok.fresh (Nat.le_refl s1.heap.objs.size)
    refine ⟨_, [s1.heap.objs.size], _, _, H1, rfl, I1.kept (t' := s1.toks) (fun b o e => Heap.get?_push_of_some _ e), turn_list l _, ⟨_, Heap.get?_push_size _ rfl, rfl, rfl⟩, fun b hb => ?_, q⟩
    obtain rfl := List.mem_singleton.mp hb
    exact I1.fpOk (Nat.le_refl _) n0
  · cases r1
    obtain ⟨its, rv, p, hz⟩ := I1.tuple hq
    have it : s1.heap.IsTuple l its.toArray := p
    refine wpAny_pyIter_tuple it ?_
    have n0 := I1.hok.fresh (Nat.le_refl s1.heap.objs.size)
    refine ⟨_, [s1.heap.objs.size], _, _, H1, rfl, I1.kept (t' := s1.toks) (fun b o e => Heap.get?_push_of_some _ e), turn_tuple l _, ⟨_, Heap.get?_push_size _ rfl, rfl, rfl⟩, fun b hb => ?_, q⟩
    obtain rfl := List.mem_singleton.mp hb
    exact I1.fpOk (Nat.le_refl _) n0
/-! range -/
theorem intL_len (lo : Int) (n : Nat) : (intL lo n).length = n := by simp [intL]
theorem intL_get {lo : Int} {n i : Nat} {d : D} (h : (intL lo n)[i]? = some d) : i < n ∧ d = .int (lo + i) := by
  unfold intL at h
  rw [List.getElem?_map] at h
  cases e : (List.range n)[i]? with
  | none => rw [e] at h; cases h
  | some j =>
    rw [e] at h
    obtain ⟨h1, h2⟩ := List.getElem?_eq_some_iff.mp e
    rw [List.getElem_range] at h2
    cases h
    rw [List.length_range] at h1
    exact ⟨h1, by rw [h2]⟩
theorem walk_range {K : PySem.W.Frag} {dr : Addr} {H : Hp} (lo : Int) (n : Nat) (hz : n ≤ LIM) : WalkOk K dr (Itr lo n) (intL lo n) H [] := by
  refine ⟨by rw [intL_len]; exact hz, (fun _ h => nomatch h), fun H2 m e => ⟨fun i hi => ?_, ?_, fun i d x H3 e1 hy => ?_⟩⟩
  · rw [intL_len] at hi
    exact hi
  · show n ≤ (intL lo n).length
    rw [intL_len]
    exact Nat.le_refl _
  · obtain ⟨rfl, hx⟩ := hy
    obtain ⟨_, rfl⟩ := intL_get e1
    rw [hx]
    exact ⟨fun _ _ h => h, [], .int _, fun _ h => nomatch h⟩
theorem Reps.int1 {K : PySem.W.Frag} {dr : Addr} {H : Hp} {vs : List V} {j : Int} {F : List Addr} (r : Reps K dr H vs [.int j] F) : vs = [.int j] ∧ F = [] := by
  cases r with
  | cons r1 r2 =>
    cases r1
    cases r2
    exact ⟨rfl, rfl⟩
theorem Reps.int2 {K : PySem.W.Frag} {dr : Addr} {H : Hp} {vs : List V} {i j : Int} {F : List Addr} (r : Reps K dr H vs [.int i, .int j] F) : vs = [.int i, .int j] ∧ F = [] := by
  cases r with
  | cons r1 r2 =>
    cases r1
    obtain ⟨rfl, rfl⟩ := r2.int1
    exact ⟨rfl, rfl⟩
theorem AlOk.nil {H : Hp} {Fs : Nat → List Addr} {al : Al} : AlOk H Fs al [] := by
  cases al with
  | none => exact ⟨List.nodup_nil, fun _ h => nomatch h⟩
  | some bs => exact fun _ h => nomatch h
theorem i_range1 (hg : Gl X "range") (hm : X.mg "range" = none) (ha : ARep X W [a] fa) (hs : starEach [a] X.env = [(false, eval a X.env)] := by rfl) : IRep X W tg (.Call (.Name "range" p) [a] [] pos) (iRange1 fa) := by
  refine PI.imp (pi_range1 hg hm ha.1 hs) fun σ H Q ⟨c, env, s, Fs, gd, h⟩ => ⟨c, env, s, Fs, gd, ?_⟩
  unfold iRange1 at h
  cases e1 : fa env s with
  | bad => rw [e1] at h; exact h.elim
  | exc x s1 => rw [e1] at h; exact h
  | ok x s1 =>
    rw [e1] at h
    obtain ⟨ds, al⟩ := x
    simp only [R.bnd_ok] at h
    intro v1 H1 F1 fr1 d1 r1 a1
    split at h <;> try exact h.elim
    rename_i j
    obtain ⟨rfl, rfl⟩ := r1.int1
    split at h <;> try exact h.elim
    rename_i hj
    have hL : ((LIM : Nat) : Int) = 1000000 := rfl
    exact ⟨j, rfl, by omega, by omega, h _ H1 [] fr1 d1 .nil (walk_range 0 j.toNat (by omega))⟩
theorem i_range2 (hg : Gl X "range") (hm : X.mg "range" = none) (ha : ARep X W [a, b] fa) (hs : starEach [a, b] X.env = [(false, eval a X.env), (false, eval b X.env)] := by rfl) (hs2 : starEach [b] X.env = [(false, eval b X.env)] := by rfl) : IRep X W tg (.Call (.Name "range" p) [a, b] [] pos) (iRange2 fa) := by
  refine PI.imp (pi_range2 hg hm ha.1 hs hs2) fun σ H Q ⟨c, env, s, Fs, gd, h⟩ => ⟨c, env, s, Fs, gd, ?_⟩
  unfold iRange2 at h
  cases e1 : fa env s with
  | bad => rw [e1] at h; exact h.elim
  | exc x s1 => rw [e1] at h; exact h
  | ok x s1 =>
    rw [e1] at h
    obtain ⟨ds, al⟩ := x
    simp only [R.bnd_ok] at h
    intro v1 H1 F1 fr1 d1 r1 a1
    split at h <;> try exact h.elim
    rename_i i j
    obtain ⟨rfl, rfl⟩ := r1.int2
    split at h <;> try exact h.elim
    rename_i hj
    have hL : ((LIM : Nat) : Int) = 1000000 := rfl
    exact ⟨i, j, rfl, ⟨by omega, by omega, by omega, by omega⟩, h _ H1 [] fr1 d1 .nil (walk_range i (j - i).toNat (by omega))⟩

/-! zip, reversed -/
theorem zipD_len : ∀ (ds es : List D), (zipD ds es).length = min ds.length es.length
  | [], _ => by simp [zipD]
  | _ :: _, [] => by simp [zipD]
  | d :: ds, e :: es => by
    simp only [zipD, List.length_cons, zipD_len ds es]
    omega
theorem zipD_get : ∀ (ds es : List D) (i : Nat) (d : D), (zipD ds es)[i]? = some d → ∃ x y, ds[i]? = some x ∧ es[i]? = some y ∧ d = .tup [x, y]
  | [], _, _, _, h => by simp [zipD] at h
  | _ :: _, [], _, _, h => by simp [zipD] at h
  | d :: ds, e :: es, 0, _, h => by
    simp [zipD] at h
    exact ⟨d, e, rfl, rfl, h.symm⟩
  | d :: ds, e :: es, i + 1, x, h => by
    have h' : (zipD ds es)[i]? = some x := by simpa [zipD] using h
    obtain ⟨a, b, h1, h2, h3⟩ := zipD_get ds es i x h'
    exact ⟨a, b, by simpa using h1, by simpa using h2, h3⟩
theorem two_tup {K : PySem.W.Frag} {dr T : Addr} {H : Hp} {x y : V} {dx dy : D} {G1 G2 : List Addr} (hT : H T = none) (r1 : Rep K dr H x dx G1) (r2 : Rep K dr H y dy G2) :
    Same H (upd H T (.tup [x, y])) ∧ Rep K dr (upd H T (.tup [x, y])) (.ref T) (.tup [dx, dy]) (G1 ++ G2) := by
  have sm : Same H (upd H T (.tup [x, y])) := Same.upd hT
  refine ⟨sm, .tup (show 2 ≤ LIM by decide) (.inl (.inl upd_same)) (.cons (r1.same sm) ?_)⟩
  have := Reps.cons (r2.same sm) (Reps.nil (K := K) (dr := dr) (H := upd H T (.tup [x, y])))
  rw [List.append_nil] at this
  exact this
theorem walk_zip {K : PySem.W.Frag} {dr : Addr} {H : Hp} {a b : Addr} {vs ws : List V} {ds es : List D} {F G : List Addr} (hz : ds.length ≤ LIM) (h1 : H a = some (.lst vs)) (h2 : H b = some (.lst ws)) (r1 : Reps K dr H vs ds F) (r2 : Reps K dr H ws es G) :
    WalkOk K dr (Itz K a b) (zipD ds es) H ((a :: F) ++ (b :: G)) := by
  refine ⟨by rw [zipD_len]; omega, fun c hc => ?_, fun H2 m e => ?_⟩
  · rcases List.mem_append.mp hc with hc | hc
    · rcases List.mem_cons.mp hc with rfl | hc
      · rw [h1]; intro q; cases q
      · exact r1.ne hc
    · rcases List.mem_cons.mp hc with rfl | hc
      · rw [h2]; intro q; cases q
      · exact r2.ne hc
  · have q1 : H2 a = some (.lst vs) := (e a (by simp)).trans h1
    have q2 : H2 b = some (.lst ws) := (e b (by simp)).trans h2
    have s1 : Reps K dr H2 vs ds F := r1.mono m fun c hc => e c (by simp [hc])
    have s2 : Reps K dr H2 ws es G := r2.mono m fun c hc => e c (by simp [hc])
    have l1 : SqL K H2 a vs := .inl (.inl q1)
    have l2 : SqL K H2 b ws := .inl (.inl q2)
    have n1 := r1.length
    have n2 := r2.length
    refine ⟨fun i hi => ?_, ⟨vs, ws, l1, l2, by rw [zipD_len]; omega⟩, fun i d x H3 e1 hy => ?_⟩
    · rw [zipD_len] at hi
      exact ⟨vs, ws, vs[i]'(by omega), ws[i]'(by omega), l1, l2, List.getElem?_eq_getElem _, List.getElem?_eq_getElem _⟩
    · obtain ⟨T, x1, x2, rfl, hT, rfl, f1, f2⟩ := hy
      obtain ⟨dx, dy, g1, g2, rfl⟩ := zipD_get _ _ _ _ e1
      obtain ⟨v, G1, k1, rv, m1⟩ := s1.get g1
      obtain ⟨w, G2, k2, rw', m2⟩ := s2.get g2
      obtain rfl : x1 = v := Option.some.inj ((f1 vs l1).symm.trans k1)
      obtain rfl : x2 = w := Option.some.inj ((f2 ws l2).symm.trans k2)
      obtain ⟨sm, rt⟩ := two_tup hT rv rw'
      refine ⟨sm, _, rt, fun c hc => ?_⟩
      rcases List.mem_append.mp hc with hc | hc
      · simp [m1 c hc]
      · simp [m2 c hc]
theorem walk_zipT {K : PySem.W.Frag} {dr : Addr} {H : Hp} {a b : Addr} {vs ws : List V} {ds es : List D} {F G : List Addr} (hz : ds.length ≤ LIM) (h1 : SqT K H a vs) (h2 : SqT K H b ws) (r1 : Reps K dr H vs ds F) (r2 : Reps K dr H ws es G) :
    WalkOk K dr (ItzT K a b) (zipD ds es) H (F ++ G) := by
  refine ⟨by rw [zipD_len]; omega, fun c hc => (List.mem_append.mp hc).elim r1.ne r2.ne, fun H2 m e => ?_⟩
  have s1 : Reps K dr H2 vs ds F := r1.mono m fun c hc => e c (by simp [hc])
  have s2 : Reps K dr H2 ws es G := r2.mono m fun c hc => e c (by simp [hc])
  have l1 : SqT K H2 a vs := SqT.imm h1 m
  have l2 : SqT K H2 b ws := SqT.imm h2 m
  have n1 := r1.length
  have n2 := r2.length
  refine ⟨fun i hi => ?_, ⟨vs, ws, l1, l2, by rw [zipD_len]; omega⟩, fun i d x H3 e1 hy => ?_⟩
  · rw [zipD_len] at hi
    exact ⟨vs, ws, vs[i]'(by omega), ws[i]'(by omega), l1, l2, List.getElem?_eq_getElem _, List.getElem?_eq_getElem _⟩
  · obtain ⟨T, x1, x2, rfl, hT, rfl, f1, f2⟩ := hy
    obtain ⟨dx, dy, g1, g2, rfl⟩ := zipD_get _ _ _ _ e1
    obtain ⟨v, G1, k1, rv, m1⟩ := s1.get g1
    obtain ⟨w, G2, k2, rw', m2⟩ := s2.get g2
    obtain rfl : x1 = v := Option.some.inj ((f1 vs l1).symm.trans k1)
    obtain rfl : x2 = w := Option.some.inj ((f2 ws l2).symm.trans k2)
    obtain ⟨sm, rt⟩ := two_tup hT rv rw'
    refine ⟨sm, _, rt, fun c hc => ?_⟩
    rcases List.mem_append.mp hc with hc | hc
    · simp [m1 c hc]
    · simp [m2 c hc]
theorem Reps.two {K : PySem.W.Frag} {dr : Addr} {H : Hp} {vs : List V} {d e : D} {F : List Addr} (r : Reps K dr H vs [d, e] F) : ∃ v w F1 F2, vs = [v, w] ∧ F = F1 ++ F2 ∧ Rep K dr H v d F1 ∧ Rep K dr H w e F2 := by
  cases r with
  | cons r1 r2 =>
    cases r2 with
    | cons r2 r3 =>
      cases r3
      exact ⟨_, _, _, _, rfl, by rw [List.append_nil], r1, r2⟩
theorem Reps.one {K : PySem.W.Frag} {dr : Addr} {H : Hp} {vs : List V} {d : D} {F : List Addr} (r : Reps K dr H vs [d] F) : ∃ v, vs = [v] ∧ Rep K dr H v d F := by
  cases r with
  | cons r1 r2 =>
    cases r2
    exact ⟨_, rfl, by rw [List.append_nil]; exact r1⟩
theorem i_zip {elts : List Expr} {kk : Nat} {tpos : Pos} (hg : Gl X "zip") (hm : X.mg "zip" = none) (ha : ARep X W [a, b] fa) (hs : starEach [a, b] X.env = (false, eval a X.env) :: starEach [b] X.env := by rfl) (hpl : (backTo pos (starEach [b] X.env)).any (·.1) = false := by rfl) :
    IRep X W (.Tuple elts kk tpos) (.Call (.Name "zip" p) [a, b] [] pos) (iZip fa) := by
  refine PI.imp (pi_zipA hg hm ha.1 hs hpl) fun σ H Q ⟨c, env, s, Fs, gd, h⟩ => ⟨c, env, s, Fs, gd, ?_⟩
  unfold iZip at h
  cases e1 : fa env s with
  | bad => rw [e1] at h; exact h.elim
  | exc x s1 => rw [e1] at h; exact h
  | ok x s1 =>
    rw [e1] at h
    obtain ⟨ds, al⟩ := x
    simp only [R.bnd_ok] at h
    intro v1 H1 F1 fr1 d1 r1 a1
    split at h <;> try exact h.elim
    · rename_i xs ys
      obtain ⟨v, w, G1, G2, rfl, rfl, q1, q2⟩ := Reps.two r1
      cases q1 with
      | lst z1 l1 s1 =>
        cases q2 with
        | lst z2 l2 s2 => exact ⟨_, _, _, _, rfl, .inl ⟨.inl (.inl l1), .inl (.inl l2), h _ H1 _ fr1 d1 a1 (walk_zip z1 l1 l2 s1 s2)⟩⟩
    · rename_i xs ys
      obtain ⟨v, w, G1, G2, rfl, rfl, q1, q2⟩ := Reps.two r1
      cases q1 with
      | tup z1 l1 s1 =>
        cases q2 with
        | tup z2 l2 s2 => exact ⟨_, _, _, _, rfl, .inr ⟨l1, l2, h _ H1 _ fr1 d1 a1 (walk_zipT z1 l1 l2 s1 s2)⟩⟩
theorem rev_get {α : Type} {xs : List α} {i : Nat} {x : α} (h : xs.reverse[i]? = some x) : i < xs.length ∧ xs[xs.length - 1 - i]? = some x := by
  have hi : i < xs.length := by
    have := (List.getElem?_eq_some_iff.mp h).1
    rwa [List.length_reverse] at this
  exact ⟨hi, by rw [← List.getElem?_reverse hi]; exact h⟩
theorem i_rev (hg : Gl X "reversed") (hm : X.mg "reversed" = none) (he : ERep X W e f) (hs : starEach [e] X.env = (false, eval e X.env) :: starEach [] X.env := by rfl) : IRep X W tg (.Call (.Name "reversed" p) [e] [] pos) (iRev f) := by
  refine PI.imp (pi_revA hg hm he hs) fun σ H Q ⟨c, env, s, Fs, gd, h⟩ => ⟨c, env, s, Fs, gd, ?_⟩
  unfold iRev at h
  cases e1 : f env s with
  | bad => rw [e1] at h; exact h.elim
  | exc x s1 => rw [e1] at h; exact h
  | ok x s1 =>
    rw [e1] at h
    obtain ⟨d, al⟩ := x
    simp only [R.bnd_ok] at h
    intro v1 H1 F1 fr1 d1 r1 a1
    cases r1 with
    | @lst a vs ds F hz hl hr =>
      refine ⟨_, _, rfl, .inl ⟨.inl (.inl hl), h _ H1 _ fr1 d1 a1 ⟨by rw [List.length_reverse]; exact hz, (fun b => (Rep.lst hz hl hr).ne), fun H2 m e => ?_⟩⟩⟩
      have q1 : SqL X.K H2 a vs := .inl (.inl ((e a (by simp)).trans hl))
      have s1 : Reps X.K c.dr H2 vs ds F := hr.mono m fun b hb => e b (by simp [hb])
      have n1 := hr.length
      refine ⟨fun i hi => ?_, ?_, fun i d x H3 g1 hy => ?_⟩
      · rw [List.length_reverse] at hi
        exact ⟨by omega, vs, vs[vs.length - 1 - i]'(by omega), q1, List.getElem?_eq_getElem _⟩
      · show vs.length ≤ ds.reverse.length
        rw [List.length_reverse]
        omega
      · obtain ⟨rfl, hx⟩ := hy
        obtain ⟨hi, g2⟩ := rev_get g1
        obtain ⟨v, G, k1, rv, mG⟩ := s1.get g2
        obtain rfl : x = v := by
          have := hx vs q1
          rw [n1, k1] at this
          exact (Option.some.inj this).symm
        exact ⟨fun _ _ h => h, G, rv, fun b hb => by simp [mG b hb]⟩
    | @tup a vs ds F hz hl hr =>
      refine ⟨_, _, rfl, .inr ⟨hl, h _ H1 _ fr1 d1 a1 ⟨by rw [List.length_reverse]; exact hz, (fun b => hr.ne), fun H2 m e => ?_⟩⟩⟩
      have q1 : SqT X.K H2 a vs := SqT.imm hl m
      have s1 : Reps X.K c.dr H2 vs ds F1 := hr.mono m e
      have n1 := hr.length
      refine ⟨fun i hi => ?_, ?_, fun i d x H3 g1 hy => ?_⟩
      · rw [List.length_reverse] at hi
        exact ⟨by omega, vs, vs[vs.length - 1 - i]'(by omega), q1, List.getElem?_eq_getElem _⟩
      · show vs.length ≤ ds.reverse.length
        rw [List.length_reverse]
        omega
      · obtain ⟨rfl, hx⟩ := hy
        obtain ⟨hi, g2⟩ := rev_get g1
        obtain ⟨v, G, k1, rv, mG⟩ := s1.get g2
        obtain rfl : x = v := by
          have := hx vs q1
          rw [n1, k1] at this
          exact (Option.some.inj this).symm
        exact ⟨fun _ _ h => h, G, rv, mG⟩
    | _ => exact h.elim
end
end Sm
end
section
set_option Elab.async false
set_option linter.all false
set_option maxRecDepth 100000
set_option maxHeartbeats 4000000
/-! Sound5: list comprehensions. -/
namespace Sm
open PySem PySem.Spec L2

theorem alU_assoc (a b c : Al) : alU (alU a b) c = alU a (alU b c) := by
  cases a <;> cases b <;> cases c <;> simp [alU]
theorem alU_none (a : Al) : alU a none = a := by
  cases a <;> rfl
theorem none_alU (a : Al) : alU none a = a := by
  cases a <;> rfl
/-! the slots of a block forgotten -/
theorem wipeE_len {env : Ev} : ∀ {vs : List Nat}, (wipeE env vs).length = env.length
  | [] => rfl
  | v :: vs => (setS_len).trans (wipeE_len (vs := vs))
theorem getS_wipe {env : Ev} {i : Nat} : ∀ {vs : List Nat}, getS (wipeE env vs) i = if i ∈ vs then none else getS env i
  | [] => by simp [wipeE]
  | v :: vs => by
    show getS (setS (wipeE env vs) v none) i = _
    by_cases h : i = v
    · subst h
      rw [if_pos List.mem_cons_self]
      by_cases hl : i < (wipeE env vs).length
      · exact getS_set_self hl
      · rw [setS_out (Nat.le_of_not_lt hl)]
        cases e : getS (wipeE env vs) i with
        | none => rfl
        | some x => exact absurd (getS_lt e) hl
    · rw [getS_set_ne h, getS_wipe (vs := vs)]
      by_cases h2 : i ∈ vs
      · rw [if_pos h2, if_pos (List.mem_cons_of_mem _ h2)]
      · rw [if_neg h2, if_neg fun q => (List.mem_cons.mp q).elim h h2]
theorem wipe_get {σ : L2.St} {i : Nat} : ∀ {vs : List Nat}, i ∉ vs → (wipe σ vs)[i]? = σ[i]?
  | [], _ => rfl
  | v :: vs, h => by
    show ((wipe σ vs).set v none)[i]? = _
    rw [List.getElem?_set_ne fun e => h (by simp [e]), wipe_get fun q => h (List.mem_cons_of_mem _ q)]
theorem wipe_in {σ : L2.St} {i : Nat} : ∀ {vs : List Nat}, i ∈ vs → i < σ.length → (wipe σ vs)[i]? = some none
  | v :: vs, h, hl => by
    show ((wipe σ vs).set v none)[i]? = _
    by_cases e : v = i
    · subst e
      exact List.getElem?_set_self (by rw [wipe_length]; exact hl)
    · rw [List.getElem?_set_ne e]
      exact wipe_in ((List.mem_cons.mp h).resolve_left fun q => e q.symm) hl
theorem wipe_ext {σ τ : L2.St} {vs : List Nat} (hl : τ.length = σ.length) (h : ∀ i, i ∉ vs → τ[i]? = σ[i]?) : wipe τ vs = wipe σ vs := by
  apply List.ext_getElem?
  intro i
  by_cases hi : i ∈ vs
  · by_cases hb : i < σ.length
    · rw [wipe_in hi hb, wipe_in hi (by rw [hl]; exact hb)]
    · rw [List.getElem?_eq_none (by rw [wipe_length, hl]; omega), List.getElem?_eq_none (by rw [wipe_length]; omega)]
  · rw [wipe_get hi, wipe_get hi, h i hi]
theorem wipe_wipe {σ : L2.St} {vs : List Nat} : wipe (wipe σ vs) vs = wipe σ vs := wipe_ext (wipe_length _ _) fun i hi => wipe_get hi
def FsW (Fs : Nat → List Addr) (vs : List Nat) (i : Nat) : List Addr := if i ∈ vs then [] else Fs i
theorem Good.wipe {K : PySem.W.Frag} {c : C} {H : Hp} {σ : L2.St} {env : Ev} {s : DS} {Fs : Nat → List Addr} (g : Good K c H σ env s Fs) (vs : List Nat) : Good K c H (wipe σ vs) (wipeE env vs) s (FsW Fs vs) where
  pres := g.pres
  draw := g.draw
  drw0 := g.drw0
  len := by rw [wipeE_len, wipe_length]; exact g.len
  slot := fun i m d e => by
    rw [getS_wipe] at e
    by_cases hi : i ∈ vs
    · rw [if_pos hi] at e; cases e
    · rw [if_neg hi] at e
      obtain ⟨v, h1, h2⟩ := g.slot i m d e
      exact ⟨v, by rw [wipe_get hi]; exact h1, by unfold FsW; rw [if_neg hi]; exact h2⟩
  off := fun i e => by
    unfold FsW
    by_cases hi : i ∈ vs
    · rw [if_pos hi]
    · rw [if_neg hi]
      rw [getS_wipe, if_neg hi] at e
      exact g.off i e
  own := fun i d e => by
    rw [getS_wipe] at e
    by_cases hi : i ∈ vs
    · rw [if_pos hi] at e; cases e
    · rw [if_neg hi] at e
      obtain ⟨h1, h2, h3⟩ := g.own i d e
      unfold FsW
      rw [if_neg hi]
      refine ⟨h1, h2, fun j hj a ha => ?_⟩
      by_cases hjv : j ∈ vs
      · rw [if_pos hjv]; exact fun h => nomatch h
      · rw [if_neg hjv]; exact h3 j hj a ha
  zed := fun i a ha => by
    unfold FsW at ha
    by_cases hi : i ∈ vs
    · rw [if_pos hi] at ha; cases ha
    · rw [if_neg hi] at ha; exact g.zed i a ha
  ndr := fun i ha => by
    unfold FsW at ha
    by_cases hi : i ∈ vs
    · rw [if_pos hi] at ha; cases ha
    · rw [if_neg hi] at ha; exact g.ndr i ha

def FsU (Fs : Nat → List Addr) (vs : List Nat) (F : List Addr) (i : Nat) : List Addr := if i ∈ vs then F else Fs i
theorem FsU_in {Fs : Nat → List Addr} {vs : List Nat} {F : List Addr} {i : Nat} (h : i ∈ vs) : FsU Fs vs F i = F := if_pos h
theorem FsU_out {Fs : Nat → List Addr} {vs : List Nat} {F : List Addr} {i : Nat} (h : i ∉ vs) : FsU Fs vs F i = Fs i := if_neg h
theorem Good.h0 {K : PySem.W.Frag} {c : C} {H : Hp} {σ : L2.St} {env : Ev} {s : DS} {Fs : Nat → List Addr} (g : Good K c H σ env s Fs) {a : Addr} (h : H a = none) : c.H0 a = none := by
  cases e : c.H0 a with
  | none => rfl
  | some o =>
    have n : a ≠ c.dr := fun q => g.draw.ne (q ▸ h)
    rw [g.pres a o n e] at h
    cases h
/-- what may be bound without being owned -/
theorem Good.bindF {K : PySem.W.Frag} {c : C} {H : Hp} {σ : L2.St} {env : Ev} {s : DS} {Fs : Nat → List Addr} (g : Good K c H σ env s Fs) {al : Al} {F : List Addr} (a : AlOk H Fs al F) : BindOk c (Sm.freeze (al.getD []) env) Fs .frz F where
  own := fun e => nomatch e
  oth := fun j d e b hb hF => by
    obtain ⟨e', nj⟩ := (getS_freeze (bs := al.getD []) (env := env) (j := j)).2 d e
    rcases a.weak b hF with q | ⟨k, hk, q⟩
    · exact g.ne hb q
    · have : k ≠ j := fun z => nj (z ▸ hk)
      exact (g.own j d e').2.2 k this b hb q
  zed := fun b hF => by
    rcases a.weak b hF with q | ⟨k, hk, q⟩
    · exact .inl (g.h0 q)
    · exact g.zed k b q
  ndr := a.ndr g
theorem BindOk.sub {c : C} {env : Ev} {Fs : Nat → List Addr} {F G : List Addr} (b : BindOk c env Fs .frz F) (h : ∀ a ∈ G, a ∈ F) : BindOk c env Fs .frz G where
  own := fun e => nomatch e
  oth := fun j d e a ha hG => b.oth j d e a ha (h a hG)
  zed := fun a ha => b.zed a (h a ha)
  ndr := fun q => b.ndr (h _ q)
theorem BindOk.wipe {c : C} {env : Ev} {Fs : Nat → List Addr} {F : List Addr} (b : BindOk c env Fs .frz F) (vs : List Nat) : BindOk c (wipeE env vs) (FsW Fs vs) .frz F where
  own := fun e => nomatch e
  oth := fun j d e a ha hG => by
    rw [getS_wipe] at e
    unfold FsW at ha
    by_cases hj : j ∈ vs
    · rw [if_pos hj] at e; cases e
    · rw [if_neg hj] at e ha
      exact b.oth j d e a ha hG
  zed := b.zed
  ndr := b.ndr
/-- tests of a comprehension -/
def TsRep (X : Cx) (W : WX) (ifs : List Expr) (t : T) : Prop := PTs X ifs (tT X.K X.mg W t)
theorem PTs.imp {X : Cx} {e : List Expr} {t t' : TT} (h : PTs X e t) (k : ∀ σ H Q, t' σ H Q → t σ H Q) : PTs X e t' := ⟨fun pins s σ H Q I q => h.run pins s σ H Q I (k σ H Q q)⟩
theorem ts_nil {X : Cx} {W : WX} : TsRep X W [] tYes := PTs.imp pts_nil fun σ H Q ⟨c, env, s, Fs, gd, h⟩ => h H Fr.refl gd.draw
theorem ts_one {X : Cx} {W : WX} {e : Expr} {t : T} (h : TRep X W e t) : TsRep X W [e] t := pts_one h

/-- what the comprehension is to end in -/
def LcEnd (K : PySem.W.Frag) (c : C) (H1 : Hp) (Fs : Nat → List Addr) (F : List Addr) (vs : List Nat) (Dn : Addr) (ds0 : List D) (al0 : Al) (r : R (List D × Al)) (Q : VK) : Prop :=
  match r with
  | .ok y s' => ∀ H', Fr c.dr H1 H' → DrawOk c.dr c.cl H' s' → ∀ acc G, H' Dn = some (.lst acc) → Reps K c.dr H' acc (ds0 ++ y.1) G → Dn ∉ G → AlOk H1 (FsU Fs vs F) (alU al0 y.2) G → Q (.ref Dn) H'
  | _ => False
theorem LcEnd.not_exc {K : PySem.W.Frag} {c : C} {H1 : Hp} {Fs : Nat → List Addr} {F : List Addr} {vs : List Nat} {Dn : Addr} {ds0 : List D} {al0 : Al} {r : R (List D × Al)} {Q : VK} (h : LcEnd K c H1 Fs F vs Dn ds0 al0 r Q) : ∃ y s', r = .ok y s' := by
  cases r with
  | ok y s' => exact ⟨y, s', rfl⟩
  | exc e s' => exact h.elim
  | bad => exact h.elim
def wFalse : WX := fun _ _ _ _ => False

theorem lc_core2 {X : Cx} {is vs : List Nat} {it : I} {b : B} {t : T} {f : E} {W : WX} {σ : L2.St} {H : Hp} {Q : VK} (hsub : ∀ i ∈ is, i ∈ vs)
    (hb : ∀ d m env env', b d m env = some env' → ∀ j, j ∉ is → getS env' j = getS env j)
    (h : tE X.K X.mg W (eLc vs it b t f) σ H Q) : tLc (tI X.K X.mg W it) (tG X.K is b) (tT X.K X.mg wFalse t) (tE X.K X.mg wFalse f) vs σ H Q := by
  obtain ⟨c, env, s, Fs, gd, h⟩ := h
  refine ⟨c, env, s, Fs, gd, ?_⟩
  unfold eLc at h
  cases e1 : it env s with
  | bad => rw [e1] at h; exact h.elim
  | exc x s1 => rw [e1] at h; exact h
  | ok x s1 =>
    rw [e1] at h
    obtain ⟨ds, al⟩ := x
    simp only [R.bnd_ok] at h
    intro J H1 F fr1 d1 a1 wk Dn hD
    obtain ⟨hlim, hF, wk⟩ := wk
    have gd1 := gd.fr fr1 d1
    generalize henvf : freeze (al.getD []) env = envf at h
    have bF : BindOk c envf Fs .frz F := by rw [← henvf]; exact gd.bindF a1
    have ndr : Dn ≠ c.dr := fun q => d1.ne (q ▸ hD)
    -- the end, from what is wanted of the whole
    have fin : LcEnd X.K c H1 Fs F vs Dn [] none (compF b t f ds (wipeE envf vs) s1) Q := by
      cases e2 : compF b t f ds (wipeE envf vs) s1 with
      | bad => rw [e2] at h; exact h.elim
      | exc z s2 => rw [e2] at h; exact h.elim
      | ok y s2 =>
        rw [e2] at h
        simp only [noExc, R.bnd_ok] at h
        intro H' fr2 d2 acc G hacc hr hnD hal
        rw [none_alU] at hal
        rw [List.nil_append] at hr
        have hz : y.1.length ≤ LIM := by
          have : ∀ (ds : List D) (s s' : DS) (y : List D × Al), compF b t f ds (wipeE envf vs) s = .ok y s' → y.1.length ≤ ds.length := by
            intro ds
            induction ds with
            | nil =>
              intro s s' y e
              cases e
              exact Nat.le_refl _
            | cons d ds ih =>
              intro s s' y e
              simp only [compF] at e
              cases q1 : b d .frz (wipeE envf vs) with
              | none => rw [q1] at e; cases e
              | some env1 =>
                rw [q1] at e
                dsimp only at e
                cases q2 : t env1 s with
                | bad => rw [q2] at e; cases e
                | exc _ _ => rw [q2] at e; cases e
                | ok k s1 =>
                  rw [q2] at e
                  simp only [R.bnd_ok] at e
                  cases k with
                  | false =>
                    simp only [Bool.false_eq_true, if_false] at e
                    exact Nat.le_succ_of_le (ih _ _ _ e)
                  | true =>
                    simp only [if_true] at e
                    cases q3 : f env1 s1 with
                    | bad => rw [q3] at e; cases e
                    | exc _ _ => rw [q3] at e; cases e
                    | ok x2 s2 =>
                      rw [q3] at e
                      simp only [R.bnd_ok] at e
                      cases q4 : compF b t f ds (wipeE envf vs) s2 with
                      | bad => rw [q4] at e; cases e
                      | exc _ _ => rw [q4] at e; cases e
                      | ok x3 s3 =>
                        rw [q4] at e
                        cases e
                        exact Nat.succ_le_succ (ih _ _ _ q4)
          exact Nat.le_trans (this _ _ _ _ e2) hlim
        have frT := fr1.trans fr2
        refine h (.ref Dn) H' (Dn :: G) frT d2 (.lst hz hacc hr) ?_
        have hD0 : H Dn = none := fr1.back d1 Dn hD
        cases hy : y.2 with
        | none =>
          rw [hy] at hal
          refine ⟨List.nodup_cons.mpr ⟨hnD, hal.1⟩, fun a ha => ?_⟩
          rcases List.mem_cons.mp ha with rfl | ha
          · exact hD0
          · exact fr1.back d1 a (hal.2 a ha)
        | some bs =>
          rw [hy] at hal
          intro a ha
          rcases List.mem_cons.mp ha with rfl | ha
          · exact .inl hD0
          · rcases hal a ha with q | ⟨i, hi, q⟩
            · exact .inl (fr1.back d1 a q)
            · by_cases hv : i ∈ vs
              · rw [FsU_in hv] at q
                rcases a1.weak a q with z | ⟨j, hj, z⟩
                · exact .inl z
                · exact .inr ⟨j, List.mem_append_right _ hj, z⟩
              · rw [FsU_out hv] at q
                refine .inr ⟨i, List.mem_append_left _ (List.mem_filter.mpr ⟨hi, ?_⟩), q⟩
                simpa using hv
    -- the turns
    refine ⟨fun i m H2 => m = ds.length - i ∧ i ≤ ds.length ∧ ∃ s2 acc ds0 al0 G, Fr c.dr H1 H2 ∧ DrawOk c.dr c.cl H2 s2 ∧ H2 Dn = some (.lst acc) ∧ acc.length ≤ i ∧ Reps X.K c.dr H2 acc ds0 G ∧ Dn ∉ G ∧ AlOk H1 (FsU Fs vs F) al0 G ∧
      LcEnd X.K c H1 Fs F vs Dn ds0 al0 (compF b t f (ds.drop i) (wipeE envf vs) s2) Q, ⟨ds.length, rfl, Nat.zero_le _, s1, [], [], none, [], ?_, ?_, upd_same, Nat.le_refl _, .nil, (fun z => nomatch z), ⟨List.nodup_nil, fun _ z => nomatch z⟩, fin⟩, ?_⟩
    · exact Fr.of_same (Same.upd hD)
    · exact d1.same (Same.upd hD)
    · rintro i m H2 ⟨hm, hi, s2, acc, ds0, al0, G, fr2, d2, hacc, hlen, hr, hnD, hal, hend⟩
      have imm2 : Imm H1 H2 := fr2.imm d1
      have hF2 : ∀ a ∈ F, H2 a = H1 a := fun a ha => fr2.eq (fun q => a1.ndr gd (q ▸ ha)) (hF a ha)
      obtain ⟨w1, w2, w3⟩ := wk H2 imm2 hF2
      by_cases hlt : i < ds.length
      · refine .inr ⟨w1 i hlt, fun H3 => ∃ m', m' < m ∧ (m' = ds.length - (i + 1) ∧ i + 1 ≤ ds.length ∧ ∃ s2 acc ds0 al0 G, Fr c.dr H1 H3 ∧ DrawOk c.dr c.cl H3 s2 ∧ H3 Dn = some (.lst acc) ∧ acc.length ≤ i + 1 ∧ Reps X.K c.dr H3 acc ds0 G ∧ Dn ∉ G ∧ AlOk H1 (FsU Fs vs F) al0 G ∧
          LcEnd X.K c H1 Fs F vs Dn ds0 al0 (compF b t f (ds.drop (i + 1)) (wipeE envf vs) s2) Q), fun H3 z => z, fun x H3 hy => ?_⟩
        have eg : ds[i]? = some ds[i] := List.getElem?_eq_getElem hlt
        obtain ⟨sm3, G1, rx, mG⟩ := w3 i _ x H3 eg hy
        have edrop : ds.drop i = ds[i] :: ds.drop (i + 1) := List.drop_eq_getElem_cons hlt
        rw [edrop] at hend
        have fr3 : Fr c.dr H1 H3 := fr2.trans (Fr.of_same sm3)
        have d3 : DrawOk c.dr c.cl H3 s2 := d2.same sm3
        have gw : Good X.K c H3 (wipe σ vs) (wipeE envf vs) s2 (FsW Fs vs) := by
          rw [← henvf]
          exact ((gd1.fr fr3 d3).freeze _).wipe vs
        have hG1F : ∀ a ∈ G1, H1 a ≠ none := fun a ha => hF a (mG a ha)
        have hDns : ∀ a, H1 a ≠ none → a ≠ Dn := fun a z q => z (q ▸ hD)
        refine ⟨c, wipeE envf vs, s2, FsW Fs vs, ds[i], .frz, G1, gw, rx, (bF.sub mG).wipe vs, ?_⟩
        simp only [compF] at hend
        cases q1 : b ds[i] .frz (wipeE envf vs) with
        | none =>
          rw [q1] at hend
          exact hend.elim
        | some env1 =>
          rw [q1] at hend
          dsimp only at hend
          intro σ4 Fs4 g4 b1 b2 b3 b4 b5
          refine ⟨(wipe_ext b2 fun j hj => b1 j fun z => hj (hsub j z)).trans wipe_wipe, c, env1, s2, Fs4, g4, ?_⟩
          -- where the lists of the turn's names stand
          have hU : ∀ j, ∀ a ∈ Fs4 j, a ∈ FsU Fs vs F j := fun j a ha => by
            by_cases hj : j ∈ is
            · rw [FsU_in (hsub j hj)]
              exact mG a (b4 j hj a ha)
            · rw [b3 j hj] at ha
              unfold FsW at ha
              by_cases hv : j ∈ vs
              · rw [if_pos hv] at ha; cases ha
              · rw [if_neg hv] at ha
                rw [FsU_out hv]
                exact ha
          have hE : ∀ j, ∀ a ∈ Fs4 j, H1 a ≠ none := fun j a ha => by
            have z := hU j a ha
            by_cases hv : j ∈ vs
            · rw [FsU_in hv] at z
              exact hF a z
            · rw [FsU_out hv] at z
              exact gd1.ne z
          cases q2 : t env1 s2 with
          | bad =>
            rw [q2] at hend
            exact hend.elim
          | exc _ _ =>
            rw [q2] at hend
            exact hend.elim
          | ok k s3 =>
            rw [q2] at hend
            simp only [R.bnd_ok] at hend
            intro H4 fr4 d4
            have a4 : H4 Dn = some (.lst acc) := fr4 _ _ ndr (sm3 _ _ hacc)
            have r4 : Reps X.K c.dr H4 acc ds0 G := (hr.same sm3).fr fr4 d3 (fun q => by
              rcases (hal.weak _ q) with z | ⟨j, _, z⟩
              · exact d1.ne z
              · by_cases hv : j ∈ vs
                · rw [FsU_in hv] at z; exact a1.ndr gd z
                · rw [FsU_out hv] at z; exact gd.ndr j z)
            cases k with
            | false =>
              simp only [Bool.false_eq_true, if_false] at hend ⊢
              exact ⟨ds.length - (i + 1), by omega, rfl, by omega, s3, acc, ds0, al0, G, fr3.trans fr4, d4, a4, by omega, r4, hnD, hal, hend⟩
            | true =>
              simp only [if_true] at hend ⊢
              have g5 := g4.fr fr4 d4
              refine ⟨c, env1, s3, Fs4, g5, ?_⟩
              cases q3 : f env1 s3 with
              | bad =>
                rw [q3] at hend
                exact hend.elim
              | exc _ _ =>
                rw [q3] at hend
                exact hend.elim
              | ok z s4 =>
                rw [q3] at hend
                simp only [R.bnd_ok] at hend
                intro v5 H5 F5 fr5 d5 r5 al5
                have fr15 : Fr c.dr H1 H5 := (fr3.trans fr4).trans fr5
                have a5 : H5 Dn = some (.lst acc) := fr5 _ _ ndr a4
                have nF5 : Dn ∉ F5 := fun q => by
                  rcases al5.weak _ q with z | ⟨j, _, z⟩
                  · rw [a4] at z; cases z
                  · exact hE j _ z hD
                have ndG : c.dr ∉ G := fun q => by
                  rcases (hal.weak _ q) with z | ⟨j, _, z⟩
                  · exact d1.ne z
                  · by_cases hv : j ∈ vs
                    · rw [FsU_in hv] at z; exact a1.ndr gd z
                    · rw [FsU_out hv] at z; exact gd.ndr j z
                have r5' : Reps X.K c.dr H5 acc ds0 G := r4.fr fr5 d4 ndG
                refine ⟨acc, a5, Nat.lt_of_le_of_lt hlen (Nat.lt_of_lt_of_le hlt (Nat.le_trans hlim (by rw [sizeLine_eq]; decide))), ?_⟩
                -- the new item is put behind
                have up : Imm H5 (upd H5 Dn (.lst (acc ++ [v5]))) := fun a => by
                  have na : ∀ o, H5 a = some o → (∀ ys, o ≠ .lst ys) → a ≠ Dn := fun o e k q => by
                    rw [q, a5] at e
                    exact k acc (Option.some.inj e).symm
                  refine ⟨fun ys e => ?_, fun o u e => ?_⟩
                  · rw [upd_ne (na _ e fun _ q => nomatch q)]; exact e
                  · rw [upd_ne (na _ e fun _ q => nomatch q)]; exact e
                have rA : Reps X.K c.dr (upd H5 Dn (.lst (acc ++ [v5]))) (acc ++ [v5]) (ds0 ++ [z.1]) (G ++ F5) := by
                  have k1 := r5'.mono up fun a ha => upd_ne fun q => hnD (q ▸ ha)
                  have k2 := r5.mono up fun a ha => upd_ne fun q => nF5 (q ▸ ha)
                  have k3 := Reps.append k1 (.cons k2 .nil)
                  rw [List.append_nil] at k3
                  exact k3
                have frU : Fr c.dr H1 (upd H5 Dn (.lst (acc ++ [v5]))) := fun a o n e => by
                  rw [upd_ne (hDns a (by rw [e]; intro q; cases q))]
                  exact fr15 a o n e
                have dU : DrawOk c.dr c.cl (upd H5 Dn (.lst (acc ++ [v5]))) s4 := by
                  obtain ⟨e1, n1, e2, e3⟩ := d5
                  refine ⟨by rw [upd_ne (Ne.symm ndr)]; exact e1, n1, ?_, e3⟩
                  rw [upd_ne (hDns _ (by rw [d1.2.2.1]; intro q; cases q))]
                  exact e2
                have alF : AlOk H4 (FsU Fs vs F) z.2 F5 := by
                  cases hz : z.2 with
                  | none => rw [hz] at al5; exact al5
                  | some bs =>
                    rw [hz] at al5
                    exact fun a ha => (al5 a ha).imp id fun ⟨j, h1, h2⟩ => ⟨j, h1, hU j a h2⟩
                refine ⟨ds.length - (i + 1), by omega, rfl, by omega, s4, acc ++ [v5], ds0 ++ [z.1], alU al0 z.2, G ++ F5, frU, dU, upd_same, by rw [List.length_append]; exact Nat.succ_le_succ hlen, rA, fun q => (List.mem_append.mp q).elim hnD nF5, ?_, ?_⟩
                · exact hal.join alF (Fr.back (fr3.trans fr4) d4) fun a ha => r4.ne ha
                · cases q4 : compF b t f (ds.drop (i + 1)) (wipeE envf vs) s4 with
                  | bad =>
                    rw [q4] at hend
                    exact hend.elim
                  | exc _ _ =>
                    rw [q4] at hend
                    exact hend.elim
                  | ok y5 s5 =>
                    rw [q4] at hend
                    simp only [R.bnd_ok] at hend
                    intro H6 fr6 d6 acc6 G6 h6 r6 n6 al6
                    refine hend H6 fr6 d6 acc6 G6 h6 ?_ n6 ?_
                    · rw [List.append_assoc] at r6
                      exact r6
                    · rw [alU_assoc] at al6
                      exact al6
      · have hge : ds.length ≤ i := Nat.le_of_not_lt hlt
        have ei : i = ds.length := Nat.le_antisymm hi hge
        refine .inl ⟨ei ▸ w2, ?_⟩
        rw [List.drop_eq_nil_of_le hge] at hend
        have := hend H2 fr2 d2 acc G hacc (by rw [List.append_nil]; exact hr) hnD (by rw [alU_none]; exact hal)
        exact this

section
variable {X : Cx} {W : WX} {elt tg iter : Expr} {ifs : List Expr} {scope : Scope} {own : List (Str × Nat)} {pos : Pos} {is : List Nat} {it : I} {b : B} {t : T} {f : E}
theorem e_lc (vs : List Nat) (hc : X.calm = true) (hN : X.N.Nodup) (hi : IRep X W tg iter it) (ok : BlkOk X.N X.env.scope scope own)
    (hg : ∀ (s : Shared) (H : Hp) (C : Addr) (cl : List (Str × Addr)) (fp : List Addr), GRep (X.blk s H scope (compEnvC scope cl C X.env) fp) tg is b)
    (ht : ∀ (s : Shared) (H : Hp) (C : Addr) (cl : List (Str × Addr)) (fp : List Addr), TsRep (X.blk s H scope (compEnvC scope cl C X.env) fp) wFalse ifs t)
    (he : ∀ (s : Shared) (H : Hp) (C : Addr) (cl : List (Str × Addr)) (fp : List Addr), ERep (X.blk s H scope (compEnvC scope cl C X.env) fp) wFalse elt f)
    (hvs : own.map (·.2) = vs := by rfl) (hsub : ∀ i ∈ is, i ∈ vs := by decide) (hs : ∀ x, foldedSetIterable iter X.env x = pure x := by intro _; rfl) : ERep X W (.ListComp elt [⟨tg, iter, ifs, 0⟩] scope pos) (eLc vs it b t f) := by
  subst hvs
  refine PE.imp (pe_lc (wi := tI X.K X.mg W it) (g := tG X.K is b) (tt := tT X.K X.mg wFalse t) (te := tE X.K X.mg wFalse f) hc hN hi ok (fun s H C cl fp => (hg s H C cl fp).1) ht he hs) fun σ H Q h => ?_
  exact lc_core2 hsub (hg X.s_0 H 0 [] []).2 h
end
end Sm
end
section
set_option Elab.async false
set_option linter.all false
set_option maxRecDepth 100000
set_option maxHeartbeats 4000000
/-! Sound6: statements. -/
namespace Sm
open PySem PySem.Spec L2

/-- what is handed back -/
def RtOk (K : PySem.W.Frag) (c : C) (d : D) (fr : Bool) (s : DS) (v : V) (H : Hp) : Prop :=
  ∃ F, (∀ a o, a ≠ c.dr → c.H0 a = some o → H a = some o) ∧ DrawOk c.dr c.cl H s ∧ Rep K c.dr H v d F ∧ (fr = true → F.Nodup ∧ ∀ a ∈ F, c.H0 a = none) ∧ (∀ a ∈ F, c.H0 a = none ∨ c.Z a)
def PostS (K : PySem.W.Frag) (mg : Str → Option Value) (W : WX) (c : C) (r : RS) (D : Ends) : Prop :=
  match r with
  | .nx env s => ∀ σ H Fs, Good K c H σ env s Fs → D.nx σ H
  | .rt d fr s => ∀ v H, RtOk K c d fr s v H → D.rt v H
  | .bk env s => ∀ σ H Fs, Good K c H σ env s Fs → D.bk σ H
  | .ct env s => ∀ σ H Fs, Good K c H σ env s Fs → D.ct σ H
  | .ex e env s => ∀ σ H Fs cls dc, Good K c H σ env s Fs → ExOk mg e cls → W cls dc σ H
  | .bad => False
def tS (K : PySem.W.Frag) (mg : Str → Option Value) (W : WX) (g : S) : TS := fun D σ H => ∃ c env s Fs, Good K c H σ env s Fs ∧ PostS K mg W c (g env s) D
def SRep (X : Cx) (W : WX) (st : Stmt) (g : S) : Prop := PS X st (tS X.K X.mg W g)
def SsRep (X : Cx) (W : WX) (st : List Stmt) (g : S) : Prop := PSs X st (tS X.K X.mg W g)

section
variable {X : Cx} {W : WX} {st : Stmt} {rest body : List Stmt} {e e1 e2 : Expr} {pos p : Pos} {f f1 f2 : E} {g h : S} {t : T}
/-- an expression first -/
theorem st_core {K : PySem.W.Frag} {mg : Str → Option Value} {σ : L2.St} {H : Hp} {En : Ends} {k : Sm.D × Al → DS → RS} {Q : VK} (f : E) {c : C} {env : Ev} {s : DS} {Fs : Nat → List Addr} (gd : Good K c H σ env s Fs) (hp : PostS K mg W c ((f env s).st env k) En)
    (h : ∀ x s' v H' F, f env s = .ok x s' → PostS K mg W c (k x s') En → Fr c.dr H H' → DrawOk c.dr c.cl H' s' → Good K c H' σ env s' Fs → Rep K c.dr H' v x.1 F → AlOk H Fs x.2 F → Q v H') : tE K mg W f σ H Q := by
  refine ⟨c, env, s, Fs, gd, ?_⟩
  cases q : f env s with
  | bad => rw [q] at hp; exact hp.elim
  | exc x s1 =>
    rw [q] at hp
    exact fun cls dc H' f' d' xo => hp σ H' Fs cls dc (gd.fr f' d') xo
  | ok x s1 =>
    rw [q] at hp
    exact fun v H' F fr d r a => h x s1 v H' F q hp fr d (gd.fr fr d) r a
theorem ss_nil : SsRep X W [] sNil := PSs.imp pss_nil fun D σ H ⟨c, env, s, Fs, gd, h⟩ => h σ H Fs gd
theorem ss_cons (h1 : SRep X W st g) (h2 : SsRep X W rest h) : SsRep X W (st :: rest) (sSeq g h) := by
  refine PSs.imp (pss_cons h1 h2) fun D σ H ⟨c, env, s, Fs, gd, q⟩ => ⟨c, env, s, Fs, gd, ?_⟩
  unfold sSeq at q
  cases e : g env s with
  | nx env1 s1 =>
    rw [e] at q
    exact fun σ1 H1 Fs1 g1 => ⟨c, env1, s1, Fs1, g1, q⟩
  | rt d fr s1 => rw [e] at q; exact q
  | bk env1 s1 => rw [e] at q; exact q
  | ct env1 s1 => rw [e] at q; exact q
  | ex x env1 s1 => rw [e] at q; exact q
  | bad => rw [e] at q; exact q.elim
theorem ss_one (h1 : SRep X W st g) : SsRep X W [st] g := pss_one h1
theorem s_pass : SRep X W (.Pass pos) sNil := PS.imp ps_pass fun D σ H ⟨c, env, s, Fs, gd, h⟩ => h σ H Fs gd
theorem s_brk : SRep X W (.Break pos) sBrk := PS.imp ps_break fun D σ H ⟨c, env, s, Fs, gd, h⟩ => h σ H Fs gd
theorem s_cnt : SRep X W (.Continue pos) sCnt := PS.imp ps_continue fun D σ H ⟨c, env, s, Fs, gd, h⟩ => h σ H Fs gd
theorem s_expr (he : ERep X W e f) (hs : swapsWith e none pos.line X.env = pure false := by rfl) : SRep X W (.Expr e pos) (sExpr f) :=
  PS.imp (ps_expr he hs) fun D σ H ⟨c, env, s, Fs, gd, h⟩ => st_core f gd h fun x s' v H' F e q fr d g' r a => q σ H' Fs g'
theorem s_ret (he : ERep X W e f) : SRep X W (.Return (some e) pos) (sRet f) :=
  PS.imp (ps_ret he) fun D σ H ⟨c, env, s, Fs, gd, h⟩ => st_core f gd h fun x s' v H' F e q fr d g' r a => by
    refine q v H' ⟨F, g'.pres, d, r, fun k => ?_, fun b hb => ?_⟩
    · cases z : x.2 with
      | none =>
        rw [z] at a
        exact ⟨a.1, fun b hb => gd.h0 (a.2 b hb)⟩
      | some bs => rw [z] at k; cases k
    · rcases a.weak b hb with z | ⟨i, _, z⟩
      · exact .inl (gd.h0 z)
      · exact gd.zed i b z
theorem s_retN : SRep X W (.Return none pos) sRetN := PS.imp ps_retN fun D σ H ⟨c, env, s, Fs, gd, h⟩ =>
  h .non H ⟨[], gd.pres, gd.draw, .non, (fun _ => ⟨List.nodup_nil, fun _ h => nomatch h⟩), fun _ h => nomatch h⟩
theorem s_retV {i : Nat} {x : Str} (hN : X.N[i]? = some x) (hv : Vis X.env.scope x) (hd : (x == ("__debug__" : Str)) = false := by decide) (hcd : (x == ("__classdict__" : Str)) = false := by decide) : SRep X W (.Return (some (.Name x p)) pos) (sRetV i) := by
  refine PS.imp (ps_ret (pe_var hN hv hd hcd)) fun D σ H ⟨c, env, s, Fs, gd, h⟩ => ?_
  unfold sRetV at h
  cases q : getS env i with
  | none => rw [q] at h; exact h.elim
  | some z =>
    obtain ⟨m, d⟩ := z
    rw [q] at h
    obtain ⟨v, e1, r⟩ := gd.slot i m d q
    refine ⟨v, e1, h v H ⟨Fs i, gd.pres, gd.draw, r, fun k => ?_, gd.zed i⟩⟩
    rcases Bool.or_eq_true_iff.mp k with k | k
    · rw [r.lf k]
      exact ⟨List.nodup_nil, fun _ h => nomatch h⟩
    · cases m with
      | own => exact ⟨(gd.own i d q).1, (gd.own i d q).2.1⟩
      | frz => cases k
theorem s_if {a b : List Stmt} (hc : TRep X W e t) (ha : SsRep X W a g) (hb : SsRep X W b h) : SRep X W (.If e a b pos) (sIf t g h) := by
  refine PS.imp (ps_if hc ha hb) fun D σ H ⟨c, env, s, Fs, gd, q⟩ => ⟨c, env, s, Fs, gd, ?_⟩
  unfold sIf at q
  cases e1 : t env s with
  | bad => rw [e1] at q; exact q.elim
  | exc x s1 =>
    rw [e1] at q
    exact fun cls dc H' f' d' xo => q σ H' Fs cls dc (gd.fr f' d') xo
  | ok k s1 =>
    rw [e1] at q
    simp only [R.st_ok] at q
    intro H1 fr1 d1
    cases k with
    | true =>
      simp only [if_true] at q ⊢
      exact ⟨c, env, s1, Fs, gd.fr fr1 d1, q⟩
    | false =>
      simp only [Bool.false_eq_true, if_false] at q ⊢
      exact ⟨c, env, s1, Fs, gd.fr fr1 d1, q⟩

/-! ### stores -/
/-- a new value, owned -/
theorem Good.bindN {K : PySem.W.Frag} {c : C} {H H' : Hp} {σ : L2.St} {env : Ev} {s s' : DS} {Fs : Nat → List Addr} (g : Good K c H σ env s Fs) {F : List Addr} (a : AlOk H Fs none F) : BindOk c env Fs .own F where
  own := fun _ => ⟨a.1, fun b hb => g.h0 (a.2 b hb), fun j b hb q => g.ne q (a.2 b hb)⟩
  oth := fun j d e b hb hF => g.ne hb (a.2 b hF)
  zed := fun b hb => .inl (g.h0 (a.2 b hb))
  ndr := a.ndr g
theorem asg_core {is : List Nat} {b : B} {σ : L2.St} {H : Hp} {D : Ends} (q : tS X.K X.mg W (sAsg b f) D σ H) : tAsg (tE X.K X.mg W f) (tG X.K is b) D σ H := by
  obtain ⟨c, env, s, Fs, gd, q⟩ := q
  refine st_core f gd q fun x s' v H' F e q fr d g' r a => ?_
  cases z : x.2 with
  | none =>
    rw [z] at q a
    dsimp only at q
    refine ⟨c, env, s', Fs, x.1, .own, F, g', r, gd.bindN (H' := H') (s' := s') a, ?_⟩
    cases y : b x.1 .own env with
    | none => rw [y] at q; exact q.elim
    | some env1 =>
      rw [y] at q
      exact fun σ1 Fs1 g1 _ _ _ _ _ => q σ1 H' Fs1 g1
  | some bs =>
    rw [z] at q a
    dsimp only at q
    refine ⟨c, freeze bs env, s', Fs, x.1, .frz, F, g'.freeze bs, r, gd.bindF (al := some bs) a, ?_⟩
    cases y : b x.1 .frz (freeze bs env) with
    | none => rw [y] at q; exact q.elim
    | some env1 =>
      rw [y] at q
      exact fun σ1 Fs1 g1 _ _ _ _ _ => q σ1 H' Fs1 g1
theorem s_set {i : Nat} {x : Str} {pos' : Pos} (hN : X.N.Nodup) (hi : X.N[i]? = some x) (hx : Loc X.env.scope x) (he : ERep X W e f) (hs : swapsWith e (some (.Name x pos')) pos.line X.env = pure false := by rfl) (hf : X.fn x = true ∨ X.env.scope.names.lookup x = some .local := by first | exact .inl rfl | exact .inr rfl | assumption) :
    SRep X W (.Assign [.Name x pos'] e pos) (sAsg (bName i) f) := by
  refine PS.imp (ps_set hN hi hx he hs hf) fun D σ H q => ?_
  obtain ⟨c, env, s, Fs, gd, q⟩ := q
  refine st_core f gd q fun y s' v H' F e q fr d g' r a => ?_
  cases z : y.2 with
  | none =>
    rw [z] at q a
    dsimp only [bName, nxO] at q
    exact bind_name (Q := D.nx) i g' r (gd.bindN (H' := H') (s' := s') a) fun σ1 Fs1 g1 _ _ _ _ _ => q σ1 H' Fs1 g1
  | some bs =>
    rw [z] at q a
    dsimp only [bName, nxO] at q
    exact bind_name (Q := D.nx) i (g'.freeze bs) r (gd.bindF (al := some bs) a) fun σ1 Fs1 g1 _ _ _ _ _ => q σ1 H' Fs1 g1
theorem s_asg {tg : Expr} {is : List Nat} {b : B} (he : ERep X W e f) (hg : GRep X tg is b) (hs : swapsWithSole [tg] e pos.line X.env = pure false := by rfl) (hw : swappedStores [tg] e X.env = pure none := by rfl)
    (h1 : (assignEach [tg] X.env).map (·.2) = [assign tg X.env] := by rfl) : SRep X W (.Assign [tg] e pos) (sAsg b f) :=
  PS.imp (ps_asg he hg.1 hs hw h1) fun D σ H q => asg_core q
/-- a, b = x, y of plain local names -/
theorem s_par {i j : Nat} {x y : Str} {a b : Expr} {fa : A} {px py pt : Pos} {kt k2 : Nat} {pt2 : Pos} (hc : X.calm = true) (hN : X.N.Nodup) (hi : X.N[i]? = some x) (hj : X.N[j]? = some y) (hij : i ≠ j)
    (hx : X.env.scope.names.lookup x = some .local) (hy : X.env.scope.names.lookup y = some .local) (ha : ARep X W [a, b] fa)
    (hw : swappedStores [.Tuple [.Name x px, .Name y py] kt pt] (.Tuple [a, b] k2 pt2) X.env = pure (some [x, y]) := by rfl)
    (hs : swapsWithSole [.Tuple [.Name x px, .Name y py] kt pt] (.Tuple [a, b] k2 pt2) pos.line X.env = pure false := by rfl) :
    SRep X W (.Assign [.Tuple [.Name x px, .Name y py] kt pt] (.Tuple [a, b] k2 pt2) pos) (sPar [i, j] fa) := by
  refine PS.imp (ps_par hc hN hi hj hij hx hy ha.1 hw hs) fun D σ H ⟨c, env, s, Fs, gd, q⟩ => ⟨c, env, s, Fs, gd, ?_⟩
  unfold sPar at q
  cases e1 : fa env s with
  | bad => rw [e1] at q; exact q.elim
  | exc x s1 =>
    rw [e1] at q
    exact fun cls dc H' f' d' xo => q σ H' Fs cls dc (gd.fr f' d') xo
  | ok z s1 =>
    rw [e1] at q
    obtain ⟨z1, z2⟩ := z
    simp only [R.st_ok] at q
    intro vs H1 F fr1 d1 r al
    have g1 := gd.fr fr1 d1
    have hl := ha.2 _ _ _ _ e1
    dsimp only at r al hl
    -- both ways alike
    have go : ∀ (m : Md) (env0 : Ev), Good X.K c H1 σ env0 s1 Fs → BindOk c env0 Fs m F → PostS X.K X.mg W c (nxO (bTupL ([i, j].map bName) z1 m env0) s1) D → ∃ v w, vs = [v, w] ∧ D.nx ((σ.set i (some v)).set j (some w)) H1 := by
      intro m env0 g0 bo q
      cases r with
      | nil => cases hl
      | @cons v1 d1' F1 vs1 ds1 G1 r1 r2 =>
        cases r2 with
        | nil => cases hl
        | @cons v2 d2' F2 vs2 ds2 G2 r2 r3 =>
          cases r3 with
          | cons _ _ => cases hl
          | nil =>
            refine ⟨v1, v2, rfl, ?_⟩
            rw [List.append_nil] at bo
            have nd : m = .own → ∀ a ∈ F1, a ∉ F2 := fun e a h1 h2 => (List.nodup_append.mp (bo.own e).1).2.2 a h1 a h2 rfl
            have bo1 : BindOk c env0 Fs m F1 := ⟨fun e => ⟨(List.nodup_append.mp (bo.own e).1).1, fun a ha => (bo.own e).2.1 a (List.mem_append_left _ ha), fun j a ha => (bo.own e).2.2 j a (List.mem_append_left _ ha)⟩,
              fun j d e a ha z => bo.oth j d e a ha (List.mem_append_left _ z), fun a ha => bo.zed a (List.mem_append_left _ ha), fun z => bo.ndr (List.mem_append_left _ z)⟩
            refine bind_name (Q := fun σ1 H1 => D.nx (σ1.set j (some v2)) H1) i g0 r1 bo1 fun σ1 Fs1 g1' a1 a2 a3 a4 a5 => ?_
            have bo2 : BindOk c (setS env0 i (some (if lf d1' then .own else m, d1'))) Fs1 m F2 := by
              refine ⟨fun e => ⟨(List.nodup_append.mp (bo.own e).1).2.1, fun a ha => (bo.own e).2.1 a (List.mem_append_right _ ha), fun k a ha q => ?_⟩, fun k d e a ha q => ?_, fun a ha => bo.zed a (List.mem_append_right _ ha), fun q => bo.ndr (List.mem_append_right _ q)⟩
              · by_cases hk : k ∈ [i]
                · exact nd e a (a4 k hk a q) ha
                · rw [a3 k hk] at q
                  exact (bo.own e).2.2 k a (List.mem_append_right _ ha) q
              · by_cases hk : k ∈ [i]
                · rcases a5 k hk d e with z | z
                  · exact nd z a (a4 k hk a ha) q
                  · rw [z] at ha; cases ha
                · rw [a3 k hk] at ha
                  have : k ≠ i := fun z => hk (by simp [z])
                  rw [getS_set_ne this] at e
                  exact bo.oth k d e a ha (List.mem_append_right _ q)
            exact bind_name (Q := D.nx) j g1' r2 bo2 fun σ2 Fs2 g2 _ _ _ _ _ => q σ2 H1 Fs2 g2
    cases z2 with
    | none =>
      exact go .own env g1 (gd.bindN (H' := H1) (s' := s1) al) q
    | some bs =>
      exact go .frz _ (g1.freeze bs) (gd.bindF (al := some bs) al) q
/-- x op= e by values -/
def rAug (K : PySem.W.Frag) (g : D → D → Option D) : TIp := fun x y H Q => ∃ dr d1 d2 F1 F2 r, Rep K dr H x d1 F1 ∧ Rep K dr H y d2 F2 ∧ g d1 d2 = some r ∧ lf r = true ∧ ∀ z H', Same H H' → Rep K dr H' z r [] → Q z H'
theorem s_aug {i : Nat} {x : Str} {op : Operator} {gg : D → D → Option D} {pos' : Pos} (hN : X.N.Nodup) (hi : X.N[i]? = some x) (hx : Loc X.env.scope x) (he : ERep X W e f) (ho : PIp X op (rAug X.K gg)) (hf : X.fn x = true ∨ X.env.scope.names.lookup x = some .local := by first | exact .inl rfl | exact .inr rfl | assumption) :
    SRep X W (.AugAssign (.Name x pos') op e pos) (sAug i gg f) := by
  refine PS.imp (ps_aug hN hi hx he ho hf) fun D σ H ⟨c, env, s, Fs, gd, q⟩ => ?_
  unfold sAug at q
  cases q1 : getS env i with
  | none => rw [q1] at q; exact q.elim
  | some z =>
    obtain ⟨m, d⟩ := z
    rw [q1] at q
    dsimp only at q
    obtain ⟨v0, e0, r0⟩ := gd.slot i m d q1
    refine ⟨v0, e0, ?_⟩
    refine st_core f gd q fun y s' v H' F e q fr dd g' r a => ?_
    cases q2 : gg d y.1 with
    | none => rw [q2] at q; exact q.elim
    | some w =>
      rw [q2] at q
      dsimp only at q
      by_cases hl : lf w = true
      · rw [if_pos hl] at q
        refine ⟨c.dr, d, y.1, Fs i, F, w, r0.fr fr gd.draw (gd.ndr i), r, q2, hl, fun zv H2 sm rz => ?_⟩
        have g2 := g'.fr (Fr.of_same sm) (dd.same sm)
        refine bind_name (Q := D.nx) (m := .own) i g2 rz ⟨fun _ => ⟨List.nodup_nil, (fun _ h => nomatch h), fun _ _ h => nomatch h⟩, (fun _ _ _ _ _ h => nomatch h), (fun _ h => nomatch h), fun h => nomatch h⟩ fun σ1 Fs1 g1 _ _ _ _ _ => q σ1 H2 Fs1 ?_
        rw [if_pos hl] at g1
        exact g1
      · rw [if_neg hl] at q
        exact q.elim
end
end Sm
end
section
set_option Elab.async false
set_option linter.all false
set_option maxRecDepth 100000
set_option maxHeartbeats 4000000
/-! Sound7: loops, errors, lists changed in place, defs. -/
namespace Sm
open PySem PySem.Spec L2

/-! ### within a loop: all but what is owned is kept -/
open Classical in
noncomputable def recx (c : C) (H : Hp) (env : Ev) (Fs : Nat → List Addr) : C :=
  { c with H0 := fun a => if ∃ i d, getS env i = some (.own, d) ∧ a ∈ Fs i then none else H a, Z := fun a => c.H0 a = none ∨ c.Z a }
theorem recx_own {c : C} {H : Hp} {env : Ev} {Fs : Nat → List Addr} {a : Addr} (h : ∃ i d, getS env i = some (.own, d) ∧ a ∈ Fs i) : (recx c H env Fs).H0 a = none := if_pos h
theorem recx_oth {c : C} {H : Hp} {env : Ev} {Fs : Nat → List Addr} {a : Addr} (h : ¬ ∃ i d, getS env i = some (.own, d) ∧ a ∈ Fs i) : (recx c H env Fs).H0 a = H a := if_neg h
section
variable {K : PySem.W.Frag} {mg : Str → Option Value} {W : WX} {c : C} {H H1 : Hp} {σ σ1 : L2.St} {env env1 : Ev} {s s1 : DS} {Fs Fs1 : Nat → List Addr}
theorem Good.recx (g : Good K c H σ env s Fs) : Good K (recx c H env Fs) H σ env s Fs := by
  have dn : ¬ ∃ i d, getS env i = some (.own, d) ∧ c.dr ∈ Fs i := fun ⟨i, _, _, q⟩ => g.ndr i q
  have cn : ¬ ∃ i d, getS env i = some (.own, d) ∧ c.cl ∈ Fs i := fun ⟨i, d, e, q⟩ => by
    obtain ⟨s0, _, _, e2, _⟩ := g.drw0
    rw [(g.own i d e).2.1 _ q] at e2
    cases e2
  refine ⟨fun a o n e => ?_, g.draw, ⟨s, ?_⟩, g.len, g.slot, g.off, fun i d e => ⟨(g.own i d e).1, fun a ha => recx_own ⟨i, d, e, ha⟩, (g.own i d e).2.2⟩, fun i a ha => .inr (g.zed i a ha), g.ndr⟩
  · by_cases h : ∃ i d, getS env i = some (.own, d) ∧ a ∈ Fs i
    · rw [recx_own h] at e; cases e
    · rw [recx_oth h] at e; exact e
  · obtain ⟨e1, e2, e3, e4⟩ := g.draw
    exact ⟨(recx_oth dn).trans e1, e2, (recx_oth cn).trans e3, e4⟩
theorem recx_keep (g1 : Good K c H1 σ1 env1 s1 Fs1) {a : Addr} {o : HO} (n : a ≠ c.dr) (e : c.H0 a = some o) : (Sm.recx c H1 env1 Fs1).H0 a = some o := by
  rw [recx_oth]
  · exact g1.pres a o n e
  · rintro ⟨i, d, e', q⟩
    rw [(g1.own i d e').2.1 a q] at e
    cases e
theorem recx_none (g1 : Good K c H1 σ1 env1 s1 Fs1) {a : Addr} (n : a ≠ c.dr) (e : (Sm.recx c H1 env1 Fs1).H0 a = none) : c.H0 a = none := by
  cases q : c.H0 a with
  | none => rfl
  | some o => rw [recx_keep g1 n q] at e; cases e
theorem Good.unrecx (g1 : Good K c H1 σ1 env1 s1 Fs1) (g : Good K (Sm.recx c H1 env1 Fs1) H σ env s Fs) : Good K c H σ env s Fs where
  pres := fun a o n e => g.pres a o n (recx_keep g1 n e)
  draw := g.draw
  drw0 := g1.drw0
  len := g.len
  slot := g.slot
  off := g.off
  own := fun i d e => ⟨(g.own i d e).1, fun a ha => recx_none g1 (fun q => g.ndr i (q ▸ ha)) ((g.own i d e).2.1 a ha), (g.own i d e).2.2⟩
  zed := fun i a ha => (g.zed i a ha).elim (fun q => .inl (recx_none g1 (fun z => g.ndr i (z ▸ ha)) q)) id
  ndr := g.ndr
theorem RtOk.unrecx (g1 : Good K c H1 σ1 env1 s1 Fs1) {d : D} {fr : Bool} {v : V} (r : RtOk K (Sm.recx c H1 env1 Fs1) d fr s v H) : RtOk K c d fr s v H := by
  obtain ⟨F, h1, h2, h3, h4, h5⟩ := r
  have nd : ∀ a, (Sm.recx c H1 env1 Fs1).H0 a = none → c.H0 a = none := fun a e => by
    by_cases n : a = c.dr
    · exfalso
      rw [n, recx_oth (fun ⟨i, _, _, q⟩ => g1.ndr i q)] at e
      exact g1.draw.ne e
    · exact recx_none g1 n e
  refine ⟨F, fun a o n e => h1 a o n (recx_keep g1 n e), h2, h3, fun k => ⟨(h4 k).1, fun a ha => nd a ((h4 k).2 a ha)⟩, fun a ha => (h5 a ha).elim (fun q => .inl (nd a q)) id⟩
theorem PostS.recx (g1 : Good K c H1 σ1 env1 s1 Fs1) {r : RS} {En : Ends} (h : PostS K mg W c r En) : PostS K mg W (Sm.recx c H1 env1 Fs1) r En := by
  cases r with
  | nx e s => exact fun σ H Fs g => h σ H Fs (g1.unrecx g)
  | rt d fr s => exact fun v H r => h v H (r.unrecx g1)
  | bk e s => exact fun σ H Fs g => h σ H Fs (g1.unrecx g)
  | ct e s => exact fun σ H Fs g => h σ H Fs (g1.unrecx g)
  | ex e env s => exact fun σ H Fs cls dc g x => h σ H Fs cls dc (g1.unrecx g) x
  | bad => exact h.elim
end

section
variable {X : Cx} {W : WX} {st : Stmt} {rest body : List Stmt} {tg iter e e1 e2 : Expr} {pos p : Pos} {f f1 f2 : E} {g h : S} {t : T} {it : I} {b : B} {is : List Nat}
theorem s_while (n : Nat) (hp : PassesOwn (model X.prog X.w) X.A X.env X.xe) (hc : TRep X W e t) (hb : SsRep X W body g) : SRep X W (.While e body [] pos) (sWhile n t g) := by
  refine PS.imp (ps_while hp hc hb) fun D σ H ⟨c, env, s, Fs, gd, q⟩ => ?_
  refine ⟨fun m σ H => ∃ env s Fs, Good X.K c H σ env s Fs ∧ PostS X.K X.mg W c (whileF t g m env s) D, ⟨n, env, s, Fs, gd, q⟩, fun m σ H ⟨env, s, Fs, gd, q⟩ => ?_⟩
  cases m with
  | zero => exact q.elim
  | succ m =>
    refine ⟨c, env, s, Fs, gd, ?_⟩
    unfold whileF at q
    cases e1 : t env s with
    | bad => rw [e1] at q; exact q.elim
    | exc x s1 =>
      rw [e1] at q
      exact fun cls dc H' f' d' xo => q σ H' Fs cls dc (gd.fr f' d') xo
    | ok k s1 =>
      rw [e1] at q
      simp only [R.st_ok] at q
      intro H1 fr1 d1
      have g1 := gd.fr fr1 d1
      cases k with
      | false =>
        simp only [Bool.false_eq_true, if_false] at q ⊢
        exact q σ H1 Fs g1
      | true =>
        simp only [if_true] at q ⊢
        refine ⟨fun σ' H' => ∃ env2 s2 Fs2, Good X.K c H' σ' env2 s2 Fs2 ∧ PostS X.K X.mg W c (whileF t g m env2 s2) D, fun σ' H' z => ⟨m, Nat.lt_succ_self m, z⟩, c, env, s1, Fs, g1, ?_⟩
        cases e2 : g env s1 with
        | nx en s2 => rw [e2] at q; exact fun σ2 H2 Fs2 g2 => ⟨en, s2, Fs2, g2, q⟩
        | ct en s2 => rw [e2] at q; exact fun σ2 H2 Fs2 g2 => ⟨en, s2, Fs2, g2, q⟩
        | bk en s2 => rw [e2] at q; exact q
        | rt d fr s2 => rw [e2] at q; exact q
        | ex x en s2 => rw [e2] at q; exact q
        | bad => rw [e2] at q; exact q.elim
theorem s_for (hp : PassesOwn (model X.prog X.w) X.A X.env X.xe) (hc : X.calm = true) (hi : IRep X W tg iter it) (hg : GRep X tg is b) (hb : SsRep X W body g) (hs : ∀ x, foldedSetIterable iter X.env x = pure x := by intro _; rfl) :
    SRep X W (.For tg iter body [] pos) (sFor it b g) := by
  refine PS.imp (ps_for hp hc hi hg.1 hb hs) fun D σ H ⟨c, env, s, Fs, gd, q⟩ => ⟨c, env, s, Fs, gd, ?_⟩
  unfold sFor at q
  cases e1 : it env s with
  | bad => rw [e1] at q; exact q.elim
  | exc x s1 =>
    rw [e1] at q
    exact fun cls dc H' f' d' xo => q σ H' Fs cls dc (gd.fr f' d') xo
  | ok x s1 =>
    rw [e1] at q
    obtain ⟨ds, al⟩ := x
    simp only [R.st_ok] at q
    intro J H1 F fr1 d1 a1 wk
    obtain ⟨hlim, hF, wk⟩ := wk
    dsimp only at wk hlim
    have gd1 := (gd.fr fr1 d1).freeze (al.getD [])
    have bF : BindOk c (freeze (al.getD []) env) Fs .frz F := gd.bindF a1
    generalize freeze (al.getD []) env = env0 at q gd1 bF
    have own0 : ∀ a ∈ F, ¬ ∃ i d, getS env0 i = some (.own, d) ∧ a ∈ Fs i := fun a ha ⟨i, d, e, z⟩ => bF.oth i d e a z ha
    refine ⟨fun i m σ H => m = ds.length - i ∧ i ≤ ds.length ∧ ∃ env s Fs2, Good X.K (Sm.recx c H1 env0 Fs) H σ env s Fs2 ∧ PostS X.K X.mg W c (forF b g (ds.drop i) env s) D, ⟨ds.length, rfl, Nat.zero_le _, env0, s1, Fs, gd1.recx, q⟩, ?_⟩
    rintro i m σ2 H2 ⟨hm, hi, env2, s2, Fs2, g2, q⟩
    have imm2 : Imm H1 H2 := fun a => by
      have k : ∀ o, H1 a = some o → (∀ xs, o ≠ .lst xs) → (∀ xs, o ≠ .dK xs) → H2 a = some o := fun o e n1 n2 => by
        have na : a ≠ c.dr := fun z => by
          obtain ⟨e', _⟩ := d1
          rw [z, e'] at e
          exact n1 _ (Option.some.inj e).symm
        refine g2.pres a o na ?_
        rw [recx_oth]
        · exact e
        · rintro ⟨j, d, ej, z⟩
          obtain ⟨v, _, r⟩ := gd1.slot j _ d ej
          rcases r.there a z with ⟨xs, e'⟩ | ⟨xs, e'⟩
          · rw [e] at e'; exact n1 _ (Option.some.inj e')
          · rw [e] at e'; exact n2 _ (Option.some.inj e')
      exact ⟨fun xs e => k _ e (fun _ z => by cases z) (fun _ z => by cases z), fun o u e => k _ e (fun _ z => by cases z) (fun _ z => by cases z)⟩
    have hF2 : ∀ a ∈ F, H2 a = H1 a := fun a ha => by
      cases e : H1 a with
      | none => exact absurd e (hF a ha)
      | some o => exact g2.pres a o (fun z => bF.ndr (z ▸ ha)) ((recx_oth (own0 a ha)).trans e)
    obtain ⟨w1, w2, w3⟩ := wk H2 imm2 hF2
    by_cases hlt : i < ds.length
    · refine .inr ⟨w1 i hlt, fun σ' H' => ∃ m', m' < m ∧ (m' = ds.length - (i + 1) ∧ i + 1 ≤ ds.length ∧ ∃ env s Fs2, Good X.K (recx c H1 env0 Fs) H' σ' env s Fs2 ∧ PostS X.K X.mg W c (forF b g (ds.drop (i + 1)) env s) D), fun σ' H' z => z, fun x H3 hy => ?_⟩
      have eg : ds[i]? = some ds[i] := List.getElem?_eq_getElem hlt
      obtain ⟨sm3, G1, rx, mG⟩ := w3 i _ x H3 eg hy
      have edrop : ds.drop i = ds[i] :: ds.drop (i + 1) := List.drop_eq_getElem_cons hlt
      rw [edrop] at q
      have g3 := g2.fr (Fr.of_same sm3) (g2.draw.same sm3)
      have bo : BindOk (recx c H1 env0 Fs) env2 Fs2 .frz G1 := by
        refine ⟨(fun z => by cases z), fun j d e a ha hG => ?_, fun a ha => .inr (bF.zed a (mG a ha)), fun z => bF.ndr (mG _ z)⟩
        have z := (g2.own j d e).2.1 a ha
        rw [recx_oth (own0 a (mG a hG))] at z
        exact hF a (mG a hG) z
      refine ⟨_, env2, s2, Fs2, ds[i], .frz, G1, g3, rx, bo, ?_⟩
      simp only [forF] at q
      cases q1 : b ds[i] .frz env2 with
      | none => rw [q1] at q; exact q.elim
      | some env3 =>
        rw [q1] at q
        dsimp only at q
        intro σ4 Fs4 g4 _ _ _ _ _
        refine ⟨_, env3, s2, Fs4, g4, ?_⟩
        cases q2 : g env3 s2 with
        | nx en s3 => rw [q2] at q; exact fun σ5 H5 Fs5 g5 => ⟨ds.length - (i + 1), by omega, rfl, by omega, en, s3, Fs5, g5, q⟩
        | ct en s3 => rw [q2] at q; exact fun σ5 H5 Fs5 g5 => ⟨ds.length - (i + 1), by omega, rfl, by omega, en, s3, Fs5, g5, q⟩
        | bk en s3 => rw [q2] at q; exact fun σ5 H5 Fs5 g5 => q σ5 H5 Fs5 (gd1.unrecx g5)
        | rt d fr s3 => rw [q2] at q; exact fun v H5 r => q v H5 (r.unrecx gd1)
        | ex x en s3 => rw [q2] at q; exact fun σ5 H5 Fs5 cls dc g5 xo => q σ5 H5 Fs5 cls dc (gd1.unrecx g5) xo
        | bad => rw [q2] at q; exact q.elim
    · have hge : ds.length ≤ i := Nat.le_of_not_lt hlt
      have ei : i = ds.length := Nat.le_antisymm hi hge
      rw [List.drop_eq_nil_of_le hge] at q
      exact .inl ⟨ei ▸ w2, q σ2 H2 Fs2 (gd1.unrecx g2)⟩

/-! ### errors -/
theorem lookup_mem {α β : Type} [BEq α] [LawfulBEq α] {a : α} {b : β} : ∀ {l : List (α × β)}, l.lookup a = some b → (a, b) ∈ l
  | [], h => nomatch h
  | (x, y) :: l, h => by
    rw [List.lookup_cons] at h
    cases e : a == x with
    | true =>
      rw [e] at h
      cases h
      rw [eq_of_beq e]
      exact List.mem_cons_self
    | false =>
      rw [e] at h
      exact List.mem_cons_of_mem _ (lookup_mem h)
/-- raise N(..), N a class of the module without own __init__ -/
theorem s_raise {n : String} {t : L2.St → Hp → XK → Prop} {C0 : Addr} (hc : X.calm = true) (tk : Takes X W) (hm : X.mg (Str.ofString n) = some (.ref C0)) (he : PMk X e (fun _ H Q => Q (.ref C0) none H)) : SRep X W (.Raise (some e) none pos) (sRaise n) :=
  PS.imp (ps_raise hc tk he) fun D σ H ⟨c, env, s, Fs, gd, q⟩ => q σ H Fs (.ref C0) none gd ⟨_, hm, rfl⟩
/-- try: body  except N: a suite without any change -/
theorem s_try {n : Str} {cv : Value} {cs : List (String × Bool)} {b0 : Stmt} {np pos' : Pos} (hs : X.stack = X.env :: X.outer) (hf : X.env.frame = some X.env.locals) (hc : Names X n cv) (tk : Takes X W)
    (hk : ∀ p ∈ cs, ∃ u, X.mg (Str.ofString p.1) = some u ∧ PySem.W.exmOne X.K u cv = some p.2)
    (hb : ∀ (W : WX) (pn : List (Addr × Obj)) (xe : Value → Shared → Prop), Takes (X.tr pn xe) W → PassesOwn (model X.prog X.w) X.A X.env xe → SsRep (X.tr pn xe) W body g)
    (hsu : ∀ (a : Addr) (oe : Obj) (cls : Value) (d : Option Addr) (pn : List (Addr × Obj)), Zc cls d oe → (∃ vs, oe.data = .fields vs) → SsRep (X.suite a ((a, oe) :: pn)) wFalse (b0 :: rest) h) :
    SRep X W (.Try body [.ExceptHandler (some (.Name n np)) none (b0 :: rest) pos'] [] [] pos) (sTry cs g h) := by
  refine PS.imp (ps_try_only (tb := fun W' => tS X.K X.mg W' g) (ts := fun _ _ _ => tS X.K X.mg wFalse h) hs hf hc tk hb hsu) fun D σ H ⟨c, env, s, Fs, gd, q⟩ => ⟨c, env, s, Fs, gd, ?_⟩
  unfold sTry at q
  cases e1 : g env s with
  | nx en s1 => rw [e1] at q; exact q
  | ct en s1 => rw [e1] at q; exact q
  | bk en s1 => rw [e1] at q; exact q
  | rt d fr s1 => rw [e1] at q; exact q
  | bad => rw [e1] at q; exact q.elim
  | ex x en s1 =>
    rw [e1] at q
    dsimp only at q
    intro σ1 H1 Fs1 cls dc g1 xo
    obtain ⟨u, hu, rfl⟩ := id xo
    cases hb : cs.lookup x.name with
    | none => rw [hb] at q; exact q.elim
    | some b =>
      rw [hb] at q
      obtain ⟨u', hu', he⟩ := hk _ (lookup_mem hb)
      rw [hu] at hu'
      cases hu'
      refine ⟨b, he, fun z a _ => ?_, fun z => ?_⟩
      · subst z
        refine ⟨c, en, s1, Fs1, g1, ?_⟩
        dsimp only at q
        cases e2 : h en s1 with
        | nx en s1 => rw [e2] at q; exact q
        | ct en s1 => rw [e2] at q; exact q
        | bk en s1 => rw [e2] at q; exact q
        | rt d fr s1 => rw [e2] at q; exact q
        | bad => rw [e2] at q; exact q.elim
        | ex x en s1 => rw [e2] at q; exact q.elim
      · subst z
        exact q σ1 H1 Fs1 _ dc g1 xo
end
/-! own error classes -/
theorem exm_of {K : PySem.W.Frag} {R S : Addr} {b : Bool} (h1 : PySem.W.subIn K (.ref S) (.type "BaseException") = some true) (h2 : PySem.W.isClsIn K S = true) (h3 : PySem.W.typeIn K (.ref S) = some (.type "type")) (h4 : PySem.W.subIn K (.ref R) (.ref S) = some b) :
    PySem.W.exmOne K (.ref R) (.ref S) = some b := by
  have e1 : (PySem.W.subIn K (.ref S) (.type "BaseException") == some true) = true := by rw [h1] <;> rfl
  have e2 : ((PySem.W.clsIn K S).isSome && PySem.W.typeIn K (.ref S) == some (.type "type")) = true := by
    have h2' : (PySem.W.clsIn K S).isSome = true := h2
    rw [h2', h3] <;> rfl
  unfold PySem.W.exmOne PySem.W.kitCls
  rw [if_pos e1]
  dsimp only
  rw [if_pos e2]
  exact h4
/-- an error class of the module without own __init__ -/
structure Ec (K : PySem.W.Frag) (mg : Str → Option Value) (n : String) where
  C : Addr
  gl : mg (Str.ofString n) = some (.ref C)
  xc : PySem.W.excIn K C [.type "ValueError", .type "Exception", .type "BaseException", .type "object"] "ValueError.__new__" = true
  kp : PySem.W.keepIn K (.ref C) = true
  bs : PySem.W.subIn K (.ref C) (.type "BaseException") = some true
  ty : PySem.W.typeIn K (.ref C) = some (.type "type")
  ic : PySem.W.isClsIn K C = true
theorem s_raiseC {X : Cx} {W : WX} {n : String} {m : Str} {j : Nat} {p p2 p3 pos : Pos} (C : Ec X.K X.mg n) (hc : X.calm = true) (tk : Takes X W) (hg : Gl X (Str.ofString n)) (hdb : (Str.ofString n == ("__debug__" : Str)) = false := by decide) :
    SRep X W (.Raise (some (.Call (.Name (Str.ofString n) p) [.Constant (.str m) j p2] [] p3)) none pos) (sRaise n) :=
  s_raise (t := fun _ H Q => Q (.ref C.C) none H) hc tk C.gl (pmk_own PySem.F.excBase_ValueError C.xc C.gl C.kp (raises_own C.bs C.ty) hg hdb)
theorem exm_ec {K : PySem.W.Frag} {mg : Str → Option Value} {n m : String} {b : Bool} (R : Ec K mg n) (S : Ec K mg m) (h : PySem.W.subIn K (.ref R.C) (.ref S.C) = some b) : ∃ u, mg (Str.ofString n) = some u ∧ PySem.W.exmOne K u (.ref S.C) = some b :=
  ⟨_, R.gl, exm_of S.bs S.ic S.ty h⟩
end Sm
end
section
set_option Elab.async false
set_option linter.all false
set_option maxRecDepth 100000
set_option maxHeartbeats 4000000
/-! Sound8: lists changed in place; defs. -/
namespace Sm
open PySem PySem.Spec L2

/-- the list of slot i is changed -/
theorem Good.chg {K : PySem.W.Frag} {c : C} {H : Hp} {σ : L2.St} {env : Ev} {s : DS} {Fs : Nat → List Addr} (g : Good K c H σ env s Fs) {i : Nat} {a : Addr} {ds ds' : List D} {vs vs' : List V} {F0 F' : List Addr}
    (e : getS env i = some (.own, .lst ds)) (hv : σ[i]? = some (some (.ref a))) (ha : H a = some (.lst vs)) (hF : Fs i = a :: F0) (r' : Reps K c.dr H vs' ds' F') (hz : ds'.length ≤ LIM) (nd : (a :: F').Nodup)
    (h0 : ∀ b ∈ F', c.H0 b = none) (dj : ∀ j, j ≠ i → ∀ b ∈ F', b ∉ Fs j) (ndr : c.dr ∉ F') :
    Good K c (upd H a (.lst vs')) σ (setS env i (some (.own, .lst ds'))) s (fun j => if j = i then a :: F' else Fs j) := by
  obtain ⟨o1, o2, o3⟩ := g.own i _ e
  have hi : i < env.length := getS_lt e
  have a0 : c.H0 a = none := o2 a (by rw [hF]; exact List.mem_cons_self)
  have adr : a ≠ c.dr := fun q => g.ndr i (by rw [hF, q]; exact List.mem_cons_self)
  have acl : a ≠ c.cl := fun q => by
    obtain ⟨s0, _, _, e2, _⟩ := g.drw0
    rw [q, e2] at a0
    cases a0
  have aF' : a ∉ F' := (List.nodup_cons.mp nd).1
  have oth : ∀ j, j ≠ i → a ∉ Fs j := fun j hj => o3 j hj a (by rw [hF]; exact List.mem_cons_self)
  have imm : Imm H (upd H a (.lst vs')) := fun b => by
    refine ⟨fun xs q => ?_, fun o u q => ?_⟩
    · rw [upd_ne]; exact q
      intro z; rw [z, ha] at q; cases q
    · rw [upd_ne]; exact q
      intro z; rw [z, ha] at q; cases q
  have slf : getS (setS env i (some (.own, .lst ds'))) i = some (.own, .lst ds') := getS_set_self hi
  refine ⟨fun b o n q => ?_, ?_, g.drw0, by rw [setS_len]; exact g.len, fun j m d q => ?_, fun j q => ?_, fun j d q => ?_, fun j b hb => ?_, fun j hb => ?_⟩
  · rw [upd_ne]
    · exact g.pres b o n q
    · intro z; rw [z, a0] at q; cases q
  · obtain ⟨e1, e2, e3, e4⟩ := g.draw
    exact ⟨by rw [upd_ne (Ne.symm adr)]; exact e1, e2, by rw [upd_ne (Ne.symm acl)]; exact e3, e4⟩
  · by_cases hj : j = i
    · subst hj
      rw [slf] at q
      cases q
      simp only [if_true]
      exact ⟨.ref a, hv, .lst hz upd_same (r'.mono imm fun b hb => upd_ne fun z => aF' (z ▸ hb))⟩
    · rw [getS_set_ne hj] at q
      simp only [if_neg hj]
      obtain ⟨v, h1, h2⟩ := g.slot j m d q
      exact ⟨v, h1, h2.mono imm fun b hb => upd_ne fun z => oth j hj (z ▸ hb)⟩
  · by_cases hj : j = i
    · subst hj
      rw [slf] at q
      cases q
    · rw [getS_set_ne hj] at q
      simp only [if_neg hj]
      exact g.off j q
  · by_cases hj : j = i
    · subst hj
      simp only [if_true]
      refine ⟨nd, fun b hb => ?_, fun k hk b hb => ?_⟩
      · rcases List.mem_cons.mp hb with rfl | hb
        · exact a0
        · exact h0 b hb
      · rw [if_neg hk]
        rcases List.mem_cons.mp hb with rfl | hb
        · exact oth k hk
        · exact dj k hk b hb
    · rw [getS_set_ne hj] at q
      simp only [if_neg hj]
      obtain ⟨k1, k2, k3⟩ := g.own j d q
      refine ⟨k1, k2, fun k hk b hb => ?_⟩
      by_cases hki : k = i
      · rw [if_pos hki]
        intro z
        rcases List.mem_cons.mp z with rfl | z
        · exact oth j hj hb
        · exact dj j hj b z hb
      · rw [if_neg hki]
        exact k3 k hk b hb
  · by_cases hj : j = i
    · rw [if_pos hj] at hb
      rcases List.mem_cons.mp hb with rfl | hb
      · exact .inl a0
      · exact .inl (h0 b hb)
    · rw [if_neg hj] at hb
      exact g.zed j b hb
  · by_cases hj : j = i
    · rw [if_pos hj] at hb
      rcases List.mem_cons.mp hb with z | hb
      · exact adr z.symm
      · exact ndr hb
    · rw [if_neg hj] at hb
      exact g.ndr j hb
section
variable {X : Cx} {W : WX} {st : Stmt} {e e1 e2 : Expr} {pos p : Pos} {f f1 f2 fi : E}
/-- x.append(e) -/
theorem s_app {i : Nat} {x : Str} {apos cpos px : Pos} (hN : X.N[i]? = some x) (hv : Vis X.env.scope x) (he : ERep X W e f) (hd : (x == ("__debug__" : Str)) = false := by decide) (hcd : (x == ("__classdict__" : Str)) = false := by decide)
    (hsw : swapsWith (.Call (.Attribute (.Name x px) "append" apos) [e] [] cpos) none pos.line X.env = pure false := by rfl)
    (hfew : ((backTo cpos (starEach [e] X.env)).all (fun x => !x.1) && (backToKw cpos (keywordEach [] X.env)).all (fun x => x.1.isSome)
      && decide ([e].length + ([] : List Keyword).length + (if ([] : List Keyword).isEmpty then 0 else 1) < 30)) = true := by rfl)
    (hline : (apos.endLine == cpos.line) = true := by rfl) (hs : starEach [e] X.env = (false, eval e X.env) :: starEach [] X.env := by rfl) :
    SRep X W (.Expr (.Call (.Attribute (.Name x px) "append" apos) [e] [] cpos) pos) (sApp i f) := by
  refine PS.imp (ps_expr (pe_bm PySem.F.plainAttrs_list PySem.F.slot_list_append PySem.F.type_list_append mt_append (pe_var (i := i) hN hv hd hcd) (pa_cons he pa_nil hs) rfl hfew hline hs rfl) hsw) fun D σ H ⟨c, env, s, Fs, gd, q⟩ => ?_
  unfold sApp at q
  cases z : getS env i with
  | none => rw [z] at q; exact q.elim
  | some md =>
    obtain ⟨m, d⟩ := md
    rw [z] at q
    obtain ⟨v, hv1, r⟩ := gd.slot i _ _ z
    cases m with
    | frz => exact q.elim
    | own =>
      generalize hFi : Fs i = Fi at r
      cases r with
      | @lst a vs ds F0 hz hl hr =>
        refine ⟨_, hv1, .inl ⟨rfl, vs, .inl (.inl hl)⟩, ?_⟩
        dsimp only at q
        refine st_core f gd q fun y s' w H' F e q fr d g' r al => ?_
        cases ya : y.2 with
        | some bs => rw [ya] at q; exact q.elim
        | none =>
          rw [ya] at q al
          dsimp only at q
          by_cases hlen : ds.length < LIM
          · rw [if_pos hlen] at q
            have nd := g'.ndr i
            rw [hFi] at nd
            have hl' : H' a = some (.lst vs) := fr a _ (fun q => nd (q ▸ List.mem_cons_self)) hl
            have hr' : Reps X.K c.dr H' vs ds F0 := hr.fr fr gd.draw fun q => nd (List.mem_cons_of_mem _ q)
            refine ⟨a, vs, w, rfl, rfl, hl', by rw [hr.length, sizeLine_eq]; exact Nat.lt_trans hlen (by decide), ?_⟩
            obtain ⟨o1, o2, o3⟩ := gd.own i _ z
            rw [hFi] at o1 o2 o3
            have exF : ∀ b ∈ F0, H b ≠ none := fun b hb => hr.ne hb
            have exa : H a ≠ none := by rw [hl]; intro q; cases q
            have rA : Reps X.K c.dr H' (vs ++ [w]) (ds ++ [y.1]) (F0 ++ F) := by
              have := hr'.append (.cons r .nil)
              rw [List.append_nil] at this
              exact this
            refine q σ _ _ (g'.chg z hv1 hl' hFi rA (by rw [List.length_append]; exact hlen) ?_ ?_ ?_ ?_)
            · refine List.nodup_cons.mpr ⟨fun q => ?_, List.nodup_append.mpr ⟨(List.nodup_cons.mp o1).2, al.1, fun b hb b' hb' e => exF b hb (e ▸ al.2 b' hb')⟩⟩
              rcases List.mem_append.mp q with q | q
              · exact (List.nodup_cons.mp o1).1 q
              · exact exa (al.2 a q)
            · intro b hb
              rcases List.mem_append.mp hb with hb | hb
              · exact o2 b (List.mem_cons_of_mem _ hb)
              · exact gd.h0 (al.2 b hb)
            · intro j hj b hb
              rcases List.mem_append.mp hb with hb | hb
              · exact o3 j hj b (List.mem_cons_of_mem _ hb)
              · exact fun q => gd.ne q (al.2 b hb)
            · intro q
              rcases List.mem_append.mp q with q | q
              · exact nd (List.mem_cons_of_mem _ q)
              · exact gd.draw.ne (al.2 _ q)
          · rw [if_neg hlen] at q
            exact q.elim
      | _ => exact q.elim
end

/-! ### defs -/
theorem getS_map {g : D → Slot} : ∀ {ds : List D} {r : List Slot} {i : Nat}, getS (ds.map g ++ r) i = match ds[i]? with
    | some d => g d
    | none => getS r (i - ds.length)
  | [], r, i => by simp
  | d :: ds, r, 0 => by simp [getS]
  | d :: ds, r, i + 1 => by
    simp only [List.map_cons, List.cons_append, getS, List.getElem?_cons_succ, List.length_cons, Nat.add_sub_add_right]
    exact getS_map
theorem getS_rep : ∀ {n i : Nat}, getS (List.replicate n none) i = none
  | 0, _ => rfl
  | n + 1, 0 => rfl
  | n + 1, i + 1 => getS_rep (n := n) (i := i)
theorem getS_init {ds : List D} {n i : Nat} : getS (initE ds n) i = (ds[i]?).map fun d => (if lf d then Md.own else .frz, d) := by
  unfold initE
  rw [getS_map]
  cases ds[i]? with
  | none => exact getS_rep
  | some d => rfl
theorem Reps.slots {K : PySem.W.Frag} {dr : Addr} {H : Hp} : ∀ {vs : List V} {ds : List D} {F : List Addr}, Reps K dr H vs ds F → ∃ Fs : Nat → List Addr, (∀ i d, ds[i]? = some d → ∃ v, vs[i]? = some v ∧ Rep K dr H v d (Fs i)) ∧ (∀ i, ds[i]? = none → Fs i = []) ∧ ∀ i a, a ∈ Fs i → a ∈ F
  | _, _, _, .nil => ⟨fun _ => [], fun i d h => by simp at h, fun _ _ => rfl, fun _ _ h => nomatch h⟩
  | _, _, _, @Reps.cons _ _ _ v d F vs ds G r t => by
    obtain ⟨Fs, h1, h2, h3⟩ := t.slots
    refine ⟨fun i => match i with
      | 0 => F
      | i + 1 => Fs i, fun i e h => ?_, fun i h => ?_, fun i a h => ?_⟩
    · cases i with
      | zero =>
        simp at h
        subst h
        exact ⟨v, rfl, r⟩
      | succ i =>
        obtain ⟨w, k1, k2⟩ := h1 i e (by simpa using h)
        exact ⟨w, by simpa using k1, k2⟩
    · cases i with
      | zero => simp at h
      | succ i => exact h2 i (by simpa using h)
    · cases i with
      | zero => exact List.mem_append_left _ h
      | succ i => exact List.mem_append_right _ (h3 i a h)
section
variable {P : Program} {w : World} {K : PySem.W.Frag} {mg : Str → Option Value} {base : Heap}
/-- THE RULE for a def -/
theorem fn_rep {x qual : Str} {st : Stmt} {f : Addr} {fd : FuncData} {N ps : List Str} {k : Nat} {g : S} (F : Fun K x qual st f fd) (S : FnScope N ps (defScope st))
    (hb : ∀ (cdv : Value) (A : Around) (outer : List Env) (s : Shared) (H : Hp) (E : XK), Room k (A.deeper (PyProof.Rows.envOfC qual (defScope st) s.heap.objs.size f cdv)) →
      SsRep (cxOf (L2.CX P w) P w K mg base N qual (defScope st) f cdv A outer s H E) (fun cls d _ H => E cls d H) (defBody st) g) : FnRep P w K mg base (k + 1) f fd ps (runB g N.length ps.length) := by
  have hN : ps.length ≤ N.length := by
    have := congrArg List.length S.pre
    rw [List.length_take] at this
    omega
  refine F.okX S (fun vs H Q E h => h.1) fun cdv A outer s H vs Q E hr ⟨hl, dr, cl, sd, ds, G, d, r, nd, q⟩ => ⟨_, hb cdv A outer s H E hr, ?_⟩
  obtain ⟨Fs, h1, h2, h3⟩ := r.slots
  have hdl : ds.length = ps.length := by rw [← r.length, hl]
  have gd : Good K ⟨dr, cl, H, fun a => a ∈ G⟩ H (L2.start N vs) (initE ds N.length) sd Fs := by
    refine ⟨fun _ _ _ e => e, d, ⟨sd, d⟩, ?_, fun i m e he => ?_, fun i he => ?_, fun i e he => ?_, fun i a ha => .inr (h3 i a ha), fun i ha => nd (h3 i _ ha)⟩
    · unfold initE L2.start
      rw [List.length_append, List.length_append, List.length_map, List.length_map, List.length_replicate, List.length_replicate, hdl, hl]
    · rw [getS_init] at he
      cases k1 : ds[i]? with
      | none => rw [k1] at he; cases he
      | some e' =>
        rw [k1] at he
        cases he
        obtain ⟨v, k2, k3⟩ := h1 i _ k1
        refine ⟨v, ?_, k3⟩
        unfold L2.start
        have hi : i < vs.length := (List.getElem?_eq_some_iff.mp k2).1
        rw [List.getElem?_append_left (by rw [List.length_map]; exact hi), List.getElem?_map, k2]
        rfl
    · rw [getS_init] at he
      refine h2 i ?_
      cases k1 : ds[i]? with
      | none => rfl
      | some e' => rw [k1] at he; cases he
    · rw [getS_init] at he
      cases k1 : ds[i]? with
      | none => rw [k1] at he; cases he
      | some e' =>
        rw [k1] at he
        obtain ⟨v, k2, k3⟩ := h1 i _ k1
        by_cases hlf : lf e' = true
        · rw [k3.lf hlf]
          exact ⟨List.nodup_nil, (fun _ h => nomatch h), fun _ _ _ h => nomatch h⟩
        · simp only [Option.map_some, if_neg hlf] at he
          cases he
  refine ⟨_, _, _, _, gd, ?_⟩
  unfold runB at q
  rw [if_pos hdl] at q
  have fr : ∀ {H' : Hp}, (∀ a o, a ≠ dr → H a = some o → H' a = some o) → Fr dr H H' := fun h => h
  cases e : g (initE ds N.length) sd with
  | nx en s1 =>
    rw [e] at q
    exact fun σ1 H1 Fs1 g1 => q .non H1 [] g1.pres g1.draw .non ResOk.nil
  | rt d fr s1 =>
    rw [e] at q
    exact fun v H1 ⟨F1, k1, k2, k3, k4, k5⟩ => q v H1 F1 k1 k2 k3 ⟨k4, k5⟩
  | bk en s1 => rw [e] at q; exact q.elim
  | ct en s1 => rw [e] at q; exact q.elim
  | bad => rw [e] at q; exact q.elim
  | ex x en s1 =>
    rw [e] at q
    exact fun σ1 H1 Fs1 cls dc g1 xo => q cls dc H1 g1.pres g1.draw xo
end
end Sm
end
section
set_option Elab.async false
set_option linter.all false
set_option maxRecDepth 100000
set_option maxHeartbeats 4000000
/-! Sound9: operators by values. -/
namespace Sm
open PySem PySem.Spec L2

theorem Same.rfl' {H : Hp} : Same H H := fun _ _ h => h
theorem ResOk.same1 {H : Hp} {F : List Addr} {d : D} {K : PySem.W.Frag} {dr : Addr} {v : V} {G : List Addr} (r : Rep K dr H v d F) (h : ∀ a ∈ F, a ∈ G) : ResOk H (lf d) F G :=
  ⟨fun e => by rw [r.lf e]; exact ⟨List.nodup_nil, fun _ h => nomatch h⟩, fun a ha => .inr (h a ha)⟩
theorem line_le {n : Nat} (h : n ≤ LIM) : n ≤ sizeLine := by
  rw [sizeLine_eq]
  exact Nat.le_trans h (by decide)
/-- a new list (the places of what stands in it: in G; fr only where nothing stands in it) -/
theorem ResOk.newL {H : Hp} {p : Addr} {F G : List Addr} {fr : Bool} (hp : H p = none) (h : fr = true → F = []) (m : ∀ a ∈ F, a ∈ G) : ResOk H fr (p :: F) G := by
  refine ⟨fun e => ?_, fun a ha => ?_⟩
  · rw [h e]
    exact ⟨List.nodup_cons.mpr ⟨(fun z => nomatch z), List.nodup_nil⟩, fun a ha => by rw [List.mem_singleton.mp ha]; exact hp⟩
  · rcases List.mem_cons.mp ha with rfl | ha
    · exact .inl hp
    · exact .inr (m a ha)
theorem ResOk.newT {H : Hp} {F G : List Addr} {fr : Bool} (h : fr = true → F = []) (m : ∀ a ∈ F, a ∈ G) : ResOk H fr F G :=
  ⟨fun e => by rw [h e]; exact ⟨List.nodup_nil, fun _ h => nomatch h⟩, fun a ha => .inr (m a ha)⟩
/-! tuple * int where nothing new is made, or nothing -/
theorem tuple_mulSame (l : Addr) (items : Array Value) (n : Nat) (dd : Option Addr) (sl : Array (Option Value)) (x : Int) (u : Tok) (c0 : (decide (x < -(2 ^ 63)) || decide (x ≥ 2 ^ 63)) = false) (c1 : (items.isEmpty || x == 1) = true) :
    Meets (Builtin.«tuple.__mul__» ⟨[.ref l, .int x u], []⟩) (fun _ R s => s.heap.get? l = some { cls := .type "tuple", dict := dd, data := .seq items n, slots := sl } ∧ R (.ok (.ret (Value.ref l))) s) :=
  .of_wp fun prog w A R s h => by
    obtain ⟨hp, g, d, tk, os⟩ := s
    obtain ⟨hl, h⟩ := h
    have f1 := AutoSeq1.idx_int
    wp_walk using PySem.AutoSeq1.wpAny_loadPart' hl
    repeat (first
      | (refine wpAny_ite_false (decide_eq_false (by rw [c0]; exact Bool.false_ne_true)) ?_; wp_walk using PySem.AutoSeq1.wpAny_loadPart' hl)
      | (refine wpAny_ite_true (decide_eq_true c1) ?_; wp_walk using PySem.AutoSeq1.wpAny_loadPart' hl))
    exact ⟨_, rfl, h⟩
theorem tuple_mulZero (l : Addr) (items : Array Value) (n : Nat) (dd : Option Addr) (sl : Array (Option Value)) (x : Int) (u : Tok) (c0 : (decide (x < -(2 ^ 63)) || decide (x ≥ 2 ^ 63)) = false) (c1 : (items.isEmpty || x == 1) = false) (c2 : (decide (x ≤ 0) || items.isEmpty) = true) :
    Meets (Builtin.«tuple.__mul__» ⟨[.ref l, .int x u], []⟩) (fun _ R s => s.heap.get? l = some { cls := .type "tuple", dict := dd, data := .seq items n, slots := sl } ∧
      R (.ok (.ret (Value.ref s.heap.objs.size))) { s with heap := s.heap.push { cls := Value.type "tuple", data := Data.seq #[] }, toks := s.toks }) :=
  .of_wp fun prog w A R s h => by
    obtain ⟨hp, g, d, tk, os⟩ := s
    obtain ⟨hl, h⟩ := h
    have f1 := AutoSeq1.idx_int
    wp_walk using PySem.AutoSeq1.wpAny_loadPart' hl
    repeat (first
      | (refine wpAny_ite_false (decide_eq_false (by rw [c0]; exact Bool.false_ne_true)) ?_; wp_walk using PySem.AutoSeq1.wpAny_loadPart' hl)
      | (refine wpAny_ite_false (decide_eq_false (by rw [c1]; exact Bool.false_ne_true)) ?_; wp_walk using PySem.AutoSeq1.wpAny_loadPart' hl)
      | (refine wpAny_ite_true (decide_eq_true c2) ?_; wp_walk using PySem.AutoSeq1.wpAny_loadPart' hl))
    exact ⟨_, rfl, h⟩
def rRepS (K : PySem.W.Frag) : R2 := fun x y H Q => ∃ l k xs, x = .ref l ∧ y = .int k ∧ SqT K H l xs ∧ -(2 ^ 63) ≤ k ∧ k < 2 ^ 63 ∧ (xs = [] ∨ k = 1) ∧ Q (.ref l) H
def rRepZ (K : PySem.W.Frag) : R2 := fun x y H Q => ∃ l k xs, x = .ref l ∧ y = .int k ∧ SqT K H l xs ∧ -(2 ^ 63) ≤ k ∧ k ≤ 0 ∧ xs ≠ [] ∧ ∀ p, H p = none → Q (.ref p) (upd H p (.tup []))
section
variable {X : Cx}
theorem op_repSame : OpR X (binaryOp .Mult) (rRepS X.K) := by
  intro pins s σ H x y v u Q I rx ry h
  obtain ⟨l, k, xs, rfl, rfl, hT, h1, h2, hs, q⟩ := h
  cases rx
  obtain ⟨t, rfl⟩ := ry
  obtain ⟨its, r, ⟨⟨cls, dd, data, sl⟩, ho, hc, n, hd⟩, hz⟩ := I.tuple hT
  simp only at hc hd
  subst hc hd
  have c0 : (decide (k < -(2 ^ 63)) || decide (k ≥ 2 ^ 63)) = false := by
    rw [decide_eq_false (by omega), decide_eq_false (by omega)] <;> rfl
  have c1 : (its.toArray.isEmpty || k == 1) = true := by
    rcases hs with h | h
    · have : its = [] := by
        have e := r.length
        rw [h] at e
        exact List.length_eq_zero_iff.mp e.symm
      rw [this]; rfl
    · rw [h]; simp
  exact wpAny_binaryOp_repeat_ref (T := "tuple") (U := "int") (by decide) ⟨_, ho, rfl⟩ (fun s' => typeIs_int s' k t) noFill_tuple_mul F.fills_int_mul F.slot_int_rmul repeat_tuple F.slot_int_index.lookup
    (call_meets F.slot_int_rmul (typeIs_int s k t) F.entry_int_rmul (F.args_int_rmul_2 _ _) (int_rmul_tuple k t l its.toArray n dd sl)
      ⟨ho, rfl, ⟨_, ho, rfl⟩, call_meets F.slot_tuple_mul ⟨_, ho, rfl⟩ F.entry_tuple_mul (F.args_tuple_mul_2 _ _) (tuple_mulSame l its.toArray n dd sl k t c0 c1) ⟨ho, .ref l, H, I, rfl, q⟩⟩)
theorem op_repZero : OpR X (binaryOp .Mult) (rRepZ X.K) := by
  intro pins s σ H x y v u Q I rx ry h
  obtain ⟨l, k, xs, rfl, rfl, hT, h1, h2, hne, q⟩ := h
  cases rx
  obtain ⟨t, rfl⟩ := ry
  obtain ⟨its, r, ⟨⟨cls, dd, data, sl⟩, ho, hc, n, hd⟩, hz⟩ := I.tuple hT
  simp only at hc hd
  subst hc hd
  have c0 : (decide (k < -(2 ^ 63)) || decide (k ≥ 2 ^ 63)) = false := by
    rw [decide_eq_false (by omega), decide_eq_false (by omega)] <;> rfl
  have hi : its.toArray.isEmpty = false := by
    have e := r.length
    cases its with
    | nil => exact absurd (List.length_eq_zero_iff.mp e) hne
    | cons a b => rfl
  have c1 : (its.toArray.isEmpty || k == 1) = false := by
    rw [hi, Bool.false_or]
    exact beq_eq_false_iff_ne.mpr (by omega)
  have c2 : (decide (k ≤ 0) || its.toArray.isEmpty) = true := by
    rw [decide_eq_true h2]; rfl
  refine wpAny_binaryOp_repeat_ref (T := "tuple") (U := "int") (by decide) ⟨_, ho, rfl⟩ (fun s' => typeIs_int s' k t) noFill_tuple_mul F.fills_int_mul F.slot_int_rmul repeat_tuple F.slot_int_index.lookup
    (call_meets F.slot_int_rmul (typeIs_int s k t) F.entry_int_rmul (F.args_int_rmul_2 _ _) (int_rmul_tuple k t l its.toArray n dd sl)
      ⟨ho, rfl, ⟨_, ho, rfl⟩, call_meets F.slot_tuple_mul ⟨_, ho, rfl⟩ F.entry_tuple_mul (F.args_tuple_mul_2 _ _) (tuple_mulZero l its.toArray n dd sl k t c0 c1 c2) ⟨ho, ?_⟩⟩)
  refine ⟨.ref s.heap.objs.size, _, I.laid (t' := s.toks) (o := .tup []) (fun b ob q => Heap.get?_push_of_some _ q) (Nat.le_refl _) ?_, rfl, q _ (I.hok.fresh (Nat.le_refl _))⟩
  exact ⟨Nat.zero_le _, _, .nil, PyProof.Rows.IsTup.new _ _⟩
end
section
variable {X : Cx}
theorem op_gAdd : OpR X (binaryOp .Add) (rG X.K gAdd) := by
  rintro pins s σ H x y v u Q I rx ry ⟨dr, d1, d2, F1, F2, r, r1, r2, nd, e, q⟩
  unfold gAdd at e
  split at e
  · cases r1; cases r2; cases e
    exact op_add pins s σ H _ _ v u Q I rx ry ⟨_, _, rfl, rfl, q _ H [] Same.rfl' (.int _) ResOk.nil⟩
  · rename_i a b
    cases r1; cases r2
    split at e <;> cases e
    rename_i h
    refine op_add_str pins s σ H _ _ v u Q I rx ry ⟨_, _, rfl, rfl, ?_, q _ H [] Same.rfl' ?_ ResOk.nil⟩
    · exact line_le (by simpa [Str.length] using h)
    · have e1 : (⟨a.toArray⟩ : Str) ++ ⟨b.toArray⟩ = ⟨(a ++ b).toArray⟩ := by
        show Str.append _ _ = _
        unfold Str.append
        simp
      rw [e1]
      exact .str _ (by simpa using h)
  · rename_i a b
    split at e <;> cases e
    rename_i h
    cases r1 with
    | @lst p1 vs1 ds1 G1 z1 l1 s1 =>
      cases r2 with
      | @lst p2 vs2 ds2 G2 z2 l2 s2 =>
        refine op_cat pins s σ H _ _ v u Q I rx ry ⟨p1, p2, vs1, vs2, rfl, rfl, l1, l2, ?_, fun p hp => ?_⟩
        · rw [s1.length, s2.length]; exact line_le h
        · have sm : Same H (upd H p (.lst (vs1 ++ vs2))) := Same.upd hp
          refine q _ _ (p :: (G1 ++ G2)) sm (.lst (by rw [List.length_append]; exact h) upd_same ((s1.same sm).append (s2.same sm))) (ResOk.newL hp (fun e => ?_) fun a ha => ?_)
          · have e' := Bool.and_eq_true_iff.mp e
            rw [s1.lf e'.1, s2.lf e'.2]; rfl
          · rcases List.mem_append.mp ha with ha | ha
            · simp [ha]
            · simp [ha]
  · rename_i a b
    split at e <;> cases e
    rename_i h
    cases r1 with
    | @tup p1 vs1 ds1 G1 z1 l1 s1 =>
      cases r2 with
      | @tup p2 vs2 ds2 G2 z2 l2 s2 =>
        have fin : ResOk H (lfs a && lfs b) (F1 ++ F2) (F1 ++ F2) := ResOk.newT (fun e => by
          have e' := Bool.and_eq_true_iff.mp e
          rw [s1.lf e'.1, s2.lf e'.2]; rfl) fun _ h => h
        have n1 := s1.length
        have n2 := s2.length
        refine op_catA pins s σ H _ _ v u Q I rx ry ⟨p1, p2, vs1, vs2, rfl, rfl, l1, l2, ?_, fun h1 => ?_, fun h1 h2 => ?_, fun h1 h2 p hp => ?_⟩
        · rw [n1, n2]; exact line_le h
        · subst h1
          have : a = [] := List.length_eq_zero_iff.mp (by simpa using n1.symm)
          subst this
          cases s1
          exact q _ H F2 Same.rfl' (.tup z2 l2 s2) fin
        · subst h2
          have : b = [] := List.length_eq_zero_iff.mp (by simpa using n2.symm)
          subst this
          cases s2
          rw [List.append_nil] at fin
          exact q _ H F1 Same.rfl' (by simpa using Rep.tup z1 l1 s1) (by simpa using fin)
        · have sm : Same H (upd H p (.tup (vs1 ++ vs2))) := Same.upd hp
          exact q _ _ (F1 ++ F2) sm (.tup (by rw [List.length_append]; exact h) (.inl (.inl upd_same)) ((s1.same sm).append (s2.same sm))) fin
  · cases e
theorem op_gSub : OpR X (binaryOp .Sub) (rG X.K gSub) := by
  rintro pins s σ H x y v u Q I rx ry ⟨dr, d1, d2, F1, F2, r, r1, r2, nd, e, q⟩
  unfold gSub at e
  split at e
  · cases r1; cases r2; cases e
    exact op_sub pins s σ H _ _ v u Q I rx ry ⟨_, _, rfl, rfl, q _ H [] Same.rfl' (.int _) ResOk.nil⟩
  · rename_i a b
    cases r1; cases r2; cases e
    cases (show v = Value.bool a from rx)
    cases (show u = Value.bool b from ry)
    refine PyProof.Rows.sub_bool ?_
    have e1 : PyProof.Rows.b2i a - PyProof.Rows.b2i b = b2z a - b2z b := by cases a <;> cases b <;> rfl
    rw [e1]
    exact ⟨.int (b2z a - b2z b), H, I.tok _, ⟨_, rfl⟩, q _ H [] Same.rfl' (.int _) ResOk.nil⟩
  · cases e
theorem Reps.rep {K : PySem.W.Frag} {dr : Addr} {H : Hp} {vs : List V} {ds : List D} (r : Reps K dr H vs ds []) : ∀ n : Nat, Reps K dr H (List.replicate n vs).flatten (List.replicate n ds).flatten []
  | 0 => .nil
  | n + 1 => by
    have := r.append (Reps.rep r n)
    rw [List.append_nil] at this
    rw [List.replicate_succ, List.replicate_succ, List.flatten_cons, List.flatten_cons]
    exact this
theorem op_gMul : OpR X (binaryOp .Mult) (rG X.K gMul) := by
  rintro pins s σ H x y v u Q I rx ry ⟨dr, d1, d2, F1, F2, r, r1, r2, nd, e, q⟩
  unfold gMul at e
  have hB : (BIG : Int) = 2 ^ 64 := by decide
  split at e
  · split at e <;> cases e
    rename_i h
    cases r1; cases r2
    rw [hB] at h
    exact op_mul pins s σ H _ _ v u Q I rx ry ⟨_, _, rfl, rfl, h, q _ H [] Same.rfl' (.int _) ResOk.nil⟩
  · rename_i a k
    split at e <;> cases e
    rename_i h
    obtain ⟨h1, h2, h3, h4⟩ := h
    cases r2
    cases r1 with
    | @lst p1 vs1 ds1 G1 z1 l1 s1 =>
      have eG := s1.lf h1
      subst eG
      refine op_rep pins s σ H _ _ v u Q I rx ry ⟨p1, k, vs1, rfl, rfl, l1, ?_, ?_, ?_, fun p hp => ?_⟩
      · have : (BIG : Int) / 2 = 2 ^ 63 := by decide
        have e2 : -(BIG : Int) / 2 = -2 ^ 63 := by decide
        omega
      · have : (BIG : Int) / 2 = 2 ^ 63 := by decide
        omega
      · rw [s1.length]; exact line_le h4
      · have sm : Same H (upd H p (.lst (List.replicate k.toNat vs1).flatten)) := Same.upd hp
        refine q _ _ [p] sm (.lst ?_ upd_same ((s1.rep _).same sm)) (ResOk.newL hp (fun _ => rfl) fun _ h => nomatch h)
        rw [List.length_flatten, List.map_replicate, List.sum_replicate_nat, Nat.mul_comm]
        exact h4
  · rename_i a k
    split at e <;> cases e
    rename_i h
    obtain ⟨h1, h2, h4, h5⟩ := h
    cases r2
    cases r1 with
    | @tup p1 vs1 ds1 G1 z1 l1 s1 =>
      have eG := s1.lf h1
      subst eG
      have n1 := s1.length
      have hb : -(BIG : Int) / 2 = -2 ^ 63 := by decide
      by_cases hs : a = [] ∨ k = 1
      · refine op_repSame pins s σ H _ _ v u Q I rx ry ⟨p1, k, vs1, rfl, rfl, l1, by omega, by omega, ?_, ?_⟩
        · rcases hs with h | h
          · left
            rw [h] at n1
            exact List.length_eq_zero_iff.mp n1
          · exact .inr h
        · refine q _ _ [] Same.rfl' ?_ ResOk.nil
          have e1 : (List.replicate k.toNat a).flatten = a := by
            rcases hs with h | h
            · rw [h]
              have : ∀ n : Nat, (List.replicate n ([] : List D)).flatten = [] := fun n => by induction n with
                | zero => rfl
                | succ n ih => rw [List.replicate_succ, List.flatten_cons, ih]; rfl
              exact this _
            · rw [h]
              show (List.replicate 1 a).flatten = a
              simp
          rw [e1]
          exact .tup z1 l1 s1
      · have hne : vs1 ≠ [] := by
          rintro rfl
          exact hs (.inl (List.length_eq_zero_iff.mp (by simpa using n1.symm)))
        by_cases hk : k ≤ 0
        · refine op_repZero pins s σ H _ _ v u Q I rx ry ⟨p1, k, vs1, rfl, rfl, l1, by omega, hk, hne, fun p hp => ?_⟩
          have sm : Same H (upd H p (.tup [])) := Same.upd hp
          have e1 : k.toNat = 0 := by omega
          rw [e1] at q
          exact q _ _ [] sm (.tup (by show 0 ≤ LIM; decide) (.inl (.inl upd_same)) .nil) ResOk.nil
        · refine op_repT pins s σ H _ _ v u Q I rx ry ⟨p1, k, vs1, rfl, rfl, l1, hne, ?_, h4, by omega, fun p hp => ?_⟩
          · have : k ≠ 1 := fun z => hs (.inr z)
            omega
          · have sm : Same H (upd H p (.tup (List.replicate k.toNat vs1).flatten)) := Same.upd hp
            refine q _ _ [] sm (.tup ?_ (.inl (.inl upd_same)) ((s1.rep _).same sm)) ResOk.nil
            rw [List.length_flatten, List.map_replicate, List.sum_replicate_nat]
            have : k.toNat * a.length ≤ 1000 * 1000 := Nat.mul_le_mul (by omega) h5
            exact this
  · cases e
theorem op_gDiv : OpR X (binaryOp .FloorDiv) (rG X.K gDiv) := by
  rintro pins s σ H x y v u Q I rx ry ⟨dr, d1, d2, F1, F2, r, r1, r2, nd, e, q⟩
  unfold gDiv at e
  split at e
  · split at e <;> cases e
    rename_i h
    cases r1; cases r2
    exact op_fdiv pins s σ H _ _ v u Q I rx ry ⟨_, _, rfl, rfl, h, q _ H [] Same.rfl' (.int _) ResOk.nil⟩
  · cases e
theorem op_gMod : OpR X (binaryOp .Mod) (rG X.K gMod) := by
  rintro pins s σ H x y v u Q I rx ry ⟨dr, d1, d2, F1, F2, r, r1, r2, nd, e, q⟩
  unfold gMod at e
  split at e
  · split at e <;> cases e
    rename_i h
    cases r1; cases r2
    exact op_mod pins s σ H _ _ v u Q I rx ry ⟨_, _, rfl, rfl, h, q _ H [] Same.rfl' (.int _) ResOk.nil⟩
  · cases e
theorem un_gNeg : UnR X (unaryOp .USub) (rG1 X.K gNeg) := by
  rintro pins s σ H x v Q I rx ⟨dr, d1, F1, r, r1, nd, e, q⟩
  unfold gNeg at e
  split at e <;> cases e
  cases r1
  exact un_neg pins s σ H _ v Q I rx ⟨_, rfl, q _ H [] Same.rfl' (.int _) ResOk.nil⟩
theorem cmp_int {op : CmpOp} {g : D → D → Option (D × Bool)} {p : Int → Int → Bool} (ho : OpR X (compareOp op) (rI0 fun i j => .bl (p i j))) (hg : ∀ a b r, g a b = some r → ∃ i j, a = .int i ∧ b = .int j ∧ r = (.bl (p i j), true)) : OpR X (compareOp op) (rG X.K g) := by
  rintro pins s σ H x y v u Q I rx ry ⟨dr, d1, d2, F1, F2, r, r1, r2, nd, e, q⟩
  obtain ⟨i, j, rfl, rfl, rfl⟩ := hg _ _ _ e
  cases r1; cases r2
  exact ho pins s σ H _ _ v u Q I rx ry ⟨_, _, rfl, rfl, q _ H [] Same.rfl' (.bl _) ResOk.nil⟩
theorem op_gLt : OpR X (compareOp .Lt) (rG X.K gLt) := cmp_int op_lt fun a b r h => by
  unfold gLt at h
  split at h <;> cases h
  exact ⟨_, _, rfl, rfl, rfl⟩
theorem op_gLe : OpR X (compareOp .LtE) (rG X.K gLe) := cmp_int op_le fun a b r h => by
  unfold gLe at h
  split at h <;> cases h
  exact ⟨_, _, rfl, rfl, rfl⟩
theorem op_gGt : OpR X (compareOp .Gt) (rG X.K gGt) := cmp_int op_gt fun a b r h => by
  unfold gGt at h
  split at h <;> cases h
  exact ⟨_, _, rfl, rfl, rfl⟩
theorem op_gGe : OpR X (compareOp .GtE) (rG X.K gGe) := cmp_int op_ge fun a b r h => by
  unfold gGe at h
  split at h <;> cases h
  exact ⟨_, _, rfl, rfl, rfl⟩

/-! ### == over data -/
mutual
def toPy : D → PyData
  | .non => .none
  | .bl b => .bool b
  | .int i => .int i
  | .str l => .str ⟨l.toArray⟩
  | .lst xs => .list (toPys xs)
  | .tup xs => .tuple (toPys xs)
  | .dic _ => .none
  | .hdl => .none
def toPys : List D → List PyData
  | [] => []
  | x :: xs => toPy x :: toPys xs
end
mutual
theorem toPy_lay : ∀ (n : Nat) (d : D), okD n d = true → (toPy d).canLay0 = true ∧ (toPy d).depth ≤ n
  | _, .non, _ => by simp [toPy, PyData.canLay0, PyData.depth]
  | _, .bl _, _ => by simp [toPy, PyData.canLay0, PyData.depth]
  | _, .int _, _ => by simp [toPy, PyData.canLay0, PyData.depth]
  | _, .str l, h => by
    refine ⟨?_, by simp [toPy, PyData.depth]⟩
    simp only [okD] at h
    simp only [toPy, PyData.canLay0, PyData.strOk]
    rw [List.all_eq_true] at h
    rw [Array.all_eq_true']
    intro c hc
    have := h c (by simpa using hc)
    simpa using this
  | n, .lst xs, h => by
    simp only [okD, Bool.and_eq_true] at h
    obtain ⟨h1, h2⟩ := toPys_lay (n - 1) xs h.2
    have hn : n ≠ 0 := by simpa using h.1
    refine ⟨by simpa [toPy, PyData.canLay0] using h1, ?_⟩
    simp only [toPy, PyData.depth]
    omega
  | n, .tup xs, h => by
    simp only [okD, Bool.and_eq_true] at h
    obtain ⟨h1, h2⟩ := toPys_lay (n - 1) xs h.2
    have hn : n ≠ 0 := by simpa using h.1
    refine ⟨by simpa [toPy, PyData.canLay0] using h1, ?_⟩
    simp only [toPy, PyData.depth]
    omega
  | _, .dic _, h => by simp [okD] at h
  | _, .hdl, h => by simp [okD] at h
theorem toPys_lay : ∀ (n : Nat) (ds : List D), okDs n ds = true → PyData.canLayAll0 (toPys ds) = true ∧ PyData.depthAll (toPys ds) ≤ n
  | _, [], _ => by simp [toPys, PyData.canLayAll0, PyData.depthAll]
  | n, d :: ds, h => by
    simp only [okDs, Bool.and_eq_true] at h
    obtain ⟨h1, h2⟩ := toPy_lay n d h.1
    obtain ⟨h3, h4⟩ := toPys_lay n ds h.2
    refine ⟨by simp [toPys, PyData.canLayAll0, h1, h3], ?_⟩
    simp only [toPys, PyData.depthAll]
    omega
end
theorem toPy_shaped {n : Nat} {d : D} (h : okD n d = true) (hn : n ≤ 64) : SeqAt.shaped (toPy d) = true := by
  obtain ⟨h1, h2⟩ := toPy_lay n d h
  unfold SeqAt.shaped
  rw [h1, decide_eq_true (Nat.le_trans h2 hn)]
  rfl
mutual
theorem toPy_eqv : ∀ (n m : Nat) (d e : D), okD n d = true → okD m e = true → PyData.eqv (toPy d) (toPy e) = eqD d e
  | n, m, .non, e, _, h => by cases e <;> simp_all [toPy, PyData.eqv, eqD, okD]
  | n, m, .bl a, e, _, h => by cases e <;> simp_all [toPy, PyData.eqv, eqD, okD, b2z]
  | n, m, .int a, e, _, h => by cases e <;> simp_all [toPy, PyData.eqv, eqD, okD, b2z]
  | n, m, .str a, e, _, h => by
    cases e with
    | str b =>
      simp only [toPy, PyData.eqv, eqD]
      rw [Bool.eq_iff_iff, beq_iff_eq, beq_iff_eq, Str.mk.injEq]
      exact ⟨fun z => by simpa using congrArg Array.toList z, fun z => by rw [z]⟩
    | _ => simp_all [toPy, PyData.eqv, eqD, okD]
  | n, m, .lst xs, e, h1, h2 => by
    cases e with
    | lst ys =>
      simp only [okD, Bool.and_eq_true] at h1 h2
      simp only [toPy, PyData.eqv, eqD]
      exact toPys_eqv (n - 1) (m - 1) xs ys h1.2 h2.2
    | _ => simp_all [toPy, PyData.eqv, eqD, okD]
  | n, m, .tup xs, e, h1, h2 => by
    cases e with
    | tup ys =>
      simp only [okD, Bool.and_eq_true] at h1 h2
      simp only [toPy, PyData.eqv, eqD]
      exact toPys_eqv (n - 1) (m - 1) xs ys h1.2 h2.2
    | _ => simp_all [toPy, PyData.eqv, eqD, okD]
  | n, m, .dic _, e, h, _ => by simp [okD] at h
  | n, m, .hdl, e, h, _ => by simp [okD] at h
theorem toPys_eqv : ∀ (n m : Nat) (ds es : List D), okDs n ds = true → okDs m es = true → PyData.eqvAll (toPys ds) (toPys es) = eqDs ds es
  | _, _, [], [], _, _ => by simp [toPys, PyData.eqvAll, eqDs]
  | _, _, [], _ :: _, _, _ => by simp [toPys, PyData.eqvAll, eqDs]
  | _, _, _ :: _, [], _, _ => by simp [toPys, PyData.eqvAll, eqDs]
  | n, m, d :: ds, e :: es, h1, h2 => by
    simp only [okDs, Bool.and_eq_true] at h1 h2
    simp only [toPys, PyData.eqvAll, eqDs]
    rw [toPy_eqv n m d e h1.1 h2.1, toPys_eqv n m ds es h1.2 h2.2]
end
mutual
theorem Rep.dp {K : PySem.W.Frag} {dr : Addr} {H : Hp} : ∀ {v : V} {d : D} {F : List Addr} {n : Nat}, Rep K dr H v d F → okD n d = true → Dp K H v (toPy d)
  | _, _, _, _, .non, _ => .non
  | _, _, _, _, .bl b, _ => .bl b
  | _, _, _, _, .int i, _ => .int i
  | _, _, _, _, .str l z, _ => .str _
  | _, _, _, _, .hdl, h => by simp [okD] at h
  | _, _, _, n, .tup z hs hr, h => by
    simp only [okD, Bool.and_eq_true] at h
    exact .tup hs (Reps.dp hr h.2)
  | _, _, _, n, .lst z hs hr, h => by
    simp only [okD, Bool.and_eq_true] at h
    exact .lst (.inl (.inl hs)) (Reps.dp hr h.2)
  | _, _, _, _, .dic z hs hr, h => by simp [okD] at h
theorem Reps.dp {K : PySem.W.Frag} {dr : Addr} {H : Hp} : ∀ {v : List V} {d : List D} {F : List Addr} {n : Nat}, Reps K dr H v d F → okDs n d = true → DpAll K H v (toPys d)
  | _, _, _, _, .nil, _ => .nil
  | _, _, _, _, .cons r t, h => by
    simp only [okDs, Bool.and_eq_true] at h
    exact .cons (Rep.dp r h.1) (Reps.dp t h.2)
end
theorem op_gEq (hu : X.A.units + 64 < cLine) : OpR X (compareOp .Eq) (rG X.K gEq) := by
  rintro pins s σ H x y v u Q I rx ry ⟨dr, d1, d2, F1, F2, r, r1, r2, nd, e, q⟩
  unfold gEq at e
  split at e <;> cases e
  rename_i h
  obtain ⟨h1, h2⟩ := Bool.and_eq_true_iff.mp h
  refine op_eqD hu pins s σ H x y v u Q I rx ry ⟨_, _, r1.dp h1, r2.dp h2, toPy_shaped h1 (by decide), toPy_shaped h2 (by decide), ?_⟩
  rw [toPy_eqv 30 30 d1 d2 h1 h2]
  exact q _ H [] Same.rfl' (.bl _) ResOk.nil
theorem op_gNe (hu : X.A.units + 64 < cLine) : OpR X (compareOp .NotEq) (rG X.K gNe) := by
  rintro pins s σ H x y v u Q I rx ry ⟨dr, d1, d2, F1, F2, r, r1, r2, nd, e, q⟩
  unfold gNe at e
  split at e <;> cases e
  rename_i h
  obtain ⟨h1, h2⟩ := Bool.and_eq_true_iff.mp h
  refine op_neD hu pins s σ H x y v u Q I rx ry ⟨_, _, r1.dp h1, r2.dp h2, toPy_shaped h1 (by decide), toPy_shaped h2 (by decide), ?_⟩
  rw [toPy_eqv 30 30 d1 d2 h1 h2]
  exact q _ H [] Same.rfl' (.bl _) ResOk.nil
/-! ### is -/
theorem isN_rep {K : PySem.W.Frag} {dr : Addr} {H : Hp} {v : V} {d : D} {F : List Addr} (r : Rep K dr H v d F) : isN d = decide (v = .non) := by
  cases r <;> rfl
theorem op_gIs : OpR X (compareOp .Is) (rG X.K gIs) := by
  rintro pins s σ H x y v u Q I rx ry ⟨dr, d1, d2, F1, F2, r, r1, r2, nd, e, q⟩
  unfold gIs at e
  split at e <;> cases e
  · cases r2
    rw [isN_rep r1] at q
    exact op_isN pins s σ H _ _ v u Q I rx ry ⟨rfl, q _ H [] Same.rfl' (.bl _) ResOk.nil⟩
  · cases r1; cases r2
    exact op_is_bl pins s σ H _ _ v u Q I rx ry ⟨_, _, rfl, rfl, q _ H [] Same.rfl' (.bl _) ResOk.nil⟩
theorem op_gIsNot : OpR X (compareOp .IsNot) (rG X.K gIsNot) := by
  rintro pins s σ H x y v u Q I rx ry ⟨dr, d1, d2, F1, F2, r, r1, r2, nd, e, q⟩
  unfold gIsNot gIs at e
  split at e <;> cases e
  · cases r2
    rw [isN_rep r1] at q
    exact op_notN pins s σ H _ _ v u Q I rx ry ⟨rfl, q _ H [] Same.rfl' (.bl _) ResOk.nil⟩
  · cases r1; cases r2
    exact op_isnot_bl pins s σ H _ _ v u Q I rx ry ⟨_, _, rfl, rfl, q _ H [] Same.rfl' (.bl _) ResOk.nil⟩
end
end Sm
end
section
set_option Elab.async false
set_option linter.all false
set_option maxRecDepth 100000
set_option maxHeartbeats 4000000
/-! Sound10: in, places, slices, built-in functions. -/
namespace Sm
open PySem PySem.Spec L2
section
variable {X : Cx}
theorem toPys_any {n m : Nat} {a : D} (ha : okD m a = true) : ∀ {xs : List D}, okDs n xs = true → ((toPys xs).any fun z => PyData.eqv z (toPy a)) = xs.any fun z => eqD z a
  | [], _ => rfl
  | x :: xs, h => by
    simp only [okDs, Bool.and_eq_true] at h
    simp only [toPys, List.any_cons]
    rw [toPy_eqv n m x a h.1 ha, toPys_any ha h.2]
theorem shaped_tup {n : Nat} {xs : List D} (h : okDs n xs = true) (hn : n ≤ 63) : SeqAt.shaped (.list (toPys xs)) = true ∧ PyData.canLayAll0 (toPys xs) = true ∧ PyData.depthAll (toPys xs) ≤ n := by
  obtain ⟨h1, h2⟩ := toPys_lay n xs h
  refine ⟨?_, h1, h2⟩
  unfold SeqAt.shaped
  have : (PyData.list (toPys xs)).depth = PyData.depthAll (toPys xs) + 1 := by simp [PyData.depth]
  rw [this, decide_eq_true (by omega)]
  simpa [PyData.canLay0] using h1
theorem op_gIn (hu : X.A.units + 65 < cLine) : OpR X (compareOp .In) (rG X.K gIn) := by
  rintro pins s σ H x y v u Q I rx ry ⟨dr, d1, d2, F1, F2, r, r1, r2, nd, e, q⟩
  unfold gIn at e
  split at e
  · split at e <;> cases e
    rename_i xs h
    obtain ⟨h1, h2⟩ := Bool.and_eq_true_iff.mp h
    obtain ⟨s1, s2, s3⟩ := shaped_tup h2 (by decide)
    refine op_inD hu pins s σ H x y v u Q I rx ry ⟨toPy d1, toPys xs, r1.dp h1, ?_, toPy_shaped h1 (by decide), s1, ?_⟩
    · cases r2 with
      | lst z hs hr => exact .lst (.inl (.inl hs)) (hr.dp h2)
    · rw [toPys_any h1 h2]
      exact q _ H [] Same.rfl' (.bl _) ResOk.nil
  · split at e <;> cases e
    rename_i xs h
    obtain ⟨h1, h2⟩ := Bool.and_eq_true_iff.mp h
    obtain ⟨s1, s2, s3⟩ := shaped_tup h2 (by decide)
    have dt : Dp X.K H y (.tuple (toPys xs)) := by
      cases r2 with
      | tup z hs hr => exact .tup hs (hr.dp h2)
    obtain ⟨as, k1⟩ := Dp.reads I (toPy d1) x v (r1.dp h1) rx
    obtain ⟨bs, k2⟩ := Dp.reads I _ y u dt ry
    refine SeqAt.in_tuple_reads k2 k1 s2 (SeqAt.canLay_of_shaped (toPy_shaped h1 (by decide))) (by omega) ⟨.bl _, H, I, rfl, ?_⟩
    rw [toPys_any h1 h2]
    exact q _ H [] Same.rfl' (.bl _) ResOk.nil
  · split at e <;> cases e
    rename_i ys c
    cases r1; cases r2
    have := q _ H [] Same.rfl' (.bl _) ResOk.nil
    exact op_in_sign pins s σ H _ _ v u Q I rx ry ⟨c, _, rfl, rfl, by simpa using this⟩
  · cases e
theorem op_gNotIn (hu : X.A.units + 65 < cLine) : OpR X (compareOp .NotIn) (rG X.K gNotIn) := by
  rintro pins s σ H x y v u Q I rx ry ⟨dr, d1, d2, F1, F2, r, r1, r2, nd, e, q⟩
  unfold gNotIn gIn at e
  split at e
  · split at e <;> cases e
    rename_i xs h
    obtain ⟨h1, h2⟩ := Bool.and_eq_true_iff.mp h
    obtain ⟨s1, s2, s3⟩ := shaped_tup h2 (by decide)
    refine op_notInD hu pins s σ H x y v u Q I rx ry ⟨toPy d1, toPys xs, r1.dp h1, ?_, toPy_shaped h1 (by decide), s1, ?_⟩
    · cases r2 with
      | lst z hs hr => exact .lst (.inl (.inl hs)) (hr.dp h2)
    · rw [toPys_any h1 h2]
      exact q _ H [] Same.rfl' (.bl _) ResOk.nil
  · split at e <;> cases e
    rename_i xs h
    obtain ⟨h1, h2⟩ := Bool.and_eq_true_iff.mp h
    obtain ⟨s1, s2, s3⟩ := shaped_tup h2 (by decide)
    have dt : Dp X.K H y (.tuple (toPys xs)) := by
      cases r2 with
      | tup z hs hr => exact .tup hs (hr.dp h2)
    obtain ⟨as, k1⟩ := Dp.reads I (toPy d1) x v (r1.dp h1) rx
    obtain ⟨bs, k2⟩ := Dp.reads I _ y u dt ry
    refine SeqAt.notIn_tuple_reads k2 k1 s2 (SeqAt.canLay_of_shaped (toPy_shaped h1 (by decide))) (by omega) ⟨.bl _, H, I, rfl, ?_⟩
    rw [toPys_any h1 h2]
    exact q _ H [] Same.rfl' (.bl _) ResOk.nil
  · split at e <;> cases e
    rename_i ys c
    cases r1; cases r2
    have := q _ H [] Same.rfl' (.bl _) ResOk.nil
    exact op_notIn_sign pins s σ H _ _ v u Q I rx ry ⟨c, _, rfl, rfl, by simpa using this⟩
  · cases e
/-! ### places -/
theorem Reps.at {K : PySem.W.Frag} {dr : Addr} {H : Hp} {vs : List V} {ds : List D} {F : List Addr} {i : Int} {j : Nat} {d : D} (r : Reps K dr H vs ds F) (h : ixN ds.length i = some j) (e : ds[j]? = some d) : ∃ v G, atI vs i = some v ∧ Rep K dr H v d G ∧ ∀ a ∈ G, a ∈ F := by
  obtain ⟨v, G, e1, r1, m⟩ := r.get e
  refine ⟨v, G, ?_, r1, m⟩
  unfold atI
  have : L2.ixN vs.length i = ixN ds.length i := by rw [r.length]; rfl
  rw [this, h]
  exact e1
theorem ix_gIx : IxR X (rG X.K gIx) := by
  rintro value slice pins s σ H x y v u Q I rx ry ⟨dr, d1, d2, F1, F2, r, r1, r2, nd, e, q⟩ hs
  unfold gIx at e
  split at e
  · rename_i xs i
    cases k1 : ixN xs.length i with
    | none => rw [k1] at e; cases e
    | some j =>
      rw [k1] at e
      simp only [Option.bind_some] at e
      cases k2 : xs[j]? with
      | none => rw [k2] at e; cases e
      | some d =>
        rw [k2] at e
        cases e
        cases r2
        cases r1 with
        | lst z hl hr =>
          obtain ⟨w, G, a1, a2, a3⟩ := hr.at k1 k2
          exact ix_list value slice pins s σ H _ _ v u Q I rx ry ⟨_, _, _, w, rfl, rfl, .inl (.inl hl), a1, q w H G Same.rfl' a2 (ResOk.same1 a2 fun a ha => by simp [a3 a ha])⟩ hs
  · rename_i xs i
    cases k1 : ixN xs.length i with
    | none => rw [k1] at e; cases e
    | some j =>
      rw [k1] at e
      simp only [Option.bind_some] at e
      cases k2 : xs[j]? with
      | none => rw [k2] at e; cases e
      | some d =>
        rw [k2] at e
        cases e
        cases r2
        cases r1 with
        | tup z hl hr =>
          obtain ⟨w, G, a1, a2, a3⟩ := hr.at k1 k2
          exact ix_tup value slice pins s σ H _ _ v u Q I rx ry ⟨_, _, _, w, rfl, rfl, hl, a1, q w H G Same.rfl' a2 (ResOk.same1 a2 fun a ha => by simp [a3 a ha])⟩ hs
  · rename_i xs i
    cases k1 : ixN xs.length i with
    | none => rw [k1] at e; cases e
    | some j =>
      rw [k1] at e
      simp only [Option.bind_some] at e
      cases k2 : xs[j]? with
      | none => rw [k2] at e; cases e
      | some d =>
        rw [k2] at e
        cases e
        cases r2
        cases r1 with
        | str _ z =>
          refine ix_str value slice pins s σ H _ _ v u Q I rx ry ⟨_, _, d, rfl, rfl, line_le (by simpa [Str.length] using z), ?_, q _ H [] Same.rfl' ?_ ResOk.nil⟩ hs
          · unfold atI
            have : L2.ixN xs.length i = ixN xs.length i := rfl
            simp only [this, k1, Option.bind_some]
            exact k2
          · exact .str [d] (show 1 ≤ LIM by decide)
  · cases e
theorem cut_same (n : Nat) (lo hi : Option Int) : sIx n 0 lo = HT.sIx n 0 lo ∧ sIx n n hi = HT.sIx n n hi := by
  constructor
  · cases lo <;> rfl
  · cases hi <;> rfl
theorem Reps.cut {K : PySem.W.Frag} {dr : Addr} {H : Hp} {vs : List V} {ds : List D} {F : List Addr} (r : Reps K dr H vs ds F) (lo hi : Option Int) : ∃ G, Reps K dr H (cutV vs lo hi) (cutD ds lo hi) G ∧ ∀ a ∈ G, a ∈ F := by
  unfold cutV cutD
  rw [r.length, (cut_same _ lo hi).1, (cut_same _ lo hi).2]
  obtain ⟨G1, r1, m1⟩ := r.drop (HT.sIx ds.length 0 lo)
  obtain ⟨G2, r2, m2⟩ := r1.take (HT.sIx ds.length ds.length hi - HT.sIx ds.length 0 lo)
  exact ⟨G2, r2, fun a ha => m1 a (m2 a ha)⟩
theorem cutD_len {α : Type} (xs : List α) (lo hi : Option Int) : (cutD xs lo hi).length ≤ xs.length := by
  unfold cutD
  rw [List.length_take, List.length_drop]
  omega
theorem sl_gSl : SlR X (rGS X.K gSl) := by
  rintro pins s σ H x v vl vu lo hi sl Q I rx hs pl pu ⟨dr, d1, F1, r, r1, nd, e, q⟩
  unfold gSl at e
  split at e <;> cases e
  · rename_i xs
    cases r1 with
    | @lst p vs ds F z hl hr =>
      obtain ⟨G, c1, c2⟩ := hr.cut lo hi
      refine sl_list pins s σ H _ v vl vu lo hi sl Q I rx hs pl pu ⟨p, vs, rfl, .inl (.inl hl), fun p' hp => ?_⟩
      have sm : Same H (upd H p' (.lst (cutV vs lo hi))) := Same.upd hp
      exact q _ _ (p' :: G) sm (.lst (Nat.le_trans (cutD_len _ _ _) z) upd_same (c1.same sm)) (ResOk.newL hp (fun e => by
        have := hr.lf e
        subst this
        exact List.eq_nil_iff_forall_not_mem.mpr fun a ha => nomatch c2 a ha) fun a ha => List.mem_cons_of_mem _ (c2 a ha))
  · rename_i xs
    cases r1 with
    | @tup p vs ds F z hl hr =>
      obtain ⟨G, c1, c2⟩ := hr.cut lo hi
      have fin : ResOk H (lfs xs) G F1 := ResOk.newT (fun e => by
        have := hr.lf e
        subst this
        exact List.eq_nil_iff_forall_not_mem.mpr fun a ha => nomatch c2 a ha) c2
      refine sl_tupA pins s σ H _ v vl vu lo hi sl Q I rx hs pl pu ⟨p, vs, rfl, hl, fun ⟨h1, h2⟩ => ?_, fun _ p' hp => ?_⟩
      · have ev : cutV vs lo hi = vs := by
          unfold cutV
          rw [h1, h2, List.drop_zero, Nat.sub_zero, List.take_length]
        rw [ev] at c1
        exact q _ H G Same.rfl' (.tup (Nat.le_trans (cutD_len _ _ _) z) hl c1) fin
      · have sm : Same H (upd H p' (.tup (cutV vs lo hi))) := Same.upd hp
        exact q _ _ G sm (.tup (Nat.le_trans (cutD_len _ _ _) z) (.inl (.inl upd_same)) (c1.same sm)) fin
  · rename_i xs
    cases r1 with
    | str _ z =>
      refine sl_str pins s σ H _ v vl vu lo hi sl Q I rx hs pl pu ⟨_, rfl, line_le (by simpa [Str.length] using z), ?_⟩
      have := q _ H [] Same.rfl' (.str _ (Nat.le_trans (cutD_len xs lo hi) z)) ResOk.nil
      have e1 : cutS ⟨xs.toArray⟩ lo hi = ⟨(cutD xs lo hi).toArray⟩ := by
        unfold cutS cutD Str.length
        simp only [List.size_toArray]
        rw [(cut_same _ lo hi).1, (cut_same _ lo hi).2]
      rw [e1]
      exact this
def ORep (X : Cx) (W : WX) : Option Expr → Option E → Prop
  | none, none => True
  | some e, some f => ERep X W e f
  | _, _ => False
def PostO (mg : Str → Option Value) (W : WX) (c : C) (σ : L2.St) (H : Hp) (r : R (Option Int)) (Q : Option Int → Hp → Prop) : Prop :=
  match r with
  | .ok b s' => ∀ H', Fr c.dr H H' → DrawOk c.dr c.cl H' s' → Q b H'
  | .exc e s' => ∀ cls dc H', Fr c.dr H H' → DrawOk c.dr c.cl H' s' → ExOk mg e cls → W cls dc σ H'
  | .bad => False
def tO (K : PySem.W.Frag) (mg : Str → Option Value) (W : WX) (f : Option E) : TO := fun σ H Q => ∃ c env s Fs, Good K c H σ env s Fs ∧ PostO mg W c σ H (optI f env s) Q
theorem PO.imp {X : Cx} {e : Option Expr} {t t' : TO} (h : PO X e t) (k : ∀ σ H Q, t' σ H Q → t σ H Q) : PO X e t' := ⟨fun pins s σ H Q I q => h.run pins s σ H Q I (k σ H Q q)⟩
theorem po_rep {W : WX} : ∀ {o : Option Expr} {f : Option E}, ORep X W o f → PO X o (tO X.K X.mg W f)
  | none, none, _ => PO.imp po_none fun σ H Q ⟨c, env, s, Fs, gd, h⟩ => h H Fr.refl gd.draw
  | some e, some f, h => PO.imp (po_some h) fun σ H Q ⟨c, env, s, Fs, gd, h⟩ => by
    refine ⟨c, env, s, Fs, gd, ?_⟩
    unfold optI at h
    dsimp only at h
    cases e1 : f env s with
    | bad => rw [e1] at h; exact h.elim
    | exc x s1 => rw [e1] at h; exact h
    | ok x s1 =>
      rw [e1] at h
      obtain ⟨d, al⟩ := x
      simp only [R.bnd_ok] at h
      intro v1 H1 F1 fr1 d1 r1 a1
      cases d with
      | int i =>
        cases r1
        exact ⟨i, rfl, h H1 fr1 d1⟩
      | _ => exact h.elim
  | some _, none, h => h.elim
  | none, some _, h => h.elim
/-- x[lo:hi] -/
theorem e_sl {W : WX} {e : Expr} {lo hi : Option Expr} {f : E} {fl fh : Option E} {p2 pos : Pos} (he : ERep X W e f) (hl : ORep X W lo fl) (hh : ORep X W hi fh) : ERep X W (.Subscript e (.Slice lo hi none p2) pos) (eSl gSl f fl fh) := by
  refine PE.imp (pe_slice sl_gSl he (po_rep hl) (po_rep hh)) fun σ H Q ⟨c, env, s, Fs, gd, h⟩ => ⟨c, env, s, Fs, gd, ?_⟩
  unfold eSl at h
  cases e1 : f env s with
  | bad => rw [e1] at h; exact h.elim
  | exc x s1 => rw [e1] at h; exact h
  | ok x s1 =>
    rw [e1] at h
    simp only [R.bnd_ok] at h
    intro v1 H1 F1 fr1 d1 r1 a1
    have g1 := gd.fr fr1 d1
    refine ⟨c, env, s1, Fs, g1, ?_⟩
    cases e2 : optI fl env s1 with
    | bad => rw [e2] at h; exact h.elim
    | exc x s2 =>
      rw [e2] at h
      exact fun cls dc H' f' d' xo => h cls dc H' (fr1.trans f') d' xo
    | ok l s2 =>
      rw [e2] at h
      simp only [R.bnd_ok] at h
      intro H2 fr2 d2
      refine ⟨c, env, s2, Fs, g1.fr fr2 d2, ?_⟩
      cases e3 : optI fh env s2 with
      | bad => rw [e3] at h; exact h.elim
      | exc x s3 =>
        rw [e3] at h
        exact fun cls dc H' f' d' xo => h cls dc H' ((fr1.trans fr2).trans f') d' xo
      | ok hh s3 =>
        rw [e3] at h
        simp only [R.bnd_ok] at h
        intro H3 fr3 d3
        cases e4 : gSl x.1 l hh with
        | none => rw [e4] at h; exact h.elim
        | some r =>
          rw [e4] at h
          have n1 := a1.ndr gd
          have frT := (fr1.trans fr2).trans fr3
          refine ⟨c.dr, x.1, F1, r, (r1.fr fr2 d1 n1).fr fr3 d2 n1, n1, e4, fun z H' F sm rz ro => ?_⟩
          exact h z H' F (frT.trans (Fr.of_same sm)) (d3.same sm) rz (a1.res (frT.back d3) ro)
/-! ### built-in functions -/
theorem call_gLen : CallR X (.builtin "len") (rGL X.K gLen) := by
  rintro pins s σ H xs us Q I r ⟨dr, ds, F1, r0, r1, nd, e, q⟩
  unfold gLen at e
  split at e <;> cases e
  · obtain ⟨v, rfl, k⟩ := Reps.one r1
    cases k with
    | lst z hl hr => exact call_len_seq pins s σ H _ us Q I r ⟨_, _, rfl, .inl (.inl (.inl hl)), by rw [hr.length]; exact q _ H [] Same.rfl' (.int _) ResOk.nil⟩
  · obtain ⟨v, rfl, k⟩ := Reps.one r1
    cases k with
    | tup z hl hr => exact call_len_seq pins s σ H _ us Q I r ⟨_, _, rfl, .inr hl, by rw [hr.length]; exact q _ H [] Same.rfl' (.int _) ResOk.nil⟩
  · obtain ⟨v, rfl, k⟩ := Reps.one r1
    cases k with
    | str _ z => exact call_len_str pins s σ H _ us Q I r ⟨_, rfl, line_le (by simpa [Str.length] using z), by simpa [Str.length] using q _ H [] Same.rfl' (.int _) ResOk.nil⟩
  · obtain ⟨v, rfl, k⟩ := Reps.one r1
    cases k with
    | dic z hl hr =>
      have hlen : ∀ {kvs : List (Key × V)} {ds : List (D × D)} {F : List Addr}, Repk X.K dr H kvs ds F → kvs.length = ds.length := by
        intro kvs ds F h
        induction ds generalizing kvs F with
        | nil => cases h; rfl
        | cons d ds ih =>
          cases h with
          | cons _ t => exact congrArg (· + 1) (ih t)
      refine call_lenD pins s σ H _ us Q I r ⟨_, _, rfl, hl, ?_⟩
      rw [hlen hr]
      exact q _ H [] Same.rfl' (.int _) ResOk.nil
theorem nil_of {F : List Addr} {G : List Addr} (h : G = []) (m : ∀ a ∈ F, a ∈ G) : F = [] := by
  subst h
  exact List.eq_nil_iff_forall_not_mem.mpr fun a ha => nomatch m a ha
theorem call_gTuple : CallR X (.type "tuple") (rGL X.K gTuple) := by
  rintro pins s σ H xs us Q I r ⟨dr, ds, F1, r0, r1, nd, e, q⟩
  unfold gTuple at e
  split at e <;> cases e
  · obtain ⟨v, rfl, k⟩ := Reps.one r1
    cases k with
    | @lst p vs ds F z hl hr =>
      refine call_tuple_of pins s σ H _ us Q I r ⟨_, _, rfl, .inl ⟨.inl (.inl hl), fun l hp => ?_⟩⟩
      have sm : Same H (upd H l (.tup vs)) := Same.upd hp
      exact q _ _ F sm (.tup z (.inl (.inl upd_same)) (hr.same sm)) (ResOk.newT (fun e => hr.lf e) fun a ha => List.mem_cons_of_mem _ ha)
  · obtain ⟨v, rfl, k⟩ := Reps.one r1
    cases k with
    | @tup p vs ds F z hl hr =>
      exact call_tuple_of pins s σ H _ us Q I r ⟨_, _, rfl, .inr ⟨hl, q _ H F1 Same.rfl' (.tup z hl hr) (ResOk.newT (fun e => hr.lf e) fun a ha => ha)⟩⟩
theorem call_gList : CallR X (.type "list") (rGL X.K gList) := by
  rintro pins s σ H xs us Q I r ⟨dr, ds, F1, r0, r1, nd, e, q⟩
  unfold gList at e
  split at e <;> cases e
  · obtain ⟨v, rfl, k⟩ := Reps.one r1
    cases k with
    | @lst p vs ds F z hl hr =>
      refine call_list_of pins s σ H _ us Q I r ⟨_, _, rfl, .inl (.inl (.inl hl)), fun l hp => ?_⟩
      have sm : Same H (upd H l (.lst vs)) := Same.upd hp
      exact q _ _ (l :: F) sm (.lst z upd_same (hr.same sm)) (ResOk.newL hp (fun e => hr.lf e) fun a ha => List.mem_cons_of_mem _ ha)
  · obtain ⟨v, rfl, k⟩ := Reps.one r1
    cases k with
    | @tup p vs ds F z hl hr =>
      refine call_list_of pins s σ H _ us Q I r ⟨_, _, rfl, .inr hl, fun l hp => ?_⟩
      have sm : Same H (upd H l (.lst vs)) := Same.upd hp
      exact q _ _ (l :: F1) sm (.lst z upd_same (hr.same sm)) (ResOk.newL hp (fun e => hr.lf e) fun a ha => ha)
theorem call_gAbs : CallR X (.builtin "abs") (rGL X.K gAbs) := by
  rintro pins s σ H xs us Q I r ⟨dr, ds, F1, r0, r1, nd, e, q⟩
  unfold gAbs at e
  split at e <;> cases e
  obtain ⟨v, rfl, k⟩ := Reps.one r1
  cases k
  exact call_abs pins s σ H _ us Q I r ⟨_, rfl, q _ H [] Same.rfl' (.int _) ResOk.nil⟩
theorem call_gInt : CallR X (.type "int") (rGL X.K gInt) := by
  rintro pins s σ H xs us Q I r ⟨dr, ds, F1, r0, r1, nd, e, q⟩
  unfold gInt at e
  split at e <;> cases e
  · obtain ⟨v, rfl, k⟩ := Reps.one r1
    cases k
    exact call_int1 pins s σ H _ us Q I r (.inl ⟨_, rfl, q _ H [] Same.rfl' (.int _) ResOk.nil⟩)
  · obtain ⟨v, rfl, k⟩ := Reps.one r1
    cases k
    exact call_int1 pins s σ H _ us Q I r (.inr ⟨_, rfl, q _ H [] Same.rfl' (.int _) ResOk.nil⟩)
theorem asInts_map : ∀ {ds : List D} {ns : List Int}, asInts ds = some ns → ds = ns.map D.int
  | [], _, h => by cases h; rfl
  | .int i :: r, ns, h => by
    simp only [asInts] at h
    cases e : asInts r with
    | none => rw [e] at h; cases h
    | some ms =>
      rw [e] at h
      cases h
      rw [asInts_map e]
      rfl
theorem asBools_map : ∀ {ds : List D} {ns : List Bool}, asBools ds = some ns → ds = ns.map D.bl
  | [], _, h => by cases h; rfl
  | .bl i :: r, ns, h => by
    simp only [asBools] at h
    cases e : asBools r with
    | none => rw [e] at h; cases h
    | some ms =>
      rw [e] at h
      cases h
      rw [asBools_map e]
      rfl
theorem Reps.ints {K : PySem.W.Frag} {dr : Addr} {H : Hp} : ∀ {vs : List V} {ns : List Int} {F : List Addr}, Reps K dr H vs (ns.map D.int) F → vs = ns.map V.int
  | _, [], _, h => by cases h; rfl
  | _, n :: ns, _, h => by
    cases h with
    | cons r t =>
      cases r
      rw [t.ints]
      rfl
theorem Reps.bools {K : PySem.W.Frag} {dr : Addr} {H : Hp} : ∀ {vs : List V} {ns : List Bool} {F : List Addr}, Reps K dr H vs (ns.map D.bl) F → vs = ns.map V.bl
  | _, [], _, h => by cases h; rfl
  | _, n :: ns, _, h => by
    cases h with
    | cons r t =>
      cases r
      rw [t.bools]
      rfl
/-- a list of ints is given -/
theorem one_ints {K : PySem.W.Frag} {dr : Addr} {H : Hp} {xs : List V} {ds : List D} {ns : List Int} {F : List Addr} (r : Reps K dr H xs [.lst ds] F) (e : asInts ds = some ns) : ∃ a, xs = [.ref a] ∧ SqL K H a (ns.map V.int) := by
  obtain ⟨v, rfl, k⟩ := Reps.one r
  cases k with
  | lst z hl hr =>
    have := asInts_map e
    subst this
    rw [hr.ints] at hl
    exact ⟨_, rfl, .inl (.inl hl)⟩
theorem one_bools {K : PySem.W.Frag} {dr : Addr} {H : Hp} {xs : List V} {ds : List D} {ns : List Bool} {F : List Addr} (r : Reps K dr H xs [.lst ds] F) (e : asBools ds = some ns) : ∃ a, xs = [.ref a] ∧ SqL K H a (ns.map V.bl) := by
  obtain ⟨v, rfl, k⟩ := Reps.one r
  cases k with
  | lst z hl hr =>
    have := asBools_map e
    subst this
    rw [hr.bools] at hl
    exact ⟨_, rfl, .inl (.inl hl)⟩
theorem call_gSum (hc : X.calm = true) : CallR X (.builtin "sum") (rGL X.K gSum) := by
  rintro pins s σ H xs us Q I r ⟨dr, ds, F1, r0, r1, nd, e, q⟩
  unfold gSum at e
  split at e
  · rename_i ys
    cases k : asInts ys with
    | none => rw [k] at e; cases e
    | some ns =>
      rw [k] at e
      cases e
      obtain ⟨a, rfl, h⟩ := one_ints r1 k
      exact cr_sum hc pins s σ H _ us Q I r ⟨a, ns, rfl, h, q _ H [] Same.rfl' (.int _) ResOk.nil⟩
  · cases e
theorem call_gAny (hc : X.calm = true) : CallR X (.builtin "any") (rGL X.K gAny) := by
  rintro pins s σ H xs us Q I r ⟨dr, ds, F1, r0, r1, nd, e, q⟩
  unfold gAny at e
  split at e
  · rename_i ys
    cases k : asBools ys with
    | none => rw [k] at e; cases e
    | some ns =>
      rw [k] at e
      cases e
      obtain ⟨a, rfl, h⟩ := one_bools r1 k
      exact cr_any hc pins s σ H _ us Q I r ⟨a, ns, rfl, h, q _ H [] Same.rfl' (.bl _) ResOk.nil⟩
  · cases e
theorem call_gAll (hc : X.calm = true) : CallR X (.builtin "all") (rGL X.K gAll) := by
  rintro pins s σ H xs us Q I r ⟨dr, ds, F1, r0, r1, nd, e, q⟩
  unfold gAll at e
  split at e
  · rename_i ys
    cases k : asBools ys with
    | none => rw [k] at e; cases e
    | some ns =>
      rw [k] at e
      cases e
      obtain ⟨a, rfl, h⟩ := one_bools r1 k
      exact cr_all hc pins s σ H _ us Q I r ⟨a, ns, rfl, h, q _ H [] Same.rfl' (.bl _) ResOk.nil⟩
  · cases e
theorem maxI_is : ∀ (ns : List Int) (m : Int), (maxI m ns = m ∨ maxI m ns ∈ ns) ∧ m ≤ maxI m ns ∧ ∀ y ∈ ns, y ≤ maxI m ns
  | [], m => ⟨.inl rfl, Int.le_refl _, fun _ h => nomatch h⟩
  | n :: ns, m => by
    obtain ⟨h1, h2, h3⟩ := maxI_is ns (if m < n then n else m)
    have e : maxI m (n :: ns) = maxI (if m < n then n else m) ns := rfl
    rw [e]
    have k : m ≤ (if m < n then n else m) ∧ n ≤ (if m < n then n else m) := by split <;> omega
    refine ⟨?_, by omega, fun y hy => ?_⟩
    · rcases h1 with h1 | h1
      · rw [h1]
        by_cases c : m < n
        · rw [if_pos c]; exact .inr List.mem_cons_self
        · rw [if_neg c]; exact .inl rfl
      · exact .inr (List.mem_cons_of_mem _ h1)
    · rcases List.mem_cons.mp hy with rfl | hy
      · omega
      · exact h3 y hy
theorem minI_is : ∀ (ns : List Int) (m : Int), (minI m ns = m ∨ minI m ns ∈ ns) ∧ minI m ns ≤ m ∧ ∀ y ∈ ns, minI m ns ≤ y
  | [], m => ⟨.inl rfl, Int.le_refl _, fun _ h => nomatch h⟩
  | n :: ns, m => by
    obtain ⟨h1, h2, h3⟩ := minI_is ns (if n < m then n else m)
    have e : minI m (n :: ns) = minI (if n < m then n else m) ns := rfl
    rw [e]
    have k : (if n < m then n else m) ≤ m ∧ (if n < m then n else m) ≤ n := by split <;> omega
    refine ⟨?_, by omega, fun y hy => ?_⟩
    · rcases h1 with h1 | h1
      · rw [h1]
        by_cases c : n < m
        · rw [if_pos c]; exact .inr List.mem_cons_self
        · rw [if_neg c]; exact .inl rfl
      · exact .inr (List.mem_cons_of_mem _ h1)
    · rcases List.mem_cons.mp hy with rfl | hy
      · omega
      · exact h3 y hy
theorem call_gMax (hc : X.calm = true) : CallR X (.builtin "max") (rGL X.K gMax) := by
  rintro pins s σ H xs us Q I r ⟨dr, ds, F1, r0, r1, nd, e, q⟩
  unfold gMax at e
  split at e
  · rename_i ys
    split at e <;> cases e
    rename_i n ns k
    obtain ⟨a, rfl, h⟩ := one_ints r1 k
    obtain ⟨m1, m2, m3⟩ := maxI_is ns n
    refine cr_max hc pins s σ H _ us Q I r ⟨a, n :: ns, rfl, h, Nat.succ_pos _, fun m hm hall => ?_⟩
    have : m = maxI n ns := by
      refine Int.le_antisymm ?_ ?_
      · rcases List.mem_cons.mp hm with rfl | hm
        · exact m2
        · exact m3 m hm
      · rcases m1 with m1 | m1
        · rw [m1]; exact hall n List.mem_cons_self
        · exact hall _ (List.mem_cons_of_mem _ m1)
    rw [this]
    exact q _ H [] Same.rfl' (.int _) ResOk.nil
  · cases e
    obtain ⟨rfl, rfl⟩ := r1.int2
    exact call_max2 hc pins s σ H _ us Q I r ⟨_, _, rfl, q _ H [] Same.rfl' (.int _) ResOk.nil⟩
  · cases e
theorem call_gMin (hc : X.calm = true) : CallR X (.builtin "min") (rGL X.K gMin) := by
  rintro pins s σ H xs us Q I r ⟨dr, ds, F1, r0, r1, nd, e, q⟩
  unfold gMin at e
  split at e
  · rename_i ys
    split at e <;> cases e
    rename_i n ns k
    obtain ⟨a, rfl, h⟩ := one_ints r1 k
    obtain ⟨m1, m2, m3⟩ := minI_is ns n
    refine cr_min hc pins s σ H _ us Q I r ⟨a, n :: ns, rfl, h, Nat.succ_pos _, fun m hm hall => ?_⟩
    have : m = minI n ns := by
      refine Int.le_antisymm ?_ ?_
      · rcases m1 with m1 | m1
        · rw [m1]; exact hall n List.mem_cons_self
        · exact hall _ (List.mem_cons_of_mem _ m1)
      · rcases List.mem_cons.mp hm with rfl | hm
        · exact m2
        · exact m3 m hm
    rw [this]
    exact q _ H [] Same.rfl' (.int _) ResOk.nil
  · cases e
    obtain ⟨rfl, rfl⟩ := r1.int2
    exact call_min2 hc pins s σ H _ us Q I r ⟨_, _, rfl, q _ H [] Same.rfl' (.int _) ResOk.nil⟩
  · cases e
end
end Sm
end
section
set_option Elab.async false
set_option linter.all false
set_option maxRecDepth 100000
set_option maxHeartbeats 4000000
/-! Sound11: enumerate; the law's own def. -/
namespace Sm
open PySem PySem.Spec L2 RZ RT PyProof.Rows

/-! ### enumerate(tuple) -/
theorem meets_enumT (l : Addr) (items : Array Value) :
    Meets (Builtin.«enumerate.__new__» ⟨[.type "enumerate", .ref l], []⟩) (fun _ R s => s.heap.IsTuple l items ∧
      R (.ok (.ret (.ref (s.heap.push { cls := .type "tuple_iterator", data := .fields #[.ref l, .int 0 0] }).objs.size)))
        { s with heap := (s.heap.push { cls := .type "tuple_iterator", data := .fields #[.ref l, .int 0 0] }).push { cls := .type "enumerate", data := .fields #[.none, .bool false, .ref s.heap.objs.size, rawInt 0, .none, .none] } }) :=
  .of_wp fun prog w A R s h => by
    obtain ⟨hp, g, d, tk, os⟩ := s
    obtain ⟨hL, h⟩ := h
    have hsub := sub_enumerate
    have q1 : ∀ {A' : Around} {E : Value → Shared → Prop} {Q : Value → Shared → Prop}, Q (.ref hp.objs.size) ⟨hp.push { cls := .type "tuple_iterator", data := .fields #[.ref l, .int 0 0] }, g, d, tk, os⟩ → wpAny (model prog w) A' (pyIter (.ref l)) Q E ⟨hp, g, d, tk, os⟩ :=
      fun q => wpAny_pyIter_tuple (s := ⟨hp, g, d, tk, os⟩) hL q
    wp_walk
    refine wpAny_stack_any fun st => wpAny_pure ?_
    split
    · rename_i c _ _ _ _ _
      cases (c == Value.type "enumerate")
      · wp_walk using q1
        exact ⟨_, rfl, h⟩
      · wp_walk using q1
        exact ⟨_, rfl, h⟩
    · wp_walk using q1
      exact ⟨_, rfl, h⟩
theorem call_enumT {prog : Program} {w : World} {A : Around} {E : Value → Shared → Prop} {s : Shared} {l : Addr} {items : Array Value} {Q : Value → Shared → Prop} (hL : s.heap.IsTuple l items)
    (h : ∀ h', IsEnum h' (s.heap.objs.size + 1) s.heap.objs.size 0 .none → h'.IsTupleIter s.heap.objs.size l 0 → h'.objs.size = s.heap.objs.size + 2 →
      (∀ b o, s.heap.get? b = some o → h'.get? b = some o) → Q (.ref (s.heap.objs.size + 1)) { s with heap := h' }) :
    wpAny (model prog w) A (call (.type "enumerate") [.ref l]) Q E s := by
  refine callType_new F.called_enumerate (by decide) (F.typeCall_enumerate_1 _) (F.newCall_enumerate_1 _) (fun obj => F.args_object_init_2 obj _) F.entry_enumerate_new
    (meets_enumT l items) ⟨hL, ?_⟩
  have hz : (s.heap.push { cls := .type "tuple_iterator", data := .fields #[.ref l, .int 0 0] }).objs.size = s.heap.objs.size + 1 := Heap.size_push ..
  show _ ∧ _
  rw [hz]
  have he : IsEnum ((s.heap.push { cls := .type "tuple_iterator", data := .fields #[.ref l, .int 0 0] }).push
      { cls := .type "enumerate", data := .fields #[.none, .bool false, .ref s.heap.objs.size, rawInt 0, .none, .none] }) (s.heap.objs.size + 1) s.heap.objs.size 0 .none := by
    have := Heap.get?_push_size (s.heap.push { cls := .type "tuple_iterator", data := .fields #[.ref l, .int 0 0] })
      (o := { cls := .type "enumerate", data := .fields #[.none, .bool false, .ref s.heap.objs.size, rawInt 0, .none, .none] }) rfl
    rw [hz] at this; exact this
  refine ⟨⟨_, he, rfl⟩, h _ he ⟨_, Heap.get?_push_of_some _ (Heap.get?_push_size _ rfl), rfl, rfl⟩ (by rw [Heap.size_push, hz]) fun b o x => Heap.get?_push_of_some _ (Heap.get?_push_of_some _ x)⟩
theorem enumT_end {prog : Program} {w : World} {A : Around} {E : Value → Shared → Prop} {s : Shared} {e it t : Addr} {i : Nat} {items : Array Value} {old : Value} {Q : Option Value → Shared → Prop} (hh : A.handled = none)
    (he : IsEnum s.heap e it i old) (hit : s.heap.IsTupleIter it t i) (ht : s.heap.IsTuple t items) (hx : items[i]? = none)
    (hQ : ∀ h', Heap.ExtBut it s.heap h' → Q none { s with heap := h' }) : wpAny (model prog w) A (pyNext (.ref e)) Q E s := by
  have hT : s.TypeIs (.ref e) "enumerate" := ⟨_, he, rfl⟩
  unfold pyNext
  refine wpAny_bind (wpAny_attempt (wpAny_callSpecial?_slot (name := Str.ofString "__next__") hT F.slot_enumerate_next
    (wpAny_call_entry F.slot_enumerate_next hT F.entry_enumerate_next ?_ (F.args_enumerate_next_1 _))))
  show wpAny _ _ (field (.ref e) 2 >>= _) _ _ _
  refine wpAny_bind (wpAny_field he rfl (x := .ref it) rfl ?_)
  refine wpAny_bind (wpAny_nextOf_tuple_end hh hit ht hx fun h' x he' hx' => ?_)
  obtain ⟨o, ho, hc⟩ := hx'
  refine wpAny_bind (wpAny_isInstance (T := "StopIteration") (b := true) ⟨o, ho, hc⟩ isSubtype_stop ?_)
  exact wpAny_pure (hQ _ he')
/-- the tuple at a, each item in a new pair -/
def Iet (K : PySem.W.Frag) (a : Addr) : It :=
  ⟨fun i H => ∃ (xs : List V) (x : V), SqT K H a xs ∧ xs[i]? = some x, fun i H v H' => ∃ T x, v = .ref T ∧ H T = none ∧ H' = upd H T (.tup [.int (i : Nat), x]) ∧ ∀ xs, SqT K H a xs → xs[i]? = some x, fun i H => ∃ xs : List V, SqT K H a xs ∧ xs.length ≤ i⟩
theorem turn_enumT {P : Program} {w : World} {K : PySem.W.Frag} {elts : List Expr} {kk : Nat} {tpos : Pos} (a e it : Addr) :
    Turn P w K (.Tuple elts kk tpos) (Iet K a) [e, it] e (fun i h => (∃ old, IsEnum h e it ((i : Nat) : Int) old) ∧ h.IsTupleIter it a i ∧ e ≠ it) where
  mem := by simp
  obj := fun i h st b hb => by
    obtain ⟨⟨old, he⟩, ⟨o, ho, hc, hd⟩, _⟩ := st
    have e' : b = e ∨ b = it := by simpa using hb
    rcases e' with z | z
    · rw [z]; exact ⟨_, he, fun v q => nomatch q⟩
    · rw [z]; exact ⟨o, ho, fun v q => by rw [hd] at q; cases q⟩
  keep := fun i h h' st k => let ⟨⟨old, he⟩, hi, hne⟩ := st; ⟨⟨old, k e (by simp) _ he⟩, hi.at fun o q => k it (by simp) o q, hne⟩
  item := by
    intro X hP hw hK hc i pins s σ H E I hf st hg
    subst hP hw hK
    obtain ⟨⟨old, he⟩, hit, hne⟩ := st
    obtain ⟨xs, x, hq, hx⟩ := hg
    obtain ⟨its, rv, p, hz⟩ := I.tuple hq
    obtain ⟨u, hu, ru⟩ := rv.get hx
    have p' : s.heap.IsTuple a its.toArray := p
    have hel : e < s.heap.objs.size := Heap.lt_size he
    have hil : it < s.heap.objs.size := by obtain ⟨_, q, _⟩ := hit; exact Heap.lt_size q
    have nea : e ≠ a := fun z => by
      obtain ⟨o, ho, hc, _⟩ := p'
      subst z
      have q : some o = some _ := ho.symm.trans he
      injection q with q
      subst q
      injection hc with hc
      exact absurd hc (by decide)
    have nia : a ≠ it := fun z => by
      obtain ⟨o, ho, hc, _⟩ := p'
      obtain ⟨o2, ho2, hc2, _⟩ := hit
      subst z
      rw [ho] at ho2
      cases ho2
      rw [hc] at hc2
      injection hc2 with hc2
      exact absurd hc2 (by decide)
    have hil2 : i < its.toArray.size := by
      obtain ⟨q, _⟩ := List.getElem?_eq_some_iff.mp hu
      simpa using q
    have hui : its.toArray[i]? = some u := by simpa using hu
    refine wpAny_pyNext_enum_itemD (Draws.tuple (A := X.A.in1) (I.ok.hd hc) it a nia its.toArray) he ⟨hit, p'⟩ hil2 hne (by simp [hne, nea]) fun y h' tk hy ho hit' hT hsz hk => ?_
    have : y = u := Option.some.inj (hy.symm.trans hui)
    subst this
    refine ⟨_, rfl, wpAny_letOwnedTupleGo_enum (s := { s with heap := h', toks := tk + 1 }) ho fun h'' he' sb => ?_⟩
    have hT2 : h''.get? s.heap.objs.size = some { cls := .type "tuple", data := .seq #[.int i tk, y] } := (sb.2 _ (Nat.ne_of_gt hel)).trans hT
    have new : ObjOk X.prog X.w (upd H s.heap.objs.size (.tup [.int (i : Nat), x])) h'' s.heap.objs.size (.tup [.int (i : Nat), x]) :=
      ⟨by show 2 ≤ sizeLine; decide, [.int i tk, y], .cons ⟨_, rfl⟩ (.cons ru .nil), ⟨_, hT2, rfl, _, rfl⟩⟩
    have I1 : Inv X pins σ (upd H s.heap.objs.size (.tup [.int (i : Nat), x])) { s with heap := h'', toks := tk + 1 } :=
      I.turnedNew (ch := [e, it]) (fun b ob hb q => (sb.2 b (fun z => hb (by simp [z]))).trans (hk b ob (fun z => hb (by simp [z])) (fun z => hb (by simp [z])) q)) hf (Nat.le_refl _) new
    refine ⟨.ref s.heap.objs.size, _, I1, rfl, ⟨_, x, rfl, I.hok.fresh (Nat.le_refl _), rfl, fun ys hy => by rw [I.tuple_inj hy hq]; exact hx⟩, ⟨⟨y, ?_⟩, hit'.1.at fun o q => (sb.2 it (Ne.symm hne)).trans q, hne⟩, fun b hb => ?_⟩
    · have e1 : ((i + 1 : Nat) : Int) = (i : Int) + 1 := by omega
      rw [e1]; exact he'
    · have hb' : b < s.heap.objs.size := by
        have e' : b = e ∨ b = it := by simpa using hb
        rcases e' with z | z
        · rw [z]; exact hel
        · rw [z]; exact hil
      rw [upd_ne (Nat.ne_of_lt hb')]
      exact (hf b hb).1
  done := by
    intro X hP hw hK hc i pins s σ H E I hf st hg
    subst hP hw hK
    obtain ⟨⟨old, he⟩, hit, hne⟩ := st
    obtain ⟨xs, hq, hx⟩ := hg
    obtain ⟨its, rv, p, hz⟩ := I.tuple hq
    have p' : s.heap.IsTuple a its.toArray := p
    obtain ⟨f0, f1, f2, f3, f4, f5⟩ := hf it (by simp)
    have hl := rv.length
    have nia : a ≠ it := fun z => by
      obtain ⟨o, ho, hc, _⟩ := p'
      obtain ⟨o2, ho2, hc2, _⟩ := hit
      subst z
      rw [ho] at ho2
      cases ho2
      rw [hc] at hc2
      injection hc2 with hc2
      exact absurd hc2 (by decide)
    exact enumT_end (I.ok.hd hc) he hit p' (by simp; omega) fun h' eb => ⟨rfl, I.turned (t' := s.toks) (fun b o hb q => eb b o hb q) f0 f1 f3 f4 f5⟩
  self := fun A i s Q E st h => let ⟨⟨_, he⟩, _⟩ := st; wpAny_pyIter_enum he h
/-! enumerate(list or tuple) -/
theorem enumD_len : ∀ {n : Nat} {ds : List D}, (enumD n ds).length = ds.length
  | _, [] => rfl
  | n, d :: ds => congrArg (· + 1) (enumD_len (n := n + 1) (ds := ds))
theorem enumD_get : ∀ {n : Nat} {ds : List D} {i : Nat} {d : D}, (enumD n ds)[i]? = some d → ∃ e, ds[i]? = some e ∧ d = .tup [.int (n + i : Nat), e]
  | n, e :: ds, 0, d, h => ⟨e, rfl, by simpa [enumD] using h.symm⟩
  | n, e :: ds, i + 1, d, h => by
    obtain ⟨e', h1, h2⟩ := enumD_get (n := n + 1) (ds := ds) (i := i) (by simpa [enumD] using h)
    refine ⟨e', by simpa using h1, ?_⟩
    rw [h2, show n + 1 + i = n + (i + 1) by omega]
theorem walk_enum {K : PySem.W.Frag} {dr : Addr} {H : Hp} {a : Addr} {vs : List V} {ds : List D} {F : List Addr} (hz : ds.length ≤ LIM) (h : H a = some (.lst vs)) (r : Reps K dr H vs ds F) : WalkOk K dr (Ite K a) (enumD 0 ds) H (a :: F) := by
  refine ⟨by rw [enumD_len]; exact hz, fun b hb => ?_, fun H2 m e => ?_⟩
  · rcases List.mem_cons.mp hb with rfl | hb
    · rw [h]; intro q; cases q
    · exact r.ne hb
  · have h2 : H2 a = some (.lst vs) := (e a List.mem_cons_self).trans h
    have r2 : Reps K dr H2 vs ds F := r.mono m fun b hb => e b (List.mem_cons_of_mem _ hb)
    have sq : SqL K H2 a vs := .inl (.inl h2)
    rw [enumD_len]
    refine ⟨fun i hi => ⟨vs, vs[i]'(by rw [r.length]; exact hi), sq, List.getElem?_eq_getElem _⟩, ⟨vs, sq, by rw [r.length]; exact Nat.le_refl _⟩, fun i d x H3 e1 hy => ?_⟩
    obtain ⟨T, y, rfl, hT, rfl, hx⟩ := hy
    obtain ⟨d', e2, rfl⟩ := enumD_get e1
    obtain ⟨v, G, e3, rv, mG⟩ := r2.get e2
    have : y = v := Option.some.inj ((hx vs sq).symm.trans e3)
    subst this
    have sm : Same H2 (upd H2 T (.tup [.int (i : Nat), y])) := Same.upd hT
    refine ⟨sm, G, .tup (by show 2 ≤ LIM; decide) (.inl (.inl upd_same)) ?_, fun b hb => List.mem_cons_of_mem _ (mG b hb)⟩
    rw [Nat.zero_add]
    have := Reps.cons (.int (i : Nat)) (.cons (rv.same sm) .nil)
    rw [List.nil_append, List.append_nil] at this
    exact this
theorem walk_enumT {K : PySem.W.Frag} {dr : Addr} {H : Hp} {a : Addr} {vs : List V} {ds : List D} {F : List Addr} (hz : ds.length ≤ LIM) (h : SqT K H a vs) (r : Reps K dr H vs ds F) : WalkOk K dr (Iet K a) (enumD 0 ds) H F := by
  refine ⟨by rw [enumD_len]; exact hz, fun b hb => r.ne hb, fun H2 m e => ?_⟩
  have r2 : Reps K dr H2 vs ds F := r.mono m e
  have sq : SqT K H2 a vs := SqT.imm h m
  rw [enumD_len]
  refine ⟨fun i hi => ⟨vs, vs[i]'(by rw [r.length]; exact hi), sq, List.getElem?_eq_getElem _⟩, ⟨vs, sq, by rw [r.length]; exact Nat.le_refl _⟩, fun i d x H3 e1 hy => ?_⟩
  obtain ⟨T, y, rfl, hT, rfl, hx⟩ := hy
  obtain ⟨d', e2, rfl⟩ := enumD_get e1
  obtain ⟨v, G, e3, rv, mG⟩ := r2.get e2
  have : y = v := Option.some.inj ((hx vs sq).symm.trans e3)
  subst this
  have sm : Same H2 (upd H2 T (.tup [.int (i : Nat), y])) := Same.upd hT
  refine ⟨sm, G, .tup (by show 2 ≤ LIM; decide) (.inl (.inl upd_same)) ?_, mG⟩
  rw [Nat.zero_add]
  have := Reps.cons (.int (i : Nat)) (.cons (rv.same sm) .nil)
  rw [List.nil_append, List.append_nil] at this
  exact this
section
variable {X : Cx} {W : WX} {e a b : Expr} {pos p tpos : Pos} {fa : A} {elts : List Expr} {kk : Nat}
theorem i_enum (hg : Gl X "enumerate") (hm : X.mg "enumerate" = none) (ha : ARep X W [e] fa) (hs : starEach [e] X.env = [(false, eval e X.env)] := by rfl) :
    IRep X W (.Tuple elts kk tpos) (.Call (.Name "enumerate" p) [e] [] pos) (iEnum fa) := by
  refine ⟨fun pins s σ H Rx I h => ?_⟩
  obtain ⟨c, env, sd, Fs, gd, h⟩ := h
  let Q : List V → Hp → Prop := fun vs H1 => (∃ a, vs = [.ref a] ∧ (∃ xs, SqL X.K H1 a xs) ∧ Rx (Ite X.K a) H1) ∨ (∃ a, vs = [.ref a] ∧ (∃ xs, SqT X.K H1 a xs) ∧ Rx (Iet X.K a) H1)
  have pre : tA X.K X.mg W fa σ H Q := by
    refine ⟨c, env, sd, Fs, gd, ?_⟩
    unfold iEnum at h
    cases e1 : fa env sd with
    | bad => rw [e1] at h; exact h.elim
    | exc x s1 => rw [e1] at h; exact h
    | ok x s1 =>
      rw [e1] at h
      obtain ⟨d, al⟩ := x
      simp only [R.bnd_ok] at h
      intro v1 H1 F1 fr1 d1 r1 a1
      split at h <;> try exact h.elim
      · cases r1 with
        | cons r r' =>
          cases r'
          rw [List.append_nil] at a1
          cases r with
          | lst hz hl hr => exact .inl ⟨_, rfl, ⟨_, .inl (.inl hl)⟩, h _ H1 _ fr1 d1 a1 (walk_enum hz hl hr)⟩
      · cases r1 with
        | cons r r' =>
          cases r'
          rw [List.append_nil] at a1
          cases r with
          | tup hz hs hr => exact .inr ⟨_, rfl, ⟨_, hs⟩, h _ H1 _ fr1 d1 a1 (walk_enumT hz hs hr)⟩
  refine Call_ (ld_blt I hg hm boot_enumerate (PyProof.Rows.callWith_type1 (thn (ha.1.run pos pins s σ H Q I pre) fun us s1 ⟨vs, H1, I1, r1, q1⟩ => ?_) hs rfl))
  rcases q1 with ⟨l, rfl, ⟨xs, hq⟩, q⟩ | ⟨l, rfl, ⟨xs, hq⟩, q⟩
  · cases r1 with
    | cons r rr =>
      cases rr
      cases r
      obtain ⟨its, rv, p', hz⟩ := I1.list hq
      refine call_enumerate_list p'.isList fun h' he hit hsz hk => wpAny_pyIter_enum he ?_
      have I2 : Inv X pins σ H1 { s1 with heap := h' } := I1.kept (t' := s1.toks) hk
      refine ⟨s1.heap.objs.size + 1, [s1.heap.objs.size + 1, s1.heap.objs.size], _, _, H1, rfl, I2, turn_enum l (s1.heap.objs.size + 1) s1.heap.objs.size, ⟨⟨.none, he⟩, hit, Nat.succ_ne_self _⟩, fun b hb => ?_, q⟩
      have hle : s1.heap.objs.size ≤ b := by
        have e' : b = s1.heap.objs.size + 1 ∨ b = s1.heap.objs.size := by simpa using hb
        rcases e' with z | z
        · rw [z]; exact Nat.le_add_right _ _
        · rw [z]; exact Nat.le_refl _
      exact I1.fpOk hle (I1.hok.fresh hle)
  · cases r1 with
    | cons r rr =>
      cases rr
      cases r
      obtain ⟨its, rv, p', hz⟩ := I1.tuple hq
      refine call_enumT (show s1.heap.IsTuple l its.toArray from p') fun h' he hit hsz hk => wpAny_pyIter_enum he ?_
      have I2 : Inv X pins σ H1 { s1 with heap := h' } := I1.kept (t' := s1.toks) hk
      refine ⟨s1.heap.objs.size + 1, [s1.heap.objs.size + 1, s1.heap.objs.size], _, _, H1, rfl, I2, turn_enumT l (s1.heap.objs.size + 1) s1.heap.objs.size, ⟨⟨.none, he⟩, hit, Nat.succ_ne_self _⟩, fun b hb => ?_, q⟩
      have hle : s1.heap.objs.size ≤ b := by
        have e' : b = s1.heap.objs.size + 1 ∨ b = s1.heap.objs.size := by simpa using hb
        rcases e' with z | z
        · rw [z]; exact Nat.le_add_right _ _
        · rw [z]; exact Nat.le_refl _
      exact I1.fpOk hle (I1.hok.fresh hle)
end
end Sm
end
section
set_option Elab.async false
set_option linter.all false
set_option maxRecDepth 100000
set_option maxHeartbeats 4000000
/-! Sound12: the law's own def. -/
namespace Sm
open PySem PySem.Spec L2 RZ RT PyProof.Rows

/-- _law_draw(script): the draws of the script -/
def spDraw (K : PySem.W.Frag) : Sp := fun vs H Q _ => ∃ (a : Addr) (ns : List Int), vs = [.ref a] ∧ SqL K H a (ns.map V.int) ∧ ns.length ≤ 63 ∧ ∀ H' dr cl, Same H H' → H dr = none → DrawOk dr cl H' (drawOf ns) → Q (.ref dr) H'
/-- the law: True -/
def spLaw (K : PySem.W.Frag) : Sp := fun vs H Q _ => ∃ (a : Addr) (ns : List Int), vs = [.ref a] ∧ SqL K H a (ns.map V.int) ∧ ns.length ≤ 63 ∧ ∀ H', Q (.bl true) H'
section
variable {P : Program} {w : World} {K : PySem.W.Frag} {mg : Str → Option Value} {base : Heap}
theorem lawE_get {m i : Nat} {x : Md × D} (h : getS (lawE m) i = some x) : i = 1 ∧ x = (.own, .hdl) := by
  unfold lawE at h
  match i with
  | 0 => cases h
  | 1 => exact ⟨rfl, (Option.some.inj h).symm⟩
  | i + 2 =>
    have : getS (List.replicate m none) i = some x := h
    rw [getS_rep] at this
    cases this
theorem law_rep {f fD : Addr} {fd fdD : FuncData} {st : Stmt} {N : List Str} {m k : Nat} {g : S} {rest : List Stmt} {p1 p2 p3 p4 p5 : Pos} (F : Fun K "law" "law" st f fd) (S : FnScope N ["script"] (defScope st))
    (FD : FnOk P w K mg base (L2.CX P w) 1 fD fdD ["script"] (spDraw K)) (gD : mg "_law_draw" = some (.ref fD)) (kD : PySem.W.keepIn K (.ref fD) = true) (bD : Binds K fdD ["script"] [])
    (hN : N.length = m + 2) (hN0 : N[0]? = some ("script" : Str)) (hN1 : N[1]? = some ("draw" : Str)) (hbody : defBody st = .Assign [.Name "draw" p1] (.Call (.Name "_law_draw" p2) [.Name "script" p3] [] p4) p5 :: rest)
    (hv : Vis (defScope st) "script") (hl : Loc (defScope st) "draw") (hgl : (defScope st).names.lookup ("_law_draw" : Str) = some .globalImplicit)
    (hb : ∀ (cdv : Value) (A : Around) (outer : List Env) (s : Shared) (H : Hp) (E : XK), Room k (A.deeper (PyProof.Rows.envOfC "law" (defScope st) s.heap.objs.size f cdv)) →
      SsRep (cxOf (L2.CX P w) P w K mg base N "law" (defScope st) f cdv A outer s H E) (fun cls d _ H => E cls d H) rest g)
    (hg : ∀ s : DS, ∃ fr s', g (lawE m) s = .rt (.bl true) fr s') (hk : 1 ≤ k) : FnOk P w K mg base (L2.CX P w) (k + 1) f fd ["script"] (spLaw K) := by
  refine F.okX S (fun vs H Q E h => by obtain ⟨a, ns, rfl, _⟩ := h; rfl) fun cdv A outer s H vs Q E hr ⟨a, ns, ev, hS, hlen, q⟩ => ?_
  subst ev
  rw [hbody]
  refine ⟨_, pss_cons (ps_set (i := 1) S.nd hN1 hl (pe_callSD FD (Room.mono hr hk) hgl gD kD bD .nil (fun σ => passAt (takes_of rfl rfl rfl rfl) σ) (pa_cons (pe_var (i := 0) hN0 hv) pa_nil))) (hb cdv A outer s H E hr), ?_⟩
  have e0 : (L2.start N [V.ref a])[0]? = some (some (.ref a)) := rfl
  refine ⟨_, e0, a, ns, rfl, hS, hlen, fun H1 dr cl sm hdr d => ?_⟩
  have gd : Good K ⟨dr, cl, H1, fun _ => True⟩ H1 ((L2.start N [V.ref a]).set 1 (some (.ref dr))) (lawE m) (drawOf ns) (fun _ => []) := by
    refine ⟨fun _ _ _ e => e, d, ⟨_, d⟩, ?_, fun i mm e he => ?_, fun _ _ => rfl, fun i e he => ⟨List.nodup_nil, (fun _ h => nomatch h), fun _ _ _ h => nomatch h⟩, (fun _ _ h => nomatch h), fun _ h => nomatch h⟩
    · unfold lawE L2.start
      simp [hN]
    · obtain ⟨rfl, h2⟩ := lawE_get he
      cases h2
      refine ⟨.ref dr, ?_, .hdl⟩
      have hl : 1 < (L2.start N [V.ref a]).length := by
        unfold L2.start
        simp [hN]
      rw [List.getElem?_set_self hl]
  obtain ⟨fr, s', e⟩ := hg (drawOf ns)
  refine ⟨_, _, _, _, gd, ?_⟩
  rw [e]
  intro v H2 ⟨F1, k1, k2, k3, k4, k5⟩
  cases k3
  exact q H2
end
end Sm
end
section
set_option Elab.async false
set_option linter.all false
set_option maxRecDepth 100000
set_option maxHeartbeats 4000000
/-! Sound13: more statements. -/
namespace Sm
open PySem PySem.Spec L2 RZ RT PyProof.Rows

section
variable {X : Cx} {W : WX} {e : Expr} {pos p : Pos} {f : E}
theorem set_core {i : Nat} {D : Ends} {σ : L2.St} {H : Hp} (q : tS X.K X.mg W (sAsg (bName i) f) D σ H) : tAsg (tE X.K X.mg W f) (gName i) D σ H := by
  obtain ⟨c, env, s, Fs, gd, q⟩ := q
  refine st_core f gd q fun y s' v H' F e q fr d g' r a => ?_
  cases z : y.2 with
  | none =>
    rw [z] at q a
    dsimp only [bName, nxO] at q
    exact bind_name (Q := D.nx) i g' r (gd.bindN (H' := H') (s' := s') a) fun σ1 Fs1 g1 _ _ _ _ _ => q σ1 H' Fs1 g1
  | some bs =>
    rw [z] at q a
    dsimp only [bName, nxO] at q
    exact bind_name (Q := D.nx) i (g'.freeze bs) r (gd.bindF (al := some bs) a) fun σ1 Fs1 g1 _ _ _ _ _ => q σ1 H' Fs1 g1
/-- name = [..] on one line, the name a local -/
theorem s_setLc {elt tg iter : Expr} {ifs : List Expr} {scope : Scope} {own : List (Str × Nat)} {spos : Pos} {is : List Nat} {it : I} {b : B} {t : T} {i : Nat} {y : Str} {py : Pos} (vs : List Nat) (hc : X.calm = true) (hN : X.N.Nodup) (hy : X.N[i]? = some y) (hyl : X.env.scope.names.lookup y = some .local)
    (hi : IRep X W tg iter it) (ok : BlkOk X.N X.env.scope scope own)
    (hg : ∀ (s : Shared) (H : Hp) (C : Addr) (cl : List (Str × Addr)) (fp : List Addr), GRep (X.blk s H scope (compEnvC scope cl C X.env) fp) tg is b)
    (ht : ∀ (s : Shared) (H : Hp) (C : Addr) (cl : List (Str × Addr)) (fp : List Addr), TsRep (X.blk s H scope (compEnvC scope cl C X.env) fp) wFalse ifs t)
    (he : ∀ (s : Shared) (H : Hp) (C : Addr) (cl : List (Str × Addr)) (fp : List Addr), ERep (X.blk s H scope (compEnvC scope cl C X.env) fp) wFalse elt f)
    (hsw : swapsWith (.ListComp elt [⟨tg, iter, ifs, 0⟩] scope pos) (some (.Name y py)) spos.line X.env = pure true := by rfl)
    (hvs : own.map (·.2) = vs := by rfl) (hsub : ∀ i ∈ is, i ∈ vs := by decide) (hs : ∀ x, foldedSetIterable iter X.env x = pure x := by intro _; rfl) : SRep X W (.Assign [.Name y py] (.ListComp elt [⟨tg, iter, ifs, 0⟩] scope pos) spos) (sAsg (bName i) (eLc vs it b t f)) := by
  subst hvs
  exact PS.imp (ps_setLc (wi := tI X.K X.mg W it) (g := tG X.K is b) (tt := tT X.K X.mg wFalse t) (te := tE X.K X.mg wFalse f) hc hN hy hyl hsw hi ok (fun s H C cl fp => (hg s H C cl fp).1) ht he hs) fun D σ H h =>
    lc_core2 hsub (hg X.s_0 H 0 [] []).2 (set_core h)

/-! several names at once -/
def storeL : L2.St → List Nat → List V → L2.St
  | σ, i :: is, v :: vs => storeL (σ.set i (some v)) is vs
  | σ, _, _ => σ
theorem par_go {K : PySem.W.Frag} {c : C} {H : Hp} {s : DS} {m : Md} {Q : L2.St → Prop} : ∀ {vs : List V} {ds : List D} {F : List Addr}, Reps K c.dr H vs ds F → ∀ {is : List Nat} {σ : L2.St} {env : Ev} {Fs : Nat → List Addr}, Good K c H σ env s Fs → BindOk c env Fs m F → is.length = ds.length →
    (match bTupL (is.map bName) ds m env with
      | some e1 => ∀ σ1 Fs1, Good K c H σ1 e1 s Fs1 → Q σ1
      | none => False) → Q (storeL σ is vs)
  | _, _, _, .nil, [], σ, env, Fs, g, _, _, h => h σ Fs g
  | _, _, _, .nil, i :: is, _, _, _, _, _, hl, _ => nomatch hl
  | _, _, _, .cons _ _, [], _, _, _, _, _, hl, _ => nomatch hl
  | _, _, _, @Reps.cons _ _ _ v1 d1 F1 vs ds F2 r1 r2, i :: is, σ, env, Fs, g0, bo, hl, h => by
    have nd : m = .own → ∀ a ∈ F1, a ∉ F2 := fun e a h1 h2 => (List.nodup_append.mp (bo.own e).1).2.2 a h1 a h2 rfl
    have bo1 : BindOk c env Fs m F1 := ⟨fun e => ⟨(List.nodup_append.mp (bo.own e).1).1, fun a ha => (bo.own e).2.1 a (List.mem_append_left _ ha), fun j a ha => (bo.own e).2.2 j a (List.mem_append_left _ ha)⟩,
      fun j d e a ha z => bo.oth j d e a ha (List.mem_append_left _ z), fun a ha => bo.zed a (List.mem_append_left _ ha), fun z => bo.ndr (List.mem_append_left _ z)⟩
    refine bind_name (Q := fun σ1 _ => Q (storeL σ1 is vs)) i g0 r1 bo1 fun σ1 Fs1 g1' a1 a2 a3 a4 a5 => ?_
    have bo2 : BindOk c (setS env i (some (if lf d1 then .own else m, d1))) Fs1 m F2 := by
      refine ⟨fun e => ⟨(List.nodup_append.mp (bo.own e).1).2.1, fun a ha => (bo.own e).2.1 a (List.mem_append_right _ ha), fun k a ha q => ?_⟩, fun k d e a ha q => ?_, fun a ha => bo.zed a (List.mem_append_right _ ha), fun q => bo.ndr (List.mem_append_right _ q)⟩
      · by_cases hk : k ∈ [i]
        · exact nd e a (a4 k hk a q) ha
        · rw [a3 k hk] at q
          exact (bo.own e).2.2 k a (List.mem_append_right _ ha) q
      · by_cases hk : k ∈ [i]
        · rcases a5 k hk d e with z | z
          · exact nd z a (a4 k hk a ha) q
          · rw [z] at ha; cases ha
        · rw [a3 k hk] at ha
          have : k ≠ i := fun z => hk (by simp [z])
          rw [getS_set_ne this] at e
          exact bo.oth k d e a ha (List.mem_append_right _ q)
    exact par_go r2 g1' bo2 (Nat.succ.inj hl) h
theorem par_core {is : List Nat} {es : List Expr} {fa : A} {D : Ends} {σ : L2.St} {H : Hp} (ha : ARep X W es fa) (hl : is.length = es.length) (q : tS X.K X.mg W (sPar is fa) D σ H) :
    tA X.K X.mg W fa σ H fun vs H1 => vs.length = is.length ∧ D.nx (storeL σ is vs) H1 := by
  obtain ⟨c, env, s, Fs, gd, q⟩ := q
  refine ⟨c, env, s, Fs, gd, ?_⟩
  unfold sPar at q
  cases e1 : fa env s with
  | bad => rw [e1] at q; exact q.elim
  | exc x s1 =>
    rw [e1] at q
    exact fun cls dc H' f' d' xo => q σ H' Fs cls dc (gd.fr f' d') xo
  | ok z s1 =>
    rw [e1] at q
    have hz := ha.2 _ _ _ _ e1
    obtain ⟨z1, z2⟩ := z
    simp only [R.st_ok] at q
    intro vs H1 F fr1 d1 r al
    have g1 := gd.fr fr1 d1
    dsimp only at r al hz
    refine ⟨by rw [r.length, hz, hl], ?_⟩
    cases z2 with
    | none =>
      refine par_go (Q := fun σ1 => D.nx σ1 H1) r g1 (gd.bindN (H' := H1) (s' := s1) al) (by rw [hl, hz]) ?_
      dsimp only at q
      cases y : bTupL (is.map bName) z1 .own env with
      | none => rw [y] at q; exact q.elim
      | some e2 => rw [y] at q; exact fun σ1 Fs1 g1 => q σ1 H1 Fs1 g1
    | some bs =>
      refine par_go (Q := fun σ1 => D.nx σ1 H1) r (g1.freeze bs) (gd.bindF (al := some bs) al) (by rw [hl, hz]) ?_
      dsimp only at q
      cases y : bTupL (is.map bName) z1 .frz (freeze bs env) with
      | none => rw [y] at q; exact q.elim
      | some e2 => rw [y] at q; exact fun σ1 Fs1 g1 => q σ1 H1 Fs1 g1
theorem s_par3 {i j l : Nat} {x y z : Str} {a b c : Expr} {fa : A} {px py pz pt : Pos} {kt k2 : Nat} {pt2 : Pos} (hc : X.calm = true) (hN : X.N.Nodup) (hi : X.N[i]? = some x) (hj : X.N[j]? = some y) (hl : X.N[l]? = some z) (hij : i ≠ j) (hil : i ≠ l) (hjl : j ≠ l)
    (hx : X.env.scope.names.lookup x = some .local) (hy : X.env.scope.names.lookup y = some .local) (hz : X.env.scope.names.lookup z = some .local) (ha : ARep X W [a, b, c] fa)
    (hw : swappedStores [.Tuple [.Name x px, .Name y py, .Name z pz] kt pt] (.Tuple [a, b, c] k2 pt2) X.env = pure (some [x, y, z]) := by rfl)
    (hs : swapsWithSole [.Tuple [.Name x px, .Name y py, .Name z pz] kt pt] (.Tuple [a, b, c] k2 pt2) pos.line X.env = pure false := by rfl) :
    SRep X W (.Assign [.Tuple [.Name x px, .Name y py, .Name z pz] kt pt] (.Tuple [a, b, c] k2 pt2) pos) (sPar [i, j, l] fa) := by
  refine PS.imp (ps_par3 hc hN hi hj hl hij hil hjl hx hy hz ha.1 hw hs) fun D σ H q => ?_
  refine (show ∀ {Q Q' : List V → Hp → Prop}, (∀ vs H1, Q vs H1 → Q' vs H1) → tA X.K X.mg W fa σ H Q → tA X.K X.mg W fa σ H Q' from fun k ⟨c, env, s, Fs, g, h⟩ => ⟨c, env, s, Fs, g, ?_⟩) (fun vs H1 ⟨hv, h⟩ => ?_) (par_core (is := [i, j, l]) ha rfl q)
  · cases e : fa env s with
    | bad => rw [e] at h; exact h.elim
    | exc x s1 => rw [e] at h; exact h
    | ok x s1 => rw [e] at h; exact fun v1 H1 F1 a1 a2 a3 a4 => k _ _ (h v1 H1 F1 a1 a2 a3 a4)
  · match vs, hv with
    | [u, v, w], _ => exact ⟨u, v, w, rfl, h⟩

/-! x op= e of ints -/
theorem aug_int {op : Operator} {g : Int → Int → Int} (h : PIp X op (ipI g)) : PIp X op (rAug X.K (gAugI g)) := by
  rintro pins s σ H x y v u Q I rx ry ⟨dr, d1, d2, F1, F2, r, r1, r2, e, hl, q⟩
  unfold gAugI at e
  split at e
  · cases r1; cases r2; cases e
    exact h pins s σ H _ _ v u Q I rx ry ⟨_, _, rfl, rfl, q _ H Same.rfl' (.int _)⟩
  · cases e
theorem aug_add : PIp X .Add (rAug X.K augAdd) := aug_int ip_add
theorem aug_sub : PIp X .Sub (rAug X.K augSub) := aug_int ip_sub

/-! isinstance(x, T), T a built-in type -/
theorem tyx_of {K : PySem.W.Frag} {dr : Addr} {H : Hp} {v : V} {d : D} {F : List Addr} {a : String} (r : Rep K dr H v d F) (e : tyD d = some a) : TyX K H v (.type a) := by
  cases r with
  | non => cases e; exact .base .non
  | bl b => cases e; exact .base (.bl b)
  | int i => cases e; exact .base (.int i)
  | str l hz => cases e; exact .base (.str _)
  | hdl => cases e
  | tup _ hs hr =>
    cases e
    rcases hs with (h | ⟨o, h⟩) | ⟨o, its, n, h1, h2, _⟩
    · exact .base (.tup h)
    · exact .fTuple h
    · exact .kTuple h1 h2
  | lst _ hs hr => cases e; exact .base (.lst hs)
  | dic _ hs hr => cases e; exact .base (.dK hs)
theorem kitB_all : (["NoneType", "bool", "int", "str", "tuple", "list", "dict"].all fun a => isiTys.all fun t => kitB a t == some (isiB a t)) = true := by decide +kernel
theorem e_isi {x : Str} {t : String} {p2 p3 : Pos} (ht : t ∈ isiTys) (hv : bootBuiltins x = some (.type t)) (he : ERep X W e f) (hg : Gl X "isinstance") (hm : X.mg "isinstance" = none) (hg2 : Gl X x) (hm2 : X.mg x = none) (hn2 : x ≠ "__name__" := by decide) (hd2 : (x == ("__debug__" : Str)) = false := by decide)
    (he1 : starEach [e, .Name x p3] X.env = (false, eval e X.env) :: starEach [.Name x p3] X.env := by rfl) (he2 : starEach [.Name x p3] X.env = (false, eval (.Name x p3) X.env) :: starEach [] X.env := by rfl) (hpl : (backTo pos (starEach [.Name x p3] X.env)).any (·.1) = false := by rfl) :
    ERep X W (.Call (.Name "isinstance" p2) [e, .Name x p3] [] pos) (eU (gIsi t) f) := by
  refine PE.imp (pe_callB call_isi hg hm (by decide +kernel) (pa_cons he (pa_cons (pe_bltn (v := .ty t) hg2 hm2 hv rfl hn2 hd2) pa_nil he2) he1) (by decide) (by decide) he1 hpl) fun σ H Q ⟨c, env, s, Fs, gd, h⟩ => ⟨c, env, s, Fs, gd, ?_⟩
  unfold eU at h
  cases e1 : f env s with
  | bad => rw [e1] at h; exact h.elim
  | exc x s1 => rw [e1] at h; exact h
  | ok y s1 =>
    rw [e1] at h
    intro v1 H1 F1 fr1 d1 r1 a1
    simp only [R.bnd_ok] at h
    unfold gIsi at h
    cases e2 : tyD y.1 with
    | none => rw [e2] at h; exact h.elim
    | some a =>
      rw [e2] at h
      dsimp only [Option.map_some] at h
      refine ⟨v1, .ty t, .type a, .type t, isiB a t, rfl, .ty t, tyx_of r1 e2, kit_ty ?_, h _ H1 [] fr1 d1 (.bl _) (AlOk.res (fr := true) (F := []) a1 (fr1.back d1) ResOk.nil)⟩
      have ha : a ∈ ["NoneType", "bool", "int", "str", "tuple", "list", "dict"] := by
        cases hy : y.1 <;> rw [hy] at e2 <;> cases e2 <;> decide
      exact eq_of_beq (List.all_eq_true.mp (List.all_eq_true.mp kitB_all a ha) t ht)
end
end Sm
end
section
set_option Elab.async false
set_option linter.all false
set_option maxRecDepth 100000
set_option maxHeartbeats 4000000
/-! Sound14: lists changed in place. -/
namespace Sm
open PySem PySem.Spec L2 RZ RT PyProof.Rows

/-- an item put at a place -/
theorem Reps.put {K : PySem.W.Frag} {dr : Addr} {H : Hp} {v : V} {d : D} {G : List Addr} (rv : Rep K dr H v d G) : ∀ {vs : List V} {ds : List D} {F : List Addr} (j : Nat), Reps K dr H vs ds F → ∃ F', Reps K dr H (vs.set j v) (ds.set j d) F' ∧ (∀ a ∈ F', a ∈ F ∨ a ∈ G) ∧ (F.Nodup → G.Nodup → (∀ a ∈ G, a ∉ F) → F'.Nodup)
  | _, _, _, _, .nil => ⟨[], .nil, (fun _ h => nomatch h), fun _ _ _ => List.nodup_nil⟩
  | _, _, _, 0, @Reps.cons _ _ _ v0 d0 F1 vs ds F2 r t => ⟨G ++ F2, .cons rv t, fun a ha => (List.mem_append.mp ha).elim .inr fun h => .inl (List.mem_append_right _ h), fun h1 h2 h3 => by
    refine List.nodup_append.mpr ⟨h2, (List.nodup_append.mp h1).2.1, fun a ha b hb e => ?_⟩
    subst e
    exact h3 a ha (List.mem_append_right _ hb)⟩
  | _, _, _, j + 1, @Reps.cons _ _ _ v0 d0 F1 vs ds F2 r t => by
    obtain ⟨F', k1, k2, k3⟩ := Reps.put rv j t
    refine ⟨F1 ++ F', .cons r k1, fun a ha => ?_, fun h1 h2 h3 => ?_⟩
    · rcases List.mem_append.mp ha with h | h
      · exact .inl (List.mem_append_left _ h)
      · exact (k2 a h).imp (List.mem_append_right _) id
    · obtain ⟨n1, n2, n3⟩ := List.nodup_append.mp h1
      refine List.nodup_append.mpr ⟨n1, k3 n2 h2 fun a ha q => h3 a ha (List.mem_append_right _ q), fun a ha b hb e => ?_⟩
      subst e
      rcases k2 a hb with z | z
      · exact n3 a ha a z rfl
      · exact h3 a z (List.mem_append_left _ ha)
theorem ixN_eq {n j : Nat} {k : Int} (h : Sm.ixN n k = some j) : L2.ixN n k = some j := by
  unfold Sm.ixN at h
  unfold L2.ixN
  exact h
section
variable {X : Cx} {W : WX} {e e1 e2 : Expr} {pos p : Pos} {f f1 f2 fi : E}
/-- x[i] = e -/
theorem s_sub {i : Nat} {x : Str} {px : Pos} (hN : X.N[i]? = some x) (hv : Vis X.env.scope x) (hi : ERep X W e1 fi) (he : ERep X W e f) (hd : (x == ("__debug__" : Str)) = false := by decide) (hcd : (x == ("__classdict__" : Str)) = false := by decide)
    (ha : ∀ v, assign (.Subscript (.Name x px) e1 p) X.env v = (do
      let ov ← holding [v] (eval (.Name x px) X.env)
      let iv ← holding [v, ov] (eval e1 X.env)
      standAt p
      holding [v, ov, iv] (setItem ov iv v)
      release [v, ov, iv] []) := by intro _; rfl)
    (hs : swapsWithSole [.Subscript (.Name x px) e1 p] e pos.line X.env = pure false := by rfl) (hw : swappedStores [.Subscript (.Name x px) e1 p] e X.env = pure none := by rfl)
    (h1 : (assignEach [.Subscript (.Name x px) e1 p] X.env).map (·.2) = [assign (.Subscript (.Name x px) e1 p) X.env] := by rfl) : SRep X W (.Assign [.Subscript (.Name x px) e1 p] e pos) (sSet i fi f) := by
  refine PS.imp (ps_asg he (pg_sub (pe_var (i := i) hN hv hd hcd) hi set_list ha) hs hw h1) fun D σ H ⟨c, env, s, Fs, gd, q⟩ => ?_
  unfold sSet at q
  cases z0 : getS env i with
  | none => rw [z0] at q; exact q.elim
  | some md =>
    obtain ⟨m, d⟩ := md
    rw [z0] at q
    obtain ⟨v0, hv1, r0⟩ := gd.slot i _ _ z0
    cases m with
    | frz => exact q.elim
    | own =>
      generalize hFi : Fs i = Fi at r0
      cases r0 with
      | @lst a vs ds F0 hz hl hr =>
        dsimp only at q
        refine st_core f gd q fun y s1 v H1 F e1 q fr d g1 r al => ?_
        refine ⟨_, hv1, ?_⟩
        refine st_core fi g1 q fun z s2 w H2 F2 e2 q fr2' d2 g2 r2 al2 => ?_
        obtain ⟨zd, za⟩ := z
        obtain ⟨yd, ya⟩ := y
        cases ya with
        | some bs => exact q.elim
        | none =>
          dsimp only at q al r r2
          cases r2 with
          | int k =>
            dsimp only at q
            cases hk : Sm.ixN ds.length k with
            | none => rw [hk] at q; exact q.elim
            | some j =>
              rw [hk] at q
              have nd := gd.ndr i
              rw [hFi] at nd
              have frr := fr.trans fr2'
              have hl' : H2 a = some (.lst vs) := frr a _ (fun q => nd (q ▸ List.mem_cons_self)) hl
              have hr' : Reps X.K c.dr H2 vs ds F0 := hr.fr frr gd.draw fun q => nd (List.mem_cons_of_mem _ q)
              have ndF : c.dr ∉ F := al.ndr gd
              have rv : Rep X.K c.dr H2 v yd F := r.fr fr2' d ndF
              refine ⟨a, vs, k, j, rfl, rfl, hl', by rw [hr.length]; exact ixN_eq hk, ?_⟩
              obtain ⟨F', k1, k2, k3⟩ := Reps.put rv j hr'
              obtain ⟨o1, o2, o3⟩ := gd.own i _ z0
              rw [hFi] at o1 o2 o3
              have exF : ∀ b ∈ F0, H b ≠ none := fun b hb => hr.ne hb
              have exa : H a ≠ none := by rw [hl]; intro q; cases q
              refine q σ _ _ (g2.chg z0 hv1 hl' hFi k1 (by rw [List.length_set]; exact hz) ?_ ?_ ?_ ?_)
              · refine List.nodup_cons.mpr ⟨fun q => ?_, k3 (List.nodup_cons.mp o1).2 al.1 fun b hb q => exF b q (al.2 b hb)⟩
                rcases k2 a q with q | q
                · exact (List.nodup_cons.mp o1).1 q
                · exact exa (al.2 a q)
              · intro b hb
                rcases k2 b hb with hb | hb
                · exact o2 b (List.mem_cons_of_mem _ hb)
                · exact gd.h0 (al.2 b hb)
              · intro j' hj b hb
                rcases k2 b hb with hb | hb
                · exact o3 j' hj b (List.mem_cons_of_mem _ hb)
                · exact fun q => gd.ne q (al.2 b hb)
              · intro q
                rcases k2 _ q with q | q
                · exact nd (List.mem_cons_of_mem _ q)
                · exact ndF q
          | _ => exact q.elim
      | _ => exact q.elim
/-- x.extend(e) -/
theorem s_ext {i : Nat} {x : Str} {apos cpos px : Pos} (hN : X.N[i]? = some x) (hv : Vis X.env.scope x) (he : ERep X W e f) (hd : (x == ("__debug__" : Str)) = false := by decide) (hcd : (x == ("__classdict__" : Str)) = false := by decide)
    (hsw : swapsWith (.Call (.Attribute (.Name x px) "extend" apos) [e] [] cpos) none pos.line X.env = pure false := by rfl)
    (hfew : ((backTo cpos (starEach [e] X.env)).all (fun x => !x.1) && (backToKw cpos (keywordEach [] X.env)).all (fun x => x.1.isSome)
      && decide ([e].length + ([] : List Keyword).length + (if ([] : List Keyword).isEmpty then 0 else 1) < 30)) = true := by rfl)
    (hline : (apos.endLine == cpos.line) = true := by rfl) (hs : starEach [e] X.env = (false, eval e X.env) :: starEach [] X.env := by rfl) :
    SRep X W (.Expr (.Call (.Attribute (.Name x px) "extend" apos) [e] [] cpos) pos) (sExt i f) := by
  refine PS.imp (ps_expr (pe_bm PySem.F.plainAttrs_list PySem.F.slot_list_extend PySem.F.type_list_extend mt_extend (pe_var (i := i) hN hv hd hcd) (pa_cons he pa_nil hs) rfl hfew hline hs rfl) hsw) fun D σ H ⟨c, env, s, Fs, gd, q⟩ => ?_
  unfold sExt at q
  cases z : getS env i with
  | none => rw [z] at q; exact q.elim
  | some md =>
    obtain ⟨m, d⟩ := md
    rw [z] at q
    obtain ⟨v, hv1, r⟩ := gd.slot i _ _ z
    cases m with
    | frz => exact q.elim
    | own =>
      generalize hFi : Fs i = Fi at r
      cases r with
      | @lst a vs ds F0 hz hl hr =>
        refine ⟨_, hv1, .inl ⟨rfl, vs, .inl (.inl hl)⟩, ?_⟩
        dsimp only at q
        refine st_core f gd q fun y s' w H' F e q fr d g' r al => ?_
        have nd := g'.ndr i
        rw [hFi] at nd
        have hl' : H' a = some (.lst vs) := fr a _ (fun q => nd (q ▸ List.mem_cons_self)) hl
        have hr' : Reps X.K c.dr H' vs ds F0 := hr.fr fr gd.draw fun q => nd (List.mem_cons_of_mem _ q)
        obtain ⟨yd, ya⟩ := y
        dsimp only at r q
        cases r with
        | @lst b ws es G hz2 hl2 hr2 =>
          dsimp only at q
          by_cases hc : lfs es = true ∧ ds.length + es.length ≤ LIM
          · rw [if_pos hc] at q
            have hr3 := hr2.lfs_mk hc.1
            refine ⟨a, b, vs, ws, rfl, rfl, hl', hl2, line_le (by rw [hr.length, hr2.length]; exact hc.2), ?_⟩
            obtain ⟨o1, o2, o3⟩ := gd.own i _ z
            rw [hFi] at o1 o2 o3
            have rA : Reps X.K c.dr H' (vs ++ ws) (ds ++ es) F0 := by
              have := hr'.append hr3
              rw [List.append_nil] at this
              exact this
            exact q σ _ _ (g'.chg z hv1 hl' hFi rA (by rw [List.length_append]; exact hc.2) o1 (fun b hb => o2 b (List.mem_cons_of_mem _ hb)) (fun j hj b hb => o3 j hj b (List.mem_cons_of_mem _ hb)) fun q => nd (List.mem_cons_of_mem _ q))
          · rw [if_neg hc] at q
            exact q.elim
        | _ => exact q.elim
      | _ => exact q.elim
theorem reps_last {K : PySem.W.Frag} {dr : Addr} {H : Hp} : ∀ {vs : List V} {ds : List D} {F : List Addr} {d : D}, Reps K dr H vs ds F → ds.getLast? = some d → lf d = true →
    ∃ v, vs[vs.length - 1]? = some v ∧ Rep K dr H v d [] ∧ Reps K dr H vs.dropLast ds.dropLast F
  | _, _, _, _, .nil, h, _ => nomatch h
  | _, _, _, _, @Reps.cons _ _ _ v0 d0 F1 _ _ _ r .nil, h, hd => by
    cases h
    have e := r.lf hd
    subst e
    exact ⟨v0, rfl, r, .nil⟩
  | _, _, _, d, .cons r (@Reps.cons _ _ _ v1 d1 F3 vs ds F4 r1 t), h, hd => by
    obtain ⟨v, k1, k2, k3⟩ := reps_last (.cons r1 t) (by rw [List.getLast?_cons_cons] at h; exact h) hd
    exact ⟨v, by simpa using k1, k2, .cons r k3⟩
/-- y = x.pop() -/
theorem s_pop {i : Nat} {x : Str} {apos cpos px : Pos} {tg : Expr} {is : List Nat} {b : B} (hN : X.N[i]? = some x) (hv : Vis X.env.scope x) (hg : GRep X tg is b) (hd : (x == ("__debug__" : Str)) = false := by decide) (hcd : (x == ("__classdict__" : Str)) = false := by decide)
    (hline : (apos.endLine == cpos.line) = true := by rfl)
    (hs : swapsWithSole [tg] (.Call (.Attribute (.Name x px) "pop" apos) [] [] cpos) pos.line X.env = pure false := by rfl) (hw : swappedStores [tg] (.Call (.Attribute (.Name x px) "pop" apos) [] [] cpos) X.env = pure none := by rfl)
    (h1 : (assignEach [tg] X.env).map (·.2) = [assign tg X.env] := by rfl) : SRep X W (.Assign [tg] (.Call (.Attribute (.Name x px) "pop" apos) [] [] cpos) pos) (sPop b i) := by
  refine PS.imp (ps_asg (pe_bm0 PySem.F.plainAttrs_list PySem.F.slot_list_pop PySem.F.type_list_pop mt_pop (pe_var (i := i) hN hv hd hcd) rfl hline) hg.1 hs hw h1) fun D σ H ⟨c, env, s, Fs, gd, q⟩ => ?_
  unfold sPop at q
  cases z : getS env i with
  | none => rw [z] at q; exact q.elim
  | some md =>
    obtain ⟨m, d⟩ := md
    rw [z] at q
    obtain ⟨v, hv1, r⟩ := gd.slot i _ _ z
    cases m with
    | frz => exact q.elim
    | own =>
      generalize hFi : Fs i = Fi at r
      cases r with
      | @lst a vs ds F0 hz hl hr =>
        refine ⟨_, hv1, .inl ⟨rfl, vs, .inl (.inl hl)⟩, ?_⟩
        dsimp only at q
        cases e1 : ds.getLast? with
        | none => rw [e1] at q; exact q.elim
        | some d =>
          rw [e1] at q
          dsimp only at q
          by_cases hlf : lf d = true
          · rw [if_pos hlf] at q
            obtain ⟨w, k1, k2, k3⟩ := reps_last hr e1 hlf
            refine ⟨a, vs, w, rfl, rfl, hl, k1, ?_⟩
            obtain ⟨o1, o2, o3⟩ := gd.own i _ z
            rw [hFi] at o1 o2 o3
            have nd := gd.ndr i
            rw [hFi] at nd
            have g' := gd.chg z hv1 hl hFi k3 (by rw [List.length_dropLast]; exact Nat.le_trans (Nat.sub_le _ _) hz) o1 (fun b hb => o2 b (List.mem_cons_of_mem _ hb)) (fun j hj b hb => o3 j hj b (List.mem_cons_of_mem _ hb)) fun q => nd (List.mem_cons_of_mem _ q)
            have up : Imm H (upd H a (.lst vs.dropLast)) := fun b => by
              refine ⟨fun xs q => ?_, fun o u q => ?_⟩
              · rw [upd_ne]; exact q
                intro z; rw [z, hl] at q; cases q
              · rw [upd_ne]; exact q
                intro z; rw [z, hl] at q; cases q
            refine ⟨c, _, s, _, d, .own, [], g', k2.mono up (fun _ h => nomatch h), ⟨fun _ => ⟨List.nodup_nil, (fun _ h => nomatch h), fun _ _ h => nomatch h⟩, (fun _ _ _ _ _ h => nomatch h), (fun _ h => nomatch h), fun h => nomatch h⟩, ?_⟩
            cases y : b d .own (setS env i (some (.own, .lst ds.dropLast))) with
            | none => rw [y] at q; exact q.elim
            | some env1 =>
              rw [y] at q
              exact fun σ1 Fs1 g1 _ _ _ _ _ => q σ1 _ Fs1 g1
          · rw [if_neg hlf] at q
            exact q.elim
      | _ => exact q.elim
end
end Sm
end
section
set_option Elab.async false
set_option linter.all false
set_option maxRecDepth 100000
set_option maxHeartbeats 4000000
/-! Sound15: defs in bundles; ways into a text. -/
namespace Sm
open PySem PySem.Spec L2 RZ RT PyProof.Rows

/-! ways into a text -/
def stB : Stmt → Nat → Stmt
  | .FunctionDef _ _ b _ _ _ _ _ _ _, i => b.getD i (.Pass ⟨0, 0, 0, 0⟩)
  | .For _ _ b _ _, i => b.getD i (.Pass ⟨0, 0, 0, 0⟩)
  | .While _ b _ _, i => b.getD i (.Pass ⟨0, 0, 0, 0⟩)
  | .If _ b _ _, i => b.getD i (.Pass ⟨0, 0, 0, 0⟩)
  | .Try b _ _ _ _, i => b.getD i (.Pass ⟨0, 0, 0, 0⟩)
  | s, _ => s
def stO : Stmt → Nat → Stmt
  | .For _ _ _ b _, i => b.getD i (.Pass ⟨0, 0, 0, 0⟩)
  | .While _ _ b _, i => b.getD i (.Pass ⟨0, 0, 0, 0⟩)
  | .If _ _ b _, i => b.getD i (.Pass ⟨0, 0, 0, 0⟩)
  | .Try _ [.ExceptHandler _ _ b _] _ _ _, i => b.getD i (.Pass ⟨0, 0, 0, 0⟩)
  | s, _ => s
def noE : Expr := .Name "" ⟨0, 0, 0, 0⟩
def stE : Stmt → Expr
  | .Return (some e) _ => e
  | .Assign _ e _ => e
  | .AugAssign _ _ e _ => e
  | .For _ e _ _ _ => e
  | .While e _ _ _ => e
  | .If e _ _ _ => e
  | .Expr e _ => e
  | .Raise (some e) _ _ => e
  | _ => noE
def stT : Stmt → Expr
  | .Assign [t] _ _ => t
  | .AugAssign t _ _ _ => t
  | .For t _ _ _ _ => t
  | _ => noE
def exN : Expr → Nat → Expr
  | .BoolOp _ es _, i => es.getD i noE
  | .BinOp a _ b _, i => [a, b].getD i noE
  | .UnaryOp _ a _, _ => a
  | .Lambda _ b _ _, _ => b
  | .IfExp a b c _, i => [a, b, c].getD i noE
  | .Compare a _ es _, i => (a :: es).getD i noE
  | .Call f es ks _, i => (f :: es).getD i noE
  | .Attribute a _ _, _ => a
  | .Subscript a b _, i => [a, b].getD i noE
  | .Slice a b _ _, i => [a.getD noE, b.getD noE].getD i noE
  | .List es _, i => es.getD i noE
  | .Tuple es _ _, i => es.getD i noE
  | .ListComp e gs _ _, 0 => e
  | .ListComp e gs _ _, i + 1 => ((gs.map fun g => g.iter :: g.ifs).flatten).getD i noE
  | e, _ => e
def lcSc : Expr → Scope
  | .ListComp _ _ sc _ => sc
  | .Lambda _ _ sc _ => sc
  | _ => { kind := .function, names := [], isGenerator := false, isCoroutine := false }
/-- a comprehension's scope in its surroundings -/
def rlSc (scope sc : Scope) : Scope :=
  { scope with names := scope.names.map fun (n, k) => if (k == .free && sc.kind == .function && sc.names.lookup n == some .cell) then (n, .cell) else (n, k) }

/-- a def that stands in the module -/
structure Df (P : Program) (w : World) (K : PySem.W.Frag) (mg : Str → Option Value) (base : Heap) (k : Nat) (x : Str) (ps : List Str) (m : List D → DS → RF) where
  f : Addr
  fd : FuncData
  rep : FnRep P w K mg base k f fd ps m
  gl : mg x = some (.ref f)
  kp : PySem.W.keepIn K (.ref f) = true
  bd : Binds K fd ps []
section
variable {X : Cx} {W : WX} {pos p : Pos} {e : Expr} {k j : Nat} {x : Str} {ps : List Str} {m : List D → DS → RF}
theorem e_df {es : List Expr} {r : A} (F : Df X.prog X.w X.K X.mg X.base k x ps m) (hr : Room j X.A) (hk : k ≤ j) (hg : Gl X x) (tk : Takes X W) (ha : ARep X W (e :: es) r) (hn : (e :: es).length = ps.length := by rfl) (hdb : (x == ("__debug__" : Str)) = false := by decide) (he : starEach (e :: es) X.env = (false, eval e X.env) :: starEach es X.env := by rfl) (hpl : (backTo pos (starEach es X.env)).any (·.1) = false := by rfl) :
    ERep X W (.Call (.Name x p) (e :: es) [] pos) (eCall m r) := e_call F.rep (hr.mono hk) hg F.gl F.kp F.bd tk ha hn hdb he hpl
theorem e_df0 (F : Df X.prog X.w X.K X.mg X.base k x [] m) (hr : Room j X.A) (hk : k ≤ j) (hg : Gl X x) (tk : Takes X W) (hdb : (x == ("__debug__" : Str)) = false := by decide) :
    ERep X W (.Call (.Name x p) [] [] pos) (eCall (fun ds s => noExc (m ds s)) aNil) := e_call0 F.rep (hr.mono hk) hg F.gl F.kp F.bd tk hdb
end
end Sm
end
section
set_option Elab.async false
set_option linter.all false
set_option maxRecDepth 100000
set_option maxHeartbeats 4000000
/-! Sound16: comprehensions with two fors. -/
namespace Sm
open PySem PySem.Spec L2 RZ RT PyProof.Rows

/-- all but the draws and the list that grows is kept -/
def FrD (dr Dn : Addr) (H H' : Hp) : Prop := ∀ a o, a ≠ dr → a ≠ Dn → H a = some o → H' a = some o
theorem FrD.refl {dr Dn : Addr} {H : Hp} : FrD dr Dn H H := fun _ _ _ _ h => h
theorem FrD.trans {dr Dn : Addr} {H H1 H2 : Hp} (a : FrD dr Dn H H1) (b : FrD dr Dn H1 H2) : FrD dr Dn H H2 := fun c o n m h => b c o n m (a c o n m h)
theorem Fr.frD {dr Dn : Addr} {H H' : Hp} (a : Fr dr H H') : FrD dr Dn H H' := fun c o n _ h => a c o n h
theorem FrD.imm {dr Dn cl : Addr} {H H' : Hp} {s : DS} {acc : List V} (f : FrD dr Dn H H') (d : DrawOk dr cl H s) (k : H Dn = some (.lst acc)) : Imm H H' := fun a => by
  obtain ⟨e, _⟩ := d
  refine ⟨fun xs h => f a _ (fun q => ?_) (fun q => ?_) h, fun o u h => f a _ (fun q => ?_) (fun q => ?_) h⟩
  · rw [q, e] at h; cases h
  · rw [q, k] at h; cases h
  · rw [q, e] at h; cases h
  · rw [q, k] at h; cases h
theorem FrD.eq {dr Dn : Addr} {H H' : Hp} (f : FrD dr Dn H H') {a : Addr} (n : a ≠ dr) (m : a ≠ Dn) (h : H a ≠ none) : H' a = H a := by
  cases e : H a with
  | none => exact absurd e h
  | some o => exact f a o n m e
theorem Good.frD {K : PySem.W.Frag} {c : C} {H H' : Hp} {σ : L2.St} {env : Ev} {s s' : DS} {Fs : Nat → List Addr} {Dn : Addr} {acc : List V} (g : Good K c H σ env s Fs) (f : FrD c.dr Dn H H') (k : H Dn = some (.lst acc)) (h0 : c.H0 Dn = none) (nF : ∀ j, Dn ∉ Fs j) (d : DrawOk c.dr c.cl H' s') : Good K c H' σ env s' Fs where
  pres := fun a o n e => f a o n (fun q => by rw [q, h0] at e; cases e) (g.pres a o n e)
  draw := d
  drw0 := g.drw0
  len := g.len
  slot := fun i m d e => by
    obtain ⟨v, h1, h2⟩ := g.slot i m d e
    exact ⟨v, h1, h2.mono (f.imm g.draw k) fun a ha => f.eq (fun q => g.ndr i (q ▸ ha)) (fun q => nF i (q ▸ ha)) (h2.ne ha)⟩
  off := g.off
  own := g.own
  zed := g.zed
  ndr := g.ndr

/-- what is known behind some turns -/
def LfOk (K : PySem.W.Frag) (dr cl Dn : Addr) (Hb : Hp) (ds0 : List D) (r : R (List D)) (Nx : Hp → Prop) : Prop :=
  match r with
  | .ok ys s2 => (ds0 ++ ys).length ≤ LIM ∧ ∀ H2 acc2, FrD dr Dn Hb H2 → DrawOk dr cl H2 s2 → H2 Dn = some (.lst acc2) → Reps K dr H2 acc2 (ds0 ++ ys) [] → Nx H2
  | _ => False
def Loop (J : It) (g : TG) (tt : TT) (vs : List Nat) (Bd : L2.St → Hp → (Hp → Prop) → Prop) (σ : L2.St) (H : Hp) (Fin : Hp → Prop) : Prop :=
  ∃ W : Nat → Nat → Hp → Prop, (∃ m, W 0 m H) ∧ ∀ i m H, W i m H → (J.stop i H ∧ Fin H) ∨ (J.go i H ∧ ∃ Nx : Hp → Prop, (∀ H', Nx H' → ∃ m', m' < m ∧ W (i + 1) m' H') ∧ ∀ x H', J.yld i H x H' → g x (wipe σ vs) H' fun σ2 H2 => wipe σ2 vs = wipe σ vs ∧ tt σ2 H2 fun b H3 =>
    if b = true then Bd σ2 H3 Nx else Nx H3)
theorem loop_lf {K : PySem.W.Frag} {mg : Str → Option Value} {c : C} {Hb : Hp} {σ : L2.St} {env : Ev} {s0 : DS} {Fs : Nat → List Addr} {Dn : Addr} {acc : List V} {ds0 : List D} {J : It} {ds : List D} {F : List Addr} {is vs : List Nat} {b : B} {t : T} {body : Ev → DS → R (List D)} {Bd : L2.St → Hp → (Hp → Prop) → Prop} {Fin : Hp → Prop} {bs : List Nat}
    (hsub : ∀ i ∈ is, i ∈ vs) (gd : Good K c Hb σ env s0 Fs) (h0 : c.H0 Dn = none) (ndr : Dn ≠ c.dr) (nF : ∀ j, Dn ∉ Fs j) (hacc : Hb Dn = some (.lst acc)) (racc : Reps K c.dr Hb acc ds0 [])
    (wk : WalkOk K c.dr J ds Hb F) (bF : BindOk c (freeze bs env) Fs .frz F) (hDF : Dn ∉ F)
    (hBd : ∀ e1 s1 σ1 H1 Fs1 acc1 ds1 Nx, Good K c H1 σ1 e1 s1 Fs1 → (∀ j, Dn ∉ Fs1 j) → H1 Dn = some (.lst acc1) → Reps K c.dr H1 acc1 ds1 [] → LfOk K c.dr c.cl Dn H1 ds1 (body e1 s1) Nx → Bd σ1 H1 Nx)
    (fin : LfOk K c.dr c.cl Dn Hb ds0 (compG b t body ds (wipeE (freeze bs env) vs) s0) Fin) :
    Loop J (tG K is b) (tT K mg wFalse t) vs Bd σ Hb Fin := by
  obtain ⟨hlim, hF, wk⟩ := wk
  refine ⟨fun i m H2 => m = ds.length - i ∧ i ≤ ds.length ∧ ∃ s2 acc1 ds1, FrD c.dr Dn Hb H2 ∧ DrawOk c.dr c.cl H2 s2 ∧ H2 Dn = some (.lst acc1) ∧ Reps K c.dr H2 acc1 ds1 [] ∧ LfOk K c.dr c.cl Dn H2 ds1 (compG b t body (ds.drop i) (wipeE (freeze bs env) vs) s2) Fin,
    ⟨ds.length, rfl, Nat.zero_le _, s0, acc, ds0, .refl, gd.draw, hacc, racc, fin⟩, ?_⟩
  rintro i m H2 ⟨hm, hi, s2, acc1, ds1, fr2, d2, ha1, hr1, hend⟩
  have imm2 : Imm Hb H2 := fr2.imm gd.draw hacc
  have hF2 : ∀ a ∈ F, H2 a = Hb a := fun a ha => fr2.eq (fun q => bF.ndr (q ▸ ha)) (fun q => hDF (q ▸ ha)) (hF a ha)
  obtain ⟨w1, w2, w3⟩ := wk H2 imm2 hF2
  by_cases hlt : i < ds.length
  · refine .inr ⟨w1 i hlt, fun H3 => ∃ m', m' < m ∧ (m' = ds.length - (i + 1) ∧ i + 1 ≤ ds.length ∧ ∃ s2 acc1 ds1, FrD c.dr Dn Hb H3 ∧ DrawOk c.dr c.cl H3 s2 ∧ H3 Dn = some (.lst acc1) ∧ Reps K c.dr H3 acc1 ds1 [] ∧ LfOk K c.dr c.cl Dn H3 ds1 (compG b t body (ds.drop (i + 1)) (wipeE (freeze bs env) vs) s2) Fin), fun H3 z => z, fun x H3 hy => ?_⟩
    have eg : ds[i]? = some ds[i] := List.getElem?_eq_getElem hlt
    obtain ⟨sm3, G1, rx, mG⟩ := w3 i _ x H3 eg hy
    have edrop : ds.drop i = ds[i] :: ds.drop (i + 1) := List.drop_eq_getElem_cons hlt
    rw [edrop] at hend
    have fr3 : FrD c.dr Dn Hb H3 := fr2.trans (Fr.frD (Fr.of_same sm3))
    have d3 : DrawOk c.dr c.cl H3 s2 := d2.same sm3
    have gw : Good K c H3 (wipe σ vs) (wipeE (freeze bs env) vs) s2 (FsW Fs vs) := ((gd.frD fr3 hacc h0 nF d3).freeze _).wipe vs
    refine ⟨c, wipeE (freeze bs env) vs, s2, FsW Fs vs, ds[i], .frz, G1, gw, rx, (bF.sub mG).wipe vs, ?_⟩
    simp only [compG] at hend
    cases q1 : b ds[i] .frz (wipeE (freeze bs env) vs) with
    | none => rw [q1] at hend; exact hend.elim
    | some env1 =>
      rw [q1] at hend
      dsimp only at hend
      intro σ4 Fs4 g4 b1 b2 b3 b4 b5
      refine ⟨(wipe_ext b2 fun j hj => b1 j fun z => hj (hsub j z)).trans wipe_wipe, c, env1, s2, Fs4, g4, ?_⟩
      have nF4 : ∀ j, Dn ∉ Fs4 j := fun j q => by
        by_cases hj : j ∈ is
        · exact hDF (mG _ (b4 j hj _ q))
        · rw [b3 j hj] at q
          unfold FsW at q
          split at q
          · cases q
          · exact nF j q
      have a3 : H3 Dn = some (.lst acc1) := sm3 _ _ ha1
      cases q2 : t env1 s2 with
      | bad => rw [q2] at hend; exact hend.elim
      | exc _ _ => rw [q2] at hend; exact hend.elim
      | ok k s3 =>
        rw [q2] at hend
        simp only [R.bnd_ok] at hend
        intro H4 fr4 d4
        have a4 : H4 Dn = some (.lst acc1) := fr4 _ _ ndr a3
        have r4 : Reps K c.dr H4 acc1 ds1 [] := (hr1.same sm3).fr fr4 d3 (fun q => nomatch q)
        have fr14 : FrD c.dr Dn Hb H4 := fr3.trans (Fr.frD fr4)
        have fr24 : FrD c.dr Dn H2 H4 := (Fr.frD (Fr.of_same sm3)).trans (Fr.frD fr4)
        cases k with
        | false =>
          simp only [Bool.false_eq_true, if_false] at hend ⊢
          refine ⟨ds.length - (i + 1), by omega, rfl, by omega, s3, acc1, ds1, fr14, d4, a4, r4, ?_⟩
          cases q5 : compG b t body (ds.drop (i + 1)) (wipeE (freeze bs env) vs) s3 with
          | bad => rw [q5] at hend; exact hend.elim
          | exc _ _ => rw [q5] at hend; exact hend.elim
          | ok y s5 =>
            rw [q5] at hend
            exact ⟨hend.1, fun H5 acc5 f5 => hend.2 H5 acc5 (fr24.trans f5)⟩
        | true =>
          simp only [if_true] at hend ⊢
          refine hBd env1 s3 σ4 H4 Fs4 acc1 ds1 _ (g4.fr fr4 d4) nF4 a4 r4 ?_
          cases q3 : body env1 s3 with
          | bad => rw [q3] at hend; exact hend.elim
          | exc _ _ => rw [q3] at hend; exact hend.elim
          | ok z s4 =>
            rw [q3] at hend
            simp only [R.bnd_ok] at hend
            cases q5 : compG b t body (ds.drop (i + 1)) (wipeE (freeze bs env) vs) s4 with
            | bad => rw [q5] at hend; exact hend.elim
            | exc _ _ => rw [q5] at hend; exact hend.elim
            | ok y s5 =>
              rw [q5] at hend
              simp only [R.bnd_ok] at hend
              obtain ⟨hl, hend⟩ := hend
              rw [← List.append_assoc] at hl
              refine ⟨?_, fun H5 acc5 f5 d5 a5 r5 => ⟨ds.length - (i + 1), by omega, rfl, by omega, s4, acc5, ds1 ++ z, fr14.trans f5, d5, a5, r5, ?_⟩⟩
              · rw [List.length_append] at hl
                omega
              · rw [q5]
                refine ⟨hl, fun H6 acc6 f6 d6 a6 r6 => hend H6 acc6 (fr24.trans (f5.trans f6)) d6 a6 ?_⟩
                rw [← List.append_assoc]
                exact r6
  · have hge : ds.length ≤ i := Nat.le_of_not_lt hlt
    have ei : i = ds.length := Nat.le_antisymm hi hge
    refine .inl ⟨ei ▸ w2, ?_⟩
    rw [List.drop_eq_nil_of_le hge] at hend
    exact hend.2 H2 acc1 .refl d2 ha1 (by rw [List.append_nil]; exact hr1)
/-- the item of a turn -/
theorem one_lf {K : PySem.W.Frag} {mg : Str → Option Value} {c : C} {Dn : Addr} {f : E} (ndr : Dn ≠ c.dr) (ncl : Dn ≠ c.cl) {e1 : Ev} {s1 : DS} {σ1 : L2.St} {H1 : Hp} {Fs1 : Nat → List Addr} {acc1 : List V} {ds1 : List D} {Nx : Hp → Prop}
    (gd : Good K c H1 σ1 e1 s1 Fs1) (ha : H1 Dn = some (.lst acc1)) (hr : Reps K c.dr H1 acc1 ds1 []) (h : LfOk K c.dr c.cl Dn H1 ds1 (lcOne f e1 s1) Nx) :
    tE K mg wFalse f σ1 H1 fun y H4 => ∃ acc, H4 Dn = some (.lst acc) ∧ acc.length < sizeLine ∧ Nx (upd H4 Dn (.lst (acc ++ [y]))) := by
  refine ⟨c, e1, s1, Fs1, gd, ?_⟩
  unfold lcOne at h
  cases q : f e1 s1 with
  | bad => rw [q] at h; exact h.elim
  | exc _ _ => rw [q] at h; exact h.elim
  | ok x s2 =>
    rw [q] at h
    simp only [R.bnd_ok] at h
    by_cases hl : lf x.1 = true
    · rw [if_pos hl] at h
      obtain ⟨h1, h2⟩ := h
      intro v H2 F fr d r al
      have e := r.lf hl
      subst e
      have a2 : H2 Dn = some (.lst acc1) := fr _ _ ndr ha
      have r2 : Reps K c.dr H2 acc1 ds1 [] := hr.fr fr gd.draw fun q => nomatch q
      have up : Imm H2 (upd H2 Dn (.lst (acc1 ++ [v]))) := fun a => by
        refine ⟨fun xs q => ?_, fun o u q => ?_⟩
        · rw [upd_ne]; exact q
          intro z; rw [z, a2] at q; cases q
        · rw [upd_ne]; exact q
          intro z; rw [z, a2] at q; cases q
      refine ⟨acc1, a2, ?_, h2 _ (acc1 ++ [v]) (fun a o n m e => by rw [upd_ne m]; exact fr a o n e) ?_ upd_same ?_⟩
      · rw [hr.length, sizeLine_eq]
        rw [List.length_append] at h1
        have : LIM < 2 ^ 20 := by decide
        have h3 : ([x.1] : List D).length = 1 := rfl
        rw [h3] at h1
        exact Nat.lt_of_lt_of_le (Nat.lt_of_lt_of_le (Nat.lt_succ_self _) h1) (by decide)
      · obtain ⟨e1, n1, e2, e3⟩ := d
        exact ⟨by rw [upd_ne (Ne.symm ndr)]; exact e1, n1, by rw [upd_ne (Ne.symm ncl)]; exact e2, e3⟩
      · have k1 := r2.mono up fun a ha => nomatch ha
        have k2 := r.mono up fun a ha => nomatch ha
        exact Reps.append k1 (.cons k2 .nil)
    · rw [if_neg hl] at h
      exact h.elim
theorem lc2_go {X : Cx} {is is1 vs vs1 : List Nat} {it it1 : I} {b b1 : B} {t t1 : T} {f : E} {W : WX} {σ : L2.St} {H : Hp} {Q : VK} (hsub : ∀ i ∈ is, i ∈ vs) (hsub1 : ∀ i ∈ is1, i ∈ vs1)
    (h : tE X.K X.mg W (eLc2 vs it b t vs1 it1 b1 t1 f) σ H Q) : tLc2 (tI X.K X.mg W it) (tG X.K is b) (tT X.K X.mg wFalse t) (tI X.K X.mg wFalse it1) (tG X.K is1 b1) (tT X.K X.mg wFalse t1) (tE X.K X.mg wFalse f) vs vs1 σ H Q := by
  obtain ⟨c, env, s, Fs, gd, h⟩ := h
  refine ⟨c, env, s, Fs, gd, ?_⟩
  unfold eLc2 at h
  cases e1 : it env s with
  | bad => rw [e1] at h; exact h.elim
  | exc x s1 => rw [e1] at h; exact h
  | ok x s1 =>
    rw [e1] at h
    obtain ⟨ds, al⟩ := x
    simp only [R.bnd_ok] at h
    intro J H1 F fr1 d1 a1 wk Dn hD
    have gd1 := gd.fr fr1 d1
    have ndr : Dn ≠ c.dr := fun q => d1.ne (q ▸ hD)
    have ncl : Dn ≠ c.cl := fun q => by
      have := d1.2.2.1
      rw [← q, hD] at this
      cases this
    have h0 : c.H0 Dn = none := gd1.h0 hD
    have sm : Same H1 (upd H1 Dn (.lst [])) := Same.upd hD
    have nF : ∀ j, Dn ∉ Fs j := fun j q => gd1.ne q hD
    have hDF : Dn ∉ F := fun q => wk.2.1 _ q hD
    have wk' : WalkOk X.K c.dr J ds (upd H1 Dn (.lst [])) F := ⟨wk.1, fun a ha => by
      have na : a ≠ Dn := fun z => hDF (z ▸ ha)
      rw [upd_ne na]
      exact wk.2.1 a ha, fun H2 m e => wk.2.2 H2 (fun a => ⟨fun xs q => (m a).1 xs (sm _ _ q), fun o u q => (m a).2 o u (sm _ _ q)⟩) fun a ha => by
        have na : a ≠ Dn := fun z => hDF (z ▸ ha)
        rw [e a ha, upd_ne na]⟩
    refine loop_lf (mg := X.mg) (acc := []) (ds0 := []) (bs := al.getD []) (body := lcIn vs1 it1 b1 t1 (lcOne f)) hsub (gd1.fr (Fr.of_same sm) (d1.same sm)) h0 ndr nF upd_same .nil wk' (gd.bindF a1) hDF ?_ ?_
    · intro e2 s2 σ2 H2 Fs2 acc2 ds2 Nx g2 nF2 ha2 hr2 hx
      refine ⟨c, e2, s2, Fs2, g2, ?_⟩
      unfold lcIn at hx
      cases e3 : it1 e2 s2 with
      | bad => rw [e3] at hx; exact hx.elim
      | exc _ _ => rw [e3] at hx; exact hx.elim
      | ok y s3 =>
        rw [e3] at hx
        simp only [R.bnd_ok] at hx
        intro J1 H3 F3 fr3 d3 a3 wk3
        have g3 := g2.fr fr3 d3
        have ha3 : H3 Dn = some (.lst acc2) := fr3 _ _ ndr ha2
        have hr3 : Reps X.K c.dr H3 acc2 ds2 [] := hr2.fr fr3 g2.draw fun q => nomatch q
        have hDF3 : Dn ∉ F3 := fun q => by
          rcases a3.weak _ q with z | ⟨j, _, z⟩
          · rw [ha2] at z; cases z
          · exact nF2 j z
        refine loop_lf (mg := X.mg) (acc := acc2) (ds0 := ds2) (bs := y.2.getD []) (body := lcOne f) hsub1 g3 h0 ndr nF2 ha3 hr3 wk3 (g2.bindF a3) hDF3 ?_ ?_
        · intro e4 s4 σ4 H4 Fs4 acc4 ds4 Nx4 g4 nF4 ha4 hr4 hx4
          exact one_lf ndr ncl g4 ha4 hr4 hx4
        · cases q5 : compG b1 t1 (lcOne f) y.1 (wipeE (freeze (y.2.getD []) e2) vs1) s3 with
          | bad => rw [q5] at hx; exact hx.elim
          | exc _ _ => rw [q5] at hx; exact hx.elim
          | ok z s5 =>
            rw [q5] at hx
            exact ⟨hx.1, fun H5 acc5 f5 => hx.2 H5 acc5 ((Fr.frD fr3).trans f5)⟩
    · cases q5 : compG b t (lcIn vs1 it1 b1 t1 (lcOne f)) ds (wipeE (freeze (al.getD []) env) vs) s1 with
      | bad => rw [q5] at h; exact h.elim
      | exc _ _ => rw [q5] at h; exact h.elim
      | ok z s5 =>
        rw [q5] at h
        simp only [noExc, R.bnd_ok] at h
        by_cases hl : z.length ≤ LIM
        · rw [if_pos hl] at h
          refine ⟨hl, fun H5 acc5 f5 d5 a5 r5 => ?_⟩
          have f1 : Fr c.dr H1 H5 := fun a o n e => f5 a o n (fun q => by rw [q, hD] at e; cases e) (sm _ _ e)
          refine h (.ref Dn) H5 [Dn] (fr1.trans f1) d5 (.lst hl a5 r5) ⟨List.nodup_cons.mpr ⟨(fun q => nomatch q), List.nodup_nil⟩, fun a ha => ?_⟩
          rw [List.mem_singleton.mp ha]
          exact fr1.back d1 Dn hD
        · rw [if_neg hl] at h
          exact h.elim
section
variable {X : Cx} {W : WX} {elt tg iter tg1 iter1 : Expr} {ifs ifs1 : List Expr} {scope : Scope} {own : List (Str × Nat)} {pos : Pos} {is is1 : List Nat} {it it1 : I} {b b1 : B} {t t1 : T} {f : E}
theorem e_lc2 (vs : List Nat) (vs1 : List Nat) (hc : X.calm = true) (hN : X.N.Nodup) (hi : IRep X W tg iter it) (ok : BlkOk X.N X.env.scope scope own)
    (hg : ∀ (s : Shared) (H : Hp) (C : Addr) (cl : List (Str × Addr)) (fp : List Addr), GRep (X.blk s H scope (compEnvC scope cl C X.env) fp) tg is b)
    (ht : ∀ (s : Shared) (H : Hp) (C : Addr) (cl : List (Str × Addr)) (fp : List Addr), TsRep (X.blk s H scope (compEnvC scope cl C X.env) fp) wFalse ifs t)
    (hi1 : ∀ (s : Shared) (H : Hp) (C : Addr) (cl : List (Str × Addr)) (fp : List Addr), IRep (X.blk s H scope (compEnvC scope cl C X.env) fp) wFalse tg1 iter1 it1)
    (hg1 : ∀ (s : Shared) (H : Hp) (C : Addr) (cl : List (Str × Addr)) (fp : List Addr), GRep (X.blk s H scope (compEnvC scope cl C X.env) fp) tg1 is1 b1)
    (ht1 : ∀ (s : Shared) (H : Hp) (C : Addr) (cl : List (Str × Addr)) (fp : List Addr), TsRep (X.blk s H scope (compEnvC scope cl C X.env) fp) wFalse ifs1 t1)
    (he : ∀ (s : Shared) (H : Hp) (C : Addr) (cl : List (Str × Addr)) (fp : List Addr), ERep (X.blk s H scope (compEnvC scope cl C X.env) fp) wFalse elt f)
    (hvs : own.map (·.2) = vs := by rfl) (hv1 : ∀ i ∈ vs1, i ∈ vs := by decide) (hsub : ∀ i ∈ is, i ∈ vs := by decide) (hsub1 : ∀ i ∈ is1, i ∈ vs1 := by decide) (hs : ∀ x, foldedSetIterable iter X.env x = pure x := by intro _; rfl) (hs1 : ∀ env x, foldedSetIterable iter1 env x = pure x := by intro _ _; rfl) :
    ERep X W (.ListComp elt [⟨tg, iter, ifs, 0⟩, ⟨tg1, iter1, ifs1, 0⟩] scope pos) (eLc2 vs it b t vs1 it1 b1 t1 f) := by
  subst hvs
  exact PE.imp (pe_lc2 (wi := tI X.K X.mg W it) (g := tG X.K is b) (tt := tT X.K X.mg wFalse t) (wi1 := tI X.K X.mg wFalse it1) (g1 := tG X.K is1 b1) (tt1 := tT X.K X.mg wFalse t1) (te := tE X.K X.mg wFalse f) hc hN hi ok hv1 (fun s H C cl fp => (hg s H C cl fp).1) ht hi1 (fun s H C cl fp => (hg1 s H C cl fp).1) ht1 he hs hs1) fun σ H Q h => lc2_go hsub hsub1 h
theorem s_setLc2 {spos : Pos} {i : Nat} {y : Str} {py : Pos} (vs : List Nat) (vs1 : List Nat) (hc : X.calm = true) (hN : X.N.Nodup) (hy : X.N[i]? = some y) (hyl : X.env.scope.names.lookup y = some .local) (hi : IRep X W tg iter it) (ok : BlkOk X.N X.env.scope scope own)
    (hg : ∀ (s : Shared) (H : Hp) (C : Addr) (cl : List (Str × Addr)) (fp : List Addr), GRep (X.blk s H scope (compEnvC scope cl C X.env) fp) tg is b)
    (ht : ∀ (s : Shared) (H : Hp) (C : Addr) (cl : List (Str × Addr)) (fp : List Addr), TsRep (X.blk s H scope (compEnvC scope cl C X.env) fp) wFalse ifs t)
    (hi1 : ∀ (s : Shared) (H : Hp) (C : Addr) (cl : List (Str × Addr)) (fp : List Addr), IRep (X.blk s H scope (compEnvC scope cl C X.env) fp) wFalse tg1 iter1 it1)
    (hg1 : ∀ (s : Shared) (H : Hp) (C : Addr) (cl : List (Str × Addr)) (fp : List Addr), GRep (X.blk s H scope (compEnvC scope cl C X.env) fp) tg1 is1 b1)
    (ht1 : ∀ (s : Shared) (H : Hp) (C : Addr) (cl : List (Str × Addr)) (fp : List Addr), TsRep (X.blk s H scope (compEnvC scope cl C X.env) fp) wFalse ifs1 t1)
    (he : ∀ (s : Shared) (H : Hp) (C : Addr) (cl : List (Str × Addr)) (fp : List Addr), ERep (X.blk s H scope (compEnvC scope cl C X.env) fp) wFalse elt f)
    (hsw : swapsWith (.ListComp elt [⟨tg, iter, ifs, 0⟩, ⟨tg1, iter1, ifs1, 0⟩] scope pos) (some (.Name y py)) spos.line X.env = pure true := by rfl)
    (hvs : own.map (·.2) = vs := by rfl) (hv1 : ∀ i ∈ vs1, i ∈ vs := by decide) (hsub : ∀ i ∈ is, i ∈ vs := by decide) (hsub1 : ∀ i ∈ is1, i ∈ vs1 := by decide) (hs : ∀ x, foldedSetIterable iter X.env x = pure x := by intro _; rfl) (hs1 : ∀ env x, foldedSetIterable iter1 env x = pure x := by intro _ _; rfl) :
    SRep X W (.Assign [.Name y py] (.ListComp elt [⟨tg, iter, ifs, 0⟩, ⟨tg1, iter1, ifs1, 0⟩] scope pos) spos) (sAsg (bName i) (eLc2 vs it b t vs1 it1 b1 t1 f)) := by
  subst hvs
  exact PS.imp (ps_setLc2 (wi := tI X.K X.mg W it) (g := tG X.K is b) (tt := tT X.K X.mg wFalse t) (wi1 := tI X.K X.mg wFalse it1) (g1 := tG X.K is1 b1) (tt1 := tT X.K X.mg wFalse t1) (te := tE X.K X.mg wFalse f) hc hN hy hyl hsw hi ok hv1 (fun s H C cl fp => (hg s H C cl fp).1) ht hi1 (fun s H C cl fp => (hg1 s H C cl fp).1) ht1 he hs hs1) fun D σ H h =>
    lc2_go hsub hsub1 (set_core h)
end
end Sm
end
section
set_option Elab.async false
set_option linter.all false
set_option maxRecDepth 100000
set_option maxHeartbeats 4000000
/-! Sound17: list(reversed(x)). -/
namespace Sm
open PySem PySem.Spec L2 RZ RT PyProof.Rows

section
variable {prog : Program} {w : World} {A : Around} {E : Value → Shared → Prop} {s : Shared}
theorem initRev {R : Result → Shared → Prop} {it l : Addr} {items : Array Value} (hh : A.handled = none) (hit : s.heap.IsRevIter it l ((items.size : Int) - 1)) (hl : s.heap.IsList l items) (hne : l ≠ it) (hn : items.size ≤ sizeLine)
    (S : Addr) (hSit : S ≠ it) (hSl : S ≠ l) (hS : s.heap.get? S = some { cls := .type "list", data := .seq #[] })
    (hR : ∀ h' tk acc' c', (∀ b o, b ≠ S → b ≠ it → s.heap.get? b = some o → h'.get? b = some o) → h'.get? S = some { cls := .type "list", dict := none, data := .seq acc' c', slots := #[] } →
      ItemsOf (fun i v => items[items.size - 1 - i]? = some v) acc' items.size → R (.ok (.ret .none)) { s with heap := h', toks := tk }) :
    wpAny (model prog w) A.in1 (Builtin.«list.__init__» ⟨[.ref S, .ref it], []⟩)
      (fun fin s' => match fin with | .done f => R (.ok f) s' | .again c' => c'.quiet = true ∧ codeAny (model prog w) A c' R s') (fun e s' => R (.error e) s') s := by
  show wpAny _ _ (do let old ← Builtin.List.listItems (.ref S); Builtin.List.listUpdate (.ref S) (fun _ => #[]); letGo old.toList.reverse; Builtin.List.listExtendWith (.ref S) (.ref it) .none) _ _ s
  refine wpAny_bind ?_
  unfold Builtin.List.listItems
  refine wpAny_bind (wpAny_seqItems hS rfl (wpAny_pure ?_))
  show wpAny _ _ (updateSeq S (fun _ => #[]) >>= fun _ => letGo (#[] : Array Value).toList.reverse >>= fun _ => Builtin.List.listExtendWith (.ref S) (.ref it) .none) _ _ s
  refine wpAny_bind (wpAny_updateSeq hS rfl ?_)
  have hS₂ := Heap.get?_update_self (Obj.mapSeq (fun _ => (#[] : Array Value))) hS rfl
  have oth : ∀ b o, b ≠ S → s.heap.get? b = some o → (s.heap.update S (Obj.mapSeq (fun _ => (#[] : Array Value)))).get? b = some o :=
    fun b o hb e => (Heap.get?_update_other _ _ (Ne.symm hb)).trans e
  refine wpAny_bind (wpAny_letGo ?_)
  generalize s.heap.update S (Obj.mapSeq (fun _ => (#[] : Array Value))) = h1 at hS₂ oth
  have hit1 : h1.IsRevIter it l ((items.size : Int) - 1) := hit.at fun o e => oth it o (Ne.symm hSit) e
  have hl1 : h1.IsList l items := hl.at fun o e => oth l o (Ne.symm hSl) e
  have hSf : S ∉ [it, l] := by simp only [List.mem_cons, List.not_mem_nil, or_false, not_or]; exact ⟨hSit, hSl⟩
  have W := (Walks.listRev (prog := prog) (w := w) (A := A.in1) hh it l hne items).toS
  have hT : ({ s with heap := h1 } : Shared).TypeIs (.ref it) "list_reverseiterator" := Heap.IsRevIter.typeIs (s := { s with heap := h1 }) hit1
  have h1' : Builtin.List.listSameRef (.ref S) (.ref it) = false := by simp [Builtin.List.listSameRef, hSit]
  unfold Builtin.List.listExtendWith
  refine wpAny_bind (wpAny_typeOf hT ?_)
  rw [if_neg (by rw [h1']; decide)]
  refine wpAny_bind (wpAny_pyIter_revIter (s := { s with heap := h1 }) hit1 ?_)
  refine wpAny_bind (wpAny_holding ?_)
  unfold Builtin.List.listLengthHint
  refine wpAny_bind (wpAny_specialOf hT nolen_lri ?_)
  show wpAny _ A.in1 (specialOf (Value.ref it) (Str.ofString "__length_hint__") >>= _) _ _ _
  refine wpAny_bind (wpAny_specialOf hT hint_lri ?_)
  generalize hid : ("list_reverseiterator.__length_hint__" : String) = id0
  wp_delta
  rw [show splitId id0 = some ("list_reverseiterator", "__length_hint__") from by subst hid; decide +kernel]
  subst hid
  refine wpAny_bind (wpAny_isInstance (b := true) hT (by rw [isSubtype_type]; kernel_rfl) ?_)
  refine wpAny_pure ?_
  rw [if_neg (by decide)]
  have e0 : ((items.size : Nat) : Int) - 1 - ((0 : Nat) : Int) = (items.size : Int) - 1 := by omega
  refine wpAny_pure ⟨plainId_quiet F.plain_extend_loop _, codeAny_extend_loopS W hn _ hSf _ items.size 0 _ _ _ rfl (Nat.zero_le _) ⟨Nat.zero_le _, by rw [e0]; exact hit1, hl1⟩ hS₂ (ItemsOf.nil _) fun s' acc' c' hm hS' hacc => ?_⟩
  rw [Moved.eq_with hm]
  refine hR s'.heap s'.toks acc' c' (fun b o hb hb2 e => hm.heap b o (fun hmem => ?_) (oth b o hb e)) hS' hacc
  rcases List.mem_cons.mp hmem with e' | hmem
  · exact hb e'
  · exact hb2 (List.mem_singleton.mp hmem)
theorem callRev {it l : Addr} {items : Array Value} {Q : Value → Shared → Prop} (hh : A.handled = none) (hit : s.heap.IsRevIter it l ((items.size : Int) - 1)) (hl : s.heap.IsList l items) (hne : l ≠ it) (hn : items.size ≤ sizeLine)
    (hQ : ∀ (h' : Heap) (tk : Nat) (acc : Array Value) (c : Nat), (∀ b o, b ≠ it → s.heap.get? b = some o → h'.get? b = some o) → h'.get? s.heap.objs.size = some { cls := .type "list", dict := none, data := .seq acc c, slots := #[] } → ItemsOf (fun i v => items[items.size - 1 - i]? = some v) acc items.size →
      Q (.ref s.heap.objs.size) { s with heap := h', toks := tk }) :
    wpAny (model prog w) A (call (.type "list") [.ref it]) Q E s := by
  refine callType_codes (Q₁ := fun obj s₁ => obj = .ref s.heap.objs.size ∧ s₁ = { s with heap := s.heap.push { cls := .type "list", data := .seq #[] } }) F.called_list (F.typeCall_list_1 _) F.entry_list_init
    (code_list_new _ ⟨rfl, rfl⟩) fun obj s₁ h₁ => ?_
  obtain ⟨rfl, rfl⟩ := h₁
  have hS : (s.heap.push { cls := .type "list", data := .seq #[] }).get? s.heap.objs.size = some { cls := .type "list", data := .seq #[] } := Heap.get?_push_size _ rfl
  obtain ⟨oi, hoi, _⟩ := id hit
  obtain ⟨ol, hol, _⟩ := id hl
  refine ⟨⟨_, hS, rfl⟩, F.args_list_init_2 _ _, initRev (A := A.in1) hh (hit.at fun o e => Heap.get?_push_of_some _ e) (hl.push _) hne hn _ (Nat.ne_of_gt (Heap.lt_size hoi)) (Nat.ne_of_gt (Heap.lt_size hol)) hS fun h' tk acc' c' hk hS' hacc => ?_⟩
  exact ⟨rfl, hQ h' tk acc' c' (fun b o hb e => hk b o (Nat.ne_of_lt (Heap.lt_size e)) hb (Heap.get?_push_of_some _ e)) hS' hacc⟩
end
theorem reps_rev {K : PySem.W.Frag} {dr : Addr} {H : Hp} : ∀ {vs : List V} {ds : List D} {F : List Addr}, Reps K dr H vs ds F → ∃ G, Reps K dr H vs.reverse ds.reverse G ∧ ∀ a ∈ G, a ∈ F
  | _, _, _, .nil => ⟨[], .nil, fun _ h => h⟩
  | _, _, _, .cons r t => by
    obtain ⟨G, k1, k2⟩ := reps_rev t
    have := k1.append (.cons r .nil)
    rw [← List.reverse_cons, ← List.reverse_cons] at this
    refine ⟨_, this, fun a ha => ?_⟩
    rw [List.append_nil] at ha
    rcases List.mem_append.mp ha with h | h
    · exact List.mem_append_right _ (k2 a h)
    · exact List.mem_append_left _ h
section
variable {X : Cx} {W : WX} {e : Expr} {p p2 pos pos2 : Pos} {f : E}
def tLstRev (K : PySem.W.Frag) (te : TE) : TE := fun σ H Q => te σ H fun v H1 => ∃ (a : Addr) (xs : List V), v = .ref a ∧ SqL K H1 a xs ∧ ∀ q, H1 q = none → Q (.ref q) (upd H1 q (.lst xs.reverse))
theorem pe_lstRev {te : TE} (hc : X.calm = true) (hg : Gl X "list") (hm : X.mg "list" = none) (hg2 : Gl X "reversed") (hm2 : X.mg "reversed" = none) (he : PE X e te)
    (hs : starEach [e] X.env = (false, eval e X.env) :: starEach [] X.env := by rfl)
    (hs2 : starEach [.Call (.Name "reversed" p2) [e] [] pos2] X.env = (false, eval (.Call (.Name "reversed" p2) [e] [] pos2) X.env) :: starEach [] X.env := by rfl) :
    PE X (.Call (.Name "list" p) [.Call (.Name "reversed" p2) [e] [] pos2] [] pos) (tLstRev X.K te) := by
  refine ⟨fun pins s σ H Q I h => ?_⟩
  refine Call_ (ld_blt I hg hm boot_list (PyProof.Rows.callWith_type1 (args_cons (Call_ (ld_blt I hg2 hm2 PyProof.Rows.boot_reversed (PyProof.Rows.callWith_type1 (args_cons (thn (he.run pins s σ H _ I h) fun u s1 ⟨v, H1, I1, r1, q1⟩ => args_nil ?_) hs) hs rfl))) hs2) hs2 rfl))
  obtain ⟨a, xs, ev, hq, q⟩ := q1
  subst ev
  obtain rfl : u = Value.ref a := r1
  obtain ⟨its, rv, p', hz⟩ := I1.list hq
  refine call_reversed_list p'.isList (args_nil ?_)
  have k0 : ∀ b o, s1.heap.get? b = some o → (s1.heap.push (revObj a ((its.toArray.size : Int) - 1))).get? b = some o := fun b o e => Heap.get?_push_of_some _ e
  have I2 : Inv X pins σ H1 { s1 with heap := s1.heap.push (revObj a ((its.toArray.size : Int) - 1)) } := I1.kept (t' := s1.toks) k0
  obtain ⟨f0, f1, f2, f3, f4, f5⟩ := I1.fpOk (H' := H1) (b := s1.heap.objs.size) (Nat.le_refl _) (I1.hok.fresh (Nat.le_refl _))
  have hl := p'.isList
  obtain ⟨ol, hol, _⟩ := id hl
  have hne : a ≠ s1.heap.objs.size := Nat.ne_of_lt (Heap.lt_size hol)
  have hn : its.toArray.size ≤ sizeLine := by rw [List.size_toArray, ← rv.length]; exact hz
  refine callRev (s := { s1 with heap := s1.heap.push (revObj a ((its.toArray.size : Int) - 1)) }) (I1.ok.hd hc) ⟨_, Heap.get?_push_size _ rfl, rfl, rfl⟩ (hl.push _) hne hn fun h' tk acc c hk hS hi => ?_
  have hsz : (s1.heap.push (revObj a ((its.toArray.size : Int) - 1))).objs.size = s1.heap.objs.size + 1 := Heap.size_push ..
  have kk : ∀ b o, s1.heap.get? b = some o → h'.get? b = some o := fun b o e => hk b o (Nat.ne_of_lt (Heap.lt_size e)) (k0 b o e)
  have hle : s1.heap.objs.size ≤ (s1.heap.push (revObj a ((its.toArray.size : Int) - 1))).objs.size := by rw [hsz]; exact Nat.le_succ _
  refine ⟨.ref _, upd H1 _ (.lst xs.reverse), I1.laid (t' := tk) kk hle (show ObjOk X.prog X.w _ _ _ (.lst xs.reverse) from ⟨by rw [List.length_reverse]; exact hz, acc.toList, c, vals_rev rv hi, ?_⟩), rfl, q _ (I1.hok.fresh hle)⟩
  rw [Array.toArray_toList]
  exact hS
theorem e_lstRev (hc : X.calm = true) (hg : Gl X "list") (hm : X.mg "list" = none) (hg2 : Gl X "reversed") (hm2 : X.mg "reversed" = none) (he : ERep X W e f)
    (hs : starEach [e] X.env = (false, eval e X.env) :: starEach [] X.env := by rfl)
    (hs2 : starEach [.Call (.Name "reversed" p2) [e] [] pos2] X.env = (false, eval (.Call (.Name "reversed" p2) [e] [] pos2) X.env) :: starEach [] X.env := by rfl) :
    ERep X W (.Call (.Name "list" p) [.Call (.Name "reversed" p2) [e] [] pos2] [] pos) (eU gLstRev f) := by
  refine PE.imp (pe_lstRev hc hg hm hg2 hm2 he hs hs2) fun σ H Q ⟨c, env, s, Fs, gd, h⟩ => ⟨c, env, s, Fs, gd, ?_⟩
  unfold eU at h
  cases e1 : f env s with
  | bad => rw [e1] at h; exact h.elim
  | exc x s1 => rw [e1] at h; exact h
  | ok y s1 =>
    rw [e1] at h
    obtain ⟨yd, ya⟩ := y
    intro v1 H1 F1 fr1 d1 r1 a1
    simp only [R.bnd_ok] at h
    dsimp only at r1 a1
    cases r1 with
    | @lst a vs ds F0 hz hl hr =>
      refine ⟨a, vs, rfl, .inl (.inl hl), fun q hq => ?_⟩
      have sm : Same H1 (upd H1 q (.lst vs.reverse)) := Same.upd hq
      obtain ⟨G, k1, k2⟩ := reps_rev (hr.same sm)
      refine h (.ref q) _ (q :: G) (fr1.trans (Fr.of_same sm)) (d1.same sm) (.lst (by rw [List.length_reverse]; exact hz) upd_same k1) (a1.res (fr1.back d1) (ResOk.newL hq (fun e => ?_) fun a ha => List.mem_cons_of_mem _ (k2 a ha)))
      have := hr.lf e
      subst this
      cases G with
      | nil => rfl
      | cons a G => exact nomatch k2 a List.mem_cons_self
    | _ => exact h.elim
end
end Sm
end
section
set_option Elab.async false
set_option linter.all false
set_option maxRecDepth 100000
set_option maxHeartbeats 4000000
/-! Sound18: a list in a list changed. -/
namespace Sm
open PySem PySem.Spec L2 RZ RT PyProof.Rows

theorem upd_imm {H : Hp} {b : Addr} {ws ws' : List V} (h : H b = some (.lst ws)) : Imm H (upd H b (.lst ws')) := fun a => by
  refine ⟨fun xs q => ?_, fun o u q => ?_⟩
  · rw [upd_ne]; exact q
    intro z; rw [z, h] at q; cases q
  · rw [upd_ne]; exact q
    intro z; rw [z, h] at q; cases q
/-- the list at place j, changed at place l -/
theorem Reps.put2 {K : PySem.W.Frag} {dr : Addr} {H : Hp} {es : List D} {v : V} {d : D} {G : List Addr} (rv : Rep K dr H v d G) (l : Nat) : ∀ {vs : List V} {ds : List D} {F : List Addr} {j : Nat}, Reps K dr H vs ds F → F.Nodup → G.Nodup → (∀ a ∈ G, a ∉ F) → ds[j]? = some (.lst es) →
    ∃ b ws, vs[j]? = some (.ref b) ∧ H b = some (.lst ws) ∧ ws.length = es.length ∧ b ∈ F ∧ ∃ F', Reps K dr (upd H b (.lst (ws.set l v))) vs (ds.set j (.lst (es.set l d))) F' ∧ (∀ a ∈ F', a ∈ F ∨ a ∈ G) ∧ F'.Nodup
  | _, _, _, 0, @Reps.cons _ _ _ v0 d0 F1 vs ds F2 r t, hn, hG, hd, e => by
    have e : d0 = .lst es := by simpa using e
    subst e
    obtain ⟨n1, n2, n3⟩ := List.nodup_append.mp hn
    cases r with
    | @lst b ws _ F0 hz hl hr =>
      obtain ⟨n4, n5⟩ := List.nodup_cons.mp n1
      obtain ⟨F', k1, k2, k3⟩ := Reps.put rv l hr
      have hbG : b ∉ G := fun q => hd b q (List.mem_append_left _ List.mem_cons_self)
      have up := upd_imm (ws' := ws.set l v) hl
      have bF' : b ∉ F' := fun q => (k2 b q).elim n4 hbG
      have r1 : Rep K dr (upd H b (.lst (ws.set l v))) (.ref b) (.lst (es.set l d)) (b :: F') := .lst (by rw [List.length_set]; exact hz) upd_same (k1.mono up fun a ha => upd_ne fun z => bF' (z ▸ ha))
      have t1 : Reps K dr (upd H b (.lst (ws.set l v))) vs ds F2 := t.mono up fun a ha => upd_ne fun z => n3 b List.mem_cons_self a ha z.symm
      refine ⟨b, ws, rfl, hl, hr.length, List.mem_append_left _ List.mem_cons_self, (b :: F') ++ F2, .cons r1 t1, fun a ha => ?_, ?_⟩
      · rcases List.mem_append.mp ha with ha | ha
        · rcases List.mem_cons.mp ha with rfl | ha
          · exact .inl (List.mem_append_left _ List.mem_cons_self)
          · exact (k2 a ha).imp (fun z => List.mem_append_left _ (List.mem_cons_of_mem _ z)) id
        · exact .inl (List.mem_append_right _ ha)
      · refine List.nodup_append.mpr ⟨List.nodup_cons.mpr ⟨bF', k3 n5 hG fun a ha q => hd a ha (List.mem_append_left _ (List.mem_cons_of_mem _ q))⟩, n2, fun a ha c hc e => ?_⟩
        subst e
        rcases List.mem_cons.mp ha with rfl | ha
        · exact n3 a List.mem_cons_self a hc rfl
        · rcases k2 a ha with z | z
          · exact n3 a (List.mem_cons_of_mem _ z) a hc rfl
          · exact hd a z (List.mem_append_right _ hc)
  | _, _, _, j + 1, @Reps.cons _ _ _ v0 d0 F1 vs ds F2 r t, hn, hG, hd, e => by
    obtain ⟨n1, n2, n3⟩ := List.nodup_append.mp hn
    obtain ⟨b, ws, h1, h2, h3, h4, F', k1, k2, k3⟩ := Reps.put2 rv l t n2 hG (fun a ha q => hd a ha (List.mem_append_right _ q)) (by simpa using e)
    have r1 : Rep K dr (upd H b (.lst (ws.set l v))) v0 d0 F1 := r.mono (upd_imm h2) fun a ha => upd_ne fun z => n3 a ha b h4 z
    refine ⟨b, ws, by simpa using h1, h2, h3, List.mem_append_right _ h4, F1 ++ F', .cons r1 k1, fun a ha => ?_, ?_⟩
    · rcases List.mem_append.mp ha with ha | ha
      · exact .inl (List.mem_append_left _ ha)
      · exact (k2 a ha).imp (List.mem_append_right _) id
    · refine List.nodup_append.mpr ⟨n1, k3, fun a ha c hc e => ?_⟩
      subst e
      rcases k2 a hc with z | z
      · exact n3 a ha a z rfl
      · exact hd a z (List.mem_append_left _ ha)
  | _, _, _, _, .nil, _, _, _, e => by simp at e
/-- the list of slot i holds a list that is changed -/
theorem Good.chg2 {K : PySem.W.Frag} {c : C} {H : Hp} {σ : L2.St} {env : Ev} {s : DS} {Fs : Nat → List Addr} (g : Good K c H σ env s Fs) {i : Nat} {a b : Addr} {ds ds' : List D} {vs : List V} {ws ws' : List V} {F0 F' : List Addr}
    (e : getS env i = some (.own, .lst ds)) (hv : σ[i]? = some (some (.ref a))) (ha : H a = some (.lst vs)) (hF : Fs i = a :: F0) (hb : H b = some (.lst ws)) (hbF : b ∈ F0) (r' : Reps K c.dr (upd H b (.lst ws')) vs ds' F') (hz : ds'.length ≤ LIM) (nd : (a :: F').Nodup)
    (h0 : ∀ b ∈ F', c.H0 b = none) (dj : ∀ j, j ≠ i → ∀ b ∈ F', b ∉ Fs j) (ndr : c.dr ∉ F') :
    Good K c (upd H b (.lst ws')) σ (setS env i (some (.own, .lst ds'))) s (fun j => if j = i then a :: F' else Fs j) := by
  obtain ⟨o1, o2, o3⟩ := g.own i _ e
  have hi : i < env.length := getS_lt e
  have bi : b ∈ Fs i := by rw [hF]; exact List.mem_cons_of_mem _ hbF
  have nab : a ≠ b := fun z => by
    rw [hF] at o1
    exact (List.nodup_cons.mp o1).1 (z ▸ hbF)
  have b0 : c.H0 b = none := o2 b bi
  have a0 : c.H0 a = none := o2 a (by rw [hF]; exact List.mem_cons_self)
  have bdr : b ≠ c.dr := fun q => g.ndr i (q ▸ bi)
  have adr : a ≠ c.dr := fun q => g.ndr i (by rw [hF, q]; exact List.mem_cons_self)
  have bcl : b ≠ c.cl := fun q => by
    obtain ⟨s0, _, _, e2, _⟩ := g.drw0
    rw [q, e2] at b0
    cases b0
  have oth : ∀ j, j ≠ i → b ∉ Fs j := fun j hj => o3 j hj b bi
  have imm : Imm H (upd H b (.lst ws')) := upd_imm hb
  have slf : getS (setS env i (some (.own, .lst ds'))) i = some (.own, .lst ds') := getS_set_self hi
  refine ⟨fun x o n q => ?_, ?_, g.drw0, by rw [setS_len]; exact g.len, fun j m d q => ?_, fun j q => ?_, fun j d q => ?_, fun j x hx => ?_, fun j hx => ?_⟩
  · rw [upd_ne]
    · exact g.pres x o n q
    · intro z; rw [z, b0] at q; cases q
  · obtain ⟨e1, e2, e3, e4⟩ := g.draw
    exact ⟨by rw [upd_ne (Ne.symm bdr)]; exact e1, e2, by rw [upd_ne (Ne.symm bcl)]; exact e3, e4⟩
  · by_cases hj : j = i
    · subst hj
      rw [slf] at q
      cases q
      simp only [if_true]
      exact ⟨.ref a, hv, .lst hz (by rw [upd_ne nab]; exact ha) r'⟩
    · rw [getS_set_ne hj] at q
      simp only [if_neg hj]
      obtain ⟨v, h1, h2⟩ := g.slot j m d q
      exact ⟨v, h1, h2.mono imm fun x hx => upd_ne fun z => oth j hj (z ▸ hx)⟩
  · by_cases hj : j = i
    · subst hj
      rw [slf] at q
      cases q
    · rw [getS_set_ne hj] at q
      simp only [if_neg hj]
      exact g.off j q
  · by_cases hj : j = i
    · subst hj
      simp only [if_true]
      refine ⟨nd, fun x hx => ?_, fun k hk x hx => ?_⟩
      · rcases List.mem_cons.mp hx with rfl | hx
        · exact a0
        · exact h0 x hx
      · rw [if_neg hk]
        rcases List.mem_cons.mp hx with rfl | hx
        · exact o3 k hk x (by rw [hF]; exact List.mem_cons_self)
        · exact dj k hk x hx
    · rw [getS_set_ne hj] at q
      simp only [if_neg hj]
      obtain ⟨k1, k2, k3⟩ := g.own j d q
      refine ⟨k1, k2, fun k hk x hx => ?_⟩
      by_cases hki : k = i
      · rw [if_pos hki]
        intro z
        rcases List.mem_cons.mp z with rfl | z
        · exact o3 j hj x (by rw [hF]; exact List.mem_cons_self) hx
        · exact dj j hj x z hx
      · rw [if_neg hki]
        exact k3 k hk x hx
  · by_cases hj : j = i
    · rw [if_pos hj] at hx
      rcases List.mem_cons.mp hx with rfl | hx
      · exact .inl a0
      · exact .inl (h0 x hx)
    · rw [if_neg hj] at hx
      exact g.zed j x hx
  · by_cases hj : j = i
    · rw [if_pos hj] at hx
      rcases List.mem_cons.mp hx with z | hx
      · exact adr z.symm
      · exact ndr hx
    · rw [if_neg hj] at hx
      exact g.ndr j hx
section
variable {X : Cx} {W : WX} {e e1 e2 : Expr} {pos p q : Pos} {f fi fj : E}
/-- x[i][j] = e -/
theorem s_sub2 {i : Nat} {x : Str} {px : Pos} (hN : X.N[i]? = some x) (hv : Vis X.env.scope x) (hi : ERep X W e1 fi) (hj : ERep X W e2 fj) (he : ERep X W e f) (hd : (x == ("__debug__" : Str)) = false := by decide) (hcd : (x == ("__classdict__" : Str)) = false := by decide) (hpl : PlainIx e1 := by exact fun _ _ => rfl)
    (ha : ∀ v, assign (.Subscript (.Subscript (.Name x px) e1 q) e2 p) X.env v = (do
      let ov ← holding [v] (eval (.Subscript (.Name x px) e1 q) X.env)
      let iv ← holding [v, ov] (eval e2 X.env)
      standAt p
      holding [v, ov, iv] (setItem ov iv v)
      release [v, ov, iv] []) := by intro _; rfl)
    (hs : swapsWithSole [.Subscript (.Subscript (.Name x px) e1 q) e2 p] e pos.line X.env = pure false := by rfl) (hw : swappedStores [.Subscript (.Subscript (.Name x px) e1 q) e2 p] e X.env = pure none := by rfl)
    (h1 : (assignEach [.Subscript (.Subscript (.Name x px) e1 q) e2 p] X.env).map (·.2) = [assign (.Subscript (.Subscript (.Name x px) e1 q) e2 p) X.env] := by rfl) : SRep X W (.Assign [.Subscript (.Subscript (.Name x px) e1 q) e2 p] e pos) (sSet2 i fi fj f) := by
  refine PS.imp (ps_asg he (pg_sub (pe_ix ix_list (pe_var (i := i) hN hv hd hcd) hi hpl) hj set_list ha) hs hw h1) fun D σ H ⟨c, env, s, Fs, gd, q⟩ => ?_
  unfold sSet2 at q
  cases z0 : getS env i with
  | none => rw [z0] at q; exact q.elim
  | some md =>
    obtain ⟨m, d⟩ := md
    rw [z0] at q
    obtain ⟨v0, hv1, r0⟩ := gd.slot i _ _ z0
    cases m with
    | frz => exact q.elim
    | own =>
      generalize hFi : Fs i = Fi at r0
      cases r0 with
      | @lst a vs ds F0 hz hl hr =>
        dsimp only at q
        refine st_core f gd q fun y s1 v H1 F e1 q fr d g1 r al => ?_
        refine ⟨_, hv1, ?_⟩
        refine st_core fi g1 q fun z s2 w H2 F2 e2 q fr2' d2 g2 r2 al2 => ?_
        obtain ⟨zd, za⟩ := z
        obtain ⟨yd, ya⟩ := y
        cases r2 with
        | int k =>
          dsimp only at q
          cases hk : Sm.ixN ds.length k with
          | none => rw [hk] at q; exact q.elim
          | some j =>
            rw [hk] at q
            dsimp only at q
            cases hes : ds[j]? with
            | none => rw [hes] at q; exact q.elim
            | some d0 =>
              rw [hes] at q
              cases d0 with
              | lst es =>
                dsimp only at q
                have nd := gd.ndr i
                rw [hFi] at nd
                have frr := fr.trans fr2'
                have hl' : H2 a = some (.lst vs) := frr a _ (fun q => nd (q ▸ List.mem_cons_self)) hl
                have hr' : Reps X.K c.dr H2 vs ds F0 := hr.fr frr gd.draw fun q => nd (List.mem_cons_of_mem _ q)
                obtain ⟨v1, G1, hv2, rv1, mG1⟩ := hr'.get hes
                refine ⟨a, vs, k, v1, rfl, rfl, .inl (.inl hl'), ?_, ?_⟩
                · show (L2.ixN vs.length k).bind (fun j => vs[j]?) = some v1
                  rw [hr.length, ixN_eq hk]
                  exact hv2
                refine st_core fj g2 q fun z s3 w3 H3 F3 e3 q fr3' d3 g3 r3 al3 => ?_
                obtain ⟨zd3, za3⟩ := z
                cases ya with
                | some bs => exact q.elim
                | none =>
                  dsimp only at q al r r3
                  cases r3 with
                  | int l =>
                    dsimp only at q
                    cases hm : Sm.ixN es.length l with
                    | none => rw [hm] at q; exact q.elim
                    | some m =>
                      rw [hm] at q
                      have fr3 := frr.trans fr3'
                      have hl3 : H3 a = some (.lst vs) := fr3' a _ (fun q => nd (q ▸ List.mem_cons_self)) hl'
                      have hr3 : Reps X.K c.dr H3 vs ds F0 := hr'.fr fr3' d2 fun q => nd (List.mem_cons_of_mem _ q)
                      have ndF : c.dr ∉ F := al.ndr gd
                      have rv : Rep X.K c.dr H3 v yd F := (r.fr fr2' d ndF).fr fr3' d2 ndF
                      obtain ⟨o1, o2, o3⟩ := gd.own i _ z0
                      rw [hFi] at o1 o2 o3
                      have exF : ∀ b ∈ F0, H b ≠ none := fun b hb => hr.ne hb
                      have exa : H a ≠ none := by rw [hl]; intro q; cases q
                      obtain ⟨b, ws, hb1, hb2, hb3, hb4, F', k1, k2, k3⟩ := Reps.put2 rv m hr3 (List.nodup_cons.mp o1).2 al.1 (fun b hb q => exF b q (al.2 b hb)) hes
                      have : v1 = .ref b := Option.some.inj (hv2.symm.trans hb1)
                      subst this
                      refine ⟨b, ws, l, m, rfl, rfl, hb2, by rw [hb3]; exact ixN_eq hm, ?_⟩
                      refine q σ _ _ (g3.chg2 z0 hv1 hl3 hFi hb2 hb4 k1 (by rw [List.length_set]; exact hz) ?_ ?_ ?_ ?_)
                      · refine List.nodup_cons.mpr ⟨fun q => ?_, k3⟩
                        rcases k2 a q with q | q
                        · exact (List.nodup_cons.mp o1).1 q
                        · exact exa (al.2 a q)
                      · intro x hx
                        rcases k2 x hx with hx | hx
                        · exact o2 x (List.mem_cons_of_mem _ hx)
                        · exact gd.h0 (al.2 x hx)
                      · intro j' hj x hx
                        rcases k2 x hx with hx | hx
                        · exact o3 j' hj x (List.mem_cons_of_mem _ hx)
                        · exact fun q => gd.ne q (al.2 x hx)
                      · intro q
                        rcases k2 _ q with q | q
                        · exact nd (List.mem_cons_of_mem _ q)
                        · exact ndF q
                  | _ => exact q.elim
              | _ => exact q.elim
        | _ => exact q.elim
      | _ => exact q.elim
end
end Sm
end
section
set_option Elab.async false
set_option linter.all false
set_option maxRecDepth 100000
set_option maxHeartbeats 4000000
/-! Sound19: len(set(..)), insert, x[i] += e. -/
namespace Sm
open PySem PySem.Spec L2 RZ RT PyProof.Rows

theorem reps_cut {K : PySem.W.Frag} {dr : Addr} {H : Hp} : ∀ {vs : List V} {ds : List D} {F : List Addr} (n : Nat), Reps K dr H vs ds F → ∃ G1 G2, Reps K dr H (vs.take n) (ds.take n) G1 ∧ Reps K dr H (vs.drop n) (ds.drop n) G2 ∧ G1 ++ G2 = F
  | _, _, F, 0, r => ⟨[], F, by simpa using .nil, r, rfl⟩
  | _, _, _, _ + 1, .nil => ⟨[], [], by simpa using .nil, by simpa using .nil, rfl⟩
  | _, _, _, n + 1, @Reps.cons _ _ _ v d F1 vs ds F2 r t => by
    obtain ⟨G1, G2, k1, k2, k3⟩ := reps_cut n t
    exact ⟨F1 ++ G1, G2, .cons r k1, k2, by rw [List.append_assoc, k3]⟩
section
variable {X : Cx} {W : WX} {a e e1 : Expr} {p p2 q pos tpos : Pos} {f fi : E}
theorem firstMet_all {ns : List Int} : PyProof.Rows.firstMet (fun i => ns.getD i 0) ns.length = dedI ns := by
  unfold PyProof.Rows.firstMet dedI
  have : (List.range ns.length).map (fun i => ns.getD i 0) = ns := by
    apply List.ext_getElem
    · simp
    · intro i h1 h2
      simp at h1 h2
      simp [List.getElem?_eq_getElem h1]
  rw [this]
  rfl
theorem dedI_inv (ns : List Int) : ∀ (o : List Int), o.Nodup → (ns.foldl (fun o k => if o.any (· == k) then o else o ++ [k]) o).Nodup ∧ ∀ k, k ∈ ns.foldl (fun o k => if o.any (· == k) then o else o ++ [k]) o ↔ k ∈ o ∨ k ∈ ns := by
  induction ns with
  | nil => exact fun o h => ⟨h, fun k => by simp⟩
  | cons n ns ih =>
    intro o ho
    rw [List.foldl_cons]
    by_cases h : o.any (· == n) = true
    · rw [if_pos h]
      obtain ⟨h1, h2⟩ := ih o ho
      refine ⟨h1, fun k => ?_⟩
      rw [h2, List.mem_cons]
      obtain ⟨x, hx, e⟩ := List.any_eq_true.mp h
      have e := eq_of_beq e
      constructor
      · rintro (z | z)
        · exact .inl z
        · exact .inr (.inr z)
      · rintro (z | z | z)
        · exact .inl z
        · exact .inl (by rw [z, ← e]; exact hx)
        · exact .inr z
    · rw [if_neg h]
      have hno : n ∉ o := fun q => h (List.any_eq_true.mpr ⟨n, q, by simp⟩)
      obtain ⟨h1, h2⟩ := ih (o ++ [n]) (List.nodup_append.mpr ⟨ho, List.nodup_cons.mpr ⟨(fun q => nomatch q), List.nodup_nil⟩, fun a ha b hb e => by
        rw [List.mem_singleton.mp hb] at e
        exact hno (e ▸ ha)⟩)
      refine ⟨h1, fun k => ?_⟩
      rw [h2]
      simp [or_assoc]
theorem dedI_nodup (ns : List Int) : (dedI ns).Nodup := (dedI_inv ns [] List.nodup_nil).1
theorem dedI_mem {ns : List Int} {k : Int} : k ∈ dedI ns ↔ k ∈ ns := by
  rw [show (k ∈ dedI ns) = (k ∈ ns.foldl (fun o k => if o.any (· == k) then o else o ++ [k]) []) from rfl, (dedI_inv ns [] List.nodup_nil).2]
  simp
def tLenSetD (K : PySem.W.Frag) (ta : TE) : TE := fun σ H Q => ta σ H fun x H1 => ∃ (l : Addr) (ns : List Int), x = .ref l ∧ (SqL K H1 l (ns.map V.int) ∨ SqT K H1 l (ns.map V.int)) ∧ ns.length ≤ 4000 ∧ Q (.int ((dedI ns).length : Nat)) H1
theorem pe_lenSetD {ta : TE} (hg : Gl X "len") (hm : X.mg "len" = none) (hg2 : Gl X "set") (hm2 : X.mg "set" = none) (ha : PE X a ta) (hc : X.calm = true := by rfl)
    (na : starEach [a] X.env = (false, eval a X.env) :: starEach [] X.env := by rfl) : PE X (.Call (.Name "len" p) [.Call (.Name "set" p2) [a] [] q] [] pos) (tLenSetD X.K ta) := by
  refine ⟨fun pins s σ H Q I h => ?_⟩
  refine Call_ (ld_blt I hg hm PySem.boot_len ?_)
  refine PyProof.Rows.callWith_builtin1 (PyProof.Rows.args_cons ?_ rfl) rfl rfl
  refine Call_ (ld_blt I hg2 hm2 boot_set ?_)
  refine PyProof.Rows.callWith_type1 (PyProof.Rows.args_cons (thn (ha.run pins s σ H _ I h) fun v s1 ⟨x, H1, I1, r1, q1⟩ => PyProof.Rows.args_nil ?_) na) na rfl
  obtain ⟨l, ns, rfl, hq, hl, q1⟩ := q1
  cases r1
  have hle : (dedI ns).length ≤ 4000 := by
    rw [← firstMet_all]
    exact Nat.le_trans (PyProof.Rows.firstMet_length_le _ _) hl
  rcases hq with hq | hq
  · obtain ⟨its, r, pl, hz⟩ := I1.list hq
    have hlen : its.toArray.size = ns.length := by rw [List.size_toArray, ← r.length, List.length_map]
    refine call_set_list (I1.ok.hd hc) pl.isList (ns := ns) (by simpa using RZ.intsAre_vals r) (by rw [hlen]; unfold scanBound; omega) fun h' tk hS hk => ?_
    refine PyProof.Rows.args_nil ?_
    rw [hlen, firstMet_all] at hS
    obtain ⟨o, es, ep, t, ho, hex, hd, _, _, _, hf, hn⟩ := hS
    have I2 : Inv X pins σ H1 { s1 with heap := h', toks := tk } := I1.kept fun b o e => hk b o (Heap.lt_size e) e
    exact call_len_set ho hex hd hf (by rw [hn] <;> omega) ⟨.int (dedI ns).length, H1, I2.tok _, ⟨_, by rw [hn]⟩, q1⟩
  · obtain ⟨its, r, pl, hz⟩ := I1.tuple hq
    refine call_set_tupI ns (I1.ok.hd hc) pl (by simpa using RZ.intsAre_vals r) (by unfold scanBound; omega) fun h' tk cc hS hcc hk => ?_
    refine PyProof.Rows.args_nil ?_
    obtain ⟨o, es, ep, t, ho, hex, hd, _, hnd, hmem, _, hf, hn, _⟩ := hS
    have I2 : Inv X pins σ H1 { s1 with heap := h', toks := tk } := I1.kept hk
    have e1 : es.size = (dedI ns).length := by
      have hp : (es.toList.map keyOf).Perm (dedI ns) := by
        refine (List.perm_ext_iff_of_nodup hnd (dedI_nodup ns)).mpr fun k => ?_
        rw [← hmem, dedI_mem]
        simp
      have := hp.length_eq
      simpa using this
    exact call_len_set ho hex hd hf (by rw [e1] <;> omega) ⟨.int (dedI ns).length, H1, I2.tok _, ⟨_, by rw [e1]⟩, q1⟩
theorem e_globI {i : Int} {x : Str} (hg : Gl X x) (hm : ∃ t, X.mg x = some (.int i t)) (hd : (x == ("__debug__" : Str)) = false := by decide) : ERep X W (.Name x pos) (eC (.int i)) := by
  obtain ⟨t, hm⟩ := hm
  exact e_glob (v := .int i) hg hm ⟨t, rfl⟩ (fun _ _ => .int i) hd
theorem e_lenSet (hg : Gl X "len") (hm : X.mg "len" = none) (hg2 : Gl X "set") (hm2 : X.mg "set" = none) (ha : ERep X W a f) (hc : X.calm = true := by rfl)
    (na : starEach [a] X.env = (false, eval a X.env) :: starEach [] X.env := by rfl) : ERep X W (.Call (.Name "len" p) [.Call (.Name "set" p2) [a] [] q] [] pos) (eU gLenSet f) := by
  refine PE.imp (pe_lenSetD hg hm hg2 hm2 ha hc na) fun σ H Q ⟨c, env, s, Fs, gd, h⟩ => ⟨c, env, s, Fs, gd, ?_⟩
  unfold eU at h
  cases e1 : f env s with
  | bad => rw [e1] at h; exact h.elim
  | exc x s1 => rw [e1] at h; exact h
  | ok y s1 =>
    rw [e1] at h
    obtain ⟨yd, ya⟩ := y
    intro v1 H1 F1 fr1 d1 r1 a1
    simp only [R.bnd_ok] at h
    dsimp only at r1 a1
    unfold gLenSet at h
    cases yd with
    | lst xs =>
      dsimp only at h
      cases k : asInts xs with
      | none => rw [k] at h; exact h.elim
      | some ns =>
        rw [k] at h
        dsimp only at h
        by_cases hl : ns.length ≤ 4000
        · rw [if_pos hl] at h
          have r2 : Reps X.K c.dr H1 [v1] [.lst xs] (F1 ++ []) := .cons r1 .nil
          obtain ⟨a, e2, h2⟩ := one_ints r2 k
          cases e2
          exact ⟨a, ns, rfl, .inl h2, hl, h _ H1 [] fr1 d1 (.int _) (AlOk.res (fr := true) (F := []) a1 (fr1.back d1) ResOk.nil)⟩
        · rw [if_neg hl] at h
          exact h.elim
    | tup xs =>
      dsimp only at h
      cases k : asInts xs with
      | none => rw [k] at h; exact h.elim
      | some ns =>
        rw [k] at h
        dsimp only at h
        by_cases hl : ns.length ≤ 4000
        · rw [if_pos hl] at h
          have hx := Sm.asInts_map k
          cases r1 with
          | @tup a vs ds F0 hz hs hr =>
            subst hx
            have e2 := hr.ints
            rw [e2] at hs
            exact ⟨a, ns, rfl, .inr hs, hl, h _ H1 [] fr1 d1 (.int _) (AlOk.res (fr := true) (F := []) a1 (fr1.back d1) ResOk.nil)⟩
        · rw [if_neg hl] at h
          exact h.elim
    | _ => exact h.elim
/-- x.insert(i, e) -/
theorem s_ins {i : Nat} {x : Str} {apos cpos px : Pos} (hN : X.N[i]? = some x) (hv : Vis X.env.scope x) (hi : ERep X W e1 fi) (he : ERep X W e f) (hd : (x == ("__debug__" : Str)) = false := by decide) (hcd : (x == ("__classdict__" : Str)) = false := by decide)
    (hsw : swapsWith (.Call (.Attribute (.Name x px) "insert" apos) [e1, e] [] cpos) none pos.line X.env = pure false := by rfl)
    (hfew : ((backTo cpos (starEach [e1, e] X.env)).all (fun x => !x.1) && (backToKw cpos (keywordEach [] X.env)).all (fun x => x.1.isSome)
      && decide ([e1, e].length + ([] : List Keyword).length + (if ([] : List Keyword).isEmpty then 0 else 1) < 30)) = true := by rfl)
    (hline : (apos.endLine == cpos.line) = true := by rfl) (hs : starEach [e1, e] X.env = (false, eval e1 X.env) :: starEach [e] X.env := by rfl) (hs2 : starEach [e] X.env = (false, eval e X.env) :: starEach [] X.env := by rfl) (hpl : (backTo cpos (starEach [e] X.env)).any (·.1) = false := by rfl) :
    SRep X W (.Expr (.Call (.Attribute (.Name x px) "insert" apos) [e1, e] [] cpos) pos) (sIns i fi f) := by
  refine PS.imp (ps_expr (pe_bm PySem.F.plainAttrs_list PySem.F.slot_list_insert PySem.F.type_list_insert mt_insert (pe_var (i := i) hN hv hd hcd) (pa_cons hi (pa_cons he pa_nil hs2) hs) rfl hfew hline hs hpl) hsw) fun D σ H ⟨c, env, s, Fs, gd, q⟩ => ?_
  unfold sIns at q
  cases z : getS env i with
  | none => rw [z] at q; exact q.elim
  | some md =>
    obtain ⟨m, d⟩ := md
    rw [z] at q
    obtain ⟨v, hv1, r⟩ := gd.slot i _ _ z
    cases m with
    | frz => exact q.elim
    | own =>
      generalize hFi : Fs i = Fi at r
      cases r with
      | @lst a vs ds F0 hz hl hr =>
        refine ⟨_, hv1, .inl ⟨rfl, vs, .inl (.inl hl)⟩, ?_⟩
        dsimp only at q
        refine st_core fi gd q fun y s1 w1 H1 F1 e1' q fr1 d1 g1 r1 al1 => ?_
        refine st_core f g1 q fun x s2 w H2 F e2 q fr2' d2 g2 r al => ?_
        obtain ⟨yd, ya⟩ := y
        obtain ⟨xd, xa⟩ := x
        dsimp only at q r1 r al
        cases r1 with
        | int k =>
          cases xa with
          | some bs => exact q.elim
          | none =>
            dsimp only at q
            by_cases hc : ds.length < LIM ∧ 0 ≤ k ∧ k ≤ LIM
            · rw [if_pos hc] at q
              obtain ⟨hc1, hc2, hc3⟩ := hc
              have nd := gd.ndr i
              rw [hFi] at nd
              have frr := fr1.trans fr2'
              have hl' : H2 a = some (.lst vs) := frr a _ (fun q => nd (q ▸ List.mem_cons_self)) hl
              have hr' : Reps X.K c.dr H2 vs ds F0 := hr.fr frr gd.draw fun q => nd (List.mem_cons_of_mem _ q)
              have hL : (LIM : Int) = 1000000 := rfl
              refine ⟨a, vs, k, w, rfl, rfl, hl', by rw [hr.length, sizeLine_eq]; exact Nat.lt_trans hc1 (by decide), hc2, by omega, ?_⟩
              obtain ⟨o1, o2, o3⟩ := gd.own i _ z
              rw [hFi] at o1 o2 o3
              have exF : ∀ b ∈ F0, H b ≠ none := fun b hb => hr.ne hb
              have exa : H a ≠ none := by rw [hl]; intro q; cases q
              have al2 : F.Nodup ∧ ∀ b ∈ F, H b = none := ⟨al.1, fun b hb => fr1.back d1 b (al.2 b hb)⟩
              obtain ⟨G1, G2, k1, k2, k3⟩ := reps_cut k.toNat hr'
              have rA : Reps X.K c.dr H2 (vs.take k.toNat ++ [w] ++ vs.drop k.toNat) (ds.take k.toNat ++ [xd] ++ ds.drop k.toNat) (G1 ++ F ++ G2) := by
                have h1 := (k1.append (.cons r .nil)).append k2
                rw [List.append_nil] at h1
                exact h1
              have hmem : ∀ b ∈ G1 ++ F ++ G2, b ∈ F0 ∨ b ∈ F := by
                intro b hb
                rw [← k3]
                simp only [List.mem_append] at hb ⊢
                rcases hb with (hb | hb) | hb
                · exact .inl (.inl hb)
                · exact .inr hb
                · exact .inl (.inr hb)
              refine q σ _ _ (g2.chg z hv1 hl' hFi rA ?_ ?_ ?_ ?_ ?_)
              · simp only [List.length_append, List.length_take, List.length_drop, List.length_cons, List.length_nil]
                omega
              · have n0 := (List.nodup_cons.mp o1).2
                rw [← k3] at n0
                obtain ⟨m1, m2, m3⟩ := List.nodup_append.mp n0
                refine List.nodup_cons.mpr ⟨fun q => ?_, ?_⟩
                · rcases hmem a q with q | q
                  · exact (List.nodup_cons.mp o1).1 q
                  · exact exa (al2.2 a q)
                · refine List.nodup_append.mpr ⟨List.nodup_append.mpr ⟨m1, al2.1, fun b hb b' hb' e => ?_⟩, m2, fun b hb b' hb' e => ?_⟩
                  · subst e
                    exact exF b (by rw [← k3]; exact List.mem_append_left _ hb) (al2.2 b hb')
                  · subst e
                    rcases List.mem_append.mp hb with hb | hb
                    · exact m3 b hb b hb' rfl
                    · exact exF b (by rw [← k3]; exact List.mem_append_right _ hb') (al2.2 b hb)
              · intro b hb
                rcases hmem b hb with hb | hb
                · exact o2 b (List.mem_cons_of_mem _ hb)
                · exact gd.h0 (al2.2 b hb)
              · intro j hj b hb
                rcases hmem b hb with hb | hb
                · exact o3 j hj b (List.mem_cons_of_mem _ hb)
                · exact fun q => gd.ne q (al2.2 b hb)
              · intro q
                rcases hmem _ q with q | q
                · exact nd (List.mem_cons_of_mem _ q)
                · exact gd.draw.ne (al2.2 _ q)
            · rw [if_neg hc] at q
              exact q.elim
        | _ => exact q.elim
      | _ => exact q.elim
end
end Sm
end
section
set_option Elab.async false
set_option linter.all false
set_option maxRecDepth 100000
set_option maxHeartbeats 4000000
namespace K26
open PySem PySem.Spec L2 Sm
def topS (i : Nat) : Stmt := PySem.Challenge.pw_everydelay_k26_covers_and_rests.main.body.getD i (.Pass ⟨0, 0, 0, 0⟩)
abbrev sDraw : Stmt := topS 18
abbrev sTake : Stmt := topS 19
theorem scTake : FnScope ["draw", "many", "found"] ["draw", "many"] (defScope sTake) := ⟨rfl, rfl, rfl, by decide +kernel, rfl, by decide +kernel, by decide +kernel⟩
section
variable {P : Program} {w : World} {K : PySem.W.Frag} {mg : Str → Option Value} {base : Heap}
theorem ok_take {f : Addr} {fd : FuncData} (F : Fun K "_law_take" "_law_take" sTake f fd) (ml : mg "len" = none) (mi : mg "int" = none) : FnRep P w K mg base 1 f fd ["draw", "many"] mTake := by
  refine F.okX scTake (fun vs H Q E h => h.1) fun cdv A outer s H vs Q E hr ⟨hl, dr, cl, sd, ds, G, d, r, nd, q⟩ => ?_
  -- the two arguments
  obtain ⟨m, rfl, hm⟩ : ∃ m : Int, ds = [.hdl, .int m] ∧ (0 < m ∧ m < 1073741824) := by
    unfold mTake at q
    split at q
    · split at q
      · rename_i h
        exact ⟨_, rfl, h⟩
      · exact q.elim
    · exact q.elim
  obtain ⟨v1, v2, G1, G2, rfl, rfl, r1, r2⟩ := Reps.two r
  cases r1
  cases r2
  have q' : PostF K mg dr cl H [] (.ok (.int ((sd.take m.toNat).1 : Nat), true) (sd.take m.toNat).2) Q E := by
    have e : mTake [.hdl, .int m] sd = .ok (.int ((sd.take m.toNat).1 : Nat), true) (sd.take m.toNat).2 := if_pos hm
    rw [e] at q
    exact q
  obtain ⟨e1, ne, e2, e3⟩ := id d
  refine ⟨_, C8.pss_cut (ps_if (pt_cmpR op_eq (pe_ix ix_list (pv 0) pe_int (fun _ _ => rfl)) pe_int (nomark _))
      (pss_cons (ps_asg (pe_op op_add (pe_ix ix_list (pv 0) pe_int (fun _ _ => rfl)) pe_int) (pg_sub (pv 0) pe_int set_list))
        (C8.pss_cut (ps_if (pt_cmpR op_lt (pe_ix ix_list (pv 0) pe_int (fun _ _ => rfl)) (pe_callB call_len_seq (by rfl) ml PySem.boot_len (pa_cons (pe_ix ix_list (pv 0) pe_int (fun _ _ => rfl)) pa_nil)) (nomark _))
            (pss_one (ps_asg (pe_ix ix_list (pe_ix ix_list (pv 0) pe_int (fun _ _ => rfl)) (pe_ix ix_list (pv 0) pe_int (fun _ _ => rfl)) (fun _ _ => rfl)) (pg_sub (pv 0) pe_int set_list))) pss_nil)
        (pss_one (ps_if (pt_cmpR op_eq (pe_ix ix_list (pv 0) pe_int (fun _ _ => rfl)) pe_int (nomark _))
            (pss_cons (ps_asg (pe_op op_mod (pe_callTy call_int1 (by rfl) mi PyProof.Rows.boot_int (pa_cons (pe_op op_add (pe_op op_mul (pe_ix ix_list (pv 0) pe_int (fun _ _ => rfl)) pe_int) pe_int) pa_nil)) pe_int) (pg_sub (pv 0) pe_int set_list))
              (pss_one (ps_asg (pe_ix ix_list (pv 0) pe_int (fun _ _ => rfl)) (pg_sub (pv 0) pe_int set_list)))) pss_nil)))) pss_nil)
    (pss_cons (ps_set (i := 2) scTake.nd rfl (.inl rfl) (pe_op op_mod (pe_callTy call_int1 (by rfl) mi PyProof.Rows.boot_int (pa_cons (pe_ix ix_list (pv 0) pe_int (fun _ _ => rfl)) pa_nil)) (pv 1)))
      (pss_cons (ps_asg (pe_op op_fdiv (pe_ix ix_list (pv 0) pe_int (fun _ _ => rfl)) (pv 1)) (pg_sub (pv 0) pe_int set_list))
        (pss_one (ps_ret (pv 2))))), fun σ1 H1 => σ1 = [some (.ref dr), some (.int m), none] ∧ Fr dr H H1 ∧ H1 dr = some (.lst [.ref cl, .int ((sd.turn.pos : Int) - 1), .int sd.turn.rest, .int sd.turn.seed]) ∧ sd.turn.seed < 2147483647, ?_, ?_⟩
  · have up : ∀ (H1 : Hp) (o : HO), Fr dr H H1 → Fr dr H (upd H1 dr o) := fun H1 o f a o' n e => by
      rw [upd_ne n]
      exact f a o' n e
    have clH : ∀ H1, Fr dr H H1 → H1 cl = some (.lst (sd.cells.map fun (n : Nat) => V.int (n : Int))) := fun H1 f => f _ _ ne e2
    refine ⟨.ref dr, rfl, dr, _, 2, _, rfl, rfl, SqL.of e1, rfl, rfl, _, rfl, ite2 (fun e => ?_) (fun e => ?_)⟩
    · have hr0 : sd.rest = 0 := by
        have := of_decide_eq_true e
        injection this with this
        omega
      -- draw[1] = draw[1] + 1
      refine ⟨.ref dr, rfl, dr, _, 1, _, rfl, rfl, SqL.of e1, rfl, _, _, rfl, rfl, .ref dr, rfl, dr, _, 1, 1, rfl, rfl, e1, rfl, ?_⟩
      -- draw[2] = draw[0][draw[1]]
      refine ⟨fun σ1 H1 => ∃ r : Nat, r = sd.cells.getD sd.pos 0 ∧ σ1 = [some (.ref dr), some (.int m), none] ∧ Fr dr H H1 ∧ H1 dr = some (.lst [.ref cl, .int (sd.pos : Int), .int (r : Int), .int sd.seed]), ?_, ?_⟩
      · have e5 : (upd H dr (.lst [.ref cl, .int ((sd.pos : Int) - 1 + 1), .int sd.rest, .int sd.seed])) dr = some (.lst [.ref cl, .int ((sd.pos : Int) - 1 + 1), .int sd.rest, .int sd.seed]) := upd_same
        have f5 := up H (.lst [.ref cl, .int ((sd.pos : Int) - 1 + 1), .int sd.rest, .int sd.seed]) Fr.refl
        have ep : (sd.pos : Int) - 1 + 1 = (sd.pos : Int) := by omega
        refine ⟨.ref dr, rfl, dr, _, 1, _, rfl, rfl, SqL.of e5, rfl, .ref dr, rfl, dr, _, 0, _, rfl, rfl, SqL.of e5, rfl, cl, _, rfl, .inl (SqL.of (clH _ f5)), _, _, rfl, rfl, _, rfl, ite2 (fun h => ?_) (fun h => ?_)⟩
        · have hlt : sd.pos < sd.cells.length := by
            have := of_decide_eq_true h
            rw [List.length_map] at this
            omega
          refine ⟨.ref dr, rfl, dr, _, 0, _, rfl, rfl, SqL.of e5, rfl, .ref dr, rfl, dr, _, 1, _, rfl, rfl, SqL.of e5, rfl, cl, _, _, .int (sd.cells[sd.pos] : Nat), rfl, rfl, SqL.of (clH _ f5), ?_, .ref dr, rfl, dr, _, 2, 2, rfl, rfl, e5, rfl, ?_⟩
          · rw [ep]
            exact atI_nat (by rw [List.getElem?_map, List.getElem?_eq_getElem hlt]; rfl)
          · refine ⟨sd.cells[sd.pos], ?_, rfl, up _ _ f5, ?_⟩
            · rw [List.getD_eq_getElem?_getD, List.getElem?_eq_getElem hlt]; rfl
            · rw [upd_same, ep]
              rfl
        · have hge : sd.cells.length ≤ sd.pos := by
            have hn : ¬ ((sd.pos : Int) - 1 + 1 < ((sd.cells.map fun (n : Nat) => V.int (n : Int)).length : Int)) := fun z => h (decide_eq_true z)
            rw [List.length_map] at hn
            omega
          refine ⟨0, ?_, rfl, f5, ?_⟩
          · rw [List.getD_eq_getElem?_getD, List.getElem?_eq_none hge]; rfl
          · refine e5.trans ?_
            rw [ep, hr0]
      · rintro σ1 H1 ⟨r, hr1, rfl, f1, k1⟩
        refine ⟨.ref dr, rfl, dr, _, 2, _, rfl, rfl, SqL.of k1, rfl, rfl, _, rfl, ite2 (fun h => ?_) (fun h => ?_)⟩
        · have hz : r = 0 := by
            have := of_decide_eq_true h
            injection this with this
            omega
          have et : sd.turn = { sd with pos := sd.pos + 1, rest := (sd.seed * 48271 + 11) % 2147483647, seed := (sd.seed * 48271 + 11) % 2147483647 } := by
            unfold DS.turn
            rw [if_pos hr0, ← hr1, hz]
            rfl
          have k2 : (upd H1 dr (.lst [.ref cl, .int (sd.pos : Int), .int (r : Int), .int (((sd.seed : Int) * 48271 + 11) % 2147483647)])) dr = some (.lst [.ref cl, .int (sd.pos : Int), .int (r : Int), .int (((sd.seed : Int) * 48271 + 11) % 2147483647)]) := upd_same
          refine ⟨.ref dr, rfl, dr, _, 3, _, rfl, rfl, SqL.of k1, rfl, _, _, rfl, rfl, .inl ⟨by omega, by omega⟩, _, _, rfl, rfl, .inl ⟨_, rfl, _, _, rfl, rfl, (show (0 : Int) < 2147483647 by decide), .ref dr, rfl, dr, _, 3, 3, rfl, rfl, k1, rfl, ?_⟩⟩
          refine ⟨.ref dr, rfl, dr, _, 3, _, rfl, rfl, SqL.of k2, rfl, .ref dr, rfl, dr, _, 2, 2, rfl, rfl, k2, rfl, rfl, up _ _ (up _ _ f1), ?_, ?_⟩
          · rw [upd_same, et]
            have z : (((sd.seed * 48271 + 11) % 2147483647 : Nat) : Int) = ((sd.seed : Int) * 48271 + 11) % 2147483647 := by omega
            show some (HO.lst [.ref cl, .int (sd.pos : Int), .int (((sd.seed : Int) * 48271 + 11) % 2147483647), .int (((sd.seed : Int) * 48271 + 11) % 2147483647)]) = some (HO.lst [.ref cl, .int (((sd.pos + 1 : Nat) : Int) - 1), .int (((sd.seed * 48271 + 11) % 2147483647 : Nat) : Int), .int (((sd.seed * 48271 + 11) % 2147483647 : Nat) : Int)])
            rw [z, show ((sd.pos + 1 : Nat) : Int) - 1 = (sd.pos : Int) by omega]
          · rw [et]
            exact Nat.mod_lt _ (by decide)
        · have hz : r ≠ 0 := fun z => h (by rw [z]; rfl)
          have et : sd.turn = { sd with pos := sd.pos + 1, rest := r } := by
            unfold DS.turn
            rw [if_pos hr0, ← hr1]
            exact if_neg hz
          refine ⟨rfl, f1, ?_, by rw [et]; exact e3⟩
          rw [k1, et]
          show some (HO.lst [.ref cl, .int (sd.pos : Int), .int (r : Int), .int sd.seed]) = some (HO.lst [.ref cl, .int (((sd.pos + 1 : Nat) : Int) - 1), .int (r : Int), .int sd.seed])
          rw [show ((sd.pos + 1 : Nat) : Int) - 1 = (sd.pos : Int) by omega]
    · have hr0 : ¬ sd.rest = 0 := fun z => e (by rw [z]; rfl)
      have et : sd.turn = sd := if_neg hr0
      exact ⟨rfl, Fr.refl, by rw [et]; exact e1, by rw [et]; exact e3⟩
  · rintro σ1 H1 ⟨rfl, f1, k1, k2⟩
    have hmn : ((m.toNat : Nat) : Int) = m := Int.toNat_of_nonneg (by omega)
    refine ⟨.ref dr, rfl, dr, _, 2, _, rfl, rfl, SqL.of k1, rfl, .inl ⟨_, rfl, _, rfl, _, _, rfl, rfl, hm.1, ?_⟩⟩
    refine ⟨.ref dr, rfl, dr, _, 2, _, rfl, rfl, SqL.of k1, rfl, _, rfl, _, _, rfl, rfl, hm, .ref dr, rfl, dr, _, 2, 2, rfl, rfl, k1, rfl, ?_⟩
    refine ⟨_, rfl, ?_⟩
    have f2 : Fr dr H (upd H1 dr (.lst [.ref cl, .int ((sd.turn.pos : Int) - 1), .int ((sd.turn.rest : Int) / m), .int sd.turn.seed])) := fun a o' n e => by
      rw [upd_ne n]
      exact f1 a o' n e
    have ev : ((sd.turn.rest : Int) % m) = (((sd.take m.toNat).1 : Nat) : Int) := by
      show _ = ((sd.turn.rest % m.toNat : Nat) : Int)
      rw [Int.natCast_emod, hmn]
    refine q' (.int ((sd.turn.rest : Int) % m)) _ [] f2 ⟨?_, ne, ?_, k2⟩ (by rw [ev]; exact .int _) ResOk.nil
    · rw [upd_same]
      show some (HO.lst [.ref cl, .int ((sd.turn.pos : Int) - 1), .int ((sd.turn.rest : Int) / m), .int sd.turn.seed]) = some (HO.lst [.ref cl, .int ((sd.turn.pos : Int) - 1), .int ((sd.turn.rest / m.toNat : Nat) : Int), .int sd.turn.seed])
      rw [Int.natCast_ediv, hmn]
    · have : (sd.take m.toNat).2.cells = sd.cells := by
        show sd.turn.cells = sd.cells
        unfold DS.turn
        split
        · dsimp only
          split <;> rfl
        · rfl
      rw [this]
      exact f2 _ _ ne e2

theorem scDraw : FnScope ["script", "seed", "cell"] ["script"] (defScope sDraw) := ⟨rfl, rfl, rfl, by decide +kernel, rfl, by decide +kernel, by decide +kernel⟩
theorem ok_draw {f : Addr} {fd : FuncData} (F : Fun K "_law_draw" "_law_draw" sDraw f fd) (mi : mg "int" = none) (ma : mg "abs" = none) : FnOk P w K mg base (L2.CX P w) 1 f fd ["script"] (spDraw K) := by
  refine F.okX scDraw (fun vs H Q E h => ?_) fun cdv A outer s H vs Q E hr h => ?_
  · obtain ⟨a, ns, rfl, _⟩ := h
    rfl
  obtain ⟨a, ns, rfl, hS, hlen, q⟩ := h
  refine ⟨_, pss_cons (ps_set (i := 1) scDraw.nd rfl (.inl rfl) pe_int)
    (pss_cons (ps_for (passes_of rfl) rfl (pi_list (pv 0)) (pg_name (i := 2) scDraw.nd rfl (.inl rfl))
      (pss_one (ps_set (i := 1) scDraw.nd rfl (.inl rfl) (pe_op op_mod (pe_callTy call_int1 (by rfl) mi PyProof.Rows.boot_int (pa_cons (pe_op op_add (pe_op op_add (pe_op op_mul (pv 1) pe_int)
        (pe_op op_mod (pe_callB call_abs (by rfl) ma PyProof.Rows.boot_abs (pa_cons (pe_callTy call_int1 (by rfl) mi PyProof.Rows.boot_int (pa_cons (pv 2) pa_nil)) pa_nil)) pe_int)) pe_int) pa_nil)) pe_int))))
    (pss_one (ps_ret (pe_lst (pa_cons (pe_lc (own := [("cell", 2)]) (g := gName 2) (tt := tYes) rfl scDraw.nd (pi_list (pv 0)) (blkOk_by (N := ["script", "seed", "cell"]) (sc := defScope sDraw) (by decide +kernel)) (fun _ _ _ _ _ => pg_name (i := 2) scDraw.nd rfl (.inl rfl)) (fun _ _ _ _ _ => pts_nil)
        (fun _ _ _ _ _ => pe_callB call_abs (by rfl) ma PyProof.Rows.boot_abs (pa_cons (pe_callTy call_int1 (by rfl) mi PyProof.Rows.boot_int (pa_cons (pv 2) pa_nil)) pa_nil)))
      (pa_cons (pe_un un_neg pe_int) (pa_cons pe_int (pa_cons (pv 1) pa_nil)))))))), ?_⟩
  have habs : ∀ x : Int, (if x < 0 then -x else x) = ((x.natAbs : Nat) : Int) := fun x => by split <;> omega
  have hsd : ∀ (ns : List Int) (s : Nat), s < 2147483647 → seedOf ns s < 2147483647 := by
    intro ns
    induction ns with
    | nil => exact fun s h => h
    | cons n ns ih => exact fun s h => ih _ (Nat.mod_lt _ (by decide))
  have hst : ∀ (ns : List Int) (m : Int) (s : Nat), seedOf (ns ++ [m]) s = (seedOf ns s * 48271 + m.natAbs % 65521 + 1) % 2147483647 := by
    intro ns
    induction ns with
    | nil => exact fun m s => rfl
    | cons n ns ih => exact fun m s => ih m _
  refine ⟨.ref a, rfl, a, rfl, ⟨_, hS⟩, for_list (K := K) (a := a) (xs := ns.map V.int) (fun i σ H' => ∃ v, H' = H ∧ σ = [some (.ref a), some (.int (seedOf (ns.take i) 7 : Nat)), v]) ⟨none, rfl, rfl⟩ (fun i σ H' _ ⟨_, e, _⟩ => e ▸ hS) ?_ ?_⟩
  · rintro i y σ H' hi ⟨v, rfl, rfl⟩
    rw [List.getElem?_map] at hi
    cases e : ns[i]? with
    | none => rw [e] at hi; cases hi
    | some n =>
      rw [e] at hi
      cases hi
      have hb := hsd (ns.take i) 7 (by decide)
      refine ⟨_, rfl, _, _, rfl, rfl, .inl ⟨by omega, by omega⟩, _, rfl, .inl ⟨_, rfl, _, rfl, _, _, rfl, rfl, (show (0 : Int) < 65521 by decide), _, _, rfl, rfl, _, _, rfl, rfl, .inl ⟨_, rfl, _, _, rfl, rfl, (show (0 : Int) < 2147483647 by decide), ?_⟩⟩⟩
      refine ⟨some (.int n), rfl, ?_⟩
      have ei : i < ns.length := (List.getElem?_eq_some_iff.mp e).1
      have et : ns.take (i + 1) = ns.take i ++ [n] := by
        rw [List.take_add_one, e]
        rfl
      rw [et, hst]
      have ez : (((seedOf (ns.take i) 7 * 48271 + n.natAbs % 65521 + 1) % 2147483647 : Nat) : Int) = ((seedOf (ns.take i) 7 : Int) * 48271 + (if n < 0 then -n else n) % 65521 + 1) % 2147483647 := by
        rw [habs]
        omega
      show [some (V.ref a), some (V.int (((seedOf (ns.take i) 7 : Int) * 48271 + (if n < 0 then -n else n) % 65521 + 1) % 2147483647)), some (V.int n)] = _
      rw [← ez]
  · rintro σ H' ⟨v, rfl, rfl⟩
    have el : ns.take (ns.map V.int).length = ns := by
      rw [List.length_map]
      exact List.take_length
    rw [el]
    refine ⟨.ref a, rfl, a, rfl, ⟨_, hS⟩, fun p hp => lc_list (K := K) (a := a) (xs := ns.map V.int) (fun i H1 => H1 = upd H' p (.lst ((ns.take i).map fun x => V.int (x.natAbs : Nat)))) rfl ?_ ?_ ?_⟩
    · rintro i H1 _ rfl
      exact (Same.upd hp).seq hS
    · rintro i x H1 hi rfl
      rw [List.getElem?_map] at hi
      cases e : ns[i]? with
      | none => rw [e] at hi; cases hi
      | some n =>
        rw [e] at hi
        cases hi
        refine ⟨rfl, _, rfl, .inl ⟨_, rfl, _, rfl, _, upd_same, ?_, ?_⟩⟩
        · rw [List.length_map, List.length_take, sizeLine_eq]
          omega
        · rw [upd_upd]
          have et : ns.take (i + 1) = ns.take i ++ [n] := by
            rw [List.take_add_one, e]
            rfl
          rw [et, List.map_append, habs]
          rfl
    · rintro H1 rfl
      rw [el]
      refine ⟨_, rfl, _, rfl, by show 4 ≤ sizeLine; rw [sizeLine_eq]; decide, fun d hd => ?_⟩
      have npd : p ≠ d := fun z => by rw [← z, upd_same] at hd; cases hd
      have hd0 : H' d = none := by rw [upd_ne npd.symm] at hd; exact hd
      refine q _ d p ?_ hd0 ⟨?_, npd, ?_, ?_⟩
      · exact (Same.upd hp).trans (Same.upd hd)
      · rw [upd_same]
        rfl
      · rw [upd_ne npd, upd_same]
        show some (HO.lst (ns.map fun x => V.int (x.natAbs : Nat))) = some (HO.lst ((ns.map Int.natAbs).map fun (n : Nat) => V.int (n : Int)))
        rw [List.map_map]
        rfl
      · exact hsd ns 7 (by decide)
end
end K26
end
section
set_option Elab.async false
set_option linter.all false
set_option maxRecDepth 100000
set_option maxHeartbeats 4000000
namespace K26
open PySem PySem.Spec L2 Sm
abbrev s_is_integer : Stmt := topS 4
abbrev N_is_integer : List Str := ["value", "low", "high"]
theorem sc_is_integer : FnScope N_is_integer ["value", "low", "high"] (defScope s_is_integer) := ⟨rfl, rfl, rfl, by decide +kernel, rfl, by decide +kernel, by decide +kernel⟩
abbrev s_greatest_divisor : Stmt := topS 7
abbrev N_greatest_divisor : List Str := ["a", "b"]
theorem sc_greatest_divisor : FnScope N_greatest_divisor ["a", "b"] (defScope s_greatest_divisor) := ⟨rfl, rfl, rfl, by decide +kernel, rfl, by decide +kernel, by decide +kernel⟩
abbrev s_has : Stmt := topS 9
abbrev N_has : List Str := ["calendar", "day", "head", "ring"]
theorem sc_has : FnScope N_has ["calendar", "day"] (defScope s_has) := ⟨rfl, rfl, rfl, by decide +kernel, rfl, by decide +kernel, by decide +kernel⟩
abbrev s__law_has : Stmt := topS 21
abbrev N__law_has : List Str := ["calendar", "day", "head", "ring", "rest"]
theorem sc__law_has : FnScope N__law_has ["calendar", "day"] (defScope s__law_has) := ⟨rfl, rfl, rfl, by decide +kernel, rfl, by decide +kernel, by decide +kernel⟩
abbrev s_is_row : Stmt := topS 5
abbrev N_is_row : List Str := ["value", "low", "high", "one"]
theorem sc_is_row : FnScope N_is_row ["value", "low", "high"] (defScope s_is_row) := ⟨rfl, rfl, rfl, by decide +kernel, rfl, by decide +kernel, by decide +kernel⟩
abbrev s_common_length : Stmt := topS 10
abbrev N_common_length : List Str := ["a", "b"]
theorem sc_common_length : FnScope N_common_length ["a", "b"] (defScope s_common_length) := ⟨rfl, rfl, rfl, by decide +kernel, rfl, by decide +kernel, by decide +kernel⟩
abbrev s_clashing_rests : Stmt := topS 16
abbrev N_clashing_rests : List Str := ["rests", "j", "l", "s", "i", "k", "r"]
theorem sc_clashing_rests : FnScope N_clashing_rests ["rests"] (defScope s_clashing_rests) := ⟨rfl, rfl, rfl, by decide +kernel, rfl, by decide +kernel, by decide +kernel⟩
abbrev s__law_row : Stmt := topS 20
abbrev N__law_row : List Str := ["draw", "low", "high", "k"]
theorem sc__law_row : FnScope N__law_row ["draw", "low", "high"] (defScope s__law_row) := ⟨rfl, rfl, rfl, by decide +kernel, rfl, by decide +kernel, by decide +kernel⟩
abbrev s_first_gap : Stmt := topS 12
abbrev N_first_gap : List Str := ["calendars", "length", "calendar", "day"]
theorem sc_first_gap : FnScope N_first_gap ["calendars"] (defScope s_first_gap) := ⟨rfl, rfl, rfl, by decide +kernel, rfl, by decide +kernel, by decide +kernel⟩
abbrev s_remainder_day : Stmt := topS 14
abbrev N_remainder_day : List Str := ["rests", "length", "day", "k", "r", "tries"]
theorem sc_remainder_day : FnScope N_remainder_day ["rests"] (defScope s_remainder_day) := ⟨rfl, rfl, rfl, by decide +kernel, rfl, by decide +kernel, by decide +kernel⟩
abbrev s_judge_no_remainder : Stmt := topS 15
abbrev N_judge_no_remainder : List Str := ["rests", "pair", "k", "r", "l", "s"]
theorem sc_judge_no_remainder : FnScope N_judge_no_remainder ["rests", "pair"] (defScope s_judge_no_remainder) := ⟨rfl, rfl, rfl, by decide +kernel, rfl, by decide +kernel, by decide +kernel⟩
abbrev s_covers : Stmt := topS 13
abbrev N_covers : List Str := ["calendars"]
theorem sc_covers : FnScope N_covers ["calendars"] (defScope s_covers) := ⟨rfl, rfl, rfl, by decide +kernel, rfl, by decide +kernel, by decide +kernel⟩
abbrev s__law_taken : Stmt := topS 22
abbrev N__law_taken : List Str := ["rests", "pair"]
theorem sc__law_taken : FnScope N__law_taken ["rests", "pair"] (defScope s__law_taken) := ⟨rfl, rfl, rfl, by decide +kernel, rfl, by decide +kernel, by decide +kernel⟩
abbrev s_law : Stmt := topS 23
abbrev N_law : List Str := ["script", "draw", "turn", "k", "calendars", "day", "one", "gaps", "rests", "length", "product", "rest", "fine", "due", "j", "i", "days", "pair", "good", "bad"]
theorem sc_law : FnScope N_law ["script"] (defScope s_law) := ⟨rfl, rfl, rfl, by decide +kernel, rfl, by decide +kernel, by decide +kernel⟩
structure Blt (K : PySem.W.Frag) (mg : Str → Option Value) where
  abs : mg "abs" = none
  all : mg "all" = none
  any : mg "any" = none
  bool : mg "bool" = none
  enumerate : mg "enumerate" = none
  int : mg "int" = none
  isinstance : mg "isinstance" = none
  len : mg "len" = none
  max : mg "max" = none
  range : mg "range" = none
  tuple : mg "tuple" = none
  e_DelayError : Ec K mg "DelayError"
  e_BadPaper : Ec K mg "BadPaper"
  s_DelayError_BadPaper : PySem.W.subIn K (.ref e_DelayError.C) (.ref e_BadPaper.C) = some false
  s_BadPaper_BadPaper : PySem.W.subIn K (.ref e_BadPaper.C) (.ref e_BadPaper.C) = some true
theorem k_BadPaper {K : PySem.W.Frag} {mg : Str → Option Value} (B : Blt K mg) : ∀ p ∈ ([("DelayError", false), ("BadPaper", true)] : List (String × Bool)), ∃ u, mg (Str.ofString p.1) = some u ∧ PySem.W.exmOne K u (.ref B.e_BadPaper.C) = some p.2 := List.forall_mem_cons.mpr ⟨exm_ec B.e_DelayError B.e_BadPaper B.s_DelayError_BadPaper, List.forall_mem_cons.mpr ⟨exm_ec B.e_BadPaper B.e_BadPaper B.s_BadPaper_BadPaper, fun _ h => nomatch h⟩⟩
section
variable {P : Program} {w : World} {K : PySem.W.Frag} {mg : Str → Option Value} {base : Heap}
theorem wk_is_integer {f : Addr} {fd : FuncData} (B : Blt K mg) (F : Fun K "is_integer" "is_integer" s_is_integer f fd) : FnRep P w K mg base 1 f fd ["value", "low", "high"] m_is_integer :=
  fn_rep (k := 0) F sc_is_integer (fun cdv A outer s H E hr => by
    have hu : (A.deeper (PyProof.Rows.envOfC "is_integer" (defScope s_is_integer) s.heap.objs.size f cdv)).units + 64 < cLine := by have := hr.un; omega
    have hu5 : (A.deeper (PyProof.Rows.envOfC "is_integer" (defScope s_is_integer) s.heap.objs.size f cdv)).units + 65 < cLine := by have := hr.un; omega
    exact (ss_cons (s_if (t_bop (w_or (t_not (t_val (e_isi (by decide) (by decide +kernel) (e_var (i := 0) rfl (.inl rfl)) rfl B.isinstance rfl B.int))) (w_or1 (t_val (e_isi (by decide) (by decide +kernel) (e_var (i := 0) rfl (.inl rfl)) rfl B.isinstance rfl B.bool))))) (ss_one (s_ret e_bl)) ss_nil)
    (ss_one (s_ret (e_and (e_or (e_cmp op_gIs (e_var (i := 1) rfl (.inl rfl)) e_non) (e_one (e_cmp op_gGe (e_var (i := 0) rfl (.inl rfl)) (e_var (i := 1) rfl (.inl rfl))))) (e_one (e_or (e_cmp op_gIs (e_var (i := 2) rfl (.inl rfl)) e_non) (e_one (e_cmp op_gLe (e_var (i := 0) rfl (.inl rfl)) (e_var (i := 2) rfl (.inl rfl)))))))))))
theorem wk_greatest_divisor {f : Addr} {fd : FuncData} (B : Blt K mg) (F : Fun K "greatest_divisor" "greatest_divisor" s_greatest_divisor f fd) : FnRep P w K mg base 1 f fd ["a", "b"] m_greatest_divisor :=
  fn_rep (k := 0) F sc_greatest_divisor (fun cdv A outer s H E hr => by
    have hu : (A.deeper (PyProof.Rows.envOfC "greatest_divisor" (defScope s_greatest_divisor) s.heap.objs.size f cdv)).units + 64 < cLine := by have := hr.un; omega
    have hu5 : (A.deeper (PyProof.Rows.envOfC "greatest_divisor" (defScope s_greatest_divisor) s.heap.objs.size f cdv)).units + 65 < cLine := by have := hr.un; omega
    exact (ss_cons (s_par (i := 0) (j := 1) rfl sc_greatest_divisor.nd rfl rfl (by decide) rfl rfl (a_cons (e_fnB call_gAbs rfl B.abs (by decide +kernel) (a_cons (e_var (i := 0) rfl (.inl rfl)) a_nil)) (a_cons (e_fnB call_gAbs rfl B.abs (by decide +kernel) (a_cons (e_var (i := 1) rfl (.inl rfl)) a_nil)) a_nil)))
    (ss_cons (s_while FUEL (passes_of rfl) (t_val (e_var (i := 1) rfl (.inl rfl))) (ss_one (s_par (i := 0) (j := 1) rfl sc_greatest_divisor.nd rfl rfl (by decide) rfl rfl (a_cons (e_var (i := 1) rfl (.inl rfl)) (a_cons (e_bin op_gMod (e_var (i := 0) rfl (.inl rfl)) (e_var (i := 1) rfl (.inl rfl))) a_nil)))))
    (ss_one (s_retV (i := 0) rfl (.inl rfl))))))
theorem wk_has {f : Addr} {fd : FuncData} (B : Blt K mg) (F : Fun K "has" "has" s_has f fd) : FnRep P w K mg base 1 f fd ["calendar", "day"] m_has :=
  fn_rep (k := 0) F sc_has (fun cdv A outer s H E hr => by
    have hu : (A.deeper (PyProof.Rows.envOfC "has" (defScope s_has) s.heap.objs.size f cdv)).units + 64 < cLine := by have := hr.un; omega
    have hu5 : (A.deeper (PyProof.Rows.envOfC "has" (defScope s_has) s.heap.objs.size f cdv)).units + 65 < cLine := by have := hr.un; omega
    exact (ss_cons (s_asg (e_var (i := 0) rfl (.inl rfl)) (g_tup rfl (gs_cons (g_name (i := 2) sc_has.nd rfl (.inl rfl)) (gs_cons (g_name (i := 3) sc_has.nd rfl (.inl rfl)) gs_nil))))
    (ss_one (s_ret (e_if (t_cmp op_gLt (e_var (i := 1) rfl (.inl rfl)) (e_fnB call_gLen rfl B.len (by decide +kernel) (a_cons (e_var (i := 2) rfl (.inl rfl)) a_nil))) (e_cmp (op_gEq hu) (e_ix ix_gIx (e_var (i := 2) rfl (.inl rfl)) (e_var (i := 1) rfl (.inl rfl))) e_int) (e_cmp (op_gEq hu) (e_ix ix_gIx (e_var (i := 3) rfl (.inl rfl)) (e_bin op_gMod (e_bin op_gSub (e_var (i := 1) rfl (.inl rfl)) (e_fnB call_gLen rfl B.len (by decide +kernel) (a_cons (e_var (i := 2) rfl (.inl rfl)) a_nil))) (e_fnB call_gLen rfl B.len (by decide +kernel) (a_cons (e_var (i := 3) rfl (.inl rfl)) a_nil)))) e_int))))))
theorem wk__law_has {f : Addr} {fd : FuncData} (B : Blt K mg) (F : Fun K "_law_has" "_law_has" s__law_has f fd) : FnRep P w K mg base 1 f fd ["calendar", "day"] m__law_has :=
  fn_rep (k := 0) F sc__law_has (fun cdv A outer s H E hr => by
    have hu : (A.deeper (PyProof.Rows.envOfC "_law_has" (defScope s__law_has) s.heap.objs.size f cdv)).units + 64 < cLine := by have := hr.un; omega
    have hu5 : (A.deeper (PyProof.Rows.envOfC "_law_has" (defScope s__law_has) s.heap.objs.size f cdv)).units + 65 < cLine := by have := hr.un; omega
    exact (ss_cons (s_asg (e_var (i := 0) rfl (.inl rfl)) (g_tup rfl (gs_cons (g_name (i := 2) sc__law_has.nd rfl (.inl rfl)) (gs_cons (g_name (i := 3) sc__law_has.nd rfl (.inl rfl)) gs_nil))))
    (ss_cons (s_if (t_cmp op_gLt (e_var (i := 1) rfl (.inl rfl)) (e_fnB call_gLen rfl B.len (by decide +kernel) (a_cons (e_var (i := 2) rfl (.inl rfl)) a_nil))) (ss_one (s_ret (e_cmp (op_gEq hu) (e_ix ix_gIx (e_var (i := 2) rfl (.inl rfl)) (e_var (i := 1) rfl (.inl rfl))) e_int))) ss_nil)
    (ss_cons (s_set (i := 4) sc__law_has.nd rfl (.inl rfl) (e_bin op_gSub (e_var (i := 1) rfl (.inl rfl)) (e_fnB call_gLen rfl B.len (by decide +kernel) (a_cons (e_var (i := 2) rfl (.inl rfl)) a_nil))))
    (ss_one (s_ret (e_cmp (op_gEq hu) (e_ix ix_gIx (e_var (i := 3) rfl (.inl rfl)) (e_bin op_gSub (e_var (i := 4) rfl (.inl rfl)) (e_bin op_gMul (e_fnB call_gLen rfl B.len (by decide +kernel) (a_cons (e_var (i := 3) rfl (.inl rfl)) a_nil)) (e_bin op_gDiv (e_var (i := 4) rfl (.inl rfl)) (e_fnB call_gLen rfl B.len (by decide +kernel) (a_cons (e_var (i := 3) rfl (.inl rfl)) a_nil)))))) e_int)))))))
theorem wk_is_row {f : Addr} {fd : FuncData} (B : Blt K mg) (D_is_integer : Df P w K mg base 1 "is_integer" ["value", "low", "high"] m_is_integer) (F : Fun K "is_row" "is_row" s_is_row f fd) : FnRep P w K mg base 2 f fd ["value", "low", "high"] m_is_row :=
  fn_rep (k := 1) F sc_is_row (fun cdv A outer s H E hr => by
    have hu : (A.deeper (PyProof.Rows.envOfC "is_row" (defScope s_is_row) s.heap.objs.size f cdv)).units + 64 < cLine := by have := hr.un; omega
    have hu5 : (A.deeper (PyProof.Rows.envOfC "is_row" (defScope s_is_row) s.heap.objs.size f cdv)).units + 65 < cLine := by have := hr.un; omega
    exact (ss_one (s_ret (e_and (e_isi (by decide) (by decide +kernel) (e_var (i := 0) rfl (.inl rfl)) rfl B.isinstance rfl B.tuple) (e_one (e_fnB (call_gAll rfl) rfl B.all (by decide +kernel) (a_cons (e_lc [3] rfl sc_is_row.nd (i_seq (e_var (i := 0) rfl (.inl rfl))) (blkOk_by (N := N_is_row) (sc := (defScope s_is_row)) (scope := lcSc (exN (exN (stE (stB s_is_row 0)) 1) 1)) (own := [("one", 3)]) (by decide +kernel)) (fun _ _ _ _ _ => (g_name (i := 3) sc_is_row.nd rfl (.inl rfl))) (fun _ _ _ _ _ => ts_nil) (fun _ _ _ _ _ => (e_df D_is_integer hr (by decide) rfl takes0 (a_cons (e_var (i := 3) rfl (.inl rfl)) (a_cons (e_var (i := 1) rfl (.inr (.inl rfl))) (a_cons (e_var (i := 2) rfl (.inr (.inl rfl))) a_nil)))))) a_nil)))))))
theorem wk_common_length {f : Addr} {fd : FuncData} (B : Blt K mg) (D_greatest_divisor : Df P w K mg base 1 "greatest_divisor" ["a", "b"] m_greatest_divisor) (F : Fun K "common_length" "common_length" s_common_length f fd) : FnRep P w K mg base 2 f fd ["a", "b"] m_common_length :=
  fn_rep (k := 1) F sc_common_length (fun cdv A outer s H E hr => by
    have hu : (A.deeper (PyProof.Rows.envOfC "common_length" (defScope s_common_length) s.heap.objs.size f cdv)).units + 64 < cLine := by have := hr.un; omega
    have hu5 : (A.deeper (PyProof.Rows.envOfC "common_length" (defScope s_common_length) s.heap.objs.size f cdv)).units + 65 < cLine := by have := hr.un; omega
    exact (ss_one (s_ret (e_bin op_gDiv (e_bin op_gMul (e_var (i := 0) rfl (.inl rfl)) (e_var (i := 1) rfl (.inl rfl))) (e_df D_greatest_divisor hr (by decide) rfl (takes_of rfl rfl rfl rfl) (a_cons (e_var (i := 0) rfl (.inl rfl)) (a_cons (e_var (i := 1) rfl (.inl rfl)) a_nil)))))))
theorem wk_clashing_rests {f : Addr} {fd : FuncData} (B : Blt K mg) (D_greatest_divisor : Df P w K mg base 1 "greatest_divisor" ["a", "b"] m_greatest_divisor) (F : Fun K "clashing_rests" "clashing_rests" s_clashing_rests f fd) : FnRep P w K mg base 2 f fd ["rests"] m_clashing_rests :=
  fn_rep (k := 1) F sc_clashing_rests (fun cdv A outer s H E hr => by
    have hu : (A.deeper (PyProof.Rows.envOfC "clashing_rests" (defScope s_clashing_rests) s.heap.objs.size f cdv)).units + 64 < cLine := by have := hr.un; omega
    have hu5 : (A.deeper (PyProof.Rows.envOfC "clashing_rests" (defScope s_clashing_rests) s.heap.objs.size f cdv)).units + 65 < cLine := by have := hr.un; omega
    exact (ss_cons (s_for (passes_of rfl) rfl (i_enum rfl B.enumerate (a_cons (e_var (i := 0) rfl (.inl rfl)) a_nil)) (g_tup rfl (gs_cons (g_name (i := 1) sc_clashing_rests.nd rfl (.inl rfl)) (gs_cons (g_tup rfl (gs_cons (g_name (i := 2) sc_clashing_rests.nd rfl (.inl rfl)) (gs_cons (g_name (i := 3) sc_clashing_rests.nd rfl (.inl rfl)) gs_nil))) gs_nil))) (ss_one (s_for (passes_of rfl) rfl (i_range1 rfl B.range (a_cons (e_var (i := 1) rfl (.inl rfl)) a_nil)) (g_name (i := 4) sc_clashing_rests.nd rfl (.inl rfl)) (ss_cons (s_asg (e_ix ix_gIx (e_var (i := 0) rfl (.inl rfl)) (e_var (i := 4) rfl (.inl rfl))) (g_tup rfl (gs_cons (g_name (i := 5) sc_clashing_rests.nd rfl (.inl rfl)) (gs_cons (g_name (i := 6) sc_clashing_rests.nd rfl (.inl rfl)) gs_nil))))
    (ss_one (s_if (t_cmp (op_gNe hu) (e_bin op_gMod (e_bin op_gSub (e_var (i := 6) rfl (.inl rfl)) (e_var (i := 3) rfl (.inl rfl))) (e_df D_greatest_divisor hr (by decide) rfl (takes_of rfl rfl rfl rfl) (a_cons (e_var (i := 5) rfl (.inl rfl)) (a_cons (e_var (i := 2) rfl (.inl rfl)) a_nil)))) e_int) (ss_one (s_ret (e_tup (a_cons (e_var (i := 4) rfl (.inl rfl)) (a_cons (e_var (i := 1) rfl (.inl rfl)) a_nil))))) ss_nil))))))
    (ss_one (s_ret e_non))))
theorem wk__law_row {f : Addr} {fd : FuncData} (B : Blt K mg) (D__law_take : Df P w K mg base 1 "_law_take" ["draw", "many"] m__law_take) (F : Fun K "_law_row" "_law_row" s__law_row f fd) : FnRep P w K mg base 2 f fd ["draw", "low", "high"] m__law_row :=
  fn_rep (k := 1) F sc__law_row (fun cdv A outer s H E hr => by
    have hu : (A.deeper (PyProof.Rows.envOfC "_law_row" (defScope s__law_row) s.heap.objs.size f cdv)).units + 64 < cLine := by have := hr.un; omega
    have hu5 : (A.deeper (PyProof.Rows.envOfC "_law_row" (defScope s__law_row) s.heap.objs.size f cdv)).units + 65 < cLine := by have := hr.un; omega
    exact (ss_one (s_ret (e_fnT call_gTuple rfl B.tuple (by decide +kernel) (a_cons (e_lc [3] rfl sc__law_row.nd (i_range1 rfl B.range (a_cons (e_bin op_gAdd (e_var (i := 1) rfl (.inl rfl)) (e_df D__law_take hr (by decide) rfl (takes_of rfl rfl rfl rfl) (a_cons (e_var (i := 0) rfl (.inr (.inl rfl))) (a_cons (e_bin op_gAdd (e_bin op_gSub (e_var (i := 2) rfl (.inl rfl)) (e_var (i := 1) rfl (.inl rfl))) e_int) a_nil)))) a_nil)) (blkOk_by (N := N__law_row) (sc := (defScope s__law_row)) (scope := lcSc (exN (stE (stB s__law_row 0)) 1)) (own := [("k", 3)]) (by decide +kernel)) (fun _ _ _ _ _ => (g_name (i := 3) sc__law_row.nd rfl (.inl rfl))) (fun _ _ _ _ _ => ts_nil) (fun _ _ _ _ _ => (e_df D__law_take hr (by decide) rfl takes0 (a_cons (e_var (i := 0) rfl (.inr (.inl rfl))) (a_cons e_int a_nil))))) a_nil)))))
theorem wk_first_gap {f : Addr} {fd : FuncData} (B : Blt K mg) (D_has : Df P w K mg base 1 "has" ["calendar", "day"] m_has) (D_common_length : Df P w K mg base 2 "common_length" ["a", "b"] m_common_length) (F : Fun K "first_gap" "first_gap" s_first_gap f fd) : FnRep P w K mg base 3 f fd ["calendars"] m_first_gap :=
  fn_rep (k := 2) F sc_first_gap (fun cdv A outer s H E hr => by
    have hu : (A.deeper (PyProof.Rows.envOfC "first_gap" (defScope s_first_gap) s.heap.objs.size f cdv)).units + 64 < cLine := by have := hr.un; omega
    have hu5 : (A.deeper (PyProof.Rows.envOfC "first_gap" (defScope s_first_gap) s.heap.objs.size f cdv)).units + 65 < cLine := by have := hr.un; omega
    exact (ss_cons (s_set (i := 1) sc_first_gap.nd rfl (.inl rfl) e_int)
    (ss_cons (s_for (passes_of rfl) rfl (i_seq (e_var (i := 0) rfl (.inl rfl))) (g_name (i := 2) sc_first_gap.nd rfl (.inl rfl)) (ss_one (s_set (i := 1) sc_first_gap.nd rfl (.inl rfl) (e_df D_common_length hr (by decide) rfl (takes_of rfl rfl rfl rfl) (a_cons (e_var (i := 1) rfl (.inl rfl)) (a_cons (e_fnB call_gLen rfl B.len (by decide +kernel) (a_cons (e_ix ix_gIx (e_var (i := 2) rfl (.inl rfl)) e_int) a_nil)) a_nil))))))
    (ss_cons (s_for (passes_of rfl) rfl (i_range1 rfl B.range (a_cons (e_bin op_gAdd (e_fnB (call_gMax rfl) rfl B.max (by decide +kernel) (a_cons (e_bin op_gAdd (e_lst (a_cons e_int a_nil)) (e_lc [2] rfl sc_first_gap.nd (i_seq (e_var (i := 0) rfl (.inl rfl))) (blkOk_by (N := N_first_gap) (sc := (defScope s_first_gap)) (scope := lcSc (exN (exN (exN (exN (stE (stB s_first_gap 2)) 1) 0) 1) 1)) (own := [("calendar", 2)]) (by decide +kernel)) (fun _ _ _ _ _ => (g_name (i := 2) sc_first_gap.nd rfl (.inl rfl))) (fun _ _ _ _ _ => ts_nil) (fun _ _ _ _ _ => (e_fnB call_gLen rfl B.len (by decide +kernel) (a_cons (e_ix ix_gIx (e_var (i := 2) rfl (.inl rfl)) e_int) a_nil))))) a_nil)) (e_var (i := 1) rfl (.inl rfl))) a_nil)) (g_name (i := 3) sc_first_gap.nd rfl (.inr rfl)) (ss_one (s_if (t_not (t_val (e_fnB (call_gAny rfl) rfl B.any (by decide +kernel) (a_cons (e_lc [2] rfl sc_first_gap.nd (i_seq (e_var (i := 0) rfl (.inl rfl))) (blkOk_by (N := N_first_gap) (sc := (defScope s_first_gap)) (scope := lcSc (exN (exN (stE (stB (stB s_first_gap 2) 0)) 0) 1)) (own := [("calendar", 2)]) (by decide +kernel)) (fun _ _ _ _ _ => (g_name (i := 2) sc_first_gap.nd rfl (.inl rfl))) (fun _ _ _ _ _ => ts_nil) (fun _ _ _ _ _ => (e_df D_has hr (by decide) rfl takes0 (a_cons (e_var (i := 2) rfl (.inl rfl)) (a_cons (e_var (i := 3) rfl (.inr (.inl rfl))) a_nil))))) a_nil)))) (ss_one (s_retV (i := 3) rfl (.inr (.inl rfl)))) ss_nil)))
    (ss_one (s_ret e_non))))))
theorem wk_remainder_day {f : Addr} {fd : FuncData} (B : Blt K mg) (D_common_length : Df P w K mg base 2 "common_length" ["a", "b"] m_common_length) (F : Fun K "remainder_day" "remainder_day" s_remainder_day f fd) : FnRep P w K mg base 3 f fd ["rests"] m_remainder_day :=
  fn_rep (k := 2) F sc_remainder_day (fun cdv A outer s H E hr => by
    have hu : (A.deeper (PyProof.Rows.envOfC "remainder_day" (defScope s_remainder_day) s.heap.objs.size f cdv)).units + 64 < cLine := by have := hr.un; omega
    have hu5 : (A.deeper (PyProof.Rows.envOfC "remainder_day" (defScope s_remainder_day) s.heap.objs.size f cdv)).units + 65 < cLine := by have := hr.un; omega
    exact (ss_cons (s_asg (e_tup (a_cons e_int (a_cons e_int a_nil))) (g_tup rfl (gs_cons (g_name (i := 1) sc_remainder_day.nd rfl (.inl rfl)) (gs_cons (g_name (i := 2) sc_remainder_day.nd rfl (.inl rfl)) gs_nil))))
    (ss_cons (s_for (passes_of rfl) rfl (i_seq (e_var (i := 0) rfl (.inl rfl))) (g_tup rfl (gs_cons (g_name (i := 3) sc_remainder_day.nd rfl (.inl rfl)) (gs_cons (g_name (i := 4) sc_remainder_day.nd rfl (.inl rfl)) gs_nil))) (ss_cons (s_set (i := 5) sc_remainder_day.nd rfl (.inl rfl) e_int)
    (ss_cons (s_while FUEL (passes_of rfl) (t_cmp (op_gNe hu) (e_bin op_gMod (e_var (i := 2) rfl (.inl rfl)) (e_var (i := 3) rfl (.inl rfl))) (e_var (i := 4) rfl (.inl rfl))) (ss_cons (s_aug (i := 2) sc_remainder_day.nd rfl (.inl rfl) (e_var (i := 1) rfl (.inl rfl)) aug_add)
    (ss_cons (s_aug (i := 5) sc_remainder_day.nd rfl (.inl rfl) e_int aug_add)
    (ss_one (s_if (t_cmp op_gGt (e_var (i := 5) rfl (.inl rfl)) (e_var (i := 3) rfl (.inl rfl))) (ss_one (s_ret e_non)) ss_nil)))))
    (ss_cons (s_set (i := 1) sc_remainder_day.nd rfl (.inl rfl) (e_df D_common_length hr (by decide) rfl (takes_of rfl rfl rfl rfl) (a_cons (e_var (i := 1) rfl (.inl rfl)) (a_cons (e_var (i := 3) rfl (.inl rfl)) a_nil))))
    (ss_one (s_set (i := 2) sc_remainder_day.nd rfl (.inl rfl) (e_bin op_gMod (e_var (i := 2) rfl (.inl rfl)) (e_var (i := 1) rfl (.inl rfl)))))))))
    (ss_one (s_retV (i := 2) rfl (.inl rfl))))))
theorem wk_judge_no_remainder {f : Addr} {fd : FuncData} (B : Blt K mg) (D_greatest_divisor : Df P w K mg base 1 "greatest_divisor" ["a", "b"] m_greatest_divisor) (D_is_row : Df P w K mg base 2 "is_row" ["value", "low", "high"] m_is_row) (F : Fun K "judge_no_remainder" "judge_no_remainder" s_judge_no_remainder f fd) : FnRep P w K mg base 3 f fd ["rests", "pair"] m_judge_no_remainder :=
  fn_rep (k := 2) F sc_judge_no_remainder (fun cdv A outer s H E hr => by
    have hu : (A.deeper (PyProof.Rows.envOfC "judge_no_remainder" (defScope s_judge_no_remainder) s.heap.objs.size f cdv)).units + 64 < cLine := by have := hr.un; omega
    have hu5 : (A.deeper (PyProof.Rows.envOfC "judge_no_remainder" (defScope s_judge_no_remainder) s.heap.objs.size f cdv)).units + 65 < cLine := by have := hr.un; omega
    exact (ss_cons (s_if (t_bop (w_or (t_not (t_val (e_df D_is_row hr (by decide) rfl (takes_of rfl rfl rfl rfl) (a_cons (e_var (i := 1) rfl (.inl rfl)) (a_cons e_int (a_cons (e_bin op_gSub (e_fnB call_gLen rfl B.len (by decide +kernel) (a_cons (e_var (i := 0) rfl (.inl rfl)) a_nil)) e_int) a_nil)))))) (w_or (t_cmp (op_gNe hu) (e_fnB call_gLen rfl B.len (by decide +kernel) (a_cons (e_var (i := 1) rfl (.inl rfl)) a_nil)) e_int) (w_or1 (t_not (t_cmp op_gLt (e_ix ix_gIx (e_var (i := 1) rfl (.inl rfl)) e_int) (e_ix ix_gIx (e_var (i := 1) rfl (.inl rfl)) e_int))))))) (ss_one (s_raiseC B.e_BadPaper rfl (takes_of rfl rfl rfl rfl) rfl)) ss_nil)
    (ss_cons (s_asg (e_tup (a_cons (e_ix ix_gIx (e_var (i := 0) rfl (.inl rfl)) (e_ix ix_gIx (e_var (i := 1) rfl (.inl rfl)) e_int)) (a_cons (e_ix ix_gIx (e_var (i := 0) rfl (.inl rfl)) (e_ix ix_gIx (e_var (i := 1) rfl (.inl rfl)) e_int)) a_nil))) (g_tup rfl (gs_cons (g_tup rfl (gs_cons (g_name (i := 2) sc_judge_no_remainder.nd rfl (.inl rfl)) (gs_cons (g_name (i := 3) sc_judge_no_remainder.nd rfl (.inl rfl)) gs_nil))) (gs_cons (g_tup rfl (gs_cons (g_name (i := 4) sc_judge_no_remainder.nd rfl (.inl rfl)) (gs_cons (g_name (i := 5) sc_judge_no_remainder.nd rfl (.inl rfl)) gs_nil))) gs_nil))))
    (ss_one (s_if (t_cmp (op_gEq hu) (e_bin op_gMod (e_bin op_gSub (e_var (i := 3) rfl (.inl rfl)) (e_var (i := 5) rfl (.inl rfl))) (e_df D_greatest_divisor hr (by decide) rfl (takes_of rfl rfl rfl rfl) (a_cons (e_var (i := 2) rfl (.inl rfl)) (a_cons (e_var (i := 4) rfl (.inl rfl)) a_nil)))) e_int) (ss_one (s_raiseC B.e_BadPaper rfl (takes_of rfl rfl rfl rfl) rfl)) ss_nil)))))
theorem wk_covers {f : Addr} {fd : FuncData} (B : Blt K mg) (D_first_gap : Df P w K mg base 3 "first_gap" ["calendars"] m_first_gap) (F : Fun K "covers" "covers" s_covers f fd) : FnRep P w K mg base 4 f fd ["calendars"] m_covers :=
  fn_rep (k := 3) F sc_covers (fun cdv A outer s H E hr => by
    have hu : (A.deeper (PyProof.Rows.envOfC "covers" (defScope s_covers) s.heap.objs.size f cdv)).units + 64 < cLine := by have := hr.un; omega
    have hu5 : (A.deeper (PyProof.Rows.envOfC "covers" (defScope s_covers) s.heap.objs.size f cdv)).units + 65 < cLine := by have := hr.un; omega
    exact (ss_one (s_ret (e_cmp op_gIs (e_df D_first_gap hr (by decide) rfl (takes_of rfl rfl rfl rfl) (a_cons (e_var (i := 0) rfl (.inl rfl)) a_nil)) e_non))))
theorem wk__law_taken {f : Addr} {fd : FuncData} (B : Blt K mg) (D_judge_no_remainder : Df P w K mg base 3 "judge_no_remainder" ["rests", "pair"] m_judge_no_remainder) (F : Fun K "_law_taken" "_law_taken" s__law_taken f fd) : FnRep P w K mg base 4 f fd ["rests", "pair"] m__law_taken :=
  fn_rep (k := 3) F sc__law_taken (fun cdv A outer s H E hr => by
    have hu : (A.deeper (PyProof.Rows.envOfC "_law_taken" (defScope s__law_taken) s.heap.objs.size f cdv)).units + 64 < cLine := by have := hr.un; omega
    have hu5 : (A.deeper (PyProof.Rows.envOfC "_law_taken" (defScope s__law_taken) s.heap.objs.size f cdv)).units + 65 < cLine := by have := hr.un; omega
    exact (ss_cons (s_try rfl rfl ⟨rfl, by decide, .inl B.e_BadPaper.gl⟩ (takes_of rfl rfl rfl rfl) (k_BadPaper B) (fun _ _ _ tk hp => (ss_one (s_expr (e_df D_judge_no_remainder hr (by decide) rfl tk (a_cons (e_var (i := 0) rfl (.inl rfl)) (a_cons (e_var (i := 1) rfl (.inl rfl)) a_nil)))))) (fun _ _ _ _ _ _ _ => (ss_one (s_ret e_bl))))
    (ss_one (s_ret e_bl))))
theorem wk_law {f fD : Addr} {fd fdD : FuncData} (B : Blt K mg) (D__law_take : Df P w K mg base 1 "_law_take" ["draw", "many"] m__law_take) (D__law_has : Df P w K mg base 1 "_law_has" ["calendar", "day"] m__law_has) (D_clashing_rests : Df P w K mg base 2 "clashing_rests" ["rests"] m_clashing_rests) (D__law_row : Df P w K mg base 2 "_law_row" ["draw", "low", "high"] m__law_row) (D_first_gap : Df P w K mg base 3 "first_gap" ["calendars"] m_first_gap) (D_remainder_day : Df P w K mg base 3 "remainder_day" ["rests"] m_remainder_day) (D_covers : Df P w K mg base 4 "covers" ["calendars"] m_covers) (D__law_taken : Df P w K mg base 4 "_law_taken" ["rests", "pair"] m__law_taken) (F : Fun K "law" "law" s_law f fd) (FD : FnOk P w K mg base (L2.CX P w) 1 fD fdD ["script"] (spDraw K)) (gD : mg "_law_draw" = some (.ref fD)) (kD : PySem.W.keepIn K (.ref fD) = true) (bD : Binds K fdD ["script"] [])
    (hg : ∀ s : DS, ∃ fr s', g_law (lawE nLaw) s = .rt (.bl true) fr s') : FnOk P w K mg base (L2.CX P w) 5 f fd ["script"] (spLaw K) :=
  law_rep (k := 4) F sc_law FD gD kD bD rfl rfl rfl rfl (.inl rfl) (.inr rfl) rfl (fun cdv A outer s H E hr => by
    have hu : (A.deeper (PyProof.Rows.envOfC "law" (defScope s_law) s.heap.objs.size f cdv)).units + 64 < cLine := by have := hr.un; omega
    have hu5 : (A.deeper (PyProof.Rows.envOfC "law" (defScope s_law) s.heap.objs.size f cdv)).units + 65 < cLine := by have := hr.un; omega
    exact (ss_cons (s_for (passes_of rfl) rfl (i_range1 rfl B.range (a_cons e_int a_nil)) (g_name (i := 2) sc_law.nd rfl (.inl rfl)) (ss_cons (s_set (i := 4) sc_law.nd rfl (.inr rfl) (e_fnT call_gTuple rfl B.tuple (by decide +kernel) (a_cons (e_lc [3] rfl sc_law.nd (i_range1 rfl B.range (a_cons (e_df D__law_take hr (by decide) rfl (takes_of rfl rfl rfl rfl) (a_cons (e_var (i := 1) rfl (.inr (.inl rfl))) (a_cons e_int a_nil))) a_nil)) (blkOk_by (N := N_law) (sc := (defScope s_law)) (scope := lcSc (exN (stE (stB (stB s_law 1) 0)) 1)) (own := [("k", 3)]) (by decide +kernel)) (fun _ _ _ _ _ => (g_name (i := 3) sc_law.nd rfl (.inl rfl))) (fun _ _ _ _ _ => ts_nil) (fun _ _ _ _ _ => (e_tup (a_cons (e_df D__law_row hr (by decide) rfl takes0 (a_cons (e_var (i := 1) rfl (.inr (.inl rfl))) (a_cons e_int (a_cons e_int a_nil)))) (a_cons (e_df D__law_row hr (by decide) rfl takes0 (a_cons (e_var (i := 1) rfl (.inr (.inl rfl))) (a_cons e_int (a_cons e_int a_nil)))) a_nil))))) a_nil)))
    (ss_cons (s_setLc (i := 7) [5] rfl sc_law.nd rfl rfl (i_range1 rfl B.range (a_cons e_int a_nil)) (blkOk_by (N := N_law) (sc := (defScope s_law)) (scope := lcSc (stE (stB (stB s_law 1) 1))) (own := [("day", 5)]) (by decide +kernel)) (fun _ _ _ _ _ => (g_name (i := 5) sc_law.nd rfl (.inr rfl))) (fun _ _ _ _ _ => (ts_one (t_cmp (op_gEq hu) (e_lc [6] rfl sc_law.nd (i_seq (e_var (i := 4) rfl (.inr (.inl rfl)))) (blkOk_by (N := N_law) (sc := (rlSc (lcSc (stE (stB (stB s_law 1) 1))) (defScope s_law))) (scope := lcSc (exN (exN (stE (stB (stB s_law 1) 1)) 2) 0)) (own := [("one", 6)]) (by decide +kernel)) (fun _ _ _ _ _ => (g_name (i := 6) sc_law.nd rfl (.inl rfl))) (fun _ _ _ _ _ => (ts_one (t_val (e_df D__law_has hr (by decide) rfl takes0 (a_cons (e_var (i := 6) rfl (.inl rfl)) (a_cons (e_var (i := 5) rfl (.inr (.inl rfl))) a_nil)))))) (fun _ _ _ _ _ => (e_var (i := 6) rfl (.inl rfl)))) (e_lst a_nil)))) (fun _ _ _ _ _ => (e_var (i := 5) rfl (.inr (.inl rfl)))))
    (ss_cons (s_if (t_bop (w_or (t_cmp (op_gNe hu) (e_df D_first_gap hr (by decide) rfl (takes_of rfl rfl rfl rfl) (a_cons (e_var (i := 4) rfl (.inr (.inl rfl))) a_nil)) (e_if (t_cmp (op_gNe hu) (e_var (i := 7) rfl (.inl rfl)) (e_lst a_nil)) (e_ix ix_gIx (e_var (i := 7) rfl (.inl rfl)) e_int) e_non)) (w_or1 (t_cmp (op_gNe hu) (e_df D_covers hr (by decide) rfl (takes_of rfl rfl rfl rfl) (a_cons (e_var (i := 4) rfl (.inr (.inl rfl))) a_nil)) (e_cmp (op_gEq hu) (e_var (i := 7) rfl (.inl rfl)) (e_lst a_nil)))))) (ss_one (s_ret e_bl)) ss_nil)
    (ss_cons (s_set (i := 8) sc_law.nd rfl (.inr rfl) (e_lst a_nil))
    (ss_cons (s_for (passes_of rfl) rfl (i_range1 rfl B.range (a_cons (e_df D__law_take hr (by decide) rfl (takes_of rfl rfl rfl rfl) (a_cons (e_var (i := 1) rfl (.inr (.inl rfl))) (a_cons e_int a_nil))) a_nil)) (g_name (i := 3) sc_law.nd rfl (.inl rfl)) (ss_cons (s_set (i := 9) sc_law.nd rfl (.inl rfl) (e_bin op_gAdd e_int (e_df D__law_take hr (by decide) rfl (takes_of rfl rfl rfl rfl) (a_cons (e_var (i := 1) rfl (.inr (.inl rfl))) (a_cons e_int a_nil)))))
    (ss_one (s_app (i := 8) rfl (.inr (.inl rfl)) (e_tup (a_cons (e_var (i := 9) rfl (.inl rfl)) (a_cons (e_df D__law_take hr (by decide) rfl (takes_of rfl rfl rfl rfl) (a_cons (e_var (i := 1) rfl (.inr (.inl rfl))) (a_cons (e_var (i := 9) rfl (.inl rfl)) a_nil))) a_nil)))))))
    (ss_cons (s_set (i := 8) sc_law.nd rfl (.inr rfl) (e_fnT call_gTuple rfl B.tuple (by decide +kernel) (a_cons (e_var (i := 8) rfl (.inr (.inl rfl))) a_nil)))
    (ss_cons (s_set (i := 10) sc_law.nd rfl (.inl rfl) e_int)
    (ss_cons (s_for (passes_of rfl) rfl (i_seq (e_var (i := 8) rfl (.inr (.inl rfl)))) (g_tup rfl (gs_cons (g_name (i := 9) sc_law.nd rfl (.inl rfl)) (gs_cons (g_name (i := 11) sc_law.nd rfl (.inl rfl)) gs_nil))) (ss_one (s_set (i := 10) sc_law.nd rfl (.inl rfl) (e_bin op_gMul (e_var (i := 10) rfl (.inl rfl)) (e_var (i := 9) rfl (.inl rfl))))))
    (ss_cons (s_setLc (i := 12) [5] rfl sc_law.nd rfl rfl (i_range1 rfl B.range (a_cons (e_var (i := 10) rfl (.inl rfl)) a_nil)) (blkOk_by (N := N_law) (sc := (defScope s_law)) (scope := lcSc (stE (stB (stB s_law 1) 8))) (own := [("day", 5)]) (by decide +kernel)) (fun _ _ _ _ _ => (g_name (i := 5) sc_law.nd rfl (.inr rfl))) (fun _ _ _ _ _ => (ts_one (t_cmp (op_gEq hu) (e_lc [9, 11] rfl sc_law.nd (i_seq (e_var (i := 8) rfl (.inr (.inl rfl)))) (blkOk_by (N := N_law) (sc := (rlSc (lcSc (stE (stB (stB s_law 1) 8))) (defScope s_law))) (scope := lcSc (exN (exN (stE (stB (stB s_law 1) 8)) 2) 0)) (own := [("length", 9), ("rest", 11)]) (by decide +kernel)) (fun _ _ _ _ _ => (g_tup rfl (gs_cons (g_name (i := 9) sc_law.nd rfl (.inl rfl)) (gs_cons (g_name (i := 11) sc_law.nd rfl (.inl rfl)) gs_nil)))) (fun _ _ _ _ _ => (ts_one (t_cmp (op_gNe hu) (e_bin op_gSub (e_var (i := 5) rfl (.inr (.inl rfl))) (e_bin op_gMul (e_var (i := 9) rfl (.inl rfl)) (e_bin op_gDiv (e_var (i := 5) rfl (.inr (.inl rfl))) (e_var (i := 9) rfl (.inl rfl))))) (e_var (i := 11) rfl (.inl rfl))))) (fun _ _ _ _ _ => e_int)) (e_lst a_nil)))) (fun _ _ _ _ _ => (e_var (i := 5) rfl (.inr (.inl rfl)))))
    (ss_cons (s_if (t_cmp (op_gNe hu) (e_df D_remainder_day hr (by decide) rfl (takes_of rfl rfl rfl rfl) (a_cons (e_var (i := 8) rfl (.inr (.inl rfl))) a_nil)) (e_if (t_cmp (op_gNe hu) (e_var (i := 12) rfl (.inl rfl)) (e_lst a_nil)) (e_ix ix_gIx (e_var (i := 12) rfl (.inl rfl)) e_int) e_non)) (ss_one (s_ret e_bl)) ss_nil)
    (ss_cons (s_set (i := 13) sc_law.nd rfl (.inl rfl) e_non)
    (ss_cons (s_for (passes_of rfl) rfl (i_range1 rfl B.range (a_cons (e_fnB call_gLen rfl B.len (by decide +kernel) (a_cons (e_var (i := 8) rfl (.inr (.inl rfl))) a_nil)) a_nil)) (g_name (i := 14) sc_law.nd rfl (.inr rfl)) (ss_one (s_for (passes_of rfl) rfl (i_range1 rfl B.range (a_cons (e_var (i := 14) rfl (.inr (.inl rfl))) a_nil)) (g_name (i := 15) sc_law.nd rfl (.inr rfl)) (ss_cons (s_setLc (i := 16) [5] rfl sc_law.nd rfl rfl (i_range1 rfl B.range (a_cons e_int a_nil)) (blkOk_by (N := N_law) (sc := (defScope s_law)) (scope := lcSc (stE (stB (stB (stB (stB s_law 1) 11) 0) 0))) (own := [("day", 5)]) (by decide +kernel)) (fun _ _ _ _ _ => (g_name (i := 5) sc_law.nd rfl (.inl rfl))) (fun _ _ _ _ _ => (ts_one (t_bop (w_and (t_cmp (op_gEq hu) (e_bin op_gMod (e_var (i := 5) rfl (.inl rfl)) (e_ix ix_gIx (e_ix ix_gIx (e_var (i := 8) rfl (.inr (.inl rfl))) (e_var (i := 15) rfl (.inr (.inl rfl)))) e_int)) (e_ix ix_gIx (e_ix ix_gIx (e_var (i := 8) rfl (.inr (.inl rfl))) (e_var (i := 15) rfl (.inr (.inl rfl)))) e_int)) (w_and1 (t_cmp (op_gEq hu) (e_bin op_gMod (e_var (i := 5) rfl (.inl rfl)) (e_ix ix_gIx (e_ix ix_gIx (e_var (i := 8) rfl (.inr (.inl rfl))) (e_var (i := 14) rfl (.inr (.inl rfl)))) e_int)) (e_ix ix_gIx (e_ix ix_gIx (e_var (i := 8) rfl (.inr (.inl rfl))) (e_var (i := 14) rfl (.inr (.inl rfl)))) e_int))))))) (fun _ _ _ _ _ => (e_var (i := 5) rfl (.inl rfl))))
    (ss_cons (s_if (t_bop (w_and (t_cmp (op_gEq hu) (e_var (i := 16) rfl (.inl rfl)) (e_lst a_nil)) (w_and1 (t_cmp op_gIs (e_var (i := 13) rfl (.inl rfl)) e_non)))) (ss_one (s_set (i := 13) sc_law.nd rfl (.inl rfl) (e_tup (a_cons (e_var (i := 15) rfl (.inr (.inl rfl))) (a_cons (e_var (i := 14) rfl (.inr (.inl rfl))) a_nil))))) ss_nil)
    (ss_one (s_for (passes_of rfl) rfl (i_seq (e_lst (a_cons (e_tup (a_cons (e_var (i := 15) rfl (.inr (.inl rfl))) (a_cons (e_var (i := 14) rfl (.inr (.inl rfl))) a_nil))) (a_cons (e_tup (a_cons (e_var (i := 14) rfl (.inr (.inl rfl))) (a_cons (e_var (i := 15) rfl (.inr (.inl rfl))) a_nil))) (a_cons (e_tup (a_cons (e_var (i := 15) rfl (.inr (.inl rfl))) (a_cons (e_var (i := 15) rfl (.inr (.inl rfl))) a_nil))) (a_cons (e_tup (a_cons (e_var (i := 15) rfl (.inr (.inl rfl))) a_nil)) (a_cons (e_tup (a_cons (e_var (i := 15) rfl (.inr (.inl rfl))) (a_cons (e_var (i := 14) rfl (.inr (.inl rfl))) (a_cons (e_var (i := 14) rfl (.inr (.inl rfl))) a_nil)))) (a_cons (e_lst (a_cons (e_var (i := 15) rfl (.inr (.inl rfl))) (a_cons (e_var (i := 14) rfl (.inr (.inl rfl))) a_nil))) (a_cons (e_tup (a_cons (e_var (i := 15) rfl (.inr (.inl rfl))) (a_cons e_bl a_nil))) a_nil))))))))) (g_name (i := 17) sc_law.nd rfl (.inl rfl)) (ss_cons (s_set (i := 18) sc_law.nd rfl (.inl rfl) (e_and (e_cmp (op_gEq hu) (e_var (i := 17) rfl (.inl rfl)) (e_tup (a_cons (e_var (i := 15) rfl (.inr (.inl rfl))) (a_cons (e_var (i := 14) rfl (.inr (.inl rfl))) a_nil)))) (e_and (e_isi (by decide) (by decide +kernel) (e_var (i := 17) rfl (.inl rfl)) rfl B.isinstance rfl B.tuple) (e_and (e_not (e_isi (by decide) (by decide +kernel) (e_ix ix_gIx (e_var (i := 17) rfl (.inl rfl)) e_int) rfl B.isinstance rfl B.bool)) (e_one (e_cmp (op_gEq hu) (e_var (i := 16) rfl (.inl rfl)) (e_lst a_nil)))))))
    (ss_one (s_if (t_bop (w_and (t_cmp (op_gNe hu) (e_var (i := 17) rfl (.inl rfl)) (e_tup (a_cons (e_var (i := 15) rfl (.inr (.inl rfl))) (a_cons e_bl a_nil)))) (w_and1 (t_cmp (op_gNe hu) (e_df D__law_taken hr (by decide) rfl (takes_of rfl rfl rfl rfl) (a_cons (e_var (i := 8) rfl (.inr (.inl rfl))) (a_cons (e_var (i := 17) rfl (.inl rfl)) a_nil))) (e_var (i := 18) rfl (.inl rfl)))))) (ss_one (s_ret e_bl)) ss_nil))))))))))
    (ss_cons (s_if (t_bop (w_or (t_cmp (op_gNe hu) (e_df D_clashing_rests hr (by decide) rfl (takes_of rfl rfl rfl rfl) (a_cons (e_var (i := 8) rfl (.inr (.inl rfl))) a_nil)) (e_var (i := 13) rfl (.inl rfl))) (w_or1 (t_cmp (op_gNe hu) (e_cmp (op_gEq hu) (e_var (i := 12) rfl (.inl rfl)) (e_lst a_nil)) (e_cmp op_gIsNot (e_var (i := 13) rfl (.inl rfl)) e_non))))) (ss_one (s_ret e_bl)) ss_nil)
    (ss_one (s_if (t_cmp (op_gNe hu) (e_lc [19] rfl sc_law.nd (i_seq (e_lst (a_cons e_non (a_cons e_int (a_cons (e_tup (a_cons e_int (a_cons e_int a_nil))) (a_cons (e_tup (a_cons (e_un un_gNeg e_int) (a_cons e_int a_nil))) (a_cons (e_str (l := [97, 98])) (a_cons (e_tup (a_cons e_int (a_cons e_bl a_nil))) a_nil)))))))) (blkOk_by (N := N_law) (sc := (defScope s_law)) (scope := lcSc (exN (stE (stB (stB s_law 1) 13)) 0)) (own := [("bad", 19)]) (by decide +kernel)) (fun _ _ _ _ _ => (g_name (i := 19) sc_law.nd rfl (.inl rfl))) (fun _ _ _ _ _ => (ts_one (t_val (e_df D__law_taken hr (by decide) rfl takes0 (a_cons (e_var (i := 8) rfl (.inr (.inl rfl))) (a_cons (e_var (i := 19) rfl (.inl rfl)) a_nil)))))) (fun _ _ _ _ _ => (e_var (i := 19) rfl (.inl rfl)))) (e_lst a_nil)) (ss_one (s_ret e_bl)) ss_nil))))))))))))))))
    (ss_one (s_ret e_bl)))) hg (by decide)
end
end K26
end
section
set_option Elab.async false
set_option linter.all false
set_option maxRecDepth 100000
set_option maxHeartbeats 4000000
namespace K26
open PySem PySem.Spec L2 Sm PyProof.Rows
theorem all_mk {l : PySem.W.OpenLaw} {w : World} {K : PySem.W.Frag} {h : Heap} {mg : Str → Option Value} {fa : Addr} (X : K.In h) (G : h.Ns mainGlobals mg) (hfa : mg "law" = some (.ref fa))
    {f1 : Addr} {od1 an1 : Option Addr} {sl1 : Array (Option Value)} {oc1 kV1 dc1 pm1 cd1 ct1 : Value}
    (a1 : PySem.W.nsIn K mainGlobals "is_integer" = some (some (.ref f1))) (l1 : K.lookup f1 = some ⟨oc1, od1, .func (PySem.W.fnOf "is_integer" "is_integer" (defArgs s_is_integer) (defBody s_is_integer) (defScope s_is_integer) .none kV1 dc1 pm1 an1 cd1 ct1), sl1⟩) (c1 : PySem.W.codeIn K cd1 "is_integer" = true) (k1 : PySem.W.keepIn K (.ref f1) = true)
    {f2 : Addr} {od2 an2 : Option Addr} {sl2 : Array (Option Value)} {oc2 kV2 dc2 pm2 cd2 ct2 : Value}
    (a2 : PySem.W.nsIn K mainGlobals "is_row" = some (some (.ref f2))) (l2 : K.lookup f2 = some ⟨oc2, od2, .func (PySem.W.fnOf "is_row" "is_row" (defArgs s_is_row) (defBody s_is_row) (defScope s_is_row) .none kV2 dc2 pm2 an2 cd2 ct2), sl2⟩) (c2 : PySem.W.codeIn K cd2 "is_row" = true) (k2 : PySem.W.keepIn K (.ref f2) = true)
    {f3 : Addr} {od3 an3 : Option Addr} {sl3 : Array (Option Value)} {oc3 kV3 dc3 pm3 cd3 ct3 : Value}
    (a3 : PySem.W.nsIn K mainGlobals "greatest_divisor" = some (some (.ref f3))) (l3 : K.lookup f3 = some ⟨oc3, od3, .func (PySem.W.fnOf "greatest_divisor" "greatest_divisor" (defArgs s_greatest_divisor) (defBody s_greatest_divisor) (defScope s_greatest_divisor) .none kV3 dc3 pm3 an3 cd3 ct3), sl3⟩) (c3 : PySem.W.codeIn K cd3 "greatest_divisor" = true) (k3 : PySem.W.keepIn K (.ref f3) = true)
    {f4 : Addr} {od4 an4 : Option Addr} {sl4 : Array (Option Value)} {oc4 kV4 dc4 pm4 cd4 ct4 : Value}
    (a4 : PySem.W.nsIn K mainGlobals "has" = some (some (.ref f4))) (l4 : K.lookup f4 = some ⟨oc4, od4, .func (PySem.W.fnOf "has" "has" (defArgs s_has) (defBody s_has) (defScope s_has) .none kV4 dc4 pm4 an4 cd4 ct4), sl4⟩) (c4 : PySem.W.codeIn K cd4 "has" = true) (k4 : PySem.W.keepIn K (.ref f4) = true)
    {f5 : Addr} {od5 an5 : Option Addr} {sl5 : Array (Option Value)} {oc5 kV5 dc5 pm5 cd5 ct5 : Value}
    (a5 : PySem.W.nsIn K mainGlobals "common_length" = some (some (.ref f5))) (l5 : K.lookup f5 = some ⟨oc5, od5, .func (PySem.W.fnOf "common_length" "common_length" (defArgs s_common_length) (defBody s_common_length) (defScope s_common_length) .none kV5 dc5 pm5 an5 cd5 ct5), sl5⟩) (c5 : PySem.W.codeIn K cd5 "common_length" = true) (k5 : PySem.W.keepIn K (.ref f5) = true)
    {f6 : Addr} {od6 an6 : Option Addr} {sl6 : Array (Option Value)} {oc6 kV6 dc6 pm6 cd6 ct6 : Value}
    (a6 : PySem.W.nsIn K mainGlobals "first_gap" = some (some (.ref f6))) (l6 : K.lookup f6 = some ⟨oc6, od6, .func (PySem.W.fnOf "first_gap" "first_gap" (defArgs s_first_gap) (defBody s_first_gap) (defScope s_first_gap) .none kV6 dc6 pm6 an6 cd6 ct6), sl6⟩) (c6 : PySem.W.codeIn K cd6 "first_gap" = true) (k6 : PySem.W.keepIn K (.ref f6) = true)
    {f7 : Addr} {od7 an7 : Option Addr} {sl7 : Array (Option Value)} {oc7 kV7 dc7 pm7 cd7 ct7 : Value}
    (a7 : PySem.W.nsIn K mainGlobals "covers" = some (some (.ref f7))) (l7 : K.lookup f7 = some ⟨oc7, od7, .func (PySem.W.fnOf "covers" "covers" (defArgs s_covers) (defBody s_covers) (defScope s_covers) .none kV7 dc7 pm7 an7 cd7 ct7), sl7⟩) (c7 : PySem.W.codeIn K cd7 "covers" = true) (k7 : PySem.W.keepIn K (.ref f7) = true)
    {f8 : Addr} {od8 an8 : Option Addr} {sl8 : Array (Option Value)} {oc8 kV8 dc8 pm8 cd8 ct8 : Value}
    (a8 : PySem.W.nsIn K mainGlobals "remainder_day" = some (some (.ref f8))) (l8 : K.lookup f8 = some ⟨oc8, od8, .func (PySem.W.fnOf "remainder_day" "remainder_day" (defArgs s_remainder_day) (defBody s_remainder_day) (defScope s_remainder_day) .none kV8 dc8 pm8 an8 cd8 ct8), sl8⟩) (c8 : PySem.W.codeIn K cd8 "remainder_day" = true) (k8 : PySem.W.keepIn K (.ref f8) = true)
    {f9 : Addr} {od9 an9 : Option Addr} {sl9 : Array (Option Value)} {oc9 kV9 dc9 pm9 cd9 ct9 : Value}
    (a9 : PySem.W.nsIn K mainGlobals "judge_no_remainder" = some (some (.ref f9))) (l9 : K.lookup f9 = some ⟨oc9, od9, .func (PySem.W.fnOf "judge_no_remainder" "judge_no_remainder" (defArgs s_judge_no_remainder) (defBody s_judge_no_remainder) (defScope s_judge_no_remainder) .none kV9 dc9 pm9 an9 cd9 ct9), sl9⟩) (c9 : PySem.W.codeIn K cd9 "judge_no_remainder" = true) (k9 : PySem.W.keepIn K (.ref f9) = true)
    {f10 : Addr} {od10 an10 : Option Addr} {sl10 : Array (Option Value)} {oc10 kV10 dc10 pm10 cd10 ct10 : Value}
    (a10 : PySem.W.nsIn K mainGlobals "clashing_rests" = some (some (.ref f10))) (l10 : K.lookup f10 = some ⟨oc10, od10, .func (PySem.W.fnOf "clashing_rests" "clashing_rests" (defArgs s_clashing_rests) (defBody s_clashing_rests) (defScope s_clashing_rests) .none kV10 dc10 pm10 an10 cd10 ct10), sl10⟩) (c10 : PySem.W.codeIn K cd10 "clashing_rests" = true) (k10 : PySem.W.keepIn K (.ref f10) = true)
    {f11 : Addr} {od11 an11 : Option Addr} {sl11 : Array (Option Value)} {oc11 kV11 dc11 pm11 cd11 ct11 : Value}
    (a11 : PySem.W.nsIn K mainGlobals "_law_draw" = some (some (.ref f11))) (l11 : K.lookup f11 = some ⟨oc11, od11, .func (PySem.W.fnOf "_law_draw" "_law_draw" (defArgs sDraw) (defBody sDraw) (defScope sDraw) .none kV11 dc11 pm11 an11 cd11 ct11), sl11⟩) (c11 : PySem.W.codeIn K cd11 "_law_draw" = true) (k11 : PySem.W.keepIn K (.ref f11) = true)
    {f12 : Addr} {od12 an12 : Option Addr} {sl12 : Array (Option Value)} {oc12 kV12 dc12 pm12 cd12 ct12 : Value}
    (a12 : PySem.W.nsIn K mainGlobals "_law_take" = some (some (.ref f12))) (l12 : K.lookup f12 = some ⟨oc12, od12, .func (PySem.W.fnOf "_law_take" "_law_take" (defArgs sTake) (defBody sTake) (defScope sTake) .none kV12 dc12 pm12 an12 cd12 ct12), sl12⟩) (c12 : PySem.W.codeIn K cd12 "_law_take" = true) (k12 : PySem.W.keepIn K (.ref f12) = true)
    {f13 : Addr} {od13 an13 : Option Addr} {sl13 : Array (Option Value)} {oc13 kV13 dc13 pm13 cd13 ct13 : Value}
    (a13 : PySem.W.nsIn K mainGlobals "_law_row" = some (some (.ref f13))) (l13 : K.lookup f13 = some ⟨oc13, od13, .func (PySem.W.fnOf "_law_row" "_law_row" (defArgs s__law_row) (defBody s__law_row) (defScope s__law_row) .none kV13 dc13 pm13 an13 cd13 ct13), sl13⟩) (c13 : PySem.W.codeIn K cd13 "_law_row" = true) (k13 : PySem.W.keepIn K (.ref f13) = true)
    {f14 : Addr} {od14 an14 : Option Addr} {sl14 : Array (Option Value)} {oc14 kV14 dc14 pm14 cd14 ct14 : Value}
    (a14 : PySem.W.nsIn K mainGlobals "_law_has" = some (some (.ref f14))) (l14 : K.lookup f14 = some ⟨oc14, od14, .func (PySem.W.fnOf "_law_has" "_law_has" (defArgs s__law_has) (defBody s__law_has) (defScope s__law_has) .none kV14 dc14 pm14 an14 cd14 ct14), sl14⟩) (c14 : PySem.W.codeIn K cd14 "_law_has" = true) (k14 : PySem.W.keepIn K (.ref f14) = true)
    {f15 : Addr} {od15 an15 : Option Addr} {sl15 : Array (Option Value)} {oc15 kV15 dc15 pm15 cd15 ct15 : Value}
    (a15 : PySem.W.nsIn K mainGlobals "_law_taken" = some (some (.ref f15))) (l15 : K.lookup f15 = some ⟨oc15, od15, .func (PySem.W.fnOf "_law_taken" "_law_taken" (defArgs s__law_taken) (defBody s__law_taken) (defScope s__law_taken) .none kV15 dc15 pm15 an15 cd15 ct15), sl15⟩) (c15 : PySem.W.codeIn K cd15 "_law_taken" = true) (k15 : PySem.W.keepIn K (.ref f15) = true)
    {f16 : Addr} {od16 an16 : Option Addr} {sl16 : Array (Option Value)} {oc16 kV16 dc16 pm16 cd16 ct16 : Value}
    (a16 : PySem.W.nsIn K mainGlobals "law" = some (some (.ref f16))) (l16 : K.lookup f16 = some ⟨oc16, od16, .func (PySem.W.fnOf "law" "law" (defArgs s_law) (defBody s_law) (defScope s_law) .none kV16 dc16 pm16 an16 cd16 ct16), sl16⟩) (c16 : PySem.W.codeIn K cd16 "law" = true) (k16 : PySem.W.keepIn K (.ref f16) = true)
    (z_abs : PySem.W.nsIn K mainGlobals "abs" = some none)
    (z_all : PySem.W.nsIn K mainGlobals "all" = some none)
    (z_any : PySem.W.nsIn K mainGlobals "any" = some none)
    (z_bool : PySem.W.nsIn K mainGlobals "bool" = some none)
    (z_enumerate : PySem.W.nsIn K mainGlobals "enumerate" = some none)
    (z_int : PySem.W.nsIn K mainGlobals "int" = some none)
    (z_isinstance : PySem.W.nsIn K mainGlobals "isinstance" = some none)
    (z_len : PySem.W.nsIn K mainGlobals "len" = some none)
    (z_max : PySem.W.nsIn K mainGlobals "max" = some none)
    (z_range : PySem.W.nsIn K mainGlobals "range" = some none)
    (z_tuple : PySem.W.nsIn K mainGlobals "tuple" = some none)
    {C_DelayError : Addr} (g_DelayError_ : PySem.W.nsIn K mainGlobals "DelayError" = some (some (.ref C_DelayError))) (x_DelayError_ : PySem.W.excIn K C_DelayError [.type "ValueError", .type "Exception", .type "BaseException", .type "object"] "ValueError.__new__" = true) (p_DelayError_ : PySem.W.keepIn K (.ref C_DelayError) = true) (b_DelayError_ : PySem.W.subIn K (.ref C_DelayError) (.type "BaseException") = some true) (t_DelayError_ : PySem.W.typeIn K (.ref C_DelayError) = some (.type "type")) (i_DelayError_ : PySem.W.isClsIn K C_DelayError = true)
    {C_BadPaper : Addr} (g_BadPaper_ : PySem.W.nsIn K mainGlobals "BadPaper" = some (some (.ref C_BadPaper))) (x_BadPaper_ : PySem.W.excIn K C_BadPaper [.type "ValueError", .type "Exception", .type "BaseException", .type "object"] "ValueError.__new__" = true) (p_BadPaper_ : PySem.W.keepIn K (.ref C_BadPaper) = true) (b_BadPaper_ : PySem.W.subIn K (.ref C_BadPaper) (.type "BaseException") = some true) (t_BadPaper_ : PySem.W.typeIn K (.ref C_BadPaper) = some (.type "type")) (i_BadPaper_ : PySem.W.isClsIn K C_BadPaper = true)
    (s_DelayError_BadPaper_ : PySem.W.subIn K (.ref C_DelayError) (.ref C_BadPaper) = some false)
    (s_BadPaper_BadPaper_ : PySem.W.subIn K (.ref C_BadPaper) (.ref C_BadPaper) = some true) :
    ∃ fd : FuncData, (∀ (s : Shared) (v : Value), BindsTo s fd ⟨[v], []⟩ [("script", v)]) ∧ ∀ base : Heap, K.In base → base.Ns mainGlobals mg → FnOk l.prog w K mg base (L2.CX l.prog w) 5 fa fd ["script"] (spLaw K) := by
  have e := hfa.symm.trans (PySem.W.mg_of X G a16)
  cases e
  have B : Blt K mg := ⟨PySem.W.mg_none_of X G z_abs, PySem.W.mg_none_of X G z_all, PySem.W.mg_none_of X G z_any, PySem.W.mg_none_of X G z_bool, PySem.W.mg_none_of X G z_enumerate, PySem.W.mg_none_of X G z_int, PySem.W.mg_none_of X G z_isinstance, PySem.W.mg_none_of X G z_len, PySem.W.mg_none_of X G z_max, PySem.W.mg_none_of X G z_range, PySem.W.mg_none_of X G z_tuple, ⟨C_DelayError, PySem.W.mg_of X G g_DelayError_, x_DelayError_, p_DelayError_, b_DelayError_, t_DelayError_, i_DelayError_⟩, ⟨C_BadPaper, PySem.W.mg_of X G g_BadPaper_, x_BadPaper_, p_BadPaper_, b_BadPaper_, t_BadPaper_, i_BadPaper_⟩, s_DelayError_BadPaper_, s_BadPaper_BadPaper_⟩
  have F1 := fun_mk (st := s_is_integer) l1 c1 k1
  have b1 := F1.binds (ps := ["value", "low", "high"]) fun _ _ _ _ _ _ us hl => match us, hl with | [_, _, _], _ => rfl
  have F2 := fun_mk (st := s_is_row) l2 c2 k2
  have b2 := F2.binds (ps := ["value", "low", "high"]) fun _ _ _ _ _ _ us hl => match us, hl with | [_, _, _], _ => rfl
  have F3 := fun_mk (st := s_greatest_divisor) l3 c3 k3
  have b3 := F3.binds (ps := ["a", "b"]) fun _ _ _ _ _ _ us hl => match us, hl with | [_, _], _ => rfl
  have F4 := fun_mk (st := s_has) l4 c4 k4
  have b4 := F4.binds (ps := ["calendar", "day"]) fun _ _ _ _ _ _ us hl => match us, hl with | [_, _], _ => rfl
  have F5 := fun_mk (st := s_common_length) l5 c5 k5
  have b5 := F5.binds (ps := ["a", "b"]) fun _ _ _ _ _ _ us hl => match us, hl with | [_, _], _ => rfl
  have F6 := fun_mk (st := s_first_gap) l6 c6 k6
  have b6 := F6.binds (ps := ["calendars"]) fun _ _ _ _ _ _ us hl => match us, hl with | [_], _ => rfl
  have F7 := fun_mk (st := s_covers) l7 c7 k7
  have b7 := F7.binds (ps := ["calendars"]) fun _ _ _ _ _ _ us hl => match us, hl with | [_], _ => rfl
  have F8 := fun_mk (st := s_remainder_day) l8 c8 k8
  have b8 := F8.binds (ps := ["rests"]) fun _ _ _ _ _ _ us hl => match us, hl with | [_], _ => rfl
  have F9 := fun_mk (st := s_judge_no_remainder) l9 c9 k9
  have b9 := F9.binds (ps := ["rests", "pair"]) fun _ _ _ _ _ _ us hl => match us, hl with | [_, _], _ => rfl
  have F10 := fun_mk (st := s_clashing_rests) l10 c10 k10
  have b10 := F10.binds (ps := ["rests"]) fun _ _ _ _ _ _ us hl => match us, hl with | [_], _ => rfl
  have F11 := fun_mk (st := sDraw) l11 c11 k11
  have b11 := F11.binds (ps := ["script"]) fun _ _ _ _ _ _ us hl => match us, hl with | [_], _ => rfl
  have F12 := fun_mk (st := sTake) l12 c12 k12
  have b12 := F12.binds (ps := ["draw", "many"]) fun _ _ _ _ _ _ us hl => match us, hl with | [_, _], _ => rfl
  have F13 := fun_mk (st := s__law_row) l13 c13 k13
  have b13 := F13.binds (ps := ["draw", "low", "high"]) fun _ _ _ _ _ _ us hl => match us, hl with | [_, _, _], _ => rfl
  have F14 := fun_mk (st := s__law_has) l14 c14 k14
  have b14 := F14.binds (ps := ["calendar", "day"]) fun _ _ _ _ _ _ us hl => match us, hl with | [_, _], _ => rfl
  have F15 := fun_mk (st := s__law_taken) l15 c15 k15
  have b15 := F15.binds (ps := ["rests", "pair"]) fun _ _ _ _ _ _ us hl => match us, hl with | [_, _], _ => rfl
  have F16 := fun_mk (st := s_law) l16 c16 k16
  have b16 := F16.binds (ps := ["script"]) fun _ _ _ _ _ _ us hl => match us, hl with | [_], _ => rfl
  refine ⟨PySem.W.fnOf "law" "law" (defArgs s_law) (defBody s_law) (defScope s_law) .none kV16 dc16 pm16 an16 cd16 ct16, fun s v => .of_eq rfl, fun base _ _ => ?_⟩
  have D_is_integer : Df l.prog w K mg base 1 "is_integer" ["value", "low", "high"] m_is_integer := ⟨f1, _, wk_is_integer B  F1, PySem.W.mg_of X G a1, k1, b1⟩
  have D_greatest_divisor : Df l.prog w K mg base 1 "greatest_divisor" ["a", "b"] m_greatest_divisor := ⟨f3, _, wk_greatest_divisor B  F3, PySem.W.mg_of X G a3, k3, b3⟩
  have D_has : Df l.prog w K mg base 1 "has" ["calendar", "day"] m_has := ⟨f4, _, wk_has B  F4, PySem.W.mg_of X G a4, k4, b4⟩
  have D__law_take : Df l.prog w K mg base 1 "_law_take" ["draw", "many"] m__law_take := ⟨f12, _, ok_take F12 B.len B.int, PySem.W.mg_of X G a12, k12, b12⟩
  have D__law_has : Df l.prog w K mg base 1 "_law_has" ["calendar", "day"] m__law_has := ⟨f14, _, wk__law_has B  F14, PySem.W.mg_of X G a14, k14, b14⟩
  have D_is_row : Df l.prog w K mg base 2 "is_row" ["value", "low", "high"] m_is_row := ⟨f2, _, wk_is_row B D_is_integer F2, PySem.W.mg_of X G a2, k2, b2⟩
  have D_common_length : Df l.prog w K mg base 2 "common_length" ["a", "b"] m_common_length := ⟨f5, _, wk_common_length B D_greatest_divisor F5, PySem.W.mg_of X G a5, k5, b5⟩
  have D_clashing_rests : Df l.prog w K mg base 2 "clashing_rests" ["rests"] m_clashing_rests := ⟨f10, _, wk_clashing_rests B D_greatest_divisor F10, PySem.W.mg_of X G a10, k10, b10⟩
  have D__law_row : Df l.prog w K mg base 2 "_law_row" ["draw", "low", "high"] m__law_row := ⟨f13, _, wk__law_row B D__law_take F13, PySem.W.mg_of X G a13, k13, b13⟩
  have D_first_gap : Df l.prog w K mg base 3 "first_gap" ["calendars"] m_first_gap := ⟨f6, _, wk_first_gap B D_has D_common_length F6, PySem.W.mg_of X G a6, k6, b6⟩
  have D_remainder_day : Df l.prog w K mg base 3 "remainder_day" ["rests"] m_remainder_day := ⟨f8, _, wk_remainder_day B D_common_length F8, PySem.W.mg_of X G a8, k8, b8⟩
  have D_judge_no_remainder : Df l.prog w K mg base 3 "judge_no_remainder" ["rests", "pair"] m_judge_no_remainder := ⟨f9, _, wk_judge_no_remainder B D_greatest_divisor D_is_row F9, PySem.W.mg_of X G a9, k9, b9⟩
  have D_covers : Df l.prog w K mg base 4 "covers" ["calendars"] m_covers := ⟨f7, _, wk_covers B D_first_gap F7, PySem.W.mg_of X G a7, k7, b7⟩
  have D__law_taken : Df l.prog w K mg base 4 "_law_taken" ["rests", "pair"] m__law_taken := ⟨f15, _, wk__law_taken B D_judge_no_remainder F15, PySem.W.mg_of X G a15, k15, b15⟩
  exact wk_law B D__law_take D__law_has D_clashing_rests D__law_row D_first_gap D_remainder_day D_covers D__law_taken F16 (ok_draw F11 B.int B.abs) (PySem.W.mg_of X G a11) k11 b11 main
end K26
open PySem PySem.W PyProof.Rows
set_option maxHeartbeats 0 in
theorem PySem.Challenge.cw_everydelay_k26_covers_and_rests_holds : PySem.Challenge.rw_everydelay_k26_covers_and_rests.Holds := by
  w_on; o_law; k_head; (case hw => w_witness2)
  k_fill
  refine L2.walk_of (l := PySem.Challenge.rw_everydelay_k26_covers_and_rests) (n := 63) (k := 5) (x := "script") (CX := fun w => L2.CX PySem.Challenge.rw_everydelay_k26_covers_and_rests.prog w) (sp := fun w => Sm.spLaw _) rfl (by decide) rfl ⟨rfl, by decide, by decide⟩ (fun w h Y => PySem.W.kIn_of Y) ?F (fun _ _ a ns hl _ hS => ⟨a, ns, rfl, hS, hl, fun _ => rfl⟩) (fun _ _ _ _ _ ⟨_, _, _, _, _, _, _, _, _, _, _, _, h⟩ => h)
  case F =>
    intro w mg fa h KX G hmg
    refine' K26.all_mk KX G hmg ?a1 ?l1 ?c1 ?k1 ?a2 ?l2 ?c2 ?k2 ?a3 ?l3 ?c3 ?k3 ?a4 ?l4 ?c4 ?k4 ?a5 ?l5 ?c5 ?k5 ?a6 ?l6 ?c6 ?k6 ?a7 ?l7 ?c7 ?k7 ?a8 ?l8 ?c8 ?k8 ?a9 ?l9 ?c9 ?k9 ?a10 ?l10 ?c10 ?k10 ?a11 ?l11 ?c11 ?k11 ?a12 ?l12 ?c12 ?k12 ?a13 ?l13 ?c13 ?k13 ?a14 ?l14 ?c14 ?k14 ?a15 ?l15 ?c15 ?k15 ?a16 ?l16 ?c16 ?k16 ?z_abs ?z_all ?z_any ?z_bool ?z_enumerate ?z_int ?z_isinstance ?z_len ?z_max ?z_range ?z_tuple ?g_DelayError_ ?x_DelayError_ ?p_DelayError_ ?b_DelayError_ ?t_DelayError_ ?i_DelayError_ ?g_BadPaper_ ?x_BadPaper_ ?p_BadPaper_ ?b_BadPaper_ ?t_BadPaper_ ?i_BadPaper_ ?s_DelayError_BadPaper_ ?s_BadPaper_BadPaper_
    (case a1 => k_is); (case l1 => k_is); (case c1 => k_is); (case k1 => k_is); (case a2 => k_is); (case l2 => k_is); (case c2 => k_is); (case k2 => k_is); (case a3 => k_is); (case l3 => k_is); (case c3 => k_is); (case k3 => k_is); (case a4 => k_is); (case l4 => k_is); (case c4 => k_is); (case k4 => k_is); (case a5 => k_is); (case l5 => k_is); (case c5 => k_is); (case k5 => k_is); (case a6 => k_is); (case l6 => k_is); (case c6 => k_is); (case k6 => k_is); (case a7 => k_is); (case l7 => k_is); (case c7 => k_is); (case k7 => k_is); (case a8 => k_is); (case l8 => k_is); (case c8 => k_is); (case k8 => k_is); (case a9 => k_is); (case l9 => k_is); (case c9 => k_is); (case k9 => k_is); (case a10 => k_is); (case l10 => k_is); (case c10 => k_is); (case k10 => k_is); (case a11 => k_is); (case l11 => k_is); (case c11 => k_is); (case k11 => k_is); (case a12 => k_is); (case l12 => k_is); (case c12 => k_is); (case k12 => k_is); (case a13 => k_is); (case l13 => k_is); (case c13 => k_is); (case k13 => k_is); (case a14 => k_is); (case l14 => k_is); (case c14 => k_is); (case k14 => k_is); (case a15 => k_is); (case l15 => k_is); (case c15 => k_is); (case k15 => k_is); (case a16 => k_is); (case l16 => k_is); (case c16 => k_is); (case k16 => k_is); (case z_abs => k_is); (case z_all => k_is); (case z_any => k_is); (case z_bool => k_is); (case z_enumerate => k_is); (case z_int => k_is); (case z_isinstance => k_is); (case z_len => k_is); (case z_max => k_is); (case z_range => k_is); (case z_tuple => k_is); (case g_DelayError_ => k_is); (case x_DelayError_ => k_exc); (case p_DelayError_ => k_is); (case b_DelayError_ => k_is); (case t_DelayError_ => k_is); (case i_DelayError_ => k_is); (case g_BadPaper_ => k_is); (case x_BadPaper_ => k_exc); (case p_BadPaper_ => k_is); (case b_BadPaper_ => k_is); (case t_BadPaper_ => k_is); (case i_BadPaper_ => k_is); (case s_DelayError_BadPaper_ => first | rfl | k_is); (case s_BadPaper_BadPaper_ => first | rfl | k_is)
end
