import PyProof.Rows.All
import Wide.All
import OpenK.AllK
import Wide.FinOn
import HandS.ForMost
import HandS.ForExc
import HandS.Walk
import HandS.IsInst
import HandS.Zip
import HandS.Style
import HandS.Defaults
import HandS.TupAny
import HandS.TupMul
import HandS.SetFor
import HandS.Strs
import HandS.OwnEq
import HandS.ExcInit
import HandS.SuiteRaise
import HandS.Conv
import KE.GoesNew
import KE.KRevSl
import HandS.More
import HandS.Comp
import HandS.ExcOwn
import HandS.WordsExc
import HandS.ExcField
import HandS.ExcIs
import HandS.HeadHook4
import HandS.Head2
import HandS.HeadEnd
import HandS.Small
import HandS.Iter
import HandS.DictComp
import HandS.Flt
import HandS.SortInts
import HandS.TupSets
import HandS.HeadHook2
import PySem.Challenge.RW_lodgeall_k24_whole_most_lodged_and_lodge
set_option Elab.async false
set_option linter.all false
section Core_
/-! Own layer, pure part: data trees, weakest preconditions of a subset of Python over them. -/
namespace LW

inductive D where
  | non | bl (b : Bool) | int (i : Int) | str (s : List Nat) | tup (xs : List D) | lst (xs : List D)
  | dct (ks vs : List D) | obj (c : Nat) (xs : List D) | hand
  deriving Inhabited

/-- what is changed in place: a list, a dict -/
inductive Ob where
  | l (xs : List D) | d (ks vs : List D)
def Ob.D : Ob → D
  | .l xs => .lst xs
  | .d ks vs => .dct ks vs
/-- own: an object of this def's own; ref: one that was handed in to be changed, where it stands -/
inductive Slot where
  | un | val (d : D) | own (o : Ob) | ref (a : Nat) (o : Ob) | fix (a : Nat)
def mob : Slot → Option Ob
  | .own o => some o
  | .ref _ o => some o
  | .un => none
  | .val _ => none
  | .fix _ => none
/-- the slot's object, changed -/
def withO : Slot → Ob → Slot
  | .own _, o => .own o
  | .ref a _, o => .ref a o
  | .un, _ => .un
  | .val d, _ => .val d
  | .fix a, _ => .fix a
def lob (s : Slot) : Option (List D) := match mob s with
  | some (.l xs) => some xs
  | _ => none
def dob (s : Slot) : Option (List D × List D) := match mob s with
  | some (.d ks vs) => some (ks, vs)
  | _ => none
def adr : Slot → Option Nat
  | .ref a _ => some a
  | .fix a => some a
  | .un => none
  | .val _ => none
  | .own _ => none
abbrev Env := List Slot
inductive R where
  | d (x : D) | loc (i : Nat)

def optP {α : Type} (o : Option α) (P : α → Prop) : Prop := match o with
  | some a => P a
  | none => False
@[simp] theorem optP_some {α : Type} (a : α) (P : α → Prop) : optP (some a) P = P a := rfl
@[simp] theorem optP_none {α : Type} (P : α → Prop) : optP (none : Option α) P = False := rfl

def SZ : Nat := 16777216
/-- where a reading is to stop -/
@[irreducible] def hold (p : Prop) : Prop := p
theorem hold_i {p : Prop} (h : p) : hold p := by
  unfold hold
  exact h
theorem hold_e {p : Prop} (h : hold p) : p := by
  unfold hold at h
  exact h
/-- two ways -/
def br (c : Bool) (A B : Prop) : Prop := match c with
  | true => A
  | false => B
@[simp] theorem br_t (A B : Prop) : br true A B = A := rfl
@[simp] theorem br_f (A B : Prop) : br false A B = B := rfl
theorem br_by {c : Bool} {A B : Prop} (h : c = true → A) (h' : c = false → B) : br c A B := by
  cases c
  · exact h' rfl
  · exact h rfl
theorem le_sz {n : Nat} (h : Nat.ble n 1000 = true) : n ≤ SZ := Nat.le_trans (Nat.le_of_ble_eq_true h) (by decide)
theorem on_some {α : Type} {o : Option α} {a : α} {P : α → Prop} (h : o = some a) (k : P a) : optP o P := by
  rw [h]
  exact k
def gt : Env → Nat → Slot
  | [], _ => .un
  | s :: _, 0 => s
  | _ :: r, n + 1 => gt r n
def st : Env → Nat → Slot → Env
  | [], _, _ => []
  | _ :: r, 0, x => x :: r
  | s :: r, n + 1, x => s :: st r n x

def rs (env : Env) : R → Option D
  | .d x => some x
  | .loc i => match gt env i with
    | .own o => some o.D
    | .ref _ o => some o.D
    | .val x => some x
    | .un => none
    | .fix _ => none
def fz (env : Env) : R → Option (D × Env)
  | .d x => some (x, env)
  | .loc i => match gt env i with
    | .own o => some (o.D, st env i (.val o.D))
    | .val x => some (x, env)
    | .ref _ _ => none
    | .un => none
    | .fix _ => none

def fzP (o : Option (D × Env)) (k : D → Env → Prop) : Prop := match o with
  | some (x, e) => k x e
  | none => False
@[simp] theorem fzP_some (x : D) (e : Env) (k : D → Env → Prop) : fzP (some (x, e)) k = k x e := rfl
theorem fzP_of {o : Option (D × Env)} {k : D → Env → Prop} (h : fzP o k) : ∃ p, o = some p ∧ k p.1 p.2 := by
  cases o with
  | none => exact h.elim
  | some p => exact ⟨p, rfl, h⟩

abbrev KR := R → Env → Prop
abbrev KE := D → Env → Prop
abbrev KA := List D → Env → Prop
abbrev WE := Env → KR → KE → Prop
abbrev WT := Env → (Bool → Env → Prop) → KE → Prop
abbrev WA := Env → KA → KE → Prop
/-- a contract: arguments, what is wanted of the answer, of an exception -/
abbrev Ct := List D → (D → Prop) → (D → Prop) → Prop


/-! ### expressions -/
def wVar (i : Nat) : WE := fun env Q _ => match gt env i with
  | .val x => Q (.d x) env
  | .own _ => Q (.loc i) env
  | .ref _ _ => Q (.loc i) env
  | .un => False
  | .fix _ => False
def wC (x : D) : WE := fun env Q _ => Q (.d x) env
def wUn (f : D → Option D) (a : WE) : WE := fun env Q E => a env (fun r e1 => optP ((rs e1 r).bind f) fun z => Q (.d z) e1) E
def wBin (f : D → D → Option D) (a b : WE) : WE := fun env Q E =>
  a env (fun r e1 => b e1 (fun q e2 => optP ((rs e2 r).bind fun x => (rs e2 q).bind fun y => f x y) fun z => Q (.d z) e2) E) E
def asBl : D → Option Bool
  | .bl b => some b
  | _ => none
def asInt : D → Option Int
  | .int i => some i
  | _ => none
def wAndV (a b : WE) : WE := fun env Q E => a env (fun r e1 => optP ((rs e1 r).bind asBl) fun c => br c (b e1 Q E) (Q (.d (.bl false)) e1)) E
def wOrV (a b : WE) : WE := fun env Q E => a env (fun r e1 => optP ((rs e1 r).bind asBl) fun c => br c (Q (.d (.bl true)) e1) (b e1 Q E)) E
def wNotV (a : WE) : WE := fun env Q E => a env (fun r e1 => optP ((rs e1 r).bind asBl) fun c => Q (.d (.bl (!c))) e1) E
/-- a op b op' c -/
def wChain (f g : D → D → Option Bool) (a b c : WE) : WE := fun env Q E =>
  a env (fun r e1 => b e1 (fun q e2 => optP ((rs e2 r).bind fun x => (rs e2 q).bind fun y => f x y) fun k =>
    br k (c e2 (fun p e3 => optP ((rs e3 q).bind fun y => (rs e3 p).bind fun z => g y z) fun m => Q (.d (.bl m)) e3) E)
    (Q (.d (.bl false)) e2)) E) E
/-! tests -/
def wB (a : WE) : WT := fun env Q E => a env (fun r e1 => optP ((rs e1 r).bind asBl) fun c => Q c e1) E
def wAndT (t u : WT) : WT := fun env Q E => t env (fun c e1 => br c (u e1 Q E) (Q false e1)) E
def wOrT (t u : WT) : WT := fun env Q E => t env (fun c e1 => br c (Q true e1) (u e1 Q E)) E
def wNotT (t : WT) : WT := fun env Q E => t env (fun c e1 => Q (!c) e1) E
def wIf (t : WT) (a b : WE) : WE := fun env Q E => t env (fun c e1 => br c (a e1 Q E) (b e1 Q E)) E
/-! arguments, displays -/
def wA0 : WA := fun env Q _ => Q [] env
def wA1 (a : WE) (r : WA) : WA := fun env Q E => a env (fun x e1 => fzP (fz e1 x) fun pd pe => r pe (fun ds e3 => Q (pd :: ds) e3) E) E
def wTup (as : WA) : WE := fun env Q E => as env (fun ds e => ds.length ≤ SZ ∧ Q (.d (.tup ds)) e) E
/-- a new list -/
def wLst (as : WA) : WA := fun env Q E => as env (fun ds e => ds.length ≤ SZ ∧ Q ds e) E
/-- a new list as a value that is not changed any more -/
def wFz (f : WA) : WE := fun env Q E => f env (fun ds e => Q (.d (.lst ds)) e) E
def wUnF (f : D → Option (List D)) (a : WE) : WA := fun env Q E => a env (fun r e1 => optP ((rs e1 r).bind f) fun z => Q z e1) E
def wBinF (f : D → D → Option (List D)) (a b : WE) : WA := fun env Q E =>
  a env (fun r e1 => b e1 (fun q e2 => optP ((rs e2 r).bind fun x => (rs e2 q).bind fun y => f x y) fun z => Q z e2) E) E
def wCall (c : Ct) (as : WA) : WE := fun env Q E => as env (fun ds e1 => c ds (fun x => Q (.d x) e1) (fun x => E x e1)) E
/-! slices -/
abbrev WO := Env → (Option Int → Env → Prop) → KE → Prop
def wO0 : WO := fun env Q _ => Q none env
def wO1 (a : WE) : WO := fun env Q E => a env (fun r e1 => optP ((rs e1 r).bind asInt) fun i => Q (some i) e1) E
def wSl (f : D → Option Int → Option Int → Option D) (a : WE) (lo hi : WO) : WE := fun env Q E =>
  a env (fun r e1 => lo e1 (fun l e2 => hi e2 (fun h e3 => optP ((rs e3 r).bind fun x => f x l h) fun z => Q (.d z) e3) E) E) E
/-! the changed list in slot i -/
def isOwn (s : Slot) : Bool := match mob s with
  | some (.l _) => true
  | _ => false
def wPopAt (i : Nat) (a : WE) : WE := fun env Q E => isOwn (gt env i) = true ∧ a env (fun r e1 => optP ((rs e1 r).bind asInt) fun k => optP (lob (gt e1 i)) fun xs =>
  0 ≤ k ∧ xs.length ≤ SZ ∧ optP xs[k.toNat]? fun x => Q (.d x) (st e1 i (withO (gt e1 i) (.l (xs.eraseIdx k.toNat))))) E

/-! ### comprehensions -/
def kName (i : Nat) : D → Env → Option Env := fun x e => some (st e i (.val x))
def kTups : List (D → Env → Option Env) → List D → Env → Option Env
  | [], [], e => some e
  | t :: ts, x :: xs, e => (t x e).bind fun e1 => kTups ts xs e1
  | _, _, _ => none
def kTup (ts : List (D → Env → Option Env)) : D → Env → Option Env
  | .tup xs, e => kTups ts xs e
  | _, _ => none
/-- what a loop walks: its items -/
abbrev WI := Env → KA → KE → Prop
def seqOf : D → Option (List D)
  | .lst xs => some xs
  | .tup xs => some xs
  | _ => none
/-- over a value (a list, a tuple), which is not changed any more -/
def wiSeq (a : WE) : WI := fun env Q E => a env (fun r e1 => fzP (fz e1 r) fun pd pe => optP (seqOf pd) fun xs => Q xs pe) E
def wiArgs (f : List D → Option (List D)) (as : WA) : WI := fun env Q E => as env (fun ds e1 => optP (f ds) fun xs => Q xs e1) E
def noOwn (env : Env) : List Nat → Prop
  | [] => True
  | v :: vs => (match mob (gt env v) with
    | some _ => False
    | none => True) ∧ noOwn env vs
def wipeE (env : Env) : List Nat → Env
  | [] => env
  | v :: vs => st (wipeE env vs) v .un
def backE (env0 env : Env) : List Nat → Env
  | [] => env
  | v :: vs => st (backE env0 env vs) v (gt env0 v)
/-- what no exception leaves -/
def noX : KE := fun _ _ => False
def lcGo (tg : D → Env → Option Env) (tt : WT) (el : WE) (vs : List Nat) (Q : KA) : List D → List D → Env → Prop
  | [], acc, env => Q acc env
  | x :: xs, acc, env => optP (tg x env) fun e1 => tt e1 (fun b e2 =>
      br b (el e2 (fun r e3 => fzP (fz e3 r) fun pd pe => acc.length < SZ ∧ noOwn pe vs ∧ lcGo tg tt el vs Q xs (acc ++ [pd]) (wipeE pe vs)) noX)
      (noOwn e2 vs ∧ lcGo tg tt el vs Q xs acc (wipeE e2 vs))) noX
def wTrue : WT := fun env Q _ => Q true env
/-- [el for tg in wi if tt], vs: the slots of its own names -/
def wLc (wi : WI) (tg : D → Env → Option Env) (tt : WT) (el : WE) (vs : List Nat) : WA := fun env Q E =>
  wi env (fun items e1 => noOwn e1 vs ∧ hold (lcGo tg tt el vs (fun acc e2 => Q acc (backE e1 e2 vs)) items [] (wipeE e1 vs))) E

/-! ### statements -/
structure Ds where
  nx : Env → Prop
  rt : D → Env → Prop
  bk : Env → Prop
  ct : Env → Prop
abbrev WS := Ds → Env → KE → Prop
def sNext : WS := fun Z e _ => Z.nx e
def sSeq (a b : WS) : WS := fun Z e E => a { Z with nx := fun e1 => b Z e1 E } e E
def sDrop (a : WE) : WS := fun Z e E => a e (fun _ e1 => Z.nx e1) E
def sRet (a : WE) : WS := fun Z e E => a e (fun r e1 => fzP (fz e1 r) fun pd pe => Z.rt pd pe) E
def sRetN : WS := fun Z e _ => Z.rt .non e
def sIf (t : WT) (a b : WS) : WS := fun Z e E => t e (fun c e1 => br c (a Z e1 E) (b Z e1 E)) E
def sBreak : WS := fun Z e _ => Z.bk e
def sCont : WS := fun Z e _ => Z.ct e
/-- x = a -/
def sSet (i : Nat) (a : WE) : WS := fun Z e E => a e (fun r e1 => fzP (fz e1 r) fun pd pe => Z.nx (st pe i (.val pd))) E
/-- x = a new list -/
def sOwn (i : Nat) (f : WA) : WS := fun Z e E => f e (fun xs e1 => Z.nx (st e1 i (.own (.l xs)))) E
/-- a target of other forms -/
def sAsg (tg : D → Env → Option Env) (a : WE) : WS := fun Z e E => a e (fun r e1 => fzP (fz e1 r) fun pd pe => optP (tg pd pe) Z.nx) E
/-- a, b = x, y -/
inductive Src where
  | v (a : WE) | f (a : WA) | d0
def srcGo : List (Nat × Src) → List (Nat × Slot) → (Env → Prop) → Env → KE → Prop
  | [], acc, Q, e, _ => Q (acc.foldl (fun e p => st e p.1 p.2) e)
  | (i, .v a) :: r, acc, Q, e, E => a e (fun x e1 => fzP (fz e1 x) fun pd pe => srcGo r ((i, .val pd) :: acc) Q pe E) E
  | (i, .f a) :: r, acc, Q, e, E => a e (fun xs e1 => srcGo r ((i, .own (.l xs)) :: acc) Q e1 E) E
  | (i, .d0) :: r, acc, Q, e, E => srcGo r ((i, .own (.d [] [])) :: acc) Q e E
def sPar (l : List (Nat × Src)) : WS := fun Z e E => srcGo l [] Z.nx e E
def sAppend (i : Nat) (a : WE) : WS := fun Z e E => isOwn (gt e i) = true ∧ a e (fun r e1 => fzP (fz e1 r) fun pd pe => optP (lob (gt pe i)) fun xs => xs.length < SZ ∧ Z.nx (st pe i (withO (gt pe i) (.l (xs ++ [pd]))))) E
/-- xs[k] = a -/
def sSetIx (i : Nat) (k a : WE) : WS := fun Z e E => a e (fun r e1 => fzP (fz e1 r) fun pd pe => isOwn (gt pe i) = true ∧ k pe (fun q e2 => optP ((rs e2 q).bind asInt) fun j => optP (lob (gt e2 i)) fun xs =>
  0 ≤ j ∧ j.toNat < xs.length ∧ xs.length ≤ SZ ∧ Z.nx (st e2 i (withO (gt e2 i) (.l (xs.set j.toNat pd))))) E) E
def forGo (tg : D → Env → Option Env) (body : WS) (Z : Ds) (E : KE) : List D → Env → Prop
  | [], e => Z.nx e
  | x :: xs, e => optP (tg x e) fun e1 => body { nx := fun e2 => forGo tg body Z E xs e2, rt := Z.rt, bk := Z.nx, ct := fun e2 => forGo tg body Z E xs e2 } e1 E
theorem forGo_nil {tg : D → Env → Option Env} {body : WS} {Z : Ds} {E : KE} {e : Env} (h : Z.nx e) : forGo tg body Z E [] e := by
  unfold forGo
  exact h
theorem forGo_cons {tg : D → Env → Option Env} {body : WS} {Z : Ds} {E : KE} {x : D} {xs : List D} {e e1 : Env} (h : tg x e = some e1) (k : body { nx := fun e2 => forGo tg body Z E xs e2, rt := Z.rt, bk := Z.nx, ct := fun e2 => forGo tg body Z E xs e2 } e1 E) : forGo tg body Z E (x :: xs) e := by
  unfold forGo
  rw [h]
  exact k
def sFor (wi : WI) (tg : D → Env → Option Env) (body : WS) : WS := fun Z e E => wi e (fun items e1 => hold (forGo tg body Z E items e1)) E
def sWhile (t : WT) (body : WS) : WS := fun Z e E => ∃ W : Nat → Env → Prop, (∃ m, W m e) ∧ ∀ m e, W m e → t e (fun b e1 =>
  br b (body { nx := fun e2 => ∃ m', m' < m ∧ W m' e2, rt := Z.rt, bk := Z.nx, ct := fun e2 => ∃ m', m' < m ∧ W m' e2 } e1 E) (Z.nx e1)) E
def sRaise (c : Nat) (as : WA) : WS := fun _ e E => as e (fun ds e1 => ds.length = 2 ∧ E (.obj c ds) e1) E

/-- a def's body as a contract; n: its other names -/
def fnW (n : Nat) (body : WS) : Ct := fun ds q E => body { nx := fun _ => q .non, rt := fun d _ => q d, bk := fun _ => False, ct := fun _ => False } (ds.map .val ++ List.replicate n .un) (fun x _ => E x)

/-! ### dicts whose keys are integers -/
def isKey (k : D) (i : Int) : Bool := match k with
  | .int j => j == i
  | _ => false
def hasI : List D → Int → Bool
  | [], _ => false
  | k :: ks, i => isKey k i || hasI ks i
def lookI : List D → List D → Int → Option D
  | k :: ks, y :: ys, i => match isKey k i with
    | true => some y
    | false => lookI ks ys i
  | _, _, _ => none
def replI : List D → List D → Int → D → List D
  | k :: ks, y :: ys, i, z => (match isKey k i with
    | true => z
    | false => y) :: replI ks ys i z
  | _, ys, _, _ => ys
def putKs (ks : List D) (i : Int) : List D := match hasI ks i with
  | true => ks
  | false => ks ++ [.int i]
def putYs (ks ys : List D) (i : Int) (z : D) : List D := match hasI ks i with
  | true => replI ks ys i z
  | false => ys ++ [z]
/-- d[k] = a -/
def sPutD (i : Nat) (k a : WE) : WS := fun Z e E => a e (fun r e1 => fzP (fz e1 r) fun pd pe => (dob (gt pe i)).isSome = true ∧ k pe (fun q e2 => optP ((rs e2 q).bind asInt) fun j => optP (dob (gt e2 i)) fun o =>
  o.1.length < SZ ∧ Z.nx (st e2 i (withO (gt e2 i) (.d (putKs o.1 j) (putYs o.1 o.2 j pd))))) E) E
/-- x = {} -/
def sNewD (i : Nat) : WS := fun Z e _ => Z.nx (st e i (.own (.d [] [])))
/-- d.get(k) -/
def fGet1 : D → D → Option D
  | .dct ks ys, .int i => some ((lookI ks ys i).getD .non)
  | _, _ => none
/-! ### operations -/
def fAdd : D → D → Option D
  | .int i, .int j => some (.int (i + j))
  | .tup xs, .tup ys => if xs.length + ys.length ≤ SZ then some (.tup (xs ++ ys)) else none
  | .lst xs, .lst ys => if xs.length + ys.length ≤ SZ then some (.lst (xs ++ ys)) else none
  | .str xs, .str ys => if xs.length + ys.length ≤ SZ then some (.str (xs ++ ys)) else none
  | _, _ => none
def fSub : D → D → Option D
  | .int i, .int j => some (.int (i - j))
  | _, _ => none
def okMul (i j : Int) : Bool := decide ((-(2 ^ 64) < i ∧ i < 2 ^ 64) ∨ (-(2 ^ 64) < j ∧ j < 2 ^ 64))
def fMul : D → D → Option D
  | .int i, .int j => if okMul i j then some (.int (i * j)) else none
  | .tup xs, .int k => if 0 ≤ k ∧ k ≤ 1000 ∧ xs.length ≤ 1000 then some (.tup (List.replicate k.toNat xs).flatten) else none
  | .lst xs, .int k => if 0 ≤ k ∧ k ≤ 1000 ∧ xs.length ≤ 1000 then some (.lst (List.replicate k.toNat xs).flatten) else none
  | _, _ => none
def fMod : D → D → Option D
  | .int i, .int j => if 0 < j then some (.int (i % j)) else none
  | _, _ => none
def fDiv : D → D → Option D
  | .int i, .int j => if 0 < j ∧ j < 1073741824 then some (.int (i / j)) else none
  | _, _ => none
def cLt : D → D → Option Bool
  | .int i, .int j => some (decide (i < j))
  | _, _ => none
def cLe : D → D → Option Bool
  | .int i, .int j => some (decide (i ≤ j))
  | _, _ => none
def cGt (x y : D) : Option Bool := cLt y x
def cGe (x y : D) : Option Bool := cLe y x
def vB (f : D → D → Option Bool) (x y : D) : Option D := (f x y).map D.bl
def cNot (f : D → D → Option Bool) (x y : D) : Option Bool := (f x y).map (!·)
/-- is None -/
def isNon : D → Bool
  | .non => true
  | _ => false
def cIsN : D → D → Option Bool
  | x, .non => some (isNon x)
  | _, _ => none
def cIsB : D → D → Option Bool
  | .bl a, .bl b => some (decide (a = b))
  | _, _ => none
def fLen : D → Option D
  | .str s => if s.length ≤ SZ then some (.int s.length) else none
  | .tup xs => some (.int xs.length)
  | .lst xs => some (.int xs.length)
  | .dct ks _ => some (.int ks.length)
  | _ => none
def atD {α : Type} (xs : List α) (i : Int) : Option α := if 0 ≤ i then xs[i.toNat]? else if 0 ≤ i + xs.length then xs[(i + xs.length).toNat]? else none
def fIx : D → D → Option D
  | .tup xs, .int i => atD xs i
  | .lst xs, .int i => atD xs i
  | .dct ks ys, .int i => lookI ks ys i
  | _, _ => none
/-- a bound of a slice, in place -/
def sIx (n : Nat) (dflt : Nat) : Option Int → Nat
  | none => dflt
  | some i => if 0 ≤ i then min i.toNat n else (i + n).toNat
def cut {α : Type} (xs : List α) (lo hi : Option Int) : List α := (xs.drop (sIx xs.length 0 lo)).take (sIx xs.length xs.length hi - sIx xs.length 0 lo)
def fSlice : D → Option Int → Option Int → Option D
  | .tup xs, lo, hi => some (.tup (cut xs lo hi))
  | .lst xs, lo, hi => some (.lst (cut xs lo hi))
  | _, _, _ => none
def fTuple : D → Option D
  | .lst xs => some (.tup xs)
  | .tup xs => some (.tup xs)
  | _ => none
def fList : D → Option (List D) := seqOf
def blsOf : List D → Option (List Bool)
  | [] => some []
  | .bl b :: r => (blsOf r).map (b :: ·)
  | _ :: _ => none
def intsOf : List D → Option (List Int)
  | [] => some []
  | .int b :: r => (intsOf r).map (b :: ·)
  | _ :: _ => none
def fAll : D → Option D
  | .lst xs => (blsOf xs).map fun bs => .bl (bs.all id)
  | _ => none
def fAny : D → Option D
  | .lst xs => (blsOf xs).map fun bs => .bl (bs.any id)
  | _ => none
def fAbs : D → Option D
  | .int i => some (.int (if i < 0 then -i else i))
  | _ => none
def fInt : D → Option D
  | .int i => some (.int i)
  | .bl b => some (.int (if b then 1 else 0))
  | _ => none
/-- kinds, for isinstance -/
inductive Ty where
  | int | bool | str | tuple | list | dict | none | own (c : Nat)
  deriving DecidableEq
def tyOf : D → Ty
  | .non => .none | .bl _ => .bool | .int _ => .int | .str _ => .str | .tup _ => .tuple | .lst _ => .list | .dct _ _ => .dict | .obj c _ => .own c | .hand => .list
def sub (t u : Ty) : Bool := decide (t = u) || (decide (t = .bool) && decide (u = .int))
/-- cs: the classes whose instances may be asked -/
def fIs (cs : List Nat) (us : List Ty) : D → Option D
  | .obj c _ => if c ∈ cs then some (.bl (us.any (sub (.own c)))) else none
  | x => some (.bl (us.any (sub (tyOf x))))
/-- flat things, for `in` -/
def flatD : D → Bool
  | .non => true | .bl _ => true | .int _ => true | .str _ => true | _ => false
def eqF : D → D → Bool
  | .non, .non => true
  | .bl a, .bl b => a == b
  | .bl a, .int b => (if a then 1 else 0) == b
  | .int a, .bl b => a == (if b then 1 else 0)
  | .int a, .int b => a == b
  | .str a, .str b => a == b
  | _, _ => false
def cInS (x y : D) : Option Bool := match seqOf y with
  | some ys => if flatD x && ys.all flatD then some (ys.any fun y => eqF y x) else none
  | none => none
def cIn (x y : D) : Option Bool := match y with
  | .dct ks _ => match x with
    | .int i => some (hasI ks i)
    | _ => none
  | _ => cInS x y
/-! trees of tuples and lists over None, truths and integers; their depth -/
mutual
def plain : D → Bool
  | .non => true | .int _ => true | .bl _ => true
  | .tup xs => plains xs
  | .lst xs => plains xs
  | _ => false
def plains : List D → Bool
  | [] => true
  | x :: xs => plain x && plains xs
end
mutual
def dep : D → Nat
  | .tup xs => deps xs + 1
  | .lst xs => deps xs + 1
  | _ => 0
def deps : List D → Nat
  | [] => 0
  | x :: xs => max (dep x) (deps xs)
end
mutual
def eqD : D → D → Bool
  | .non, .non => true
  | .int a, .int b => a == b
  | .bl a, .bl b => a == b
  | .bl a, .int b => (if a then 1 else 0) == b
  | .int a, .bl b => a == (if b then 1 else 0)
  | .tup xs, .tup ys => eqDs xs ys
  | .lst xs, .lst ys => eqDs xs ys
  | _, _ => false
def eqDs : List D → List D → Bool
  | [], [] => true
  | x :: xs, y :: ys => eqD x y && eqDs xs ys
  | _, _ => false
end
def scalD : D → D → Bool
  | .non, .non => true | .non, .int _ => true | .int _, .non => true | .non, .bl _ => true | .bl _, .non => true | .non, .str _ => true | .str _, .non => true
  | .int _, .int _ => true | .bl _, .bl _ => true | .str _, .str _ => true
  | _, _ => false
def eqS : D → D → Bool
  | .non, .non => true
  | .int a, .int b => a == b
  | .bl a, .bl b => a == b
  | .str a, .str b => a == b
  | _, _ => false
def cEq (x y : D) : Option Bool := if scalD x y then some (eqS x y) else if plain x && plain y && dep x ≤ 60 && dep y ≤ 60 then some (eqD x y) else none
def rangeD (n : Nat) (lo : Int) : List D := (List.range n).map fun (k : Nat) => D.int (lo + k)
def fRange1 : List D → Option (List D)
  | [.int j] => if -(2 ^ 62) ≤ j ∧ j < 2 ^ 62 then some (rangeD j.toNat 0) else none
  | _ => none
def fRange2 : List D → Option (List D)
  | [.int i, .int j] => if -(2 ^ 62) ≤ i ∧ i < 2 ^ 62 ∧ -(2 ^ 62) ≤ j ∧ j < 2 ^ 62 then some (rangeD (j - i).toNat i) else none
  | _ => none
def enumD : Nat → List D → List D
  | _, [] => []
  | k, x :: xs => .tup [.int (k : Int), x] :: enumD (k + 1) xs
def fEnum : List D → Option (List D)
  | [x] => (seqOf x).map (enumD 0)
  | _ => none
def zipD : List D → List D → List D
  | x :: xs, y :: ys => .tup [x, y] :: zipD xs ys
  | _, _ => []
def fZip : List D → Option (List D)
  | [.tup xs, .tup ys] => some (zipD xs ys)
  | [.lst xs, .lst ys] => some (zipD xs ys)
  | _ => none
/-! ### more operations, statements -/
def wSome (a : WE) (lo st : WO) : WE := fun env Q E => a env (fun r e1 => lo e1 (fun _ e2 => st e2 (fun s e3 => s ≠ some 0 ∧ optP (rs e3 r) fun x => match x with
  | .lst xs => ∀ ys, (∀ y ∈ ys, y ∈ xs) → ys.length ≤ xs.length → Q (.d (.lst ys)) e3
  | _ => False) E) E) E
def fBack : D → Option D
  | .lst xs => some (.lst xs.reverse)
  | .tup xs => some (.tup xs.reverse)
  | _ => none
def intsD (x : D) : Option (List Int) := match x with
  | .lst xs => intsOf xs
  | .tup xs => intsOf xs
  | _ => none
def wSortSet (a : WE) : WA := fun env Q E => a env (fun r e1 => optP ((rs e1 r).bind intsD) fun ns => ns.length < 64 ∧ ∀ ms : List Int, ms.length < 64 → ms.Pairwise (· < ·) → (∀ k, k ∈ ms ↔ k ∈ ns) → Q (ms.map D.int) e1) E
def isObj (c : Nat) : D → Bool
  | .obj c' _ => c' == c
  | _ => false
def okO (c : Nat) : D → Bool
  | .non => true | .int _ => true | .tup _ => true
  | .obj c' _ => c' == c
  | _ => false
def wOwnEq (neg : Bool) (c : Nat) (ct : Ct) (a b : WE) : WE := fun env Q E => a env (fun r e1 => b e1 (fun q e2 => fzP (fz e2 r) fun d1 f1 => fzP (fz f1 q) fun d2 f2 => isObj c d1 = true ∧ okO c d2 = true ∧
  ct [d1, d2] (fun z => optP (asBl z) fun k => Q (.d (.bl (if neg then !k else k))) f2) fun x => E x f2) E) E
def fNeg : D → Option D
  | .int i => some (.int (-i))
  | _ => none
def fPow : D → D → Option D
  | .int i, .int j => if 0 ≤ j ∧ j ≤ 1000 ∧ i.natAbs ≤ 1000 then some (.int (i ^ j.toNat)) else none
  | _, _ => none
def fRgL (x : D) : Option (List D) := (asInt x).bind fun j => if 0 ≤ j ∧ j ≤ 1000 then some (rangeD j.toNat 0) else none
def fRgT (x : D) : Option D := (asInt x).bind fun j => if 0 ≤ j ∧ j ≤ 1000 then some (.tup (rangeD j.toNat 0)) else none
inductive IS where
  | st (x : WS) | fld (a : WE)
def initGo : List IS → List D → (List D → Prop) → KE → Env → Prop
  | [], acc, Q, _, _ => Q acc
  | .fld a :: r, acc, Q, E, e => a e (fun x e1 => fzP (fz e1 x) fun pd pe => (∃ s, gt e 0 = .fix s ∧ gt pe 0 = .fix s) ∧ initGo r (acc ++ [pd]) Q E pe) E
  | .st x :: r, acc, Q, E, e => x { nx := fun e1 => (∃ s, gt e 0 = .fix s ∧ gt e1 0 = .fix s) ∧ initGo r acc Q E e1, rt := fun _ _ => False, bk := fun _ => False, ct := fun _ => False } e E
def fnI (n : Nat) (c : Nat) (ini : List IS) : Ct := fun ds q E => ∀ a : Nat, initGo ini [] (fun xs => q (.obj c xs)) (fun x _ => E x) (.fix a :: (ds.map .val ++ List.replicate n .un))
def sTryX (body : WS) (c i j : Nat) : WS := fun Z e E => body Z e (fun x e1 => match x with
  | .obj c' [x1, x2] => c' = c ∧ i < e1.length ∧ Z.nx (st (st e1 j (.val (.tup [x1, x2]))) i .un)
  | _ => False)
def fMulL : D → D → Option (List D)
  | .lst xs, .int k => if 0 ≤ k ∧ k ≤ 1000 ∧ xs.length ≤ 1000 then some (List.replicate k.toNat xs).flatten else none
  | _, _ => none
def fFld (c i : Nat) : D → Option D
  | .obj d xs => if d = c then xs[i]? else none
  | _ => none
/-! ### loops by their items -/
theorem lc_map {kt : D → Env → Option Env} {el : WE} {vs : List Nat} {Q : KA} {env : Env} (g : D → D) : ∀ {items acc : List D}, (∀ x ∈ items, ∃ e1, kt x env = some e1 ∧ noOwn e1 vs ∧ wipeE e1 vs = env ∧ ∀ Qk : KR, Qk (.d (g x)) e1 → el e1 Qk noX) → acc.length + items.length ≤ SZ → Q (acc ++ items.map g) env →
    lcGo kt wTrue el vs Q items acc env
  | [], acc, _, _, q => by simpa [lcGo] using q
  | x :: xs, acc, h, hl, q => by
    obtain ⟨e1, h1, h2, h3, h4⟩ := h x List.mem_cons_self
    unfold lcGo
    rw [h1]
    simp only [optP_some, wTrue, br_t]
    refine h4 _ ?_
    simp only [fz, fzP_some]
    have hl' : acc.length + (xs.length + 1) ≤ SZ := by simpa using hl
    refine ⟨by omega, h2, ?_⟩
    rw [h3]
    exact lc_map g (fun y hy => h y (List.mem_cons_of_mem _ hy)) (by simp; omega) (by simpa using q)
/-- some of the items, told by tests of which nothing is known -/
theorem lc_any {kt : D → Env → Option Env} {tt : WT} {el : WE} {vs : List Nat} {Q : KA} {env : Env} {p : D → Prop} : ∀ {items acc : List D}, (∀ x ∈ items, ∃ e1, kt x env = some e1 ∧ noOwn e1 vs ∧ wipeE e1 vs = env ∧ (∀ Qt : Bool → Env → Prop, (∀ b, Qt b e1) → tt e1 Qt noX) ∧ ∀ Qk : KR, (∀ y, p y → Qk (.d y) e1) → el e1 Qk noX) →
    acc.length + items.length ≤ SZ → (∀ y ∈ acc, p y) → (∀ ys, (∀ y ∈ ys, p y) → ys.length ≤ acc.length + items.length → Q ys env) → lcGo kt tt el vs Q items acc env
  | [], acc, _, _, ha, q => by
    unfold lcGo
    exact q acc ha (by simp)
  | x :: xs, acc, h, hl, ha, q => by
    obtain ⟨e1, h1, h2, h3, h4, h5⟩ := h x List.mem_cons_self
    have hl' : acc.length + (xs.length + 1) ≤ SZ := by simpa using hl
    unfold lcGo
    rw [h1]
    simp only [optP_some]
    refine h4 _ fun b => ?_
    cases b with
    | false =>
      rw [br_f]
      refine ⟨h2, ?_⟩
      rw [h3]
      exact lc_any (fun y hy => h y (List.mem_cons_of_mem _ hy)) (by omega) ha fun ys a b => q ys a (by simp; omega)
    | true =>
      rw [br_t]
      refine h5 _ fun y hy => ?_
      simp only [fz, fzP_some]
      refine ⟨by omega, h2, ?_⟩
      rw [h3]
      refine lc_any (fun y hy => h y (List.mem_cons_of_mem _ hy)) (by simp; omega) (fun z hz => ?_) fun ys a b => q ys a (by simp at b ⊢; omega)
      rcases List.mem_append.mp hz with hz | hz
      · exact ha z hz
      · rw [List.mem_singleton.mp hz]; exact hy
theorem for_inv {tg : D → Env → Option Env} {body : WS} {Z : Ds} {E : KE} (I : List D → Env → Prop) {items : List D} : ∀ {rest done : List D} {e : Env}, items = done ++ rest → I done e →
    (∀ done x rest e, items = done ++ x :: rest → I done e → ∀ Zk : Env → Prop, (∀ e2, I (done ++ [x]) e2 → Zk e2) → ∃ e1, tg x e = some e1 ∧ body { nx := Zk, rt := Z.rt, bk := Z.nx, ct := Zk } e1 E) → (∀ e, I items e → Z.nx e) → forGo tg body Z E rest e
  | [], done, e, h, hi, _, fin => by
    unfold forGo
    rw [List.append_nil] at h
    exact fin e (h ▸ hi)
  | x :: rest, done, e, h, hi, step, fin => by
    obtain ⟨e1, h1, h2⟩ := step done x rest e h hi (fun e2 => forGo tg body Z E rest e2) fun e2 h2 => for_inv I (by rw [h]; simp) h2 step fin
    unfold forGo
    rw [h1]
    exact h2
theorem for_mem {tg : D → Env → Option Env} {body : WS} {Z : Ds} {E : KE} (I : Env → Prop) {items : List D} {e : Env} (h0 : I e)
    (step : ∀ x ∈ items, ∀ e, I e → ∀ Zk : Env → Prop, (∀ e2, I e2 → Zk e2) → ∃ e1, tg x e = some e1 ∧ body { nx := Zk, rt := Z.rt, bk := Z.nx, ct := Zk } e1 E) (fin : ∀ e, I e → Z.nx e) : hold (forGo tg body Z E items e) :=
  hold_i (for_inv (fun _ => I) (done := []) rfl h0 (fun done x rest e h hi Zk hk => step x (by rw [List.nil_append] at h; rw [h]; simp) e hi Zk hk) fin)
theorem for_pre {tg : D → Env → Option Env} {body : WS} {Z : Ds} {E : KE} (I : List D → Env → Prop) {items : List D} {e : Env} (h0 : I [] e)
    (step : ∀ done x rest e, items = done ++ x :: rest → I done e → ∀ Zk : Env → Prop, (∀ e2, I (done ++ [x]) e2 → Zk e2) → ∃ e1, tg x e = some e1 ∧ body { nx := Zk, rt := Z.rt, bk := Z.nx, ct := Zk } e1 E) (fin : ∀ e, I items e → Z.nx e) : hold (forGo tg body Z E items e) :=
  hold_i (for_inv I (done := []) rfl h0 step fin)
theorem lc_mapH {kt : D → Env → Option Env} {el : WE} {vs : List Nat} {Q : KA} {env : Env} (g : D → D) {items : List D} (h : ∀ x ∈ items, ∃ e1, kt x env = some e1 ∧ noOwn e1 vs ∧ wipeE e1 vs = env ∧ ∀ Qk : KR, Qk (.d (g x)) e1 → el e1 Qk noX) (hl : items.length ≤ SZ) (q : Q (items.map g) env) :
    hold (lcGo kt wTrue el vs Q items [] env) := hold_i (lc_map g h (by simpa using hl) (by simpa using q))
theorem lc_anyH {kt : D → Env → Option Env} {tt : WT} {el : WE} {vs : List Nat} {Q : KA} {env : Env} (p : D → Prop) {items : List D} (h : ∀ x ∈ items, ∃ e1, kt x env = some e1 ∧ noOwn e1 vs ∧ wipeE e1 vs = env ∧ (∀ Qt : Bool → Env → Prop, (∀ b, Qt b e1) → tt e1 Qt noX) ∧ ∀ Qk : KR, (∀ y, p y → Qk (.d y) e1) → el e1 Qk noX)
    (hl : items.length ≤ SZ) (q : ∀ ys, (∀ y ∈ ys, p y) → ys.length ≤ items.length → Q ys env) : hold (lcGo kt tt el vs Q items [] env) := hold_i (lc_any h (by simpa using hl) (fun _ h => by cases h) fun ys a b => q ys a (by simpa using b))
/-- the items of which a test holds, each told anew -/
theorem lc_filt {kt : D → Env → Option Env} {tt : WT} {el : WE} {vs : List Nat} {Q : KA} {env : Env} (f : D → Bool) (g : D → D) : ∀ {items acc : List D}, (∀ x ∈ items, ∃ e1, kt x env = some e1 ∧ noOwn e1 vs ∧ wipeE e1 vs = env ∧ (∀ Qt : Bool → Env → Prop, Qt (f x) e1 → tt e1 Qt noX) ∧ ∀ Qk : KR, f x = true → Qk (.d (g x)) e1 → el e1 Qk noX) →
    acc.length + items.length ≤ SZ → Q (acc ++ (items.filter f).map g) env → lcGo kt tt el vs Q items acc env
  | [], acc, _, _, q => by
    unfold lcGo
    simpa using q
  | x :: xs, acc, h, hl, q => by
    obtain ⟨e1, h1, h2, h3, h4, h5⟩ := h x List.mem_cons_self
    have hl' : acc.length + (xs.length + 1) ≤ SZ := by simpa using hl
    unfold lcGo
    rw [h1]
    simp only [optP_some]
    refine h4 _ ?_
    cases hf : f x with
    | false =>
      rw [br_f]
      refine ⟨h2, ?_⟩
      rw [h3]
      exact lc_filt f g (fun y hy => h y (List.mem_cons_of_mem _ hy)) (by omega) (by simpa [hf] using q)
    | true =>
      rw [br_t]
      refine h5 _ hf ?_
      simp only [fz, fzP_some]
      refine ⟨by omega, h2, ?_⟩
      rw [h3]
      exact lc_filt f g (fun y hy => h y (List.mem_cons_of_mem _ hy)) (by simp; omega) (by simpa [hf] using q)
theorem lc_filtH {kt : D → Env → Option Env} {tt : WT} {el : WE} {vs : List Nat} {Q : KA} {env : Env} (f : D → Bool) (g : D → D) {items : List D} (h : ∀ x ∈ items, ∃ e1, kt x env = some e1 ∧ noOwn e1 vs ∧ wipeE e1 vs = env ∧ (∀ Qt : Bool → Env → Prop, Qt (f x) e1 → tt e1 Qt noX) ∧ ∀ Qk : KR, f x = true → Qk (.d (g x)) e1 → el e1 Qk noX)
    (hl : items.length ≤ SZ) (q : Q ((items.filter f).map g) env) : hold (lcGo kt tt el vs Q items [] env) := hold_i (lc_filt f g h (by simpa using hl) (by simpa using q))
/-! ### exceptions without fields -/
def sRaise0 (c : Nat) : WS := fun _ e E => E (.obj c []) e
/-- isinstance of the exception that is handled -/
def wExI (i a : Nat) (b : Bool) : WE := fun env Q _ => gt env i = .fix a ∧ Q (.d (.bl b)) env
/-- try: body, except as i: hd (by the class, by where the exception stands) -/
def sTry (body : WS) (caught : Nat → Bool) (i : Nat) (hd : Nat → Nat → WS) : WS := fun Z e E => body Z e (fun x e1 => match x with
  | .obj c [] => caught c = true ∧ i < e1.length ∧ ∀ a, hd c a { nx := fun e2 => Z.nx (st e2 i .un), rt := Z.rt, bk := fun e2 => Z.bk (st e2 i .un), ct := fun e2 => Z.ct (st e2 i .un) } (st e1 i (.fix a)) (fun _ _ => False)
  | _ => False) 
/-! ### objects handed in to be changed -/
/-- a contract: what is handed in (values; objects), what is wanted of the answer and of the objects -/
abbrev CtR := List (D ⊕ Ob) → (D → List Ob → Prop) → Prop
inductive Pa where
  | v | r (i : Nat) | n
def mergeA : List Pa → List D → Env → Option (List (D ⊕ Ob))
  | [], [], _ => some []
  | .v :: ps, d :: ds, e => (mergeA ps ds e).map (.inl d :: ·)
  | .r i :: ps, ds, e => (mob (gt e i)).bind fun o => (mergeA ps ds e).map (.inr o :: ·)
  | .n :: ps, ds, e => (mergeA ps ds e).map (.inr (.d [] []) :: ·)
  | _, _, _ => none
def puts : List Pa → List Ob → Env → Option Env
  | [], [], e => some e
  | .v :: ps, os, e => puts ps os e
  | .r i :: ps, o :: os, e => puts ps os (st e i (withO (gt e i) o))
  | .n :: ps, _ :: os, e => puts ps os e
  | _, _, _ => none
def allR : List Pa → Env → Bool
  | [], _ => true
  | .r i :: ps, e => (mob (gt e i)).isSome && allR ps e
  | .v :: ps, e => allR ps e
  | .n :: ps, e => allR ps e
def wCallR (c : CtR) (ps : List Pa) (as : WA) : WE := fun env Q E => allR ps env = true ∧ as env (fun ds e1 => optP (mergeA ps ds e1) fun ar => c ar fun x os => optP (puts ps os e1) fun e2 => Q (.d x) e2) E
/-- the slots of what is handed in -/
def inR : List (D ⊕ Ob) → List Nat → List Slot
  | .inl d :: r, as => .val d :: inR r as
  | .inr o :: r, a :: as => .ref a o :: inR r as
  | _, _ => []
/-- the objects behind it -/
def outR : List (D ⊕ Ob) → List Nat → Env → Option (List Ob)
  | [], [], _ => some []
  | .inl _ :: r, as, _ :: e => outR r as e
  | .inr _ :: r, a :: as, s :: e => match s with
    | .ref b o => match b == a with
      | true => (outR r as e).map (o :: ·)
      | false => none
    | .un => none
    | .val _ => none
    | .own _ => none
    | .fix _ => none
  | _, _, _ => none
def nRef : List (D ⊕ Ob) → Nat
  | [] => 0
  | .inl _ :: r => nRef r
  | .inr _ :: r => nRef r + 1
def fnR (n : Nat) (body : WS) : CtR := fun ar q => ∀ as : List Nat, as.length = nRef ar → as.Nodup → body { nx := fun e => optP (outR ar as e) (q .non), rt := fun d e => optP (outR ar as e) (q d), bk := fun _ => False, ct := fun _ => False } (inR ar as ++ List.replicate n .un) fun _ _ => False
def isDct : D → Bool
  | .dct _ _ => true
  | _ => false
/-- x.get(k), x a name -/
def wGetV (i : Nat) (k : WE) : WE := fun env Q E => optP (rs env (.loc i)) fun x => isDct x = true ∧ k env (fun q e2 => optP ((rs e2 (.loc i)).bind fun x => (rs e2 q).bind fun y => fGet1 x y) fun z => Q (.d z) e2) E
/-! ### dict comprehensions -/
def dcGo (tg : D → Env → Option Env) (tt : WT) (ke ve : WE) (vs : List Nat) (Q : List D → List D → Env → Prop) : List D → List D → List D → Env → Prop
  | [], ks, ys, env => Q ks ys env
  | x :: xs, ks, ys, env => optP (tg x env) fun e1 => tt e1 (fun b e2 =>
      br b (ke e2 (fun r e3 => optP ((rs e3 r).bind asInt) fun j => ve e3 (fun q e4 => fzP (fz e4 q) fun pd pe => ks.length < SZ ∧ noOwn pe vs ∧ dcGo tg tt ke ve vs Q xs (putKs ks j) (putYs ks ys j pd) (wipeE pe vs)) noX) noX)
      (noOwn e2 vs ∧ dcGo tg tt ke ve vs Q xs ks ys (wipeE e2 vs))) noX
/-- {ke: ve for tg in wi if tt}, the keys integers -/
def wDc (wi : WI) (tg : D → Env → Option Env) (tt : WT) (ke ve : WE) (vs : List Nat) : WE := fun env Q E =>
  wi env (fun items e1 => noOwn e1 vs ∧ hold (dcGo tg tt ke ve vs (fun ks ys e2 => Q (.d (.dct ks ys)) (backE e1 e2 vs)) items [] [] (wipeE e1 vs))) E
/-- the keys whose value is h -/
def keysEq (ks ys : List D) (h : Int) : List D → Option (List D)
  | [] => some []
  | .int i :: r => ((lookI ks ys i).bind asInt).bind fun j => (keysEq ks ys h r).map fun z => match j == h with
    | true => .int i :: z
    | false => z
  | _ => none
def fKeysEq : D → D → Option (List D)
  | .dct ks ys, .int h => if ks.length ≤ SZ then keysEq ks ys h ks else none
  | _, _ => none
/-- [x for x in d if d[x] == h] -/
def wKeysEq (i j v : Nat) : WA := fun env Q _ => v < env.length ∧ optP ((rs env (.loc i)).bind fun x => (rs env (.loc j)).bind fun y => fKeysEq x y) fun zs => Q zs env
def invD (ks ys : List D) : List D → List D × List D → Option (List D × List D)
  | [], acc => some acc
  | .int i :: r, acc => ((lookI ks ys i).bind asInt).bind fun j => invD ks ys r (putKs acc.1 j, putYs acc.1 acc.2 j (.int i))
  | _, _ => none
def fInv : D → Option D
  | .dct ks ys => if ks.length ≤ SZ then (invD ks ys ks ([], [])).map fun p => .dct p.1 p.2 else none
  | _ => none
/-- {d[x]: x for x in d} -/
def wInv (i v : Nat) : WE := fun env Q _ => v < env.length ∧ optP ((rs env (.loc i)).bind fInv) fun z => Q (.d z) env
/-! ### the least, the greatest; sorted integers -/
def wArgF (f : List D → Option D) (as : WA) : WE := fun env Q E => as env (fun ds e => optP (f ds) fun z => Q (.d z) e) E
def min2 (i j : Int) : Int := if j < i then j else i
def max2 (i j : Int) : Int := if j > i then j else i
def fMin2 : List D → Option D
  | [.int i, .int j] => some (.int (min2 i j))
  | _ => none
def fMax2 : List D → Option D
  | [.int i, .int j] => some (.int (max2 i j))
  | _ => none
def fMin3 : List D → Option D
  | [.int i, .int j, .int k] => some (.int (min2 (min2 i j) k))
  | _ => none
/-- sorted(a), integers -/
def wSortI (a : WE) : WA := fun env Q E => a env (fun r e1 => optP ((rs e1 r).bind intsD) fun ns => ∀ ms : List Int, ms.Perm ns → ms.Pairwise (· ≤ ·) → Q (ms.map D.int) e1) E
/-! ### how many unlike ones; the greatest of some -/
def cnt : List Int → Nat
  | [] => 0
  | x :: xs => match xs.contains x with
    | true => cnt xs
    | false => cnt xs + 1
/-- len(set(a)), integers -/
def fLenSet (x : D) : Option D := (intsD x).bind fun ns => if ns.length ≤ 1000 then some (.int (cnt ns)) else none
def intsL : D → Option (List Int)
  | .lst xs => intsOf xs
  | _ => none
/-- max(a), min(a), a list of integers, one at least -/
def wMaxL (a : WE) : WE := fun env Q E => a env (fun r e1 => optP ((rs e1 r).bind intsL) fun ns => ns ≠ [] ∧ ∀ m, m ∈ ns → (∀ k ∈ ns, k ≤ m) → Q (.d (.int m)) e1) E
def wMinL (a : WE) : WE := fun env Q E => a env (fun r e1 => optP ((rs e1 r).bind intsL) fun ns => ns ≠ [] ∧ ∀ m, m ∈ ns → (∀ k ∈ ns, m ≤ k) → Q (.d (.int m)) e1) E
/-! ### which exceptions -/
def isC (l : List Nat) (c : Nat) : Bool := l.contains c
def isX (c : Nat) (l : List Nat) : Bool := l.contains c
end LW
end Core_

section S1_
set_option maxRecDepth 100000
/-! Own layer, part 1: how data trees lie in the abstract heap; what is kept. -/
namespace LW
open PySem PySem.Spec PyProof.Rows L2

/-- the classes: where they stand, their fields -/
structure Cl where
  ca : Nat → Addr
  cf : Nat → List Str
structure Gx where
  cl : Cl
  h : Addr
  c : Addr
def strV (s : List Nat) : Str := ⟨s.toArray⟩
/-- the hand of the draws: its cells at c, the next one's place, what is left of one, a mix, how many were mixed -/
def IsHand (G : Gx) (H : Hp) : Prop := ∃ (ns : List Int) (i1 i2 i3 i4 : Int), G.c ≠ G.h ∧
  H G.h = some (.lst [.ref G.c, .int i1, .int i2, .int i3, .int i4]) ∧ H G.c = some (.lst (ns.map V.int)) ∧
  (∀ n ∈ ns, 0 ≤ n) ∧ 0 ≤ i1 ∧ i1 ≤ ns.length ∧ ns.length ≤ 63 ∧ 0 ≤ i2 ∧ 0 ≤ i3 ∧ i3 < 2147483647 ∧ 0 ≤ i4

def keyD : L2.Key → D
  | .inl i => .int i
  | .inr s => .str s.cps.toList
mutual
inductive Rep (G : Gx) (O : Addr → Prop) (H : Hp) : V → D → Prop
  | non : Rep G O H .non .non
  | bl (b : Bool) : Rep G O H (.bl b) (.bl b)
  | int (i : Int) : Rep G O H (.int i) (.int i)
  | str (s : List Nat) : Rep G O H (.str (strV s)) (.str s)
  | tup {a : Addr} {vs : List V} {xs : List D} (no : ¬ O a) (e : H a = some (.tup vs)) (r : Reps G O H vs xs) : Rep G O H (.ref a) (.tup xs)
  | lst {a : Addr} {vs : List V} {xs : List D} (no : ¬ O a) (e : H a = some (.lst vs)) (r : Reps G O H vs xs) : Rep G O H (.ref a) (.lst xs)
  | dct {a : Addr} {kk : List L2.Key} {vs : List V} {ys : List D} (no : ¬ O a) (e : H a = some (.dK (kk.zip vs))) (l : kk.length = vs.length) (r : Reps G O H vs ys) : Rep G O H (.ref a) (.dct (kk.map keyD) ys)
  | obj {a dx : Addr} {c : Nat} {vs : List V} {xs : List D} (no : ¬ O a) (e : H a = some (.ins (G.cl.ca c) dx ((G.cl.cf c).zip vs))) (l : (G.cl.cf c).length = vs.length) (r : Reps G O H vs xs) : Rep G O H (.ref a) (.obj c xs)
  | hand (e : IsHand G H) : Rep G O H (.ref G.h) .hand
inductive Reps (G : Gx) (O : Addr → Prop) (H : Hp) : List V → List D → Prop
  | nil : Reps G O H [] []
  | cons {v : V} {x : D} {vs : List V} {xs : List D} (h : Rep G O H v x) (t : Reps G O H vs xs) : Reps G O H (v :: vs) (x :: xs)
end

/-- what stands and may not be changed stands on; the hand is a hand -/
structure Kp (G : Gx) (O : Addr → Prop) (H : Hp) (O' : Addr → Prop) (H' : Hp) : Prop where
  at_ : ∀ a o, H a = some o → ¬ O a → H' a = some o ∧ ¬ O' a
  hnd : IsHand G H → IsHand G H'
theorem Kp.refl {G : Gx} {O : Addr → Prop} {H : Hp} : Kp G O H O H := ⟨fun _ _ e n => ⟨e, n⟩, fun h => h⟩
theorem Kp.trans {G : Gx} {O O1 O2 : Addr → Prop} {H H1 H2 : Hp} (a : Kp G O H O1 H1) (b : Kp G O1 H1 O2 H2) : Kp G O H O2 H2 :=
  ⟨fun x o e n => b.at_ x o (a.at_ x o e n).1 (a.at_ x o e n).2, fun h => b.hnd (a.hnd h)⟩
mutual
theorem Rep.step {G : Gx} {O O' : Addr → Prop} {H H' : Hp} (k : Kp G O H O' H') : ∀ {v : V} {x : D}, Rep G O H v x → Rep G O' H' v x
  | _, _, .non => .non
  | _, _, .bl b => .bl b
  | _, _, .int i => .int i
  | _, _, .str s => .str s
  | _, _, .tup no e r => .tup (k.at_ _ _ e no).2 (k.at_ _ _ e no).1 (Reps.step k r)
  | _, _, .lst no e r => .lst (k.at_ _ _ e no).2 (k.at_ _ _ e no).1 (Reps.step k r)
  | _, _, .dct no e l r => .dct (k.at_ _ _ e no).2 (k.at_ _ _ e no).1 l (Reps.step k r)
  | _, _, .obj no e l r => .obj (k.at_ _ _ e no).2 (k.at_ _ _ e no).1 l (Reps.step k r)
  | _, _, .hand e => .hand (k.hnd e)
theorem Reps.step {G : Gx} {O O' : Addr → Prop} {H H' : Hp} (k : Kp G O H O' H') : ∀ {vs : List V} {xs : List D}, Reps G O H vs xs → Reps G O' H' vs xs
  | _, _, .nil => .nil
  | _, _, .cons h t => .cons (Rep.step k h) (Reps.step k t)
end
theorem Kp.weak {G : Gx} {O O' : Addr → Prop} {H : Hp} (h : ∀ a, O' a → O a) : Kp G O H O' H := ⟨fun a _ e n => ⟨e, fun z => n (h a z)⟩, fun h => h⟩
theorem Reps.length {G : Gx} {O : Addr → Prop} {H : Hp} : ∀ {vs : List V} {xs : List D}, Reps G O H vs xs → vs.length = xs.length
  | _, _, .nil => rfl
  | _, _, .cons _ t => by simp [Reps.length t]
theorem Reps.get {G : Gx} {O : Addr → Prop} {H : Hp} : ∀ {vs : List V} {xs : List D} (i : Nat) {x : D}, Reps G O H vs xs → xs[i]? = some x → ∃ v, vs[i]? = some v ∧ Rep G O H v x
  | _, _, _, _, .nil, e => by simp at e
  | _, _, 0, _, .cons h t, e => by simp at e; subst e; exact ⟨_, rfl, h⟩
  | _, _, i + 1, _, .cons h t, e => by
    obtain ⟨v, a, b⟩ := Reps.get i t (by simpa using e)
    exact ⟨v, by simpa using a, b⟩
theorem Reps.getV {G : Gx} {O : Addr → Prop} {H : Hp} : ∀ {vs : List V} {xs : List D} (i : Nat) {v : V}, Reps G O H vs xs → vs[i]? = some v → ∃ x, xs[i]? = some x ∧ Rep G O H v x
  | _, _, _, _, .nil, e => by simp at e
  | _, _, 0, _, .cons h t, e => by simp at e; subst e; exact ⟨_, rfl, h⟩
  | _, _, i + 1, _, .cons h t, e => by
    obtain ⟨v, a, b⟩ := Reps.getV i t (by simpa using e)
    exact ⟨v, by simpa using a, b⟩
theorem Reps.append {G : Gx} {O : Addr → Prop} {H : Hp} : ∀ {vs ws : List V} {xs ys : List D}, Reps G O H vs xs → Reps G O H ws ys → Reps G O H (vs ++ ws) (xs ++ ys)
  | _, _, _, _, .nil, s => s
  | _, _, _, _, .cons h t, s => .cons h (Reps.append t s)
theorem Reps.take {G : Gx} {O : Addr → Prop} {H : Hp} : ∀ {vs : List V} {xs : List D} (n : Nat), Reps G O H vs xs → Reps G O H (vs.take n) (xs.take n)
  | _, _, 0, _ => by simp; exact .nil
  | _, _, _ + 1, .nil => by simp; exact .nil
  | _, _, n + 1, .cons h t => by simp; exact .cons h (Reps.take n t)
theorem Reps.drop {G : Gx} {O : Addr → Prop} {H : Hp} : ∀ {vs : List V} {xs : List D} (n : Nat), Reps G O H vs xs → Reps G O H (vs.drop n) (xs.drop n)
  | _, _, 0, s => by simpa using s
  | _, _, _ + 1, .nil => by simp; exact .nil
  | _, _, n + 1, .cons h t => by simp; exact Reps.drop n t
theorem Reps.set {G : Gx} {O : Addr → Prop} {H : Hp} {v : V} {x : D} (r : Rep G O H v x) : ∀ {vs : List V} {xs : List D} (n : Nat), Reps G O H vs xs → Reps G O H (vs.set n v) (xs.set n x)
  | _, _, _, .nil => by simp; exact .nil
  | _, _, 0, .cons h t => by simp; exact .cons r t
  | _, _, n + 1, .cons h t => by simp; exact .cons h (Reps.set r n t)
theorem Reps.eraseIdx {G : Gx} {O : Addr → Prop} {H : Hp} : ∀ {vs : List V} {xs : List D} (n : Nat), Reps G O H vs xs → Reps G O H (vs.eraseIdx n) (xs.eraseIdx n)
  | _, _, _, .nil => by simp; exact .nil
  | _, _, 0, .cons h t => by simp; exact t
  | _, _, n + 1, .cons h t => by simp; exact .cons h (Reps.eraseIdx n t)
theorem Reps.flat {G : Gx} {O : Addr → Prop} {H : Hp} {vs : List V} {xs : List D} (r : Reps G O H vs xs) : ∀ n : Nat, Reps G O H (List.replicate n vs).flatten (List.replicate n xs).flatten
  | 0 => by simp; exact .nil
  | n + 1 => by
    rw [List.replicate_succ, List.replicate_succ, List.flatten_cons, List.flatten_cons]
    exact r.append (Reps.flat r n)
theorem Reps.bls {G : Gx} {O : Addr → Prop} {H : Hp} : ∀ {vs : List V} {xs : List D} {bs : List Bool}, Reps G O H vs xs → blsOf xs = some bs → vs = bs.map V.bl
  | _, _, _, .nil, e => by simp [blsOf] at e; subst e; rfl
  | _, _, _, .cons h t, e => by
    cases h <;> simp [blsOf] at e
    obtain ⟨bs, e1, e2⟩ := e
    subst e2
    simp [Reps.bls t e1]
theorem Reps.ints {G : Gx} {O : Addr → Prop} {H : Hp} : ∀ {vs : List V} {xs : List D} {bs : List Int}, Reps G O H vs xs → intsOf xs = some bs → vs = bs.map V.int
  | _, _, _, .nil, e => by simp [intsOf] at e; subst e; rfl
  | _, _, _, .cons h t, e => by
    cases h <;> simp [intsOf] at e
    obtain ⟨bs, e1, e2⟩ := e
    subst e2
    simp [Reps.ints t e1]
theorem Reps.ofInts {G : Gx} {O : Addr → Prop} {H : Hp} : ∀ ns : List Int, Reps G O H (ns.map V.int) (ns.map D.int)
  | [] => .nil
  | n :: ns => .cons (.int n) (Reps.ofInts ns)

/-- an object that is changed in place -/
def RepO (G : Gx) (O : Addr → Prop) (H : Hp) (a : Addr) : Ob → Prop
  | .l xs => ∃ vs, H a = some (.lst vs) ∧ Reps G O H vs xs
  | .d ks ys => ∃ (kk : List L2.Key) (vs : List V), H a = some (.dK (kk.zip vs)) ∧ kk.length = vs.length ∧ ks = kk.map keyD ∧ Reps G O H vs ys
theorem RepO.keep {G : Gx} {O O' : Addr → Prop} {H H' : Hp} {a : Addr} {o : Ob} (r : RepO G O H a o) (k : Kp G O H O' H') (h : ∀ u, H a = some u → H' a = some u) : RepO G O' H' a o := by
  cases o with
  | l xs =>
    obtain ⟨vs, e, r⟩ := r
    exact ⟨vs, h _ e, r.step k⟩
  | d ks ys =>
    obtain ⟨kk, vs, e, l, q, r⟩ := r
    exact ⟨kk, vs, h _ e, l, q, r.step k⟩
theorem RepO.step {G : Gx} {O O' : Addr → Prop} {H : Hp} {a : Addr} {o : Ob} (r : RepO G O H a o) (k : Kp G O H O' H) : RepO G O' H a o := r.keep k fun _ e => e
theorem RepO.dom {G : Gx} {O : Addr → Prop} {H : Hp} {a : Addr} {o : Ob} (r : RepO G O H a o) : ∃ u, H a = some u := by
  cases o with
  | l xs => exact ⟨_, r.choose_spec.1⟩
  | d ks ys =>
    obtain ⟨kk, vs, e, _⟩ := r
    exact ⟨_, e⟩
theorem RepO.rep {G : Gx} {O : Addr → Prop} {H : Hp} {a : Addr} {o : Ob} (r : RepO G O H a o) (no : ¬ O a) : Rep G O H (.ref a) o.D := by
  cases o with
  | l xs =>
    obtain ⟨vs, e, r⟩ := r
    exact .lst no e r
  | d ks ys =>
    obtain ⟨kk, vs, e, l, rfl, r⟩ := r
    exact .dct no e l r
/-! ### the state of a def's body -/
/-- what may not be found within a value: the caller's own lists, this body's -/
def Ow (P : Addr → Prop) (env : Env) (σ : L2.St) : Addr → Prop := fun a => P a ∨ ∃ i xs, mob (gt env i) = some xs ∧ σ[i]? = some (some (.ref a))
structure Sim (G : Gx) (P : Addr → Prop) (H0 : Hp) (env : Env) (σ : L2.St) (H : Hp) : Prop where
  len : env.length = σ.length
  old : ∀ a o, a ≠ G.h → H0 a = some o → H a = some o
  hnd : IsHand G H0 → IsHand G H
  dom : ∀ a, P a → ∃ o, H a = some o
  ph : P G.h
  pc : P G.c
  val : ∀ i x, gt env i = .val x → ∃ v, σ[i]? = some (some v) ∧ Rep G (Ow P env σ) H v x
  own : ∀ i xs, mob (gt env i) = some xs → ∃ a, σ[i]? = some (some (.ref a)) ∧ RepO G (Ow P env σ) H a xs ∧ ¬ P a ∧ H0 a = none
  inj : ∀ i j xs ys a, mob (gt env i) = some xs → mob (gt env j) = some ys → σ[i]? = some (some (.ref a)) → σ[j]? = some (some (.ref a)) → i = j
  fix : ∀ i a, adr (gt env i) = some a → σ[i]? = some (some (.ref a))
/-- the callee's word: all but the hand stands -/
structure Kc (G : Gx) (H H' : Hp) : Prop where
  at_ : ∀ a o, a ≠ G.h → H a = some o → H' a = some o
  hnd : IsHand G H → IsHand G H'
  dom : ∀ a o, H a = some o → ∃ u, H' a = some u
theorem Kc.refl {G : Gx} {H : Hp} : Kc G H H := ⟨fun _ _ _ e => e, fun h => h, fun _ o e => ⟨o, e⟩⟩
theorem Kc.trans {G : Gx} {H H1 H2 : Hp} (a : Kc G H H1) (b : Kc G H1 H2) : Kc G H H2 := ⟨fun x o n e => b.at_ x o n (a.at_ x o n e), fun h => b.hnd (a.hnd h), fun x o e => let ⟨u, q⟩ := a.dom x o e; b.dom x u q⟩
theorem IsHand.keep {G : Gx} {H H' : Hp} (k : ∀ a o, a = G.h ∨ a = G.c → H a = some o → H' a = some o) (h : IsHand G H) : IsHand G H' := by
  obtain ⟨ns, i1, i2, i3, i4, h0, h1, h2, h3⟩ := h
  exact ⟨ns, i1, i2, i3, i4, h0, k _ _ (.inl rfl) h1, k _ _ (.inr rfl) h2, h3⟩
theorem Kc.new {G : Gx} {H : Hp} {p : Addr} {o : HO} (n : H p = none) : Kc G H (upd H p o) :=
  have k : ∀ a u, H a = some u → upd H p o a = some u := fun a u e => by rw [upd_ne (ne_of_none e n)]; exact e
  ⟨fun a u _ e => k a u e, fun h => h.keep fun a u _ e => k a u e, fun a u e => ⟨u, k a u e⟩⟩

section
variable {G : Gx} {P : Addr → Prop} {H0 H H1 : Hp} {env e1 : Env} {σ : L2.St}
theorem Sim.odom (S : Sim G P H0 env σ H) {a : Addr} (h : Ow P env σ a) : ∃ o, H a = some o := by
  rcases h with h | ⟨i, xs, h1, h2⟩
  · exact S.dom a h
  · obtain ⟨b, h3, h4, _⟩ := S.own i xs h1
    rw [h2] at h3
    cases h3
    exact h4.dom
theorem Sim.fresh (S : Sim G P H0 env σ H) {p : Addr} (n : H p = none) : ¬ Ow P env σ p := fun h => by
  obtain ⟨o, e⟩ := S.odom h
  rw [n] at e
  cases e
theorem Sim.fresh0 (S : Sim G P H0 env σ H) {p : Addr} (n : H p = none) : H0 p = none := by
  cases q : H0 p with
  | none => rfl
  | some o =>
    have np : p ≠ G.h := fun z => by
      obtain ⟨u, e⟩ := S.dom G.h S.ph
      rw [← z, n] at e
      cases e
    rw [S.old p o np q] at n
    cases n
theorem Kp.of {O : Addr → Prop} (k : Kc G H H1) (h : O G.h) : Kp G O H O H1 := ⟨fun a o e n => ⟨k.at_ a o (fun z => n (z ▸ h)) e, n⟩, k.hnd⟩
theorem Sim.kp (S : Sim G P H0 env σ H) (k : Kc G H H1) : Kp G (Ow P env σ) H (Ow P env σ) H1 := Kp.of k (.inl S.ph)
/-- behind a call, a new object -/
theorem Sim.after (S : Sim G P H0 env σ H) (k : Kc G H H1) : Sim G P H0 env σ H1 where
  len := S.len
  old := fun a o n e => k.at_ a o n (S.old a o n e)
  hnd := fun h => k.hnd (S.hnd h)
  dom := fun a h => let ⟨o, e⟩ := S.dom a h; k.dom a o e
  ph := S.ph
  pc := S.pc
  val := fun i x h => by
    obtain ⟨v, e, r⟩ := S.val i x h
    exact ⟨v, e, r.step (S.kp k)⟩
  own := fun i xs h => by
    obtain ⟨a, h1, h2, h4, h5⟩ := S.own i xs h
    exact ⟨a, h1, h2.keep (S.kp k) fun u e => k.at_ a u (fun z => h4 (z ▸ S.ph)) e, h4, h5⟩
  inj := S.inj
  fix := S.fix
end

/-! ### slots -/
theorem gt_st_same : ∀ {e : Env} {i : Nat} {x : Slot}, i < e.length → gt (st e i x) i = x
  | _ :: _, 0, _, _ => rfl
  | _ :: r, i + 1, x, h => gt_st_same (e := r) (i := i) (x := x) (by simpa using h)
theorem gt_st_ne : ∀ {e : Env} {i j : Nat} {x : Slot}, j ≠ i → gt (st e i x) j = gt e j
  | [], _, _, _, _ => rfl
  | _ :: _, 0, 0, _, h => absurd rfl h
  | _ :: _, 0, j + 1, _, _ => rfl
  | _ :: _, i + 1, 0, _, _ => rfl
  | _ :: r, i + 1, j + 1, x, h => gt_st_ne (e := r) (i := i) (j := j) (x := x) (fun z => h (by rw [z]))
theorem st_len : ∀ {e : Env} {i : Nat} {x : Slot}, (st e i x).length = e.length
  | [], _, _ => rfl
  | _ :: _, 0, _ => rfl
  | _ :: r, i + 1, x => by show (st r i x).length + 1 = r.length + 1; rw [st_len]
theorem st_out : ∀ {e : Env} {i : Nat} {x : Slot}, e.length ≤ i → st e i x = e
  | [], _, _, _ => rfl
  | _ :: _, 0, _, h => absurd h (by simp)
  | s :: r, i + 1, x, h => by show s :: st r i x = s :: r; rw [st_out (by simpa using h)]
theorem gt_out : ∀ {e : Env} {i : Nat}, e.length ≤ i → gt e i = .un
  | [], _, _ => rfl
  | _ :: _, 0, h => absurd h (by simp)
  | _ :: r, i + 1, h => gt_out (e := r) (i := i) (by simpa using h)
theorem gt_lt {e : Env} {i : Nat} (h : gt e i ≠ .un) : i < e.length := Nat.lt_of_not_le fun z => h (gt_out z)
section
variable {G : Gx} {P P' : Addr → Prop} {H0 H H1 : Hp} {env e1 : Env} {σ : L2.St}
/-- the lists of others and of ours, one slot given another value -/
theorem ow_val {i : Nat} {x : D} {v : Option V} {a : Addr} (h : Ow P (st env i (.val x)) (σ.set i v) a) : Ow P env σ a := by
  rcases h with h | ⟨j, ys, h1, h2⟩
  · exact .inl h
  · have ne : j ≠ i := fun z => by
      subst z
      have hl := gt_lt (e := st env j (.val x)) (i := j) (by intro z; rw [z] at h1; cases h1)
      rw [st_len] at hl
      rw [gt_st_same hl] at h1
      cases h1
    rw [gt_st_ne ne] at h1
    rw [List.getElem?_set_ne (Ne.symm ne)] at h2
    exact .inr ⟨j, ys, h1, h2⟩
theorem ow_un {i : Nat} {v : Option V} {a : Addr} (h : Ow P (st env i .un) (σ.set i v) a) : Ow P env σ a := by
  rcases h with h | ⟨j, ys, h1, h2⟩
  · exact .inl h
  · have ne : j ≠ i := fun z => by
      subst z
      have hl := gt_lt (e := st env j .un) (i := j) (by intro z; rw [z] at h1; cases h1)
      rw [st_len] at hl
      rw [gt_st_same hl] at h1
      cases h1
    rw [gt_st_ne ne] at h1
    rw [List.getElem?_set_ne (Ne.symm ne)] at h2
    exact .inr ⟨j, ys, h1, h2⟩
theorem fix_st {s : Slot} {i : Nat} (h : ∀ j a, adr (gt env j) = some a → σ[j]? = some (some (.ref a))) (n : ∀ a, adr s ≠ some a) : ∀ j a, adr (gt (st env i s) j) = some a → j ≠ i ∧ σ[j]? = some (some (.ref a)) := fun j a q => by
  have z : j ≠ i := fun z => by
    subst z
    have hl := gt_lt (e := st env j s) (i := j) (by intro z; rw [z] at q; cases q)
    rw [st_len] at hl
    rw [gt_st_same hl] at q
    exact n a q
  rw [gt_st_ne z] at q
  exact ⟨z, h j a q⟩
theorem fix_set {s : Slot} {i : Nat} {v : Option V} (h : ∀ j a, adr (gt env j) = some a → σ[j]? = some (some (.ref a))) (n : ∀ a, adr s ≠ some a) : ∀ j a, adr (gt (st env i s) j) = some a → (σ.set i v)[j]? = some (some (.ref a)) := fun j a q => by
  obtain ⟨z, e⟩ := fix_st h n j a q
  rw [List.getElem?_set_ne (Ne.symm z)]
  exact e
/-- a value into a slot -/
theorem Sim.setVal (S : Sim G P H0 env σ H) {i : Nat} {x : D} {v : V} (r : Rep G (Ow P env σ) H v x) : Sim G P H0 (st env i (.val x)) (σ.set i (some v)) H := by
  have w : ∀ a, Ow P (st env i (.val x)) (σ.set i (some v)) a → Ow P env σ a := fun a h => ow_val h
  refine ⟨by rw [st_len, S.len, List.length_set], S.old, S.hnd, S.dom, S.ph, S.pc, fun j y h => ?_, fun j ys h => ?_, fun j k xs ys a h1 h2 h3 h4 => ?_, fix_set S.fix fun _ z => nomatch z⟩
  · by_cases z : j = i
    · subst z
      have hl := gt_lt (e := st env j (.val x)) (i := j) (by intro z; rw [z] at h; cases h)
      rw [st_len] at hl
      rw [gt_st_same hl] at h
      cases h
      exact ⟨v, List.getElem?_set_self (by rw [← S.len]; exact hl), r.step (Kp.weak w)⟩
    · rw [gt_st_ne z] at h
      obtain ⟨u, e, q⟩ := S.val j y h
      exact ⟨u, by rw [List.getElem?_set_ne (Ne.symm z)]; exact e, q.step (Kp.weak w)⟩
  · by_cases z : j = i
    · subst z
      have hl := gt_lt (e := st env j (.val x)) (i := j) (by intro z; rw [z] at h; cases h)
      rw [st_len] at hl
      rw [gt_st_same hl] at h
      cases h
    · rw [gt_st_ne z] at h
      obtain ⟨a, h1, h2, h4⟩ := S.own j ys h
      exact ⟨a, by rw [List.getElem?_set_ne (Ne.symm z)]; exact h1, h2.step (Kp.weak w), h4⟩
  · have ne : ∀ l zs, mob (gt (st env i (.val x)) l) = some zs → l ≠ i := fun l zs q z => by
      subst z
      have hl := gt_lt (e := st env l (.val x)) (i := l) (by intro z; rw [z] at q; cases q)
      rw [st_len] at hl
      rw [gt_st_same hl] at q
      cases q
    have n1 := ne _ _ h1
    have n2 := ne _ _ h2
    rw [gt_st_ne n1] at h1
    rw [gt_st_ne n2] at h2
    rw [List.getElem?_set_ne (Ne.symm n1)] at h3
    rw [List.getElem?_set_ne (Ne.symm n2)] at h4
    exact S.inj j k xs ys a h1 h2 h3 h4
/-- a slot forgotten (σ may hold anything there) -/
theorem Sim.setUn (S : Sim G P H0 env σ H) {i : Nat} {v : Option V} : Sim G P H0 (st env i .un) (σ.set i v) H := by
  have w : ∀ a, Ow P (st env i .un) (σ.set i v) a → Ow P env σ a := fun a h => ow_un h
  have ne0 : ∀ l, gt (st env i .un) l ≠ .un → l ≠ i := fun l n z => by
    subst z
    have hl := gt_lt (e := st env l .un) (i := l) n
    rw [st_len] at hl
    rw [gt_st_same hl] at n
    exact n rfl
  have ne : ∀ l x, gt (st env i .un) l = .val x → l ≠ i := fun l x q => ne0 l (by intro z; rw [z] at q; cases q)
  have nem : ∀ l x, mob (gt (st env i .un) l) = some x → l ≠ i := fun l x q => ne0 l (by intro z; rw [z] at q; cases q)
  refine ⟨by rw [st_len, S.len, List.length_set], S.old, S.hnd, S.dom, S.ph, S.pc, fun j y h => ?_, fun j ys h => ?_, fun j k xs ys a h1 h2 h3 h4 => ?_, fix_set S.fix fun _ z => nomatch z⟩
  · have z := ne _ _ h
    rw [gt_st_ne z] at h
    obtain ⟨u, e, q⟩ := S.val j y h
    exact ⟨u, by rw [List.getElem?_set_ne (Ne.symm z)]; exact e, q.step (Kp.weak w)⟩
  · have z := nem _ _ h
    rw [gt_st_ne z] at h
    obtain ⟨a, h1, h2, h4⟩ := S.own j ys h
    exact ⟨a, by rw [List.getElem?_set_ne (Ne.symm z)]; exact h1, h2.step (Kp.weak w), h4⟩
  · have n1 := nem _ _ h1
    have n2 := nem _ _ h2
    rw [gt_st_ne n1] at h1
    rw [gt_st_ne n2] at h2
    rw [List.getElem?_set_ne (Ne.symm n1)] at h3
    rw [List.getElem?_set_ne (Ne.symm n2)] at h4
    exact S.inj j k xs ys a h1 h2 h3 h4
/-- fewer are protected -/
theorem ow_mono (h : ∀ a, P' a → P a) {a : Addr} (q : Ow P' env σ a) : Ow P env σ a := q.elim (fun z => .inl (h a z)) .inr
theorem Sim.less (S : Sim G P H0 env σ H) (h : ∀ a, P' a → P a) (ph : P' G.h) (pc : P' G.c) : Sim G P' H0 env σ H :=
  ⟨S.len, S.old, S.hnd, fun a q => S.dom a (h a q), ph, pc, fun i x q => let ⟨v, e, r⟩ := S.val i x q; ⟨v, e, r.step (Kp.weak fun a z => ow_mono h z)⟩,
   fun i xs q => let ⟨a, h1, h2, h4, h5⟩ := S.own i xs q; ⟨a, h1, h2.step (Kp.weak fun a z => ow_mono h z), fun z => h4 (h a z), h5⟩, S.inj, S.fix⟩
abbrev And1 (P : Addr → Prop) (a : Addr) : Addr → Prop := fun b => P b ∨ b = a
theorem ow_and1 {a b : Addr} : Ow (And1 P a) env σ b ↔ (Ow P env σ b ∨ b = a) :=
  ⟨fun h => h.elim (fun z => z.elim (fun y => .inl (.inl y)) .inr) fun y => .inl (.inr y), fun h => h.elim (fun z => z.elim (fun y => .inl (.inl y)) .inr) fun y => .inl (.inr y)⟩
theorem Sim.drop1 {a : Addr} (S : Sim G (And1 P a) H0 env σ H) (ph : P G.h) (pc : P G.c) : Sim G P H0 env σ H := S.less (fun _ h => .inl h) ph pc
/-- an object that is not ours is put under protection -/
theorem Sim.add1 {a : Addr} (S : Sim G P H0 env σ H) (n : ∃ o, H a = some o) (k : Kp G (Ow P env σ) H (Ow (And1 P a) env σ) H) (no : ¬ Ow P env σ a) : Sim G (And1 P a) H0 env σ H :=
  ⟨S.len, S.old, S.hnd, fun b h => h.elim (S.dom b) fun e => e ▸ n, .inl S.ph, .inl S.pc, fun i x q => let ⟨v, e, r⟩ := S.val i x q; ⟨v, e, r.step k⟩,
   fun i xs q => let ⟨b, h1, h2, h4, h5⟩ := S.own i xs q; ⟨b, h1, h2.step k, fun z => z.elim h4 fun e => no (e ▸ .inr ⟨i, xs, q, h1⟩), h5⟩, S.inj, S.fix⟩
/-- a new object under protection -/
theorem Sim.new1 (S : Sim G P H0 env σ H) {p : Addr} {o : HO} (n : H p = none) : Sim G (And1 P p) H0 env σ (upd H p o) ∧ Kp G (Ow P env σ) H (Ow (And1 P p) env σ) (upd H p o) := by
  have kc : Kc G H (upd H p o) := Kc.new n
  have k : Kp G (Ow P env σ) H (Ow (And1 P p) env σ) (upd H p o) := ⟨fun a u e q => ⟨((S.kp kc).at_ a u e q).1, fun z => (ow_and1.mp z).elim q (ne_of_none e n)⟩, kc.hnd⟩
  have S1 := S.after kc
  refine ⟨⟨S1.len, S1.old, S1.hnd, fun b h => h.elim (S1.dom b) fun e => e ▸ ⟨o, upd_same⟩, .inl S.ph, .inl S.pc, fun i x q => let ⟨v, e, r⟩ := S.val i x q; ⟨v, e, r.step k⟩, fun i xs q => ?_, S.inj, S.fix⟩, k⟩
  obtain ⟨b, h1, h2, h4, h5⟩ := S.own i xs q
  exact ⟨b, h1, h2.keep k fun u e => kc.at_ b u (fun z => h4 (z ▸ S.ph)) e, fun z => z.elim h4 (ne_of_none h2.dom.choose_spec n), h5⟩
/-- the protected object is changed -/
theorem Sim.mut1 {a : Addr} {o : HO} (S : Sim G (And1 P a) H0 env σ H) (na : ¬ P a) (ph : P G.h) (pc : P G.c) (n0 : H0 a = none) : Sim G (And1 P a) H0 env σ (upd H a o) ∧ Kp G (Ow (And1 P a) env σ) H (Ow (And1 P a) env σ) (upd H a o) := by
  have hh : IsHand G H → IsHand G (upd H a o) := fun h => h.keep fun b u hb e => by
    rw [upd_ne (fun z => na (by rcases hb with y | y <;> rw [← z, y] <;> assumption))]
    exact e
  have k : Kp G (Ow (And1 P a) env σ) H (Ow (And1 P a) env σ) (upd H a o) := ⟨fun b u e q => ⟨by rw [upd_ne (fun z => q (.inl (.inr z)))]; exact e, q⟩, hh⟩
  refine ⟨⟨S.len, fun b u nb e => ?_, fun h => hh (S.hnd h), fun b h => ?_, S.ph, S.pc, fun i x q => let ⟨v, e, r⟩ := S.val i x q; ⟨v, e, r.step k⟩, fun i xs q => ?_, S.inj, S.fix⟩, k⟩
  · rw [upd_ne (fun z => by rw [z, n0] at e; cases e)]
    exact S.old b u nb e
  · by_cases z : b = a
    · exact ⟨o, by rw [z]; exact upd_same⟩
    · rw [upd_ne z]
      exact S.dom b h
  · obtain ⟨b, h1, h2, h4, h5⟩ := S.own i xs q
    exact ⟨b, h1, h2.keep k fun u e => by rw [upd_ne (fun z => h4 (.inr z))]; exact e, h4, h5⟩
/-- the new list goes into a slot -/
theorem Sim.setOb {a : Addr} {xs : Ob} {i : Nat} (S : Sim G (And1 P a) H0 env σ H) (ph : P G.h) (pc : P G.c) (r : RepO G (Ow (And1 P a) env σ) H a xs) (no : ¬ Ow P env σ a) (n0 : H0 a = none) :
    Sim G P H0 (st env i (.own xs)) (σ.set i (some (.ref a))) H ∧ ∀ b, Ow P (st env i (.own xs)) (σ.set i (some (.ref a))) b → Ow (And1 P a) env σ b := by
  have w : ∀ b, Ow P (st env i (.own xs)) (σ.set i (some (.ref a))) b → Ow (And1 P a) env σ b := fun b h => by
    rcases h with h | ⟨j, ys, h1, h2⟩
    · exact .inl (.inl h)
    · by_cases z : j = i
      · subst z
        have hl := gt_lt (e := st env j (.own xs)) (i := j) (by intro z; rw [z] at h1; cases h1)
        rw [st_len, S.len] at hl
        rw [List.getElem?_set_self hl] at h2
        cases h2
        exact .inl (.inr rfl)
      · rw [gt_st_ne z] at h1
        rw [List.getElem?_set_ne (Ne.symm z)] at h2
        exact .inr ⟨j, ys, h1, h2⟩
  refine ⟨⟨by rw [st_len, S.len, List.length_set], S.old, S.hnd, fun b h => S.dom b (.inl h), ph, pc, fun j y h => ?_, fun j ys h => ?_, fun j k us ws b h1 h2 h3 h4 => ?_, fix_set S.fix fun _ z => nomatch z⟩, w⟩
  · have z : j ≠ i := fun z => by
      subst z
      have hl := gt_lt (e := st env j (.own xs)) (i := j) (by intro z; rw [z] at h; cases h)
      rw [st_len] at hl
      rw [gt_st_same hl] at h
      cases h
    rw [gt_st_ne z] at h
    obtain ⟨u, e, q⟩ := S.val j y h
    exact ⟨u, by rw [List.getElem?_set_ne (Ne.symm z)]; exact e, q.step (Kp.weak w)⟩
  · by_cases z : j = i
    · subst z
      have hl := gt_lt (e := st env j (.own xs)) (i := j) (by intro z; rw [z] at h; cases h)
      rw [st_len] at hl
      rw [gt_st_same hl] at h
      cases h
      exact ⟨a, List.getElem?_set_self (by rw [← S.len]; exact hl), r.step (Kp.weak w), fun z => no (.inl z), n0⟩
    · rw [gt_st_ne z] at h
      obtain ⟨b, h1, h2, h4, h5⟩ := S.own j ys h
      exact ⟨b, by rw [List.getElem?_set_ne (Ne.symm z)]; exact h1, h2.step (Kp.weak w), fun q => h4 (.inl q), h5⟩
  · have other : ∀ l zs, mob (gt (st env i (.own xs)) l) = some zs → (σ.set i (some (.ref a)))[l]? = some (some (.ref b)) → (l = i ∧ b = a) ∨ (l ≠ i ∧ mob (gt env l) = some zs ∧ σ[l]? = some (some (.ref b))) := fun l zs q1 q2 => by
      by_cases z : l = i
      · subst z
        have hl := gt_lt (e := st env l (.own xs)) (i := l) (by intro z; rw [z] at q1; cases q1)
        rw [st_len, S.len] at hl
        rw [List.getElem?_set_self hl] at q2
        cases q2
        exact .inl ⟨rfl, rfl⟩
      · rw [gt_st_ne z] at q1
        rw [List.getElem?_set_ne (Ne.symm z)] at q2
        exact .inr ⟨z, q1, q2⟩
    rcases other j us h1 h3 with ⟨ej, eb⟩ | ⟨nj, a1, a2⟩ <;> rcases other k ws h2 h4 with ⟨ek, eb'⟩ | ⟨nk, b1, b2⟩
    · rw [ej, ek]
    · exact absurd (show Ow P env σ a from .inr ⟨k, ws, b1, by rw [← eb]; exact b2⟩) no
    · exact absurd (show Ow P env σ a from .inr ⟨j, us, a1, by rw [← eb']; exact a2⟩) no
    · exact S.inj j k us ws b a1 b1 a2 b2
theorem Sim.setOwn {a : Addr} {vs : List V} {xs : List D} {i : Nat} (S : Sim G (And1 P a) H0 env σ H) (ph : P G.h) (pc : P G.c) (e : H a = some (.lst vs)) (r : Reps G (Ow (And1 P a) env σ) H vs xs) (no : ¬ Ow P env σ a) (n0 : H0 a = none) :
    Sim G P H0 (st env i (.own (.l xs))) (σ.set i (some (.ref a))) H ∧ ∀ b, Ow P (st env i (.own (.l xs))) (σ.set i (some (.ref a))) b → Ow (And1 P a) env σ b := S.setOb ph pc ⟨vs, e, r⟩ no n0
end

/-! ### what an expression gives -/
def RRep (G : Gx) (P : Addr → Prop) (env : Env) (σ : L2.St) (H : Hp) (v : V) : R → Prop
  | .d x => Rep G (Ow P env σ) H v x
  | .loc i => σ[i]? = some (some v)
/-- read: the list itself may be one that is changed -/
def RepT (G : Gx) (O : Addr → Prop) (H : Hp) (v : V) : D → Prop
  | .lst xs => ∃ a vs, v = .ref a ∧ H a = some (.lst vs) ∧ Reps G O H vs xs
  | .dct ks ys => ∃ a, v = .ref a ∧ RepO G O H a (.d ks ys)
  | x => Rep G O H v x
theorem RepO.t {G : Gx} {O : Addr → Prop} {H : Hp} {a : Addr} {o : Ob} (r : RepO G O H a o) : RepT G O H (.ref a) o.D := by
  cases o with
  | l xs =>
    obtain ⟨vs, e, r⟩ := r
    exact ⟨a, vs, rfl, e, r⟩
  | d ks ys => exact ⟨a, rfl, r⟩
theorem Rep.t {G : Gx} {O : Addr → Prop} {H : Hp} {v : V} {x : D} (r : Rep G O H v x) : RepT G O H v x := by
  cases r with
  | lst no e r => exact ⟨_, _, rfl, e, r⟩
  | non => exact .non
  | bl b => exact .bl b
  | int i => exact .int i
  | str s => exact .str s
  | tup no e r => exact .tup no e r
  | dct no e l r => exact ⟨_, rfl, _, _, e, l, rfl, r⟩
  | obj no e l r => exact .obj no e l r
  | hand e => exact .hand e
section
variable {G : Gx} {P P' : Addr → Prop} {H0 H H1 : Hp} {env e1 : Env} {σ : L2.St} {v : V} {r : R} {x : D}
theorem RRep.step (k : Kp G (Ow P env σ) H (Ow P' e1 σ) H1) (h : RRep G P env σ H v r) : RRep G P' e1 σ H1 v r := by
  cases r with
  | d y => exact Rep.step k h
  | loc i => exact h
theorem Sim.res (S : Sim G P H0 env σ H) (h : RRep G P env σ H v r) (e : rs env r = some x) : RepT G (Ow P env σ) H v x := by
  cases r with
  | d y =>
    cases e
    exact Rep.t h
  | loc i =>
    have h' : σ[i]? = some (some v) := h
    simp only [rs] at e
    cases q : gt env i with
    | un => simp [q] at e
    | fix _ => simp [q] at e
    | val y =>
      simp only [q, Option.some.injEq] at e
      subst e
      obtain ⟨u, e1, r⟩ := S.val i _ q
      rw [h'] at e1
      cases e1
      exact r.t
    | own ys =>
      simp only [q, Option.some.injEq] at e
      subst e
      obtain ⟨a, e1, e2, _⟩ := S.own i ys (by rw [q] <;> rfl)
      rw [h'] at e1
      cases e1
      exact e2.t
    | ref b ys =>
      simp only [q, Option.some.injEq] at e
      subst e
      obtain ⟨a, e1, e2, _⟩ := S.own i ys (by rw [q] <;> rfl)
      rw [h'] at e1
      cases e1
      exact e2.t
/-- a list of ours is not changed any more -/
theorem Sim.frz (S : Sim G P H0 env σ H) {e : Env} (h : RRep G P env σ H v r) (q : fz env r = some (x, e)) : Sim G P H0 e σ H ∧ Kp G (Ow P env σ) H (Ow P e σ) H ∧ Rep G (Ow P e σ) H v x := by
  cases r with
  | d y =>
    cases q
    exact ⟨S, .refl, h⟩
  | loc i =>
    have h' : σ[i]? = some (some v) := h
    simp only [fz] at q
    cases g : gt env i with
    | un => simp [g] at q
    | fix _ => simp [g] at q
    | ref _ _ => simp [g] at q
    | val y =>
      simp only [g, Option.some.injEq, Prod.mk.injEq] at q
      obtain ⟨q1, q2⟩ := q
      subst q1
      subst q2
      obtain ⟨u, e1, r⟩ := S.val i _ g
      rw [h'] at e1
      cases e1
      exact ⟨S, .refl, r⟩
    | own ys =>
      simp only [g, Option.some.injEq, Prod.mk.injEq] at q
      obtain ⟨q1, q2⟩ := q
      subst q1
      subst q2
      obtain ⟨a, e1, e2, e4, e5⟩ := S.own i ys (by rw [g] <;> rfl)
      rw [h'] at e1
      cases e1
      have hl : i < env.length := gt_lt (by rw [g]; exact fun z => nomatch z)
      have same : σ.set i (some (.ref a)) = σ := by
        apply List.ext_getElem?
        intro j
        by_cases z : j = i
        · subst z
          rw [List.getElem?_set_self (by rw [← S.len]; exact hl), h']
        · rw [List.getElem?_set_ne (Ne.symm z)]
      have w : ∀ b, Ow P (st env i (.val ys.D)) σ b → Ow P env σ b := fun b z => by
        rw [← same] at z
        exact ow_val z
      have nota : ¬ Ow P (st env i (.val ys.D)) σ a := fun z => by
        rcases z with z | ⟨j, zs, z1, z2⟩
        · exact e4 z
        · have ne : j ≠ i := fun z => by
            subst z
            rw [gt_st_same hl] at z1
            cases z1
          rw [gt_st_ne ne] at z1
          exact ne (S.inj j i zs ys a z1 (by rw [g] <;> rfl) z2 h')
      have k : Kp G (Ow P env σ) H (Ow P (st env i (.val ys.D)) σ) H := Kp.weak w
      have rr : Rep G (Ow P (st env i (.val ys.D)) σ) H (.ref a) ys.D := (e2.step k).rep nota
      refine ⟨⟨by rw [st_len, S.len], S.old, S.hnd, S.dom, S.ph, S.pc, fun j y h => ?_, fun j zs h => ?_, fun j l xs zs b h1 h2 h3 h4 => ?_, fun j a q => (fix_st (s := .val ys.D) S.fix (fun _ z => by cases z) j a q).2⟩, k, rr⟩
      · by_cases z : j = i
        · subst z
          rw [gt_st_same hl] at h
          cases h
          exact ⟨_, h', rr⟩
        · rw [gt_st_ne z] at h
          obtain ⟨u, e, q⟩ := S.val j y h
          exact ⟨u, e, q.step k⟩
      · have z : j ≠ i := fun z => by
          subst z
          rw [gt_st_same hl] at h
          cases h
        rw [gt_st_ne z] at h
        obtain ⟨b, h1, h2, h4⟩ := S.own j zs h
        exact ⟨b, h1, h2.step k, h4⟩
      · have ne : ∀ m us, mob (gt (st env i (.val ys.D)) m) = some us → m ≠ i := fun m us q z => by
          subst z
          rw [gt_st_same hl] at q
          cases q
        have n1 := ne _ _ h1
        have n2 := ne _ _ h2
        rw [gt_st_ne n1] at h1
        rw [gt_st_ne n2] at h2
        exact S.inj j l xs zs b h1 h2 h3 h4
end
/-- an exception: its class, what its fields hold -/
def XRep (G : Gx) (O : Addr → Prop) (H : Hp) (cls : Value) (d : Option Addr) (x : D) : Prop := ∃ c xs, x = .obj c xs ∧ cls = .ref (G.cl.ca c) ∧
  ((xs = [] ∧ d = none) ∨ xs ≠ [] ∧ ∃ dx fs, d = some dx ∧ H dx = some (.xd fs) ∧ ∀ (i : Nat) nm y, (G.cl.cf c)[i]? = some nm → xs[i]? = some y → ∃ v, fs.lookup nm = some v ∧ Rep G O H v y)
end LW
end S1_

section S2_
set_option maxRecDepth 100000
/-! Own layer, part 2: expressions, tests, arguments. -/
namespace LW
open PySem PySem.Spec PyProof.Rows L2

/-- what leaves by an exception -/
abbrev XOK (G : Gx) (P : Addr → Prop) (H0 : Hp) (σ : L2.St) (W : WX) (E : KE) : Prop :=
  ∀ x e1 cls d H1, Sim G P H0 e1 σ H1 → XRep G (Ow P e1 σ) H1 cls d x → E x e1 → W cls d σ H1
def GE (G : Gx) (W : WX) (te : TE) (we : WE) : Prop := ∀ (P : Addr → Prop) (H0 : Hp) (env : Env) (σ : L2.St) (H : Hp) (Q : KR) (E : KE) (Q' : VK), Sim G P H0 env σ H → we env Q E → XOK G P H0 σ W E →
  (∀ r e1 v H1, Sim G P H0 e1 σ H1 → Kp G (Ow P env σ) H (Ow P e1 σ) H1 → RRep G P e1 σ H1 v r → Q r e1 → Q' v H1) → te σ H Q'
def GT (G : Gx) (W : WX) (tt : TT) (wt : WT) : Prop := ∀ (P : Addr → Prop) (H0 : Hp) (env : Env) (σ : L2.St) (H : Hp) (Q : Bool → Env → Prop) (E : KE) (Q' : Bool → Hp → Prop), Sim G P H0 env σ H → wt env Q E → XOK G P H0 σ W E →
  (∀ b e1 H1, Sim G P H0 e1 σ H1 → Kp G (Ow P env σ) H (Ow P e1 σ) H1 → Q b e1 → Q' b H1) → tt σ H Q'
def GA (G : Gx) (W : WX) (ta : TA) (wa : WA) : Prop := ∀ (P : Addr → Prop) (H0 : Hp) (env : Env) (σ : L2.St) (H : Hp) (Q : KA) (E : KE) (Q' : List V → Hp → Prop), Sim G P H0 env σ H → wa env Q E → XOK G P H0 σ W E →
  (∀ ds e1 vs H1, Sim G P H0 e1 σ H1 → Kp G (Ow P env σ) H (Ow P e1 σ) H1 → Reps G (Ow P e1 σ) H1 vs ds → Q ds e1 → Q' vs H1) → ta σ H Q'
/-- a new list -/
def GF (G : Gx) (W : WX) (te : TE) (wf : WA) : Prop := ∀ (P : Addr → Prop) (H0 : Hp) (env : Env) (σ : L2.St) (H : Hp) (Q : KA) (E : KE) (Q' : VK), Sim G P H0 env σ H → wf env Q E → XOK G P H0 σ W E →
  (∀ xs e1 a vs H1, Sim G (And1 P a) H0 e1 σ H1 → Kp G (Ow P env σ) H (Ow (And1 P a) e1 σ) H1 → H1 a = some (.lst vs) → Reps G (Ow (And1 P a) e1 σ) H1 vs xs → ¬ Ow P e1 σ a → H0 a = none → Q xs e1 → Q' (.ref a) H1) → te σ H Q'
def GO (G : Gx) (W : WX) (to : TO) (wo : WO) : Prop := ∀ (P : Addr → Prop) (H0 : Hp) (env : Env) (σ : L2.St) (H : Hp) (Q : Option Int → Env → Prop) (E : KE) (Q' : Option Int → Hp → Prop), Sim G P H0 env σ H → wo env Q E → XOK G P H0 σ W E →
  (∀ i e1 H1, Sim G P H0 e1 σ H1 → Kp G (Ow P env σ) H (Ow P e1 σ) H1 → Q i e1 → Q' i H1) → to σ H Q'

theorem optP_of {α : Type} {o : Option α} {P : α → Prop} (h : optP o P) : ∃ a, o = some a ∧ P a := by
  cases o with
  | none => exact h.elim
  | some a => exact ⟨a, rfl, h⟩
theorem bind_of {α β : Type} {o : Option α} {f : α → Option β} {b : β} (h : o.bind f = some b) : ∃ a, o = some a ∧ f a = some b := by
  cases o with
  | none => cases h
  | some a => exact ⟨a, rfl, h⟩

/-- on what an operation stands: the protected addresses are there -/
structure OD (G : Gx) (O : Addr → Prop) (H : Hp) : Prop where
  dom : ∀ a, O a → ∃ o, H a = some o
  oh : O G.h
  oc : O G.c
theorem Sim.od {G : Gx} {P : Addr → Prop} {H0 H : Hp} {env : Env} {σ : L2.St} (S : Sim G P H0 env σ H) : OD G (Ow P env σ) H := ⟨fun _ h => S.odom h, .inl S.ph, .inl S.pc⟩
theorem OD.fresh {G : Gx} {O : Addr → Prop} {H : Hp} (o : OD G O H) {p : Addr} (n : H p = none) : ¬ O p := fun h => by
  obtain ⟨u, e⟩ := o.dom p h
  rw [n] at e
  cases e
theorem OD.after {G : Gx} {O : Addr → Prop} {H H1 : Hp} (o : OD G O H) (k : Kc G H H1) : OD G O H1 := ⟨fun a h => let ⟨u, e⟩ := o.dom a h; k.dom a u e, o.oh, o.oc⟩
def UOk (G : Gx) (r : V → Hp → VK → Prop) (f : D → Option D) : Prop := ∀ (O : Addr → Prop) (H : Hp) (v : V) (x z : D) (Q' : VK), OD G O H → RepT G O H v x → f x = some z → (∀ w H1, Kc G H H1 → Rep G O H1 w z → Q' w H1) → r v H Q'
def BOk (G : Gx) (r : R2) (f : D → D → Option D) : Prop := ∀ (O : Addr → Prop) (H : Hp) (v u : V) (x y z : D) (Q' : VK), OD G O H → RepT G O H v x → RepT G O H u y → f x y = some z → (∀ w H1, Kc G H H1 → Rep G O H1 w z → Q' w H1) → r v u H Q'
def UFk (G : Gx) (r : V → Hp → VK → Prop) (f : D → Option (List D)) : Prop := ∀ (O : Addr → Prop) (H : Hp) (v : V) (x : D) (z : List D) (Q' : VK), OD G O H → RepT G O H v x → f x = some z →
  (∀ p vs H1, Kc G H H1 → H1 p = none → Reps G O H1 vs z → Q' (.ref p) (upd H1 p (.lst vs))) → r v H Q'
def BFk (G : Gx) (r : R2) (f : D → D → Option (List D)) : Prop := ∀ (O : Addr → Prop) (H : Hp) (v u : V) (x y : D) (z : List D) (Q' : VK), OD G O H → RepT G O H v x → RepT G O H u y → f x y = some z →
  (∀ p vs H1, Kc G H H1 → H1 p = none → Reps G O H1 vs z → Q' (.ref p) (upd H1 p (.lst vs))) → r v u H Q'
/-- scalars in, a scalar out, without the heap -/
def COk (G : Gx) (r : R2) (f : D → D → Option Bool) : Prop := ∀ (O : Addr → Prop) (H : Hp) (v u : V) (x y : D) (b : Bool) (Q' : VK), OD G O H → RepT G O H v x → RepT G O H u y → f x y = some b → Q' (.bl b) H → r v u H Q'
theorem COk.b {G : Gx} {r : R2} {f : D → D → Option Bool} (h : COk G r f) : BOk G r (vB f) := fun O H v u x y z Q' o r1 r2 e k => by
  unfold vB at e
  cases q : f x y with
  | none => rw [q] at e; cases e
  | some b =>
    rw [q] at e
    cases e
    exact h O H v u x y b Q' o r1 r2 q (k _ H .refl (.bl b))

section
variable {G : Gx} {W : WX}
theorem XOK.drop {P : Addr → Prop} {H0 : Hp} {σ : L2.St} {E : KE} {a : Addr} (h : XOK G P H0 σ W E) (ph : P G.h) (pc : P G.c) : XOK G (And1 P a) H0 σ W E := fun x e1 cls d H1 S r q =>
  h x e1 cls d H1 (S.drop1 ph pc) (by
    obtain ⟨c, xs, h1, h2, h3⟩ := r
    refine ⟨c, xs, h1, h2, h3.elim .inl fun h4 => ?_⟩
    obtain ⟨ne0, dx, fs, h5, h6, h7⟩ := h4
    exact .inr ⟨ne0, dx, fs, h5, h6, fun i nm y e1 e2 => let ⟨v, h8, h9⟩ := h7 i nm y e1 e2; ⟨v, h8, h9.step (Kp.weak fun b z => ow_mono (fun a h => .inl h) z)⟩⟩) q
theorem ge_var (i : Nat) : GE G W (tVar i) (wVar i) := fun P H0 env σ H Q E Q' S h _ k => by
  unfold wVar at h
  cases q : gt env i with
  | un => simp [q] at h
  | fix _ => simp [q] at h
  | val x =>
    simp only [q] at h
    obtain ⟨v, e, r⟩ := S.val i x q
    exact ⟨v, e, k (.d x) env v H S .refl r h⟩
  | own xs =>
    simp only [q] at h
    obtain ⟨a, e, _⟩ := S.own i xs (by rw [q] <;> rfl)
    exact ⟨_, e, k (.loc i) env _ H S .refl e h⟩
  | ref b xs =>
    simp only [q] at h
    obtain ⟨a, e, _⟩ := S.own i xs (by rw [q] <;> rfl)
    exact ⟨_, e, k (.loc i) env _ H S .refl e h⟩
theorem ge_c {v : V} {x : D} (r : ∀ (O : Addr → Prop) (H : Hp), Rep G O H v x) : GE G W (tC v) (wC x) := fun P H0 env σ H Q E Q' S h _ k => k (.d x) env v H S .refl (r _ _) h
theorem ge_un {te : TE} {a : WE} {r : V → Hp → VK → Prop} {f : D → Option D} (ha : GE G W te a) (hr : UOk G r f) : GE G W (tUn r te) (wUn f a) := fun P H0 env σ H Q E Q' S h X k => by
  refine ha P H0 env σ H _ E _ S h X fun q e1 v H1 S1 K1 R1 h1 => ?_
  obtain ⟨z, e, h1⟩ := optP_of h1
  obtain ⟨x, e2, e3⟩ := bind_of e
  exact hr _ H1 v x z Q' S1.od (S1.res R1 e2) e3 fun w H2 kc rr => k (.d z) e1 w H2 (S1.after kc) (K1.trans (S1.kp kc)) rr h1
theorem ge_cb {te : TE} {a : WE} {r : List V → Hp → VK → Prop} {f : D → Option D} (ha : GE G W te a) (hr : UOk G (fun v H Q => r [v] H Q) f) : GE G W (tCB r (tCons te tNil)) (wUn f a) := ge_un (r := fun v H Q => r [v] H Q) ha hr
theorem ge_bin {ta tb : TE} {a b : WE} {r : R2} {f : D → D → Option D} (ha : GE G W ta a) (hb : GE G W tb b) (hr : BOk G r f) : GE G W (tOp r ta tb) (wBin f a b) := fun P H0 env σ H Q E Q' S h X k => by
  refine ha P H0 env σ H _ E _ S h X fun q e1 v H1 S1 K1 R1 h1 => ?_
  refine hb P H0 e1 σ H1 _ E _ S1 h1 X fun p e2 u H2 S2 K2 R2 h2 => ?_
  obtain ⟨z, e, h2⟩ := optP_of h2
  obtain ⟨x, ex, e⟩ := bind_of e
  obtain ⟨y, ey, e⟩ := bind_of e
  exact hr _ H2 v u x y z Q' S2.od (S2.res (R1.step K2) ex) (S2.res R2 ey) e fun w H3 kc rr => k (.d z) e2 w H3 (S2.after kc) ((K1.trans K2).trans (S2.kp kc)) rr h2
theorem asBl_of {x : D} {b : Bool} (h : asBl x = some b) : x = .bl b := by cases x <;> simp [asBl] at h; rw [h]
theorem asInt_of {x : D} {b : Int} (h : asInt x = some b) : x = .int b := by cases x <;> simp [asInt] at h; rw [h]
theorem RepT.bl {O : Addr → Prop} {H : Hp} {v : V} {b : Bool} (r : RepT G O H v (.bl b)) : v = .bl b := by cases (show Rep G O H v (.bl b) from r); rfl
theorem RepT.int {O : Addr → Prop} {H : Hp} {v : V} {b : Int} (r : RepT G O H v (.int b)) : v = .int b := by cases (show Rep G O H v (.int b) from r); rfl
theorem RepT.non {O : Addr → Prop} {H : Hp} {v : V} (r : RepT G O H v .non) : v = .non := by cases (show Rep G O H v .non from r); rfl
theorem RepT.str {O : Addr → Prop} {H : Hp} {v : V} {s : List Nat} (r : RepT G O H v (.str s)) : v = .str (strV s) := by cases (show Rep G O H v (.str s) from r); rfl
theorem RepT.tup {O : Addr → Prop} {H : Hp} {v : V} {xs : List D} (r : RepT G O H v (.tup xs)) : ∃ a vs, v = .ref a ∧ ¬ O a ∧ H a = some (.tup vs) ∧ Reps G O H vs xs := by
  cases (show Rep G O H v (.tup xs) from r) with
  | tup no e r => exact ⟨_, _, rfl, no, e, r⟩
theorem RepT.lst {O : Addr → Prop} {H : Hp} {v : V} {xs : List D} (r : RepT G O H v (.lst xs)) : ∃ a vs, v = .ref a ∧ H a = some (.lst vs) ∧ Reps G O H vs xs := r
theorem ge_andV {ta tb : TE} {a b : WE} (ha : GE G W ta a) (hb : GE G W tb b) : GE G W (tAndV ta tb) (wAndV a b) := fun P H0 env σ H Q E Q' S h X k => by
  refine ha P H0 env σ H _ E _ S h X fun q e1 v H1 S1 K1 R1 h1 => ?_
  obtain ⟨c, e, h1⟩ := optP_of h1
  obtain ⟨x, ex, e⟩ := bind_of e
  cases asBl_of e
  refine ⟨c, (S1.res R1 ex).bl, ?_⟩
  cases c with
  | true => exact hb P H0 e1 σ H1 Q E Q' S1 h1 X fun p e2 u H2 S2 K2 R2 h2 => k p e2 u H2 S2 (K1.trans K2) R2 h2
  | false => exact k (.d (.bl false)) e1 _ H1 S1 K1 (.bl false) h1
theorem ge_orV {ta tb : TE} {a b : WE} (ha : GE G W ta a) (hb : GE G W tb b) : GE G W (tOrV ta tb) (wOrV a b) := fun P H0 env σ H Q E Q' S h X k => by
  refine ha P H0 env σ H _ E _ S h X fun q e1 v H1 S1 K1 R1 h1 => ?_
  obtain ⟨c, e, h1⟩ := optP_of h1
  obtain ⟨x, ex, e⟩ := bind_of e
  cases asBl_of e
  refine ⟨c, (S1.res R1 ex).bl, ?_⟩
  cases c with
  | false => exact hb P H0 e1 σ H1 Q E Q' S1 h1 X fun p e2 u H2 S2 K2 R2 h2 => k p e2 u H2 S2 (K1.trans K2) R2 h2
  | true => exact k (.d (.bl true)) e1 _ H1 S1 K1 (.bl true) h1
theorem ge_notV {ta : TE} {a : WE} (ha : GE G W ta a) : GE G W (tNotV ta) (wNotV a) := fun P H0 env σ H Q E Q' S h X k => by
  refine ha P H0 env σ H _ E _ S h X fun q e1 v H1 S1 K1 R1 h1 => ?_
  obtain ⟨c, e, h1⟩ := optP_of h1
  obtain ⟨x, ex, e⟩ := bind_of e
  cases asBl_of e
  exact ⟨c, (S1.res R1 ex).bl, k (.d (.bl (!c))) e1 _ H1 S1 K1 (.bl (!c)) h1⟩
theorem ge_chain {ta tb tc : TE} {a b c : WE} {r r' : R2} {f g : D → D → Option Bool} (ha : GE G W ta a) (hb : GE G W tb b) (hc : GE G W tc c) (hr : COk G r f) (hr' : COk G r' g) : GE G W (tChain r r' ta tb tc) (wChain f g a b c) := fun P H0 env σ H Q E Q' S h X k => by
  refine ha P H0 env σ H _ E _ S h X fun q e1 v H1 S1 K1 R1 h1 => ?_
  refine hb P H0 e1 σ H1 _ E _ S1 h1 X fun p e2 u H2 S2 K2 R2 h2 => ?_
  obtain ⟨m, e, h2⟩ := optP_of h2
  obtain ⟨x, ex, e⟩ := bind_of e
  obtain ⟨y, ey, e⟩ := bind_of e
  refine hr _ H2 v u x y m _ S2.od (S2.res (R1.step K2) ex) (S2.res R2 ey) e ⟨m, rfl, ?_⟩
  cases m with
  | false => exact k (.d (.bl false)) e2 _ H2 S2 (K1.trans K2) (.bl false) h2
  | true =>
    refine hc P H0 e2 σ H2 _ E _ S2 h2 X fun p3 e3 u3 H3 S3 K3 R3 h3 => ?_
    obtain ⟨m, e, h3⟩ := optP_of h3
    obtain ⟨x', ex', e⟩ := bind_of e
    obtain ⟨y', ey', e⟩ := bind_of e
    exact hr' _ H3 u u3 x' y' m _ S3.od (S3.res (R2.step K3) ex') (S3.res R3 ey') e (k (.d (.bl m)) e3 _ H3 S3 ((K1.trans K2).trans K3) (.bl m) h3)
/-! tests -/
theorem gt_test {ta : TE} {a : WE} (ha : GE G W ta a) : GT G W (tTest ta) (wB a) := fun P H0 env σ H Q E Q' S h X k => by
  refine ha P H0 env σ H _ E _ S h X fun q e1 v H1 S1 K1 R1 h1 => ?_
  obtain ⟨c, e, h1⟩ := optP_of h1
  obtain ⟨x, ex, e⟩ := bind_of e
  cases asBl_of e
  exact ⟨c, (S1.res R1 ex).bl, k c e1 H1 S1 K1 h1⟩
theorem gt_b {ta : TE} {a : WE} (ha : GE G W ta a) : GT G W (tB ta) (wB a) := fun P H0 env σ H Q E Q' S h X k => by
  refine ha P H0 env σ H _ E _ S h X fun q e1 v H1 S1 K1 R1 h1 => ?_
  obtain ⟨c, e, h1⟩ := optP_of h1
  obtain ⟨x, ex, e⟩ := bind_of e
  cases asBl_of e
  exact ⟨c, (S1.res R1 ex).bl, k c e1 H1 S1 K1 h1⟩
theorem gt_and {t u : TT} {a b : WT} (ha : GT G W t a) (hb : GT G W u b) : GT G W (tAnd t u) (wAndT a b) := fun P H0 env σ H Q E Q' S h X k => by
  refine ha P H0 env σ H _ E _ S h X fun c e1 H1 S1 K1 h1 => ?_
  cases c with
  | true => exact hb P H0 e1 σ H1 Q E Q' S1 h1 X fun d e2 H2 S2 K2 h2 => k d e2 H2 S2 (K1.trans K2) h2
  | false => exact k false e1 H1 S1 K1 h1
theorem gt_or {t u : TT} {a b : WT} (ha : GT G W t a) (hb : GT G W u b) : GT G W (tOr t u) (wOrT a b) := fun P H0 env σ H Q E Q' S h X k => by
  refine ha P H0 env σ H _ E _ S h X fun c e1 H1 S1 K1 h1 => ?_
  cases c with
  | false => exact hb P H0 e1 σ H1 Q E Q' S1 h1 X fun d e2 H2 S2 K2 h2 => k d e2 H2 S2 (K1.trans K2) h2
  | true => exact k true e1 H1 S1 K1 h1
theorem gt_not {t : TT} {a : WT} (ha : GT G W t a) : GT G W (tNot t) (wNotT a) := fun P H0 env σ H Q E Q' S h X k =>
  ha P H0 env σ H _ E _ S h X fun c e1 H1 S1 K1 h1 => k (!c) e1 H1 S1 K1 h1
theorem ge_if {t : TT} {ta tb : TE} {c : WT} {a b : WE} (hc : GT G W t c) (ha : GE G W ta a) (hb : GE G W tb b) : GE G W (tIf t ta tb) (wIf c a b) := fun P H0 env σ H Q E Q' S h X k => by
  refine hc P H0 env σ H _ E _ S h X fun d e1 H1 S1 K1 h1 => ?_
  cases d with
  | true => exact ha P H0 e1 σ H1 Q E Q' S1 h1 X fun p e2 u H2 S2 K2 R2 h2 => k p e2 u H2 S2 (K1.trans K2) R2 h2
  | false => exact hb P H0 e1 σ H1 Q E Q' S1 h1 X fun p e2 u H2 S2 K2 R2 h2 => k p e2 u H2 S2 (K1.trans K2) R2 h2
/-! arguments, displays -/
theorem ga_nil : GA G W tNil wA0 := fun P H0 env σ H Q E Q' S h _ k => k [] env [] H S .refl .nil h
theorem ga_cons {te : TE} {a : WE} {tr : TA} {r : WA} (ha : GE G W te a) (hr : GA G W tr r) : GA G W (tCons te tr) (wA1 a r) := fun P H0 env σ H Q E Q' S h X k => by
  refine ha P H0 env σ H _ E _ S h X fun q e1 v H1 S1 K1 R1 h1 => ?_
  obtain ⟨p, e, h1⟩ := fzP_of h1
  obtain ⟨S2, K2, R2⟩ := S1.frz R1 e
  exact hr P H0 p.2 σ H1 _ E _ S2 h1 X fun ds e3 vs H3 S3 K3 R3 h3 => k (p.1 :: ds) e3 (v :: vs) H3 S3 ((K1.trans K2).trans K3) (.cons (R2.step K3) R3) h3
theorem sz_eq : SZ ≤ sizeLine := by rw [sizeLine_eq]; exact Nat.le_refl _
theorem ge_tup {ta : TA} {as : WA} (ha : GA G W ta as) : GE G W (tTup ta) (wTup as) := fun P H0 env σ H Q E Q' S h X k => by
  refine ha P H0 env σ H _ E _ S h X fun ds e1 vs H1 S1 K1 R1 h1 => ⟨?_, fun p hp => ?_⟩
  · rw [R1.length]
    exact Nat.le_trans h1.1 sz_eq
  · have kc : Kc G H1 (upd H1 p (.tup vs)) := Kc.new hp
    exact k (.d (.tup ds)) e1 _ _ (S1.after kc) (K1.trans (S1.kp kc)) (.tup (S1.fresh hp) upd_same (R1.step (S1.kp kc))) h1.2
theorem gf_new {P : Addr → Prop} {H0 H1 : Hp} {e1 : Env} {σ : L2.St} {p : Addr} {vs : List V} {ds : List D} (S1 : Sim G P H0 e1 σ H1) (hp : H1 p = none) (R1 : Reps G (Ow P e1 σ) H1 vs ds) :
    Sim G (And1 P p) H0 e1 σ (upd H1 p (.lst vs)) ∧ Kp G (Ow P e1 σ) H1 (Ow (And1 P p) e1 σ) (upd H1 p (.lst vs)) ∧ Reps G (Ow (And1 P p) e1 σ) (upd H1 p (.lst vs)) vs ds ∧ ¬ Ow P e1 σ p ∧ H0 p = none :=
  have z := S1.new1 (o := .lst vs) hp
  ⟨z.1, z.2, R1.step z.2, S1.fresh hp, S1.fresh0 hp⟩
theorem gf_lst {ta : TA} {as : WA} (ha : GA G W ta as) : GF G W (tLst ta) (wLst as) := fun P H0 env σ H Q E Q' S h X k => by
  refine ha P H0 env σ H _ E _ S h X fun ds e1 vs H1 S1 K1 R1 h1 => ⟨?_, fun p hp => ?_⟩
  · rw [R1.length]
    exact Nat.le_trans h1.1 sz_eq
  · obtain ⟨a1, a2, a3, a4, a5⟩ := gf_new S1 hp R1
    exact k ds e1 p vs _ a1 (K1.trans a2) upd_same a3 a4 a5 h1.2
theorem ge_frz {te : TE} {f : WA} (h : GF G W te f) : GE G W te (wFz f) := fun P H0 env σ H Q E Q' S w X k => by
  refine h P H0 env σ H _ E _ S w X fun xs e1 a vs H1 S1 K1 ha R1 no n0 h1 => ?_
  have kw : Kp G (Ow (And1 P a) e1 σ) H1 (Ow P e1 σ) H1 := Kp.weak fun b z => ow_mono (fun c y => .inl y) z
  exact k (.d (.lst xs)) e1 _ H1 (S1.drop1 S.ph S.pc) (K1.trans kw) (.lst no ha (R1.step kw)) h1
theorem gf_un {te : TE} {a : WE} {r : V → Hp → VK → Prop} {f : D → Option (List D)} (ha : GE G W te a) (hr : UFk G r f) : GF G W (tUn r te) (wUnF f a) := fun P H0 env σ H Q E Q' S h X k => by
  refine ha P H0 env σ H _ E _ S h X fun q e1 v H1 S1 K1 R1 h1 => ?_
  obtain ⟨z, e, h1⟩ := optP_of h1
  obtain ⟨x, e2, e3⟩ := bind_of e
  refine hr _ H1 v x z Q' S1.od (S1.res R1 e2) e3 fun p vs H2 kc hp rr => ?_
  obtain ⟨a1, a2, a3, a4, a5⟩ := gf_new (S1.after kc) hp rr
  exact k z e1 p vs _ a1 ((K1.trans (S1.kp kc)).trans a2) upd_same a3 a4 a5 h1
theorem gf_cb {te : TE} {a : WE} {r : List V → Hp → VK → Prop} {f : D → Option (List D)} (ha : GE G W te a) (hr : UFk G (fun v H Q => r [v] H Q) f) : GF G W (tCB r (tCons te tNil)) (wUnF f a) := gf_un (r := fun v H Q => r [v] H Q) ha hr
theorem gf_bin {ta tb : TE} {a b : WE} {r : R2} {f : D → D → Option (List D)} (ha : GE G W ta a) (hb : GE G W tb b) (hr : BFk G r f) : GF G W (tOp r ta tb) (wBinF f a b) := fun P H0 env σ H Q E Q' S h X k => by
  refine ha P H0 env σ H _ E _ S h X fun q e1 v H1 S1 K1 R1 h1 => ?_
  refine hb P H0 e1 σ H1 _ E _ S1 h1 X fun p e2 u H2 S2 K2 R2 h2 => ?_
  obtain ⟨z, e, h2⟩ := optP_of h2
  obtain ⟨x, ex, e⟩ := bind_of e
  obtain ⟨y, ey, e⟩ := bind_of e
  refine hr _ H2 v u x y z Q' S2.od (S2.res (R1.step K2) ex) (S2.res R2 ey) e fun p vs H3 kc hp rr => ?_
  obtain ⟨a1, a2, a3, a4, a5⟩ := gf_new (S2.after kc) hp rr
  exact k z e2 p vs _ a1 (((K1.trans K2).trans (S2.kp kc)).trans a2) upd_same a3 a4 a5 h2
/-! slices -/
theorem go_none : GO G W tNoPart wO0 := fun P H0 env σ H Q E Q' S h _ k => k none env H S .refl h
theorem go_some {te : TE} {a : WE} (ha : GE G W te a) : GO G W (tPart te) (wO1 a) := fun P H0 env σ H Q E Q' S h X k => by
  refine ha P H0 env σ H _ E _ S h X fun q e1 v H1 S1 K1 R1 h1 => ?_
  obtain ⟨c, e, h1⟩ := optP_of h1
  obtain ⟨x, ex, e⟩ := bind_of e
  cases asInt_of e
  exact ⟨c, (S1.res R1 ex).int, k _ e1 H1 S1 K1 h1⟩
def SOk (G : Gx) (r : V → Option Int → Option Int → Hp → VK → Prop) (f : D → Option Int → Option Int → Option D) : Prop := ∀ (O : Addr → Prop) (H : Hp) (v : V) (x z : D) (lo hi : Option Int) (Q' : VK), OD G O H → RepT G O H v x → f x lo hi = some z → (∀ w H1, Kc G H H1 → Rep G O H1 w z → Q' w H1) → r v lo hi H Q'
theorem ge_slice {te : TE} {tl th : TO} {a : WE} {lo hi : WO} {r : V → Option Int → Option Int → Hp → VK → Prop} {f : D → Option Int → Option Int → Option D} (ha : GE G W te a) (hl : GO G W tl lo) (hh : GO G W th hi) (hr : SOk G r f) : GE G W (tSl r te tl th) (wSl f a lo hi) := fun P H0 env σ H Q E Q' S h X k => by
  refine ha P H0 env σ H _ E _ S h X fun q e1 v H1 S1 K1 R1 h1 => ?_
  refine hl P H0 e1 σ H1 _ E _ S1 h1 X fun l e2 H2 S2 K2 h2 => ?_
  refine hh P H0 e2 σ H2 _ E _ S2 h2 X fun m e3 H3 S3 K3 h3 => ?_
  obtain ⟨z, e, h3⟩ := optP_of h3
  obtain ⟨x, ex, e⟩ := bind_of e
  exact hr _ H3 v x z l m Q' S3.od (S3.res ((R1.step K2).step K3) ex) e fun w H4 kc rr => k (.d z) e3 w H4 (S3.after kc) (((K1.trans K2).trans K3).trans (S3.kp kc)) rr h3
end
end LW
end S2_

section S3_
set_option maxRecDepth 100000
/-! Own layer, part 3: calls, targets, walks, comprehensions, statements. -/
namespace LW
open PySem PySem.Spec PyProof.Rows L2 RZ

/-! ### a def's promise -/
def prom (C : Cl) (ct : Ct) : Sp := fun vs H Q E => ∃ (h c : Addr) (P : Addr → Prop) (ds : List D) (q e : D → Prop), P h ∧ P c ∧ (∀ a, P a → ∃ o, H a = some o) ∧ Reps ⟨C, h, c⟩ P H vs ds ∧ ct ds q e ∧
  (∀ x v H1, Kc ⟨C, h, c⟩ H H1 → Rep ⟨C, h, c⟩ P H1 v x → q x → Q v H1) ∧ (∀ x cls d H1, Kc ⟨C, h, c⟩ H H1 → XRep ⟨C, h, c⟩ P H1 cls d x → e x → E cls d H1)
section
variable {G : Gx} {W : WX}
theorem ge_call {ta : TA} {as : WA} {ct : Ct} (ha : GA G W ta as) : GE G W (tCallS (prom G.cl ct) (L2.WE W) ta) (wCall ct as) := fun P H0 env σ H Q E Q' S h X k => by
  refine ha P H0 env σ H _ E _ S h X fun ds e1 vs H1 S1 K1 R1 h1 => ?_
  refine ⟨G.h, G.c, Ow P e1 σ, ds, _, _, .inl S1.ph, .inl S1.pc, fun a h => S1.odom h, R1, h1, fun x v H2 kc r q => ?_, fun x cls d H2 kc r q => ?_⟩
  · exact k (.d x) e1 v H2 (S1.after kc) (K1.trans (S1.kp kc)) r q
  · exact X x e1 cls d H2 (S1.after kc) r q
/-- the same where nothing is let out -/
theorem ge_call0 {ta : TA} {as : WA} {ct : Ct} {E0 : XK} (ha : GA G W ta as) (h0 : ∀ ds q e, ct ds q e → ct ds q fun _ => False) : GE G W (tCall (prom G.cl ct) [] E0 ta) (wCall ct as) := fun P H0 env σ H Q E Q' S h X k => by
  refine ha P H0 env σ H _ E _ S h X fun ds e1 vs H1 S1 K1 R1 h1 => ?_
  refine ⟨G.h, G.c, Ow P e1 σ, ds, _, _, .inl S1.ph, .inl S1.pc, fun a h => S1.odom h, by rw [List.append_nil]; exact R1, h0 _ _ _ h1, fun x v H2 kc r q => ?_, fun x cls d H2 kc r q => q.elim⟩
  exact k (.d x) e1 v H2 (S1.after kc) (K1.trans (S1.kp kc)) r q
end

/-! ### targets -/
/-- stored into the slots ss alone -/
def GG (G : Gx) (g : TG) (k : D → Env → Option Env) (ss : List Nat) : Prop := ∀ (P : Addr → Prop) (H0 : Hp) (e : Env) (σ : L2.St) (H : Hp) (v : V) (x : D) (e1 : Env) (Q' : L2.St → Hp → Prop), Sim G P H0 e σ H → Rep G (Ow P e σ) H v x → k x e = some e1 →
  (∀ σ1, Sim G P H0 e1 σ1 H → Kp G (Ow P e σ) H (Ow P e1 σ1) H → (∀ j, j ∉ ss → σ1[j]? = σ[j]?) → σ1.length = σ.length → Q' σ1 H) → g v σ H Q'
def GGs (G : Gx) (g : TGs) (ks : List (D → Env → Option Env)) (ss : List Nat) : Prop := ∀ (P : Addr → Prop) (H0 : Hp) (e : Env) (σ : L2.St) (H : Hp) (vs : List V) (xs : List D) (e1 : Env) (Q' : L2.St → Hp → Prop), Sim G P H0 e σ H → Reps G (Ow P e σ) H vs xs → kTups ks xs e = some e1 →
  (∀ σ1, Sim G P H0 e1 σ1 H → Kp G (Ow P e σ) H (Ow P e1 σ1) H → (∀ j, j ∉ ss → σ1[j]? = σ[j]?) → σ1.length = σ.length → Q' σ1 H) → g vs σ H Q'
section
variable {G : Gx} {W : WX} {K : PySem.W.Frag}
theorem gg_name (i : Nat) : GG G (gName i) (kName i) [i] := fun P H0 e σ H v x e1 Q' S r h k => by
  cases h
  exact k _ (S.setVal r) (Kp.weak fun a h => ow_val h) (fun j hj => List.getElem?_set_ne (fun z => hj (by simp [z]))) List.length_set
theorem ggs_nil : GGs G gNil [] [] := fun P H0 e σ H vs xs e1 Q' S r h k => by
  cases r with
  | nil =>
    cases h
    exact ⟨rfl, k σ S .refl (fun _ _ => rfl) rfl⟩
  | cons _ _ => cases h
theorem ggs_cons {t : TG} {u : TGs} {k : D → Env → Option Env} {ks : List (D → Env → Option Env)} {ss ts : List Nat} (h1 : GG G t k ss) (h2 : GGs G u ks ts) : GGs G (gCons t u) (k :: ks) (ss ++ ts) := fun P H0 e σ H vs xs e1 Q' S r h kk => by
  cases r with
  | nil => cases h
  | cons r rr =>
    obtain ⟨e2, a, b⟩ := bind_of (show (k _ e).bind _ = some e1 from h)
    refine ⟨_, _, rfl, h1 P H0 e σ H _ _ e2 _ S r a fun σ1 S1 K1 n1 l1 => ?_⟩
    refine h2 P H0 e2 σ1 H _ _ e1 _ S1 (rr.step K1) b fun σ2 S2 K2 n2 l2 => kk σ2 S2 (K1.trans K2) (fun j hj => ?_) (l2.trans l1)
    rw [n2 j (fun z => hj (List.mem_append_right _ z)), n1 j (fun z => hj (List.mem_append_left _ z))]
theorem gg_tup {t : TGs} {ks : List (D → Env → Option Env)} {ss : List Nat} {n : Nat} (h1 : GGs G t ks ss) (hn : n = ks.length) : GG G (gTup K n t) (kTup ks) ss := fun P H0 e σ H v x e1 Q' S r h kk => by
  subst hn
  cases x with
  | tup xs =>
    cases r with
    | tup no ea rr =>
      have hl : ∀ (ks : List (D → Env → Option Env)) (xs : List D) (e e1 : Env), kTups ks xs e = some e1 → xs.length = ks.length := by
        intro ks
        induction ks with
        | nil => intro xs e e1 h; cases xs <;> first | rfl | cases h
        | cons k ks ih =>
          intro xs e e1 h
          cases xs with
          | nil => cases h
          | cons x xs =>
            obtain ⟨e2, a, b⟩ := bind_of (show (k x e).bind _ = some e1 from h)
            simp [ih xs e2 e1 b]
      exact ⟨_, _, rfl, SqT.of ea, by rw [rr.length]; exact hl ks xs e e1 h, h1 P H0 e σ H _ xs e1 Q' S rr h kk⟩
  | _ => cases h
end

/-! ### walks -/
structure Ity (G : Gx) (O : Addr → Prop) (H1 : Hp) (J : It) (items : List D) : Prop where
  go : ∀ i O' H', Kp G O H1 O' H' → i < items.length → J.go i H'
  stop : ∀ O' H', Kp G O H1 O' H' → J.stop items.length H'
  yld : ∀ i O' H' v H'' x, OD G O' H' → Kp G O H1 O' H' → items[i]? = some x → J.yld i H' v H'' → Kc G H' H'' ∧ Rep G O' H'' v x
def GI (G : Gx) (W : WX) (ti : TI) (wi : WI) : Prop := ∀ (P : Addr → Prop) (H0 : Hp) (env : Env) (σ : L2.St) (H : Hp) (Q : KA) (E : KE) (R' : It → Hp → Prop), Sim G P H0 env σ H → wi env Q E → XOK G P H0 σ W E →
  (∀ items e1 J H1, Sim G P H0 e1 σ H1 → Kp G (Ow P env σ) H (Ow P e1 σ) H1 → Ity G (Ow P e1 σ) H1 J items → Q items e1 → R' J H1) → ti σ H R'
section
variable {G : Gx} {W : WX} {K : PySem.W.Frag}
theorem sql_inj {H : Hp} {a : Addr} {xs ys : List V} (h : H a = some (.lst xs)) (nk : True) (q : Rd H a (.lst ys)) : xs = ys := by
  rcases q with q | ⟨o, q⟩
  · rw [h] at q; cases q; rfl
  · rw [h] at q; cases q
theorem ity_list {O : Addr → Prop} {H1 : Hp} {a : Addr} {vs : List V} {xs : List D} (no : ¬ O a) (e : H1 a = some (.lst vs)) (r : Reps G O H1 vs xs) : Ity G O H1 (Itl K a) xs where
  go := fun i O' H' k hi => ⟨vs, vs[i]'(by rw [r.length]; exact hi), SqL.of (k.at_ _ _ e no).1, by simp [r.length, hi]⟩
  stop := fun O' H' k => ⟨vs, SqL.of (k.at_ _ _ e no).1, by rw [r.length]; exact Nat.le_refl _⟩
  yld := fun i O' H' v H'' x _ k hx y => by
    obtain ⟨e1, y⟩ := y
    subst e1
    obtain ⟨u, hu, ru⟩ := r.get i hx
    have q := y vs (SqL.of (k.at_ _ _ e no).1)
    rw [hu] at q
    cases q
    exact ⟨.refl, ru.step k⟩
theorem ity_tup {O : Addr → Prop} {H1 : Hp} {a : Addr} {vs : List V} {xs : List D} (no : ¬ O a) (e : H1 a = some (.tup vs)) (r : Reps G O H1 vs xs) : Ity G O H1 (Itt K a) xs where
  go := fun i O' H' k hi => ⟨vs, vs[i]'(by rw [r.length]; exact hi), SqT.of (k.at_ _ _ e no).1, by simp [r.length, hi]⟩
  stop := fun O' H' k => ⟨vs, SqT.of (k.at_ _ _ e no).1, by rw [r.length]; exact Nat.le_refl _⟩
  yld := fun i O' H' v H'' x _ k hx y => by
    obtain ⟨e1, y⟩ := y
    subst e1
    obtain ⟨u, hu, ru⟩ := r.get i hx
    have q := y vs (SqT.of (k.at_ _ _ e no).1)
    rw [hu] at q
    cases q
    exact ⟨.refl, ru.step k⟩
theorem rangeD_len {n : Nat} {lo : Int} : (rangeD n lo).length = n := by simp [rangeD]
theorem rangeD_get {n : Nat} {lo : Int} {i : Nat} {x : D} (h : (rangeD n lo)[i]? = some x) : x = .int (lo + i) := by
  simp only [rangeD, List.getElem?_map, Option.map_eq_some_iff] at h
  obtain ⟨a, h1, h2⟩ := h
  have := List.getElem?_range (n := n) (i := i) 
  by_cases q : i < n
  · rw [List.getElem?_range q] at h1
    cases h1
    exact h2.symm
  · rw [List.getElem?_eq_none (by simp; omega)] at h1
    cases h1
theorem ity_range {O : Addr → Prop} {H1 : Hp} {lo : Int} {n : Nat} : Ity G O H1 (Itr lo n) (rangeD n lo) where
  go := fun i O' H' k hi => by rw [rangeD_len] at hi; exact hi
  stop := fun O' H' k => by rw [rangeD_len]; exact Nat.le_refl _
  yld := fun i O' H' v H'' x _ k hx y => by
    obtain ⟨e1, e2⟩ := y
    subst e1
    subst e2
    rw [rangeD_get hx]
    exact ⟨.refl, .int _⟩
/-! over a list or a tuple -/
def iSeq (K : PySem.W.Frag) (tl : TE) : TI := fun σ H R => tl σ H fun x H1 => ∃ a, x = .ref a ∧ ((∃ xs, SqL K H1 a xs) ∧ R (Itl K a) H1 ∨ (∃ xs, SqT K H1 a xs) ∧ R (Itt K a) H1)
theorem pi_seq {X : Cx} {tg l : Expr} {tl : TE} (hl : PE X l tl) : PI X tg l (iSeq X.K tl) := by
  constructor
  intro pins s σ H R I h
  refine thn (hl.run pins s σ H _ I h) fun v s1 q0 => ?_
  obtain ⟨x, H1, I1, r1, a, ex, q1⟩ := q0
  subst ex
  cases r1
  have one : ∀ b, b ∈ [s1.heap.objs.size] → FpOk X pins H1 b := fun b hb => by
    cases List.mem_singleton.mp hb
    exact I1.fpOk (Nat.le_refl _) (I1.hok.fresh (Nat.le_refl _))
  rcases q1 with ⟨⟨xs, hq⟩, q⟩ | ⟨⟨xs, hq⟩, q⟩
  · obtain ⟨its, _, p, _⟩ := I1.list hq
    exact wpAny_pyIter_list p.isList ⟨_, [s1.heap.objs.size], _, _, H1, rfl, I1.kept (t' := s1.toks) fun b o e => Heap.get?_push_of_some _ e, turn_list a _, ⟨_, Heap.get?_push_size _ rfl, rfl, rfl⟩, one, q⟩
  · obtain ⟨its, _, p, _⟩ := I1.tuple hq
    exact wpAny_pyIter_tuple (show s1.heap.IsTuple a its.toArray from p) ⟨_, [s1.heap.objs.size], _, _, H1, rfl, I1.kept (t' := s1.toks) fun b o e => Heap.get?_push_of_some _ e, turn_tuple a _, ⟨_, Heap.get?_push_size _ rfl, rfl, rfl⟩, one, q⟩
theorem gi_seq {te : TE} {a : WE} (ha : GE G W te a) : GI G W (iSeq K te) (wiSeq a) := fun P H0 env σ H Q E R' S h X k => by
  refine ha P H0 env σ H _ E _ S h X fun q e1 v H1 S1 K1 R1 h1 => ?_
  obtain ⟨p, e, h1⟩ := fzP_of h1
  obtain ⟨xs, e2, h1⟩ := optP_of h1
  obtain ⟨S2, K2, R2⟩ := S1.frz R1 e
  obtain ⟨x, e3⟩ := p
  dsimp only at e2 h1 S2 K2 R2
  cases R2 with
  | tup no ea r =>
    cases e2
    exact ⟨_, rfl, .inr ⟨⟨_, SqT.of ea⟩, k xs e3 _ H1 S2 (K1.trans K2) (ity_tup no ea r) h1⟩⟩
  | lst no ea r =>
    cases e2
    exact ⟨_, rfl, .inl ⟨⟨_, SqL.of ea⟩, k xs e3 _ H1 S2 (K1.trans K2) (ity_list no ea r) h1⟩⟩
  | _ => cases e2
theorem gi_range1 {ta : TA} {as : WA} (ha : GA G W ta as) : GI G W (iRng1 ta) (wiArgs fRange1 as) := fun P H0 env σ H Q E R' S h X k => by
  refine ha P H0 env σ H _ E _ S h X fun ds e1 vs H1 S1 K1 R1 h1 => ?_
  obtain ⟨xs, e, h1⟩ := optP_of h1
  unfold fRange1 at e
  split at e
  · rename_i j
    split at e
    · rename_i hj
      cases e
      cases R1 with
      | cons r rr =>
        cases rr
        cases r
        exact ⟨j, rfl, hj.1, hj.2, k _ e1 _ H1 S1 K1 ity_range h1⟩
    · cases e
  · cases e
theorem gi_range2 {ta : TA} {as : WA} (ha : GA G W ta as) : GI G W (iRng2 ta) (wiArgs fRange2 as) := fun P H0 env σ H Q E R' S h X k => by
  refine ha P H0 env σ H _ E _ S h X fun ds e1 vs H1 S1 K1 R1 h1 => ?_
  obtain ⟨xs, e, h1⟩ := optP_of h1
  unfold fRange2 at e
  split at e
  · rename_i i j
    split at e
    · rename_i hj
      cases e
      cases R1 with
      | cons r rr =>
        cases r
        cases rr with
        | cons r rr =>
          cases rr
          cases r
          exact ⟨i, j, rfl, hj, k _ e1 _ H1 S1 K1 ity_range h1⟩
    · cases e
  · cases e
theorem zipD_len : ∀ {xs ys : List D}, (zipD xs ys).length = min xs.length ys.length
  | [], [] => rfl
  | [], _ :: _ => by simp [zipD]
  | _ :: _, [] => by simp [zipD]
  | _ :: xs, _ :: ys => by
    show (zipD xs ys).length + 1 = min (xs.length + 1) (ys.length + 1)
    rw [zipD_len]
    omega
theorem zipD_get : ∀ {xs ys : List D} {i : Nat} {x : D}, (zipD xs ys)[i]? = some x → ∃ a b, x = .tup [a, b] ∧ xs[i]? = some a ∧ ys[i]? = some b
  | [], _, _, _, h => by simp [zipD] at h
  | _ :: _, [], _, _, h => by simp [zipD] at h
  | a :: _, b :: _, 0, x, h => by
    simp [zipD] at h
    exact ⟨a, b, h.symm, rfl, rfl⟩
  | _ :: xs, _ :: ys, i + 1, x, h => by
    obtain ⟨a, b, h1, h2, h3⟩ := zipD_get (xs := xs) (ys := ys) (i := i) (x := x) (by simpa [zipD] using h)
    exact ⟨a, b, h1, by simpa using h2, by simpa using h3⟩
/-- a new pair of what stands -/
theorem pair_new {O' : Addr → Prop} {H' : Hp} {T : Addr} {x y : V} {a b : D} (o : OD G O' H') (n : H' T = none) (ra : Rep G O' H' x a) (rb : Rep G O' H' y b) :
    Kc G H' (upd H' T (.tup [x, y])) ∧ Rep G O' (upd H' T (.tup [x, y])) (.ref T) (.tup [a, b]) :=
  have kc : Kc G H' (upd H' T (.tup [x, y])) := Kc.new n
  ⟨kc, .tup (o.fresh n) upd_same (.cons (ra.step (Kp.of kc o.oh)) (.cons (rb.step (Kp.of kc o.oh)) .nil))⟩
theorem ity_zipL {O : Addr → Prop} {H1 : Hp} {a b : Addr} {vs us : List V} {xs ys : List D} (no : ¬ O a) (e : H1 a = some (.lst vs)) (r : Reps G O H1 vs xs) (no' : ¬ O b) (e' : H1 b = some (.lst us)) (r' : Reps G O H1 us ys) : Ity G O H1 (Itz K a b) (zipD xs ys) where
  go := fun i O' H' k hi => by
    rw [zipD_len, ← r.length, ← r'.length] at hi
    have h1 : i < vs.length := by omega
    have h2 : i < us.length := by omega
    exact ⟨vs, us, vs[i], us[i], SqL.of (k.at_ _ _ e no).1, SqL.of (k.at_ _ _ e' no').1, by simp [h1], by simp [h2]⟩
  stop := fun O' H' k => ⟨vs, us, SqL.of (k.at_ _ _ e no).1, SqL.of (k.at_ _ _ e' no').1, by rw [zipD_len, r.length, r'.length]; omega⟩
  yld := fun i O' H' v H'' x o k hx y => by
    obtain ⟨c, d, ex, h1, h2⟩ := zipD_get hx
    obtain ⟨T, p, q, ev, hn, e1, y1, y2⟩ := y
    subst ex
    subst ev
    subst e1
    obtain ⟨u, hu, ru⟩ := r.get i h1
    obtain ⟨w, hw, rw'⟩ := r'.get i h2
    have q1 := y1 vs (SqL.of (k.at_ _ _ e no).1)
    have q2 := y2 us (SqL.of (k.at_ _ _ e' no').1)
    rw [hu] at q1
    rw [hw] at q2
    cases q1
    cases q2
    exact pair_new o hn (ru.step k) (rw'.step k)
theorem ity_zipT {O : Addr → Prop} {H1 : Hp} {a b : Addr} {vs us : List V} {xs ys : List D} (no : ¬ O a) (e : H1 a = some (.tup vs)) (r : Reps G O H1 vs xs) (no' : ¬ O b) (e' : H1 b = some (.tup us)) (r' : Reps G O H1 us ys) : Ity G O H1 (ItzT K a b) (zipD xs ys) where
  go := fun i O' H' k hi => by
    rw [zipD_len, ← r.length, ← r'.length] at hi
    have h1 : i < vs.length := by omega
    have h2 : i < us.length := by omega
    exact ⟨vs, us, vs[i], us[i], SqT.of (k.at_ _ _ e no).1, SqT.of (k.at_ _ _ e' no').1, by simp [h1], by simp [h2]⟩
  stop := fun O' H' k => ⟨vs, us, SqT.of (k.at_ _ _ e no).1, SqT.of (k.at_ _ _ e' no').1, by rw [zipD_len, r.length, r'.length]; omega⟩
  yld := fun i O' H' v H'' x o k hx y => by
    obtain ⟨c, d, ex, h1, h2⟩ := zipD_get hx
    obtain ⟨T, p, q, ev, hn, e1, y1, y2⟩ := y
    subst ex
    subst ev
    subst e1
    obtain ⟨u, hu, ru⟩ := r.get i h1
    obtain ⟨w, hw, rw'⟩ := r'.get i h2
    have q1 := y1 vs (SqT.of (k.at_ _ _ e no).1)
    have q2 := y2 us (SqT.of (k.at_ _ _ e' no').1)
    rw [hu] at q1
    rw [hw] at q2
    cases q1
    cases q2
    exact pair_new o hn (ru.step k) (rw'.step k)
theorem gi_zip {ta : TA} {as : WA} (ha : GA G W ta as) : GI G W (iZipA K ta) (wiArgs fZip as) := fun P H0 env σ H Q E R' S h X k => by
  refine ha P H0 env σ H _ E _ S h X fun ds e1 vs H1 S1 K1 R1 h1 => ?_
  obtain ⟨xs, e, h1⟩ := optP_of h1
  unfold fZip at e
  split at e
  · cases e
    cases R1 with
    | cons r rr =>
      cases rr with
      | cons r' rr =>
        cases rr
        cases r with
        | tup no ea ra =>
          cases r' with
          | tup no' eb rb => exact ⟨_, _, _, _, rfl, .inr ⟨SqT.of ea, SqT.of eb, k _ e1 _ H1 S1 K1 (ity_zipT no ea ra no' eb rb) h1⟩⟩
  · cases e
    cases R1 with
    | cons r rr =>
      cases rr with
      | cons r' rr =>
        cases rr
        cases r with
        | lst no ea ra =>
          cases r' with
          | lst no' eb rb => exact ⟨_, _, _, _, rfl, .inl ⟨SqL.of ea, SqL.of eb, k _ e1 _ H1 S1 K1 (ity_zipL no ea ra no' eb rb) h1⟩⟩
  · cases e
end
end LW
end S3_

section S4_
set_option maxRecDepth 100000
/-! Own layer, part 4: comprehensions, statements, defs. -/
namespace LW
open PySem PySem.Spec PyProof.Rows L2 RZ

/-! ### slots wiped and put back -/
theorem wipeE_len {e : Env} : ∀ {vs : List Nat}, (wipeE e vs).length = e.length
  | [] => rfl
  | v :: vs => by show (st (wipeE e vs) v .un).length = _; rw [st_len, wipeE_len]
theorem backE_len {e0 e : Env} : ∀ {vs : List Nat}, (backE e0 e vs).length = e.length
  | [] => rfl
  | v :: vs => by show (st (backE e0 e vs) v _).length = _; rw [st_len, backE_len]
theorem gt_wipe_out {e : Env} {j : Nat} : ∀ {vs : List Nat}, j ∉ vs → gt (wipeE e vs) j = gt e j
  | [], _ => rfl
  | v :: vs, h => by
    show gt (st (wipeE e vs) v .un) j = _
    rw [gt_st_ne (fun z => h (by simp [z])), gt_wipe_out (fun z => h (List.mem_cons_of_mem _ z))]
theorem gt_wipe_in {e : Env} {j : Nat} : ∀ {vs : List Nat}, j ∈ vs → gt (wipeE e vs) j = .un
  | v :: vs, h => by
    show gt (st (wipeE e vs) v .un) j = _
    by_cases z : j = v
    · subst z
      by_cases hl : j < (wipeE e vs).length
      · rw [gt_st_same hl]
      · rw [st_out (Nat.le_of_not_lt hl), gt_out (Nat.le_of_not_lt hl)]
    · rw [gt_st_ne z]
      exact gt_wipe_in ((List.mem_cons.mp h).resolve_left z)
theorem gt_back_out {e0 e : Env} {j : Nat} : ∀ {vs : List Nat}, j ∉ vs → gt (backE e0 e vs) j = gt e j
  | [], _ => rfl
  | v :: vs, h => by
    show gt (st (backE e0 e vs) v _) j = _
    rw [gt_st_ne (fun z => h (by simp [z])), gt_back_out (fun z => h (List.mem_cons_of_mem _ z))]
theorem gt_back_in {e0 e : Env} {j : Nat} (hl : e.length = e0.length) : ∀ {vs : List Nat}, j ∈ vs → gt (backE e0 e vs) j = gt e0 j
  | v :: vs, h => by
    show gt (st (backE e0 e vs) v _) j = _
    by_cases z : j = v
    · subst z
      by_cases q : j < (backE e0 e vs).length
      · rw [gt_st_same q]
      · rw [st_out (Nat.le_of_not_lt q), gt_out (Nat.le_of_not_lt q)]
        rw [backE_len, hl] at q
        rw [gt_out (Nat.le_of_not_lt q)]
    · rw [gt_st_ne z]
      exact gt_back_in hl ((List.mem_cons.mp h).resolve_left z)
theorem wipe_out {σ : L2.St} {j : Nat} : ∀ {vs : List Nat}, j ∉ vs → (wipe σ vs)[j]? = σ[j]?
  | [], _ => rfl
  | v :: vs, h => by
    show ((wipe σ vs).set v none)[j]? = _
    rw [List.getElem?_set_ne (fun z => h (by simp [z])), wipe_out (fun z => h (List.mem_cons_of_mem _ z))]
theorem wipe_in {σ : L2.St} {j : Nat} : ∀ {vs : List Nat}, j ∈ vs → (wipe σ vs)[j]? = if j < σ.length then some none else none
  | v :: vs, h => by
    show ((wipe σ vs).set v none)[j]? = _
    by_cases z : v = j
    · subst z
      by_cases q : v < σ.length
      · rw [List.getElem?_set_self (by rw [wipe_length]; exact q), if_pos q]
      · rw [List.getElem?_eq_none (by rw [List.length_set, wipe_length]; omega), if_neg q]
    · rw [List.getElem?_set_ne z]
      exact wipe_in ((List.mem_cons.mp h).resolve_left (fun q => z q.symm))
theorem wipe_eq {σ σ2 : L2.St} {vs ss : List Nat} (hl : σ2.length = σ.length) (h : ∀ j, j ∉ ss → σ2[j]? = (wipe σ vs)[j]?) (hs : ∀ j ∈ ss, j ∈ vs) : wipe σ2 vs = wipe σ vs := by
  apply List.ext_getElem?
  intro j
  by_cases z : j ∈ vs
  · rw [wipe_in z, wipe_in z, hl]
  · rw [wipe_out z, h j (fun q => z (hs j q))]
section
variable {G : Gx} {P : Addr → Prop} {H0 H H1 : Hp} {env e e1 : Env} {σ : L2.St}
theorem Sim.wipes (S : Sim G P H0 env σ H) : ∀ vs : List Nat, Sim G P H0 (wipeE env vs) (wipe σ vs) H ∧ ∀ a, Ow P (wipeE env vs) (wipe σ vs) a → Ow P env σ a
  | [] => ⟨S, fun _ h => h⟩
  | v :: vs => by
    obtain ⟨a, b⟩ := Sim.wipes S vs
    exact ⟨a.setUn, fun x h => b x (ow_un h)⟩
theorem noOwn_at : ∀ {vs : List Nat}, noOwn env vs → ∀ j ∈ vs, ∀ xs, mob (gt env j) ≠ some xs
  | v :: vs, h, j, hj, xs => by
    obtain ⟨h1, h2⟩ := h
    rcases List.mem_cons.mp hj with z | z
    · subst z
      intro q
      simp [q] at h1
    · exact noOwn_at h2 j z xs
/-- behind the block: the slots as they were ahead of it -/
theorem Sim.backs {vs : List Nat} (S0 : Sim G P H0 e1 σ H) (S1 : Sim G P H0 e (wipe σ vs) H1) (hn : noOwn e1 vs) (hu : ∀ j ∈ vs, gt e j = .un) (k : Kp G (Ow P e1 σ) H (Ow P e (wipe σ vs)) H1) :
    Sim G P H0 (backE e1 e vs) σ H1 ∧ ∀ a, Ow P (backE e1 e vs) σ a → Ow P e (wipe σ vs) a := by
  have hl : e.length = e1.length := by rw [S0.len, S1.len, wipe_length]
  have own : ∀ j xs, mob (gt (backE e1 e vs) j) = some xs → j ∉ vs ∧ mob (gt e j) = some xs := fun j xs q => by
    by_cases z : j ∈ vs
    · rw [gt_back_in hl z] at q
      exact absurd q (noOwn_at hn j z xs)
    · rw [gt_back_out z] at q
      exact ⟨z, q⟩
  have w : ∀ a, Ow P (backE e1 e vs) σ a → Ow P e (wipe σ vs) a := fun a h => by
    rcases h with h | ⟨j, xs, h1, h2⟩
    · exact .inl h
    · obtain ⟨z, q⟩ := own j xs h1
      exact .inr ⟨j, xs, q, by rw [wipe_out z]; exact h2⟩
  refine ⟨⟨by rw [backE_len, hl, S0.len], S1.old, S1.hnd, S1.dom, S1.ph, S1.pc, fun j x h => ?_, fun j xs h => ?_, fun i j xs ys a h1 h2 h3 h4 => ?_, fun j a q => ?_⟩, w⟩
  · by_cases z : j ∈ vs
    · rw [gt_back_in hl z] at h
      obtain ⟨v, e2, r⟩ := S0.val j x h
      exact ⟨v, e2, (r.step k).step (Kp.weak w)⟩
    · rw [gt_back_out z] at h
      obtain ⟨v, e2, r⟩ := S1.val j x h
      rw [wipe_out z] at e2
      exact ⟨v, e2, r.step (Kp.weak w)⟩
  · obtain ⟨z, q⟩ := own j xs h
    obtain ⟨a, h1, h2, h4⟩ := S1.own j xs q
    rw [wipe_out z] at h1
    exact ⟨a, h1, h2.step (Kp.weak w), h4⟩
  · obtain ⟨z1, q1⟩ := own i xs h1
    obtain ⟨z2, q2⟩ := own j ys h2
    exact S1.inj i j xs ys a q1 q2 (by rw [wipe_out z1]; exact h3) (by rw [wipe_out z2]; exact h4)
  · by_cases z : j ∈ vs
    · rw [gt_back_in hl z] at q
      exact S0.fix j a q
    · rw [gt_back_out z] at q
      have := S1.fix j a q
      rw [wipe_out z] at this
      exact this
end

/-! ### comprehensions -/
/-- what is let out of a block: nothing -/
abbrev W0 : WX := fun _ _ _ _ => False
theorem XOK.no {G : Gx} {P : Addr → Prop} {H0 : Hp} {σ : L2.St} {W : WX} : XOK G P H0 σ W noX := fun _ _ _ _ _ _ _ q => q.elim
section
variable {G : Gx} {W : WX}
theorem gt_true : GT G W tYes wTrue := fun P H0 env σ H Q E Q' S h X k => k true env H S .refl h
section
variable {P : Addr → Prop} {H0 H : Hp} {e : Env} {σ : L2.St} {a : Addr} {o : HO}
/-- a protected object is put among what must stand, and taken out -/
theorem Sim.pin (S : Sim G (And1 P a) H0 e σ H) (ph : P G.h) (pc : P G.c) (na : ¬ P a) (ha : H a = some o) (n0 : H0 a = none) : Sim G (And1 P a) (upd H0 a o) e σ H :=
  ⟨S.len, fun b u nb q => by
    by_cases z : b = a
    · subst z
      rw [upd_same] at q
      cases q
      exact ha
    · rw [upd_ne z] at q
      exact S.old b u nb q, fun q => S.hnd (q.keep fun b u hb r => by rwa [upd_ne (fun z => na (by rcases hb with y | y <;> rw [← z, y] <;> assumption))] at r), S.dom, S.ph, S.pc, S.val,
   fun i xs q => let ⟨b, h1, h2, h4, h5⟩ := S.own i xs q; ⟨b, h1, h2, h4, by rw [upd_ne (fun z => h4 (.inr z))]; exact h5⟩, S.inj, S.fix⟩
theorem Sim.unpin (S : Sim G (And1 P a) (upd H0 a o) e σ H) (ph : P G.h) (pc : P G.c) (na : ¬ P a) (n0 : H0 a = none) : Sim G (And1 P a) H0 e σ H ∧ H a = some o := by
  have ne : ∀ b u, H0 b = some u → b ≠ a := fun b u q => ne_of_none q n0
  refine ⟨⟨S.len, fun b u nb q => S.old b u nb (by rw [upd_ne (ne b u q)]; exact q), fun q => S.hnd (q.keep fun b u _ r => by rw [upd_ne (ne b u r)]; exact r), S.dom, S.ph, S.pc, S.val, fun i xs q => ?_, S.inj, S.fix⟩, S.old a o (fun z => na (z ▸ ph)) upd_same⟩
  obtain ⟨b, h1, h2, h4, h5⟩ := S.own i xs q
  exact ⟨b, h1, h2, h4, by rw [upd_ne (fun z => h4 (.inr z))] at h5; exact h5⟩
end
/-- what holds ahead of turn i -/
def LcInv (G : Gx) (P : Addr → Prop) (H0 : Hp) (σ : L2.St) (vs : List Nat) (kt : D → Env → Option Env) (wt : WT) (we : WE) (items : List D) (a : Addr) (Q2 : KA) (O1 : Addr → Prop) (H1 : Hp) (i m : Nat) (H : Hp) : Prop :=
  m = items.length - i ∧ i ≤ items.length ∧ ∃ acc us e, lcGo kt wt we vs Q2 (items.drop i) acc e ∧ Sim G (And1 P a) H0 e (wipe σ vs) H ∧ Kp G O1 H1 (Ow (And1 P a) e (wipe σ vs)) H ∧ H a = some (.lst us) ∧
    Reps G (Ow (And1 P a) e (wipe σ vs)) H us acc ∧ ∀ j ∈ vs, gt e j = .un
theorem gf_lc {ti : TI} {wi : WI} {g : TG} {kt : D → Env → Option Env} {tt : TT} {wt : WT} {te : TE} {we : WE} {ss vs : List Nat} (hi : GI G W ti wi) (hg : GG G g kt ss) (ht : GT G W0 tt wt) (he : GE G W0 te we) (hs : ∀ j ∈ ss, j ∈ vs) :
    GF G W (tLc ti g tt te vs) (wLc wi kt wt we vs) := fun P H0 env σ H Q E Q' S h X k => by
  refine hi P H0 env σ H _ E _ S h X fun items e1 J H1 S1 K1 I1 h1 => ?_
  obtain ⟨hn, h1⟩ := h1
  replace h1 := hold_e h1
  intro a hD
  obtain ⟨Sn, Kn⟩ := S1.new1 (o := .lst []) hD
  have noD : ¬ Ow P e1 σ a := S1.fresh hD
  have nPD : ¬ P a := fun z => noD (.inl z)
  have n0 : H0 a = none := S1.fresh0 hD
  have kD : ∀ {Ha Hb : Hp} {u : List V}, Kc G Ha Hb → Ha a = some (.lst u) → Hb a = some (.lst u) := fun kc q => kc.at_ a _ (fun z => nPD (z ▸ S.ph)) q
  obtain ⟨Sw, Ww⟩ := Sn.wipes vs
  refine ⟨LcInv G P H0 σ vs kt wt we items a (fun acc e2 => Q acc (backE e1 e2 vs)) (Ow P e1 σ) H1, ⟨items.length, by simp, Nat.zero_le _, [], [], wipeE e1 vs, h1, Sw, Kn.trans (Kp.weak Ww), upd_same, .nil, fun j hj => gt_wipe_in hj⟩, ?_⟩
  rintro i m H ⟨rfl, hil, acc, us, e, hgo, Se, Ke, hDe, Re, hu⟩
  by_cases hlt : i < items.length
  · refine .inr ⟨I1.go i _ H Ke hlt, fun H' => ∃ m', m' < items.length - i ∧ LcInv G P H0 σ vs kt wt we items a (fun acc e2 => Q acc (backE e1 e2 vs)) (Ow P e1 σ) H1 (i + 1) m' H', fun _ z => z, fun v H' hy => ?_⟩
    have hx : items[i]? = some items[i] := List.getElem?_eq_getElem hlt
    obtain ⟨kc, rv⟩ := I1.yld i _ H v H' items[i] Se.od Ke hx hy
    have S2 := Se.after kc
    have K2 := Ke.trans (Se.kp kc)
    have R2 := Re.step (Se.kp kc)
    have D2 := kD kc hDe
    rw [List.drop_eq_getElem_cons hlt] at hgo
    obtain ⟨e2, he2, hgo⟩ := optP_of hgo
    refine hg (And1 P a) H0 e (wipe σ vs) H' v items[i] e2 _ S2 rv he2 fun σ2 S3 K3 ns hl => ⟨wipe_eq (by rw [hl, wipe_length]) ns hs, ?_⟩
    have wq : wipe σ2 vs = wipe σ vs := wipe_eq (by rw [hl, wipe_length]) ns hs
    have fin : ∀ (acc' : List D) (us' : List V) (e' : Env) (H'' : Hp), noOwn e' vs → lcGo kt wt we vs (fun acc e2 => Q acc (backE e1 e2 vs)) (items.drop (i + 1)) acc' (wipeE e' vs) → Sim G (And1 P a) H0 e' σ2 H'' →
        Kp G (Ow P e1 σ) H1 (Ow (And1 P a) e' σ2) H'' → H'' a = some (.lst us') → Reps G (Ow (And1 P a) e' σ2) H'' us' acc' → ∃ m', m' < items.length - i ∧ LcInv G P H0 σ vs kt wt we items a (fun acc e2 => Q acc (backE e1 e2 vs)) (Ow P e1 σ) H1 (i + 1) m' H'' := by
      intro acc' us' e' H'' _ g1 S6 K6 D6 R6
      obtain ⟨S7, W7⟩ := S6.wipes vs
      rw [wq] at S7 W7
      exact ⟨items.length - (i + 1), by omega, rfl, hlt, acc', us', wipeE e' vs, g1, S7, K6.trans (Kp.weak W7), D6, R6.step (Kp.weak W7), fun j hj => gt_wipe_in hj⟩
    refine ht (And1 P a) (upd H0 a (.lst us)) e2 σ2 H' _ noX _ (S3.pin S.ph S.pc nPD D2 n0) hgo .no fun b e3 H3 S4' K4 hb => ?_
    obtain ⟨S4, D4⟩ := S4'.unpin S.ph S.pc nPD n0
    have R4 := (R2.step K3).step K4
    cases b with
    | false =>
      have hb' : noOwn e3 vs ∧ lcGo kt wt we vs (fun acc e2 => Q acc (backE e1 e2 vs)) (items.drop (i + 1)) acc (wipeE e3 vs) := hb
      exact fin acc us e3 H3 hb'.1 hb'.2 S4 ((K2.trans K3).trans K4) D4 R4
    | true =>
      refine he (And1 P a) (upd H0 a (.lst us)) e3 σ2 H3 _ noX _ S4' hb .no fun r e4 y H4 S5' K5 RR hr => ?_
      obtain ⟨S5, D5⟩ := S5'.unpin S.ph S.pc nPD n0
      obtain ⟨p, hp, hr⟩ := fzP_of hr
      obtain ⟨hsz, hno, hr⟩ := hr
      obtain ⟨S6, K6, R6⟩ := S5.frz RR hp
      have R5 := (R4.step K5).step K6
      refine ⟨us, D5, by rw [R5.length]; exact Nat.lt_of_lt_of_le hsz sz_eq, ?_⟩
      obtain ⟨S7, K7⟩ := S6.mut1 (o := .lst (us ++ [y])) nPD S.ph S.pc n0
      exact fin (acc ++ [p.1]) (us ++ [y]) p.2 _ hno hr S7 (((((K2.trans K3).trans K4).trans K5).trans K6).trans K7) upd_same ((R5.append (.cons R6 .nil)).step K7)
  · have ei : i = items.length := by omega
    subst ei
    rw [List.drop_length] at hgo
    refine .inl ⟨I1.stop _ H Ke, ?_⟩
    have kb : Kp G (Ow (And1 P a) e1 σ) (upd H1 a (.lst [])) (Ow (And1 P a) e (wipe σ vs)) H := by
      refine ⟨fun b o q n => ?_, fun q => Ke.hnd (q.keep fun b u hb r => by rwa [upd_ne (fun z => nPD (by rcases hb with y | y <;> rw [← z, y] <;> first | exact S.ph | exact S.pc))] at r)⟩
      have nb : b ≠ a := fun z => n (.inl (.inr z))
      rw [upd_ne nb] at q
      exact Ke.at_ b o q fun z => n (ow_mono (fun c y => .inl y) z)
    obtain ⟨Sb, Wb⟩ := Sim.backs (P := And1 P a) Sn Se hn hu kb
    refine k acc (backE e1 e vs) a us H Sb (K1.trans (Ke.trans (Kp.weak Wb))) hDe (Re.step (Kp.weak Wb)) (fun z => ?_) n0 hgo
    rcases z with z | ⟨j, xs, z1, z2⟩
    · exact nPD z
    · obtain ⟨b, h1, _, h4, _⟩ := Sb.own j xs z1
      rw [z2] at h1
      cases h1
      exact h4 (.inr rfl)
end
end LW
end S4_

section S5_
set_option maxRecDepth 100000
/-! Own layer, part 5: statements, defs. -/
namespace LW
open PySem PySem.Spec PyProof.Rows L2 RZ

/-- what leaves a statement by an exception -/
abbrev XOS (G : Gx) (P : Addr → Prop) (H0 : Hp) (W : WX) (E : KE) : Prop :=
  ∀ x e1 σ1 cls d H1, Sim G P H0 e1 σ1 H1 → XRep G (Ow P e1 σ1) H1 cls d x → E x e1 → W cls d σ1 H1
structure NxOk (G : Gx) (P : Addr → Prop) (H0 : Hp) (O : Addr → Prop) (H : Hp) (Z : Env → Prop) (Z' : L2.St → Hp → Prop) : Prop where
  ok : ∀ e1 σ1 H1, Sim G P H0 e1 σ1 H1 → Kp G O H (Ow P e1 σ1) H1 → Z e1 → Z' σ1 H1
theorem NxOk.step {G : Gx} {P : Addr → Prop} {H0 : Hp} {O O1 : Addr → Prop} {H H1 : Hp} {Z : Env → Prop} {Z' : L2.St → Hp → Prop} (n : NxOk G P H0 O H Z Z') (k : Kp G O H O1 H1) : NxOk G P H0 O1 H1 Z Z' := ⟨fun e σ H S q => n.ok e σ H S (k.trans q)⟩
structure ZOk (G : Gx) (P : Addr → Prop) (H0 : Hp) (O : Addr → Prop) (H : Hp) (Z : Ds) (Z' : Ends) : Prop where
  nx : NxOk G P H0 O H Z.nx Z'.nx
  bk : NxOk G P H0 O H Z.bk Z'.bk
  ct : NxOk G P H0 O H Z.ct Z'.ct
  rt : ∀ x e1 σ1 v H1, Sim G P H0 e1 σ1 H1 → Rep G (Ow P e1 σ1) H1 v x → Z.rt x e1 → Z'.rt v H1
theorem ZOk.step {G : Gx} {P : Addr → Prop} {H0 : Hp} {O O1 : Addr → Prop} {H H1 : Hp} {Z : Ds} {Z' : Ends} (n : ZOk G P H0 O H Z Z') (k : Kp G O H O1 H1) : ZOk G P H0 O1 H1 Z Z' := ⟨n.nx.step k, n.bk.step k, n.ct.step k, n.rt⟩
def GS (G : Gx) (W : WX) (ts : TS) (ws : WS) : Prop := ∀ (P : Addr → Prop) (H0 : Hp) (env : Env) (σ : L2.St) (H : Hp) (Z : Ds) (E : KE) (Z' : Ends), Sim G P H0 env σ H → ws Z env E → XOS G P H0 W E → ZOk G P H0 (Ow P env σ) H Z Z' → ts Z' σ H
theorem XOS.at_ {G : Gx} {P : Addr → Prop} {H0 : Hp} {W : WX} {E : KE} (x : XOS G P H0 W E) (σ : L2.St) : XOK G P H0 σ W E := fun y e1 cls d H1 S r q => x y e1 σ cls d H1 S r q
section
variable {G : Gx} {W : WX}
theorem gs_next : GS G W tNext sNext := fun P H0 env σ H Z E Z' S h X k => k.nx.ok env σ H S .refl h
theorem gs_break : GS G W tBreak sBreak := fun P H0 env σ H Z E Z' S h X k => k.bk.ok env σ H S .refl h
theorem gs_cont : GS G W tCont sCont := fun P H0 env σ H Z E Z' S h X k => k.ct.ok env σ H S .refl h
theorem gs_seq {t u : TS} {a b : WS} (ha : GS G W t a) (hb : GS G W u b) : GS G W (tSeq t u) (sSeq a b) := fun P H0 env σ H Z E Z' S h X k =>
  ha P H0 env σ H _ E _ S h X ⟨⟨fun e1 σ1 H1 S1 K1 h1 => hb P H0 e1 σ1 H1 Z E Z' S1 h1 X (k.step K1)⟩, k.bk, k.ct, k.rt⟩
theorem gs_drop {te : TE} {a : WE} (ha : GE G W te a) : GS G W (tDrop te) (sDrop a) := fun P H0 env σ H Z E Z' S h X k =>
  ha P H0 env σ H _ E _ S h (X.at_ σ) fun r e1 v H1 S1 K1 R1 h1 => k.nx.ok e1 σ H1 S1 K1 h1
theorem gs_ret {te : TE} {a : WE} (ha : GE G W te a) : GS G W (tRet te) (sRet a) := fun P H0 env σ H Z E Z' S h X k => by
  refine ha P H0 env σ H _ E _ S h (X.at_ σ) fun r e1 v H1 S1 K1 R1 h1 => ?_
  obtain ⟨p, e, h1⟩ := fzP_of h1
  obtain ⟨S2, K2, R2⟩ := S1.frz R1 e
  exact k.rt p.1 p.2 σ v H1 S2 R2 h1
theorem gs_retN : GS G W tRetN sRetN := fun P H0 env σ H Z E Z' S h X k => k.rt .non env σ .non H S .non h
theorem gs_if {t : TT} {u v : TS} {c : WT} {a b : WS} (hc : GT G W t c) (ha : GS G W u a) (hb : GS G W v b) : GS G W (tIfS t u v) (sIf c a b) := fun P H0 env σ H Z E Z' S h X k => by
  refine hc P H0 env σ H _ E _ S h (X.at_ σ) fun d e1 H1 S1 K1 h1 => ?_
  cases d with
  | true => exact ha P H0 e1 σ H1 Z E Z' S1 h1 X (k.step K1)
  | false => exact hb P H0 e1 σ H1 Z E Z' S1 h1 X (k.step K1)
theorem gs_set {te : TE} {a : WE} (i : Nat) (ha : GE G W te a) : GS G W (tAsg te (gName i)) (sSet i a) := fun P H0 env σ H Z E Z' S h X k => by
  refine ha P H0 env σ H _ E _ S h (X.at_ σ) fun r e1 v H1 S1 K1 R1 h1 => ?_
  obtain ⟨p, e, h1⟩ := fzP_of h1
  obtain ⟨S2, K2, R2⟩ := S1.frz R1 e
  exact k.nx.ok _ _ H1 (S2.setVal R2) ((K1.trans K2).trans (Kp.weak fun a h => ow_val h)) h1
theorem gs_own {te : TE} {f : WA} (i : Nat) (hf : GF G W te f) : GS G W (tAsg te (gName i)) (sOwn i f) := fun P H0 env σ H Z E Z' S h X k => by
  refine hf P H0 env σ H _ E _ S h (X.at_ σ) fun xs e1 a vs H1 S1 K1 ha R1 no n0 h1 => ?_
  obtain ⟨S2, w⟩ := S1.setOwn (i := i) S.ph S.pc ha R1 no n0
  exact k.nx.ok _ _ H1 S2 (K1.trans (Kp.weak w)) h1
theorem gs_asg {te : TE} {a : WE} {g : TG} {kt : D → Env → Option Env} {ss : List Nat} (ha : GE G W te a) (hg : GG G g kt ss) : GS G W (tAsg te g) (sAsg kt a) := fun P H0 env σ H Z E Z' S h X k => by
  refine ha P H0 env σ H _ E _ S h (X.at_ σ) fun r e1 v H1 S1 K1 R1 h1 => ?_
  obtain ⟨p, e, h1⟩ := fzP_of h1
  obtain ⟨e3, e', h1⟩ := optP_of h1
  obtain ⟨S2, K2, R2⟩ := S1.frz R1 e
  exact hg P H0 p.2 σ H1 v p.1 e3 _ S2 R2 e' fun σ1 S3 K3 _ _ => k.nx.ok e3 σ1 H1 S3 ((K1.trans K2).trans K3) h1
end

/-! ### lists of ours changed -/
section
variable {G : Gx} {P : Addr → Prop} {H0 H : Hp} {e : Env} {σ : L2.St} {W : WX}
theorem lob_of {s : Slot} {xs : List D} (h : lob s = some xs) : mob s = some (.l xs) := by
  unfold lob at h
  split at h
  · rename_i q
    cases h
    exact q
  · cases h
theorem dob_of {s : Slot} {ks vs : List D} (h : dob s = some (ks, vs)) : mob s = some (.d ks vs) := by
  unfold dob at h
  split at h
  · rename_i q
    cases h
    exact q
  · cases h
theorem isOwn_of {s : Slot} (h : isOwn s = true) : ∃ xs, mob s = some (.l xs) := by
  unfold isOwn at h
  split at h
  · rename_i q
    exact ⟨_, q⟩
  · cases h
theorem mob_with {s : Slot} {x y : Ob} (h : mob s = some x) : mob (withO s y) = some y := by cases s <;> first | rfl | cases h
theorem adr_with {s : Slot} {y : Ob} : adr (withO s y) = adr s := by cases s <;> rfl
theorem ow_own {i : Nat} {xs ys : Ob} {a : Addr} (g : mob (gt e i) = some xs) : Ow P (st e i (withO (gt e i) ys)) σ a ↔ Ow P e σ a := by
  have hl : i < e.length := gt_lt (by intro z; rw [z] at g; cases g)
  constructor <;> intro h <;> rcases h with h | ⟨j, zs, h1, h2⟩
  · exact .inl h
  · by_cases z : j = i
    · subst z
      exact .inr ⟨j, xs, g, h2⟩
    · rw [gt_st_ne z] at h1
      exact .inr ⟨j, zs, h1, h2⟩
  · exact .inl h
  · by_cases z : j = i
    · subst z
      exact .inr ⟨j, ys, by rw [gt_st_same hl]; exact mob_with g, h2⟩
    · exact .inr ⟨j, zs, by rw [gt_st_ne z]; exact h1, h2⟩
/-- an object of ours is changed: u is what now lies there -/
theorem Sim.mutOb {i : Nat} {xs ys : Ob} {a : Addr} {u : HO} (S : Sim G P H0 e σ H) (g : mob (gt e i) = some xs) (hs : σ[i]? = some (some (.ref a))) (r : ∀ O' H', Kp G (Ow P e σ) H O' H' → H' a = some u → RepO G O' H' a ys) :
    Sim G P H0 (st e i (withO (gt e i) ys)) σ (upd H a u) ∧ Kp G (Ow P e σ) H (Ow P (st e i (withO (gt e i) ys)) σ) (upd H a u) := by
  have hl : i < e.length := gt_lt (by intro z; rw [z] at g; cases g)
  obtain ⟨b, e1, _, np, n0⟩ := S.own i xs g
  rw [hs] at e1
  cases e1
  have oa : Ow P e σ a := .inr ⟨i, xs, g, hs⟩
  have hh : IsHand G H → IsHand G (upd H a u) := fun h => h.keep fun b w hb q => by
    rw [upd_ne (fun z => np (by rcases hb with y | y <;> rw [← z, y] <;> first | exact S.ph | exact S.pc))]
    exact q
  have k : Kp G (Ow P e σ) H (Ow P (st e i (withO (gt e i) ys)) σ) (upd H a u) := ⟨fun b w q n => ⟨by rw [upd_ne (fun z => n (by rw [z]; exact oa))]; exact q, fun z => n ((ow_own g).mp z)⟩, hh⟩
  refine ⟨⟨by rw [st_len, S.len], fun b w nb q => ?_, fun q => hh (S.hnd q), fun b q => ?_, S.ph, S.pc, fun j x q => ?_, fun j zs q => ?_, fun j l zs ws b h1 h2 h3 h4 => ?_, fun j b q => ?_⟩, k⟩
  · rw [upd_ne (ne_of_none q n0)]
    exact S.old b w nb q
  · rw [upd_ne (fun z => np (by rw [← z]; exact q))]
    exact S.dom b q
  · have z : j ≠ i := fun z => by
      subst z
      rw [gt_st_same hl] at q
      have := mob_with (y := ys) g
      rw [q] at this
      cases this
    rw [gt_st_ne z] at q
    obtain ⟨v, h1, h2⟩ := S.val j x q
    exact ⟨v, h1, h2.step k⟩
  · by_cases z : j = i
    · subst z
      rw [gt_st_same hl, mob_with g] at q
      cases q
      exact ⟨a, hs, r _ _ k upd_same, np, n0⟩
    · rw [gt_st_ne z] at q
      obtain ⟨b, h1, h2, h4, h5⟩ := S.own j zs q
      have nb : b ≠ a := fun y => z (S.inj j i zs xs a q g (y ▸ h1) hs)
      exact ⟨b, h1, h2.keep k fun w e => by rw [upd_ne nb]; exact e, h4, h5⟩
  · have tr : ∀ m us, mob (gt (st e i (withO (gt e i) ys)) m) = some us → ∃ us', mob (gt e m) = some us' := fun m us q => by
      by_cases z : m = i
      · subst z
        exact ⟨xs, g⟩
      · rw [gt_st_ne z] at q
        exact ⟨us, q⟩
    obtain ⟨u1, q1⟩ := tr j zs h1
    obtain ⟨u2, q2⟩ := tr l ws h2
    exact S.inj j l u1 u2 b q1 q2 h3 h4
  · by_cases z : j = i
    · subst z
      rw [gt_st_same hl, adr_with] at q
      exact S.fix j b q
    · rw [gt_st_ne z] at q
      exact S.fix j b q
theorem Sim.mutOwn {i : Nat} {xs : Ob} {ys : List D} {a : Addr} {us : List V} (S : Sim G P H0 e σ H) (g : mob (gt e i) = some xs) (hs : σ[i]? = some (some (.ref a))) (r : Reps G (Ow P e σ) H us ys) :
    Sim G P H0 (st e i (withO (gt e i) (.l ys))) σ (upd H a (.lst us)) ∧ Kp G (Ow P e σ) H (Ow P (st e i (withO (gt e i) (.l ys))) σ) (upd H a (.lst us)) := S.mutOb g hs fun O' H' k q => ⟨us, q, r.step k⟩
theorem Sim.ownV {i : Nat} (S : Sim G P H0 e σ H) (h : isOwn (gt e i) = true) : ∃ a, σ[i]? = some (some (.ref a)) ∧ ∃ vs, H a = some (.lst vs) := by
  obtain ⟨xs, g⟩ := isOwn_of h
  obtain ⟨a, h1, ⟨vs, h2, _⟩, _⟩ := S.own i _ g
  exact ⟨a, h1, vs, h2⟩
theorem Sim.ownAt {i : Nat} {xs : List D} {a : Addr} (S : Sim G P H0 e σ H) (g : mob (gt e i) = some (.l xs)) (h : σ[i]? = some (some (.ref a))) : ∃ vs, H a = some (.lst vs) ∧ Reps G (Ow P e σ) H vs xs := by
  obtain ⟨b, h1, ⟨vs, h2, h3⟩, _⟩ := S.own i _ g
  rw [h] at h1
  cases h1
  exact ⟨vs, h2, h3⟩
/-- xs.append(a) -/
theorem gs_append {te : TE} {a : WE} {K : PySem.W.Frag} (i : Nat) (ha : GE G W te a) : GS G W (tDrop (tBM K "list" rAppend (tVar i) (tCons te tNil))) (sAppend i a) := fun P H0 env σ H Z E Z' S h X k => by
  obtain ⟨ho, h⟩ := h
  obtain ⟨b, hb, vs0, hv0⟩ := S.ownV ho
  refine ⟨_, hb, .inl ⟨rfl, vs0, SqL.of hv0⟩, ?_⟩
  refine ha P H0 env σ H _ E _ S h (X.at_ σ) fun r e1 v H1 S1 K1 R1 h1 => ?_
  obtain ⟨p, e, h1⟩ := fzP_of h1
  obtain ⟨S2, K2, R2⟩ := S1.frz R1 e
  obtain ⟨xs, g, h1⟩ := optP_of h1
  replace g := lob_of g
  obtain ⟨vs, e2, r2⟩ := S2.ownAt g hb
  obtain ⟨S3, K3⟩ := S2.mutOwn g hb (r2.append (.cons R2 .nil))
  exact ⟨b, vs, v, rfl, rfl, e2, by rw [r2.length]; exact Nat.lt_of_lt_of_le h1.1 sz_eq, k.nx.ok _ σ _ S3 ((K1.trans K2).trans K3) h1.2⟩
/-- xs.pop(a) -/
theorem ge_popAt {te : TE} {a : WE} {K : PySem.W.Frag} (i : Nat) (ha : GE G W te a) : GE G W (tBM K "list" rPopAt (tVar i) (tCons te tNil)) (wPopAt i a) := fun P H0 env σ H Q E Q' S h X k => by
  obtain ⟨ho, h⟩ := h
  obtain ⟨b, hb, vs0, hv0⟩ := S.ownV ho
  refine ⟨_, hb, .inl ⟨rfl, vs0, SqL.of hv0⟩, ?_⟩
  refine ha P H0 env σ H _ E _ S h X fun r e1 v H1 S1 K1 R1 h1 => ?_
  obtain ⟨j, e, h1⟩ := optP_of h1
  obtain ⟨x, ex, e⟩ := bind_of e
  cases asInt_of e
  have hv := (S1.res R1 ex).int
  subst hv
  obtain ⟨xs, g, h1⟩ := optP_of h1
  replace g := lob_of g
  obtain ⟨h0, hz, h1⟩ := h1
  obtain ⟨y, hy, h1⟩ := optP_of h1
  obtain ⟨vs, e2, r2⟩ := S1.ownAt g hb
  obtain ⟨u, hu, ru⟩ := r2.get j.toNat hy
  obtain ⟨S3, K3⟩ := S1.mutOwn g hb (r2.eraseIdx j.toNat)
  have hlt : j.toNat < vs.length := (List.getElem?_eq_some_iff.mp hu).1
  have hsz : vs.length ≤ 16777216 := by rw [r2.length]; exact hz
  refine ⟨b, vs, j, j.toNat, u, rfl, rfl, e2, by omega, by omega, ?_, hu, k (.d y) _ u _ S3 (K1.trans K3) (ru.step K3) h1⟩
  have h1 : ¬ j < 0 := by omega
  have h2 : (j < (vs.length : Int)) := by omega
  simp only [seqIndex?, if_neg h1, decide_eq_true h0, decide_eq_true h2, Bool.and_self, if_true]
/-- xs[k] = a -/
theorem gs_setIx {te tk : TE} {a k : WE} (i : Nat) (ha : GE G W te a) (hk : GE G W tk k) : GS G W (tAsg te (gSub (tVar i) tk rSetL)) (sSetIx i k a) := fun P H0 env σ H Z E Z' S h X kk => by
  refine ha P H0 env σ H _ E _ S h (X.at_ σ) fun r e1 v H1 S1 K1 R1 h1 => ?_
  obtain ⟨p, e, h1⟩ := fzP_of h1
  obtain ⟨S2, K2, R2⟩ := S1.frz R1 e
  obtain ⟨ho, h1⟩ := h1
  obtain ⟨b, hb, vs0, hv0⟩ := S2.ownV ho
  refine ⟨_, hb, ?_⟩
  refine hk P H0 p.2 σ H1 _ E _ S2 h1 (X.at_ σ) fun q e2 u H2 S3 K3 R3 h2 => ?_
  obtain ⟨j, e', h2⟩ := optP_of h2
  obtain ⟨x, ex, e'⟩ := bind_of e'
  cases asInt_of e'
  have hv := (S3.res R3 ex).int
  subst hv
  obtain ⟨xs, g, h2⟩ := optP_of h2
  replace g := lob_of g
  obtain ⟨h0, hl, hz, h2⟩ := h2
  obtain ⟨vs, e3, r3⟩ := S3.ownAt g hb
  obtain ⟨S4, K4⟩ := S3.mutOwn g hb (Reps.set (R2.step K3) j.toNat r3)
  refine ⟨b, vs, j, j.toNat, rfl, rfl, e3, ?_, kk.nx.ok _ σ _ S4 (((K1.trans K2).trans K3).trans K4) h2⟩
  have hlt : j < (vs.length : Int) := by rw [r3.length]; omega
  simp only [ixN, if_pos h0, if_pos hlt]

/-! ### loops -/
def ForInv (G : Gx) (P : Addr → Prop) (H0 : Hp) (kt : D → Env → Option Env) (wb : WS) (Z : Ds) (E : KE) (items : List D) (O1 : Addr → Prop) (H1 : Hp) (i m : Nat) (σ : L2.St) (H : Hp) : Prop :=
  m = items.length - i ∧ i ≤ items.length ∧ ∃ e, forGo kt wb Z E (items.drop i) e ∧ Sim G P H0 e σ H ∧ Kp G O1 H1 (Ow P e σ) H
theorem gs_for {ti : TI} {wi : WI} {g : TG} {kt : D → Env → Option Env} {tb : TS} {wb : WS} {ss : List Nat} (hi : GI G W ti wi) (hg : GG G g kt ss) (hb : GS G W tb wb) : GS G W (tFor ti g tb) (sFor wi kt wb) := fun P H0 env σ H Z E Z' S h X k => by
  refine hi P H0 env σ H _ E _ S h (X.at_ σ) fun items e1 J H1 S1 K1 I1 h1 => ?_
  refine ⟨ForInv G P H0 kt wb Z E items (Ow P e1 σ) H1, ⟨items.length, by simp, Nat.zero_le _, e1, hold_e h1, S1, .refl⟩, ?_⟩
  rintro i m σ2 H2 ⟨rfl, hil, e, hgo, Se, Ke⟩
  by_cases hlt : i < items.length
  · refine .inr ⟨I1.go i _ H2 Ke hlt, fun σ' H' => ∃ m', m' < items.length - i ∧ ForInv G P H0 kt wb Z E items (Ow P e1 σ) H1 (i + 1) m' σ' H', fun _ _ z => z, fun v H' hy => ?_⟩
    have hx : items[i]? = some items[i] := List.getElem?_eq_getElem hlt
    obtain ⟨kc, rv⟩ := I1.yld i _ H2 v H' items[i] Se.od Ke hx hy
    have S3 := Se.after kc
    have K3 := Ke.trans (Se.kp kc)
    rw [List.drop_eq_getElem_cons hlt] at hgo
    obtain ⟨e2, he2, hgo⟩ := optP_of hgo
    refine hg P H0 e σ2 H' v items[i] e2 _ S3 rv he2 fun σ3 S4 K4 _ _ => ?_
    refine hb P H0 e2 σ3 H' _ E _ S4 hgo X ⟨⟨fun e5 σ5 H5 S5 K5 h5 => ?_⟩, ⟨fun e5 σ5 H5 S5 K5 h5 => k.nx.ok e5 σ5 H5 S5 (K1.trans ((K3.trans K4).trans K5)) h5⟩, ⟨fun e5 σ5 H5 S5 K5 h5 => ?_⟩, k.rt⟩
    · exact ⟨items.length - (i + 1), by omega, rfl, hlt, e5, h5, S5, (K3.trans K4).trans K5⟩
    · exact ⟨items.length - (i + 1), by omega, rfl, hlt, e5, h5, S5, (K3.trans K4).trans K5⟩
  · have ei : i = items.length := by omega
    subst ei
    rw [List.drop_length] at hgo
    exact .inl ⟨I1.stop _ H2 Ke, k.nx.ok e σ2 H2 Se (K1.trans Ke) hgo⟩
theorem gs_while {tc : TT} {wc : WT} {tb : TS} {wb : WS} (hc : GT G W tc wc) (hb : GS G W tb wb) : GS G W (tWhile tc tb) (sWhile wc wb) := fun P H0 env σ H Z E Z' S h X k => by
  obtain ⟨Wi, ⟨m0, h0⟩, hW⟩ := h
  refine ⟨fun m σ' H' => ∃ e, Wi m e ∧ Sim G P H0 e σ' H' ∧ Kp G (Ow P env σ) H (Ow P e σ') H', ⟨m0, env, h0, S, .refl⟩, ?_⟩
  rintro m σ1 H1 ⟨e, he, S1, K1⟩
  refine hc P H0 e σ1 H1 _ E _ S1 (hW m e he) (X.at_ σ1) fun b e2 H2 S2 K2 h2 => ?_
  cases b with
  | false => exact k.nx.ok e2 σ1 H2 S2 (K1.trans K2) h2
  | true =>
    refine ⟨fun σ' H' => ∃ m', m' < m ∧ ∃ e, Wi m' e ∧ Sim G P H0 e σ' H' ∧ Kp G (Ow P env σ) H (Ow P e σ') H', fun _ _ z => z, ?_⟩
    exact hb P H0 e2 σ1 H2 _ E _ S2 h2 X ⟨⟨fun e5 σ5 H5 S5 K5 ⟨m', lt, h5⟩ => ⟨m', lt, e5, h5, S5, (K1.trans K2).trans K5⟩⟩, ⟨fun e5 σ5 H5 S5 K5 h5 => k.nx.ok e5 σ5 H5 S5 ((K1.trans K2).trans K5) h5⟩, ⟨fun e5 σ5 H5 S5 K5 ⟨m', lt, h5⟩ => ⟨m', lt, e5, h5, S5, (K1.trans K2).trans K5⟩⟩, k.rt⟩
end

/-! ### a def keeps its contract -/
theorem sim_start {C : Cl} {h c : Addr} {P : Addr → Prop} {H : Hp} {vs : List V} {ds : List D} {N ps : List Str} (ph : P h) (pc : P c) (hd : ∀ a, P a → ∃ o, H a = some o) (r : Reps ⟨C, h, c⟩ P H vs ds) (hn : ds.length ≤ N.length) :
    Sim ⟨C, h, c⟩ P H (ds.map Slot.val ++ List.replicate (N.length - ds.length) Slot.un) (L2.start N vs) H := by
  have g : ∀ (ds : List D) (n i : Nat) (s : Slot), gt (ds.map Slot.val ++ List.replicate n Slot.un) i = s → s ≠ .un → ∃ x, ds[i]? = some x ∧ s = .val x := by
    intro ds
    induction ds with
    | nil =>
      intro n
      induction n with
      | zero => intro i s h1 h2; exact absurd h1.symm h2
      | succ n ih =>
        intro i s h1 h2
        cases i with
        | zero => exact absurd h1.symm h2
        | succ i =>
          obtain ⟨x, hx, _⟩ := ih i s h1 h2
          simp at hx
    | cons d ds ih =>
      intro n i s h1 h2
      cases i with
      | zero => exact ⟨d, rfl, h1.symm⟩
      | succ i => exact ih n i s h1 h2
  have noown : ∀ i xs, mob (gt (ds.map Slot.val ++ List.replicate (N.length - ds.length) Slot.un) i) ≠ some xs := fun i xs q => by
    obtain ⟨x, _, h2⟩ := g ds _ i _ rfl (by intro z; rw [z] at q; cases q)
    rw [h2] at q
    cases q
  have w : ∀ a, Ow P (ds.map Slot.val ++ List.replicate (N.length - ds.length) Slot.un) (L2.start N vs) a → P a := fun a q => by
    rcases q with q | ⟨i, xs, q, _⟩
    · exact q
    · exact absurd q (noown i xs)
  refine ⟨?_, fun _ _ _ e => e, fun q => q, hd, ph, pc, fun i x q => ?_, fun i xs q => absurd q (noown i xs), fun i j xs ys a q => absurd q (noown i xs), fun i a q => ?_⟩
  · unfold L2.start
    simp only [List.length_append, List.length_map, List.length_replicate, r.length]
  · obtain ⟨y, h1, h2⟩ := g ds _ i _ q (fun z => nomatch z)
    cases h2
    obtain ⟨v, e1, r1⟩ := r.get i h1
    refine ⟨v, ?_, r1.step (Kp.weak w)⟩
    unfold L2.start
    rw [List.getElem?_append_left (by rw [List.length_map]; exact (List.getElem?_eq_some_iff.mp e1).1), List.getElem?_map, e1]
    rfl
  · obtain ⟨_, _, h2⟩ := g ds _ i _ rfl (by intro z; rw [z] at q; cases q)
    rw [h2] at q
    cases q
section
variable {P : Program} {w : World} {K : PySem.W.Frag} {mg : Str → Option Value} {base : Heap} {C : Cl} {ct : Ct} {x qual : Str} {params : Arguments} {body : List Stmt} {scope : Scope} {dvs : List V} {kws : List (Str × V)} {f : Addr} {fd : FuncData} {N ps : List Str} {k : Nat} {wb : WS}
/-- THE RULE for a def: its body's derivation, its reading's soundness, its contract -/
theorem def_ok (F : FunD K x qual params body scope dvs kws f fd) (S : FnScope N ps scope) (hl : ∀ ds q e, ct ds q e → ds.length = ps.length) (hn : ps.length ≤ N.length)
    (hb : ∀ (X : Cx) (W : WX), X.prog = P → X.w = w → X.K = K → X.mg = mg → X.base = base → X.N = N → X.env.scope = scope → X.calm = true → Room k X.A → X.stack = X.env :: X.outer → X.env.frame = some X.env.locals → (X.fn = fun _ => true) → PassesOwn (model X.prog X.w) X.A X.env X.xe → Takes X W →
      ∃ ts, PSs X body ts ∧ ∀ h c, GS ⟨C, h, c⟩ W ts wb)
    (spec : ∀ ds q e, ct ds q e → fnW (N.length - ps.length) wb ds q e) : FnOk P w K mg base (L2.CX P w) (k + 1) f fd ps (prom C ct) := by
  refine F.ok S (fun vs H Q E h => ?_) (fun cdv A outer s H vs Q E hr h => ?_)
  · obtain ⟨h, c, P, ds, q, e, ph, pc, hd, r, hc, _⟩ := h
    rw [r.length]
    exact hl ds q e hc
  · obtain ⟨ts, p, gs⟩ := hb (cxOf (L2.CX P w) P w K mg base N qual scope f cdv A outer s H E) (fun cls d _ H => E cls d H) rfl rfl rfl rfl rfl rfl rfl rfl hr rfl rfl rfl (passes_of rfl) (takes_of rfl rfl rfl rfl)
    refine ⟨ts, p, ?_⟩
    obtain ⟨h, c, Pa, ds, q, e, ph, pc, hd, r, hc, hq, he⟩ := h
    have sp := spec ds q e hc
    have hlen := hl ds q e hc
    unfold fnW at sp
    rw [← hlen] at sp
    have S0 := sim_start (C := C) (N := N) (ps := ps) ph pc hd r (by rw [hlen]; exact hn)
    refine gs h c Pa H _ _ H _ _ _ S0 sp (fun y e1 σ1 cls d H1 S1 r1 q1 => ?_) ⟨⟨fun e1 σ1 H1 S1 K1 h1 => ?_⟩, ⟨fun _ _ _ _ _ z => z.elim⟩, ⟨fun _ _ _ _ _ z => z.elim⟩, fun y e1 σ1 v H1 S1 r1 h1 => ?_⟩
    · have kc : Kc ⟨C, h, c⟩ H H1 := ⟨S1.old, S1.hnd, fun a o q => by
        by_cases z : a = h
        · rw [z]; exact S1.dom h ph
        · exact ⟨o, S1.old a o z q⟩⟩
      obtain ⟨c', xs, z1, z2, z3⟩ := r1
      refine he y cls d H1 kc ⟨c', xs, z1, z2, z3.elim .inl fun z => ?_⟩ q1
      obtain ⟨ne0, dx, fs, y1, y2, y3⟩ := z
      exact .inr ⟨ne0, dx, fs, y1, y2, fun i nm y' a b => let ⟨v, q1, q2⟩ := y3 i nm y' a b; ⟨v, q1, q2.step (Kp.weak fun a z => .inl z)⟩⟩
    · have kc : Kc ⟨C, h, c⟩ H H1 := ⟨S1.old, S1.hnd, fun a o q => by
        by_cases z : a = h
        · rw [z]; exact S1.dom h ph
        · exact ⟨o, S1.old a o z q⟩⟩
      exact hq .non .non H1 kc .non h1
    · have kc : Kc ⟨C, h, c⟩ H H1 := ⟨S1.old, S1.hnd, fun a o q => by
        by_cases z : a = h
        · rw [z]; exact S1.dom h ph
        · exact ⟨o, S1.old a o z q⟩⟩
      exact hq y v H1 kc (r1.step (Kp.weak fun a z => .inl z)) h1
end
end LW
end S5_

section S6_
set_option maxRecDepth 100000
set_option maxHeartbeats 1000000
/-! Own layer, part 6: the operations. -/
namespace LW
open PySem PySem.Spec PyProof.Rows L2 RZ

section
variable {G : Gx} {K : PySem.W.Frag} {W : WX}
theorem rep_bl (O : Addr → Prop) (H : Hp) (b : Bool) : Rep G O H (.bl b) (.bl b) := .bl b
theorem RepT.rep {O : Addr → Prop} {H : Hp} {v : V} {xs : List D} (r : RepT G O H v (.tup xs)) : Rep G O H v (.tup xs) := r

/-! ### + -/
def rStrCat : R2 := fun x y H Q => ∃ i j, x = .str i ∧ y = .str j ∧ i.length + j.length ≤ sizeLine ∧ Q (.str (i ++ j)) H
def rAdd (K : PySem.W.Frag) : R2 := fun x y H Q => ((rI0 fun i j => V.int (i + j)) x y H Q) ∨ (rCatA K x y H Q ∨ (rCat x y H Q ∨ rStrCat x y H Q))
theorem op_addA {X : Cx} : OpR X (binaryOp .Add) (rAdd X.K) := op_add.or (op_catA.or (op_cat.or op_add_str))
theorem str_add (s t : List Nat) : strV s ++ strV t = strV (s ++ t) := by
  show Str.mk _ = _
  simp [strV]
theorem len_strV (s : List Nat) : (strV s).length = s.length := by simp [strV, Str.length]
theorem bok_add : BOk G (rAdd K) fAdd := fun O H v u x y z Q' o r1 r2 e k => by
  unfold fAdd at e
  split at e
  · cases e
    cases r1.int
    cases r2.int
    exact .inl ⟨_, _, rfl, rfl, k _ H .refl (.int _)⟩
  · rename_i xs ys
    split at e
    · rename_i hz
      cases e
      obtain ⟨a, vs, rfl, na, ea, ra⟩ := r1.tup
      obtain ⟨b, us, rfl, nb, eb, rb⟩ := r2.tup
      refine .inr (.inl ⟨a, b, vs, us, rfl, rfl, SqT.of ea, SqT.of eb, by rw [ra.length, rb.length]; exact Nat.le_trans hz sz_eq, fun h => ?_, fun h h' => ?_, fun _ _ p hp => ?_⟩)
      · subst h
        cases ra
        exact k _ H .refl (.tup nb eb rb)
      · subst h'
        cases rb
        rw [List.append_nil] at k
        exact k _ H .refl (.tup na ea ra)
      · have kc : Kc G H (upd H p (.tup (vs ++ us))) := Kc.new hp
        exact k _ _ kc (.tup (o.fresh hp) upd_same ((ra.append rb).step (Kp.of kc o.oh)))
    · cases e
  · rename_i xs ys
    split at e
    · rename_i hz
      cases e
      obtain ⟨a, vs, rfl, ea, ra⟩ := r1.lst
      obtain ⟨b, us, rfl, eb, rb⟩ := r2.lst
      refine .inr (.inr (.inl ⟨a, b, vs, us, rfl, rfl, ea, eb, by rw [ra.length, rb.length]; exact Nat.le_trans hz sz_eq, fun p hp => ?_⟩))
      have kc : Kc G H (upd H p (.lst (vs ++ us))) := Kc.new hp
      exact k _ _ kc (.lst (o.fresh hp) upd_same ((ra.append rb).step (Kp.of kc o.oh)))
    · cases e
  · rename_i xs ys
    split at e
    · rename_i hz
      cases e
      cases r1.str
      cases r2.str
      refine .inr (.inr (.inr ⟨_, _, rfl, rfl, by rw [len_strV, len_strV]; exact Nat.le_trans hz sz_eq, ?_⟩))
      rw [str_add]
      exact k _ H .refl (.str _)
    · cases e
  · cases e
/-! ### numbers -/
theorem bok_sub : BOk G (rI0 fun i j => .int (i - j)) fSub := fun O H v u x y z Q' o r1 r2 e k => by
  unfold fSub at e
  split at e
  · cases e
    cases r1.int
    cases r2.int
    exact ⟨_, _, rfl, rfl, k _ H .refl (.int _)⟩
  · cases e
theorem bok_mod : BOk G (rI (fun _ j => 0 < j) fun i j => .int (i % j)) fMod := fun O H v u x y z Q' o r1 r2 e k => by
  unfold fMod at e
  split at e
  · split at e
    · rename_i h
      cases e
      cases r1.int
      cases r2.int
      exact ⟨_, _, rfl, rfl, h, k _ H .refl (.int _)⟩
    · cases e
  · cases e
theorem bok_div : BOk G (rI CDiv fun i j => .int (i / j)) fDiv := fun O H v u x y z Q' o r1 r2 e k => by
  unfold fDiv at e
  split at e
  · split at e
    · rename_i h
      cases e
      cases r1.int
      cases r2.int
      exact ⟨_, _, rfl, rfl, h, k _ H .refl (.int _)⟩
    · cases e
  · cases e
theorem cok_lt : COk G (rI0 fun i j => .bl (decide (i < j))) cLt := fun O H v u x y b Q' o r1 r2 e k => by
  unfold cLt at e
  split at e
  · cases e
    cases r1.int
    cases r2.int
    exact ⟨_, _, rfl, rfl, k⟩
  · cases e
theorem cok_le : COk G (rI0 fun i j => .bl (decide (i ≤ j))) cLe := fun O H v u x y b Q' o r1 r2 e k => by
  unfold cLe at e
  split at e
  · cases e
    cases r1.int
    cases r2.int
    exact ⟨_, _, rfl, rfl, k⟩
  · cases e
theorem cok_gt : COk G (rI0 fun i j => .bl (decide (j < i))) cGt := fun O H v u x y b Q' o r1 r2 e k => by
  unfold cGt cLt at e
  split at e
  · cases e
    cases r1.int
    cases r2.int
    exact ⟨_, _, rfl, rfl, k⟩
  · cases e
theorem cok_ge : COk G (rI0 fun i j => .bl (decide (j ≤ i))) cGe := fun O H v u x y b Q' o r1 r2 e k => by
  unfold cGe cLe at e
  split at e
  · cases e
    cases r1.int
    cases r2.int
    exact ⟨_, _, rfl, rfl, k⟩
  · cases e
/-! ### is -/
theorem isNon_v {O : Addr → Prop} {H : Hp} {v : V} {x : D} (r : RepT G O H v x) : decide (v = .non) = isNon x := by
  cases x <;> first
    | (obtain ⟨a, vs, rfl, _⟩ := r; rfl)
    | (obtain ⟨a, rfl, _⟩ := r; rfl)
    | (cases (show Rep G O H v _ from r) <;> rfl)
theorem cok_isN : COk G (fun x y H Q => y = .non ∧ Q (.bl (decide (x = .non))) H) cIsN := fun O H v u x y b Q' o r1 r2 e k => by
  unfold cIsN at e
  split at e
  · cases e
    refine ⟨r2.non, ?_⟩
    rw [isNon_v r1]
    exact k
  · cases e
theorem cok_notN : COk G (fun x y H Q => y = .non ∧ Q (.bl (!decide (x = .non))) H) (cNot cIsN) := fun O H v u x y b Q' o r1 r2 e k => by
  unfold cNot at e
  obtain ⟨c, h1, h2⟩ := Option.map_eq_some_iff.mp e
  unfold cIsN at h1
  split at h1
  · cases h1
    subst h2
    refine ⟨r2.non, ?_⟩
    rw [isNon_v r1]
    exact k
  · cases h1
theorem cok_isB : COk G rIsB cIsB := fun O H v u x y b Q' o r1 r2 e k => by
  unfold cIsB at e
  split at e
  · cases e
    cases r1.bl
    cases r2.bl
    exact ⟨_, _, rfl, rfl, k⟩
  · cases e
theorem cok_notB : COk G rNotB (cNot cIsB) := fun O H v u x y b Q' o r1 r2 e k => by
  unfold cNot at e
  obtain ⟨c, h1, h2⟩ := Option.map_eq_some_iff.mp e
  unfold cIsB at h1
  split at h1
  · cases h1
    subst h2
    cases r1.bl
    cases r2.bl
    exact ⟨_, _, rfl, rfl, k⟩
  · cases h1
/-! ### subscripts -/
theorem atI_atD {α : Type} {xs : List α} {i : Int} {x : α} (h : atD xs i = some x) : atI xs i = some x := by
  unfold atD at h
  unfold atI ixN
  split at h
  · rename_i h0
    have hl := (List.getElem?_eq_some_iff.mp h).1
    rw [if_pos h0, if_pos (by omega)]
    exact h
  · rename_i h0
    split at h
    · rename_i h1
      rw [if_neg h0, if_pos (by omega)]
      exact h
    · cases h
theorem atI_of {O : Addr → Prop} {H : Hp} {vs : List V} {xs : List D} {i : Int} {x : D} (r : Reps G O H vs xs) (h : atD xs i = some x) : ∃ v, atI vs i = some v ∧ Rep G O H v x := by
  unfold atD at h
  split at h
  · rename_i h0
    obtain ⟨v, h1, h2⟩ := r.get _ h
    exact ⟨v, atI_atD (by unfold atD; rw [if_pos h0]; exact h1), h2⟩
  · rename_i h0
    split at h
    · rename_i h1
      obtain ⟨v, h3, h2⟩ := r.get _ h
      exact ⟨v, atI_atD (by unfold atD; rw [if_neg h0, r.length, if_pos h1]; exact h3), h2⟩
    · cases h
/-! dicts whose keys are integers -/
theorem key_is {k : L2.Key} {i : Int} : isKey (keyD k) i = decide (k = .inl i) := by
  cases k with
  | inl j =>
    show (j == i) = _
    rw [Bool.eq_iff_iff]
    simp
  | inr s => simp [isKey, keyD]
theorem has_val {O : Addr → Prop} {H : Hp} {i : Int} : ∀ {kk : List L2.Key} {vs : List V}, kk.length = vs.length → hasI (kk.map keyD) i = (valV (kk.zip vs) (.inl i : L2.Key)).isSome
  | [], [], _ => rfl
  | k :: kk, v :: vs, h => by
    simp only [List.map_cons, hasI, key_is, List.zip_cons_cons]
    by_cases e : k = .inl i
    · rw [valV_pos (p := (k, v)) e]
      simp [e]
    · have ih := has_val (O := O) (H := H) (i := i) (kk := kk) (vs := vs) (by simpa using h)
      rw [ih]
      simp [valV, List.find?_cons, e]
theorem look_val {O : Addr → Prop} {H : Hp} {i : Int} : ∀ {kk : List L2.Key} {vs : List V} {ys : List D} {y : D}, kk.length = vs.length → Reps G O H vs ys → lookI (kk.map keyD) ys i = some y → ∃ v, valV (kk.zip vs) (.inl i : L2.Key) = some v ∧ Rep G O H v y
  | [], _, _, _, _, _, e => by simp [lookI] at e
  | k :: kk, _, _, _, h, .nil, e => by simp at h
  | k :: kk, v :: vs, _ :: _, _, h, .cons r t, e => by
    simp only [List.map_cons, lookI, key_is] at e
    by_cases q : k = .inl i
    · rw [decide_eq_true q] at e
      cases e
      exact ⟨v, by rw [List.zip_cons_cons, valV_pos (p := (k, v)) q], r⟩
    · rw [decide_eq_false q] at e
      obtain ⟨w, h1, h2⟩ := look_val (by simpa using h) t e
      exact ⟨w, by rw [← h1]; simp [valV, List.find?_cons, q], h2⟩
theorem look_none {O : Addr → Prop} {H : Hp} {i : Int} : ∀ {kk : List L2.Key} {vs : List V} {ys : List D}, kk.length = vs.length → Reps G O H vs ys → lookI (kk.map keyD) ys i = none → valV (kk.zip vs) (.inl i : L2.Key) = none
  | [], [], _, _, _, _ => rfl
  | k :: kk, _, _, h, .nil, e => by simp at h
  | k :: kk, v :: vs, _ :: _, h, .cons r t, e => by
    simp only [List.map_cons, lookI, key_is] at e
    by_cases q : k = .inl i
    · rw [decide_eq_true q] at e
      cases e
    · rw [decide_eq_false q] at e
      rw [← look_none (by simpa using h) t e]
      simp [valV, List.find?_cons, q]
theorem repl_val {O : Addr → Prop} {H : Hp} {i : Int} {v : V} {z : D} (rz : Rep G O H v z) : ∀ {kk : List L2.Key} {vs : List V} {ys : List D}, kk.length = vs.length → Reps G O H vs ys →
    ∃ ws : List V, (kk.zip vs).map (fun kv => if kv.1 = (.inl i : L2.Key) then (kv.1, v) else kv) = kk.zip ws ∧ kk.length = ws.length ∧ Reps G O H ws (replI (kk.map keyD) ys i z)
  | [], [], _, _, .nil => ⟨[], rfl, rfl, .nil⟩
  | k :: kk, _, _, h, .nil => by simp at h
  | k :: kk, u :: vs, _ :: _, h, .cons r t => by
    obtain ⟨ws, h1, h2, h3⟩ := repl_val rz (i := i) (kk := kk) (by simpa using h) t
    by_cases q : k = .inl i
    · refine ⟨v :: ws, by simp [q, h1], by simp [h2], ?_⟩
      simp only [List.map_cons, replI, key_is, decide_eq_true q]
      exact .cons rz h3
    · refine ⟨u :: ws, by simp [q, h1], by simp [h2], ?_⟩
      simp only [List.map_cons, replI, key_is, decide_eq_false q]
      exact .cons r h3
theorem any_has {i : Int} : ∀ {kk : List L2.Key} {vs : List V}, kk.length = vs.length → ((kk.zip vs).any fun kv => decide (kv.1 = (.inl i : L2.Key))) = hasI (kk.map keyD) i
  | [], [], _ => rfl
  | k :: kk, v :: vs, h => by
    simp only [List.zip_cons_cons, List.any_cons, List.map_cons, hasI, key_is, any_has (kk := kk) (vs := vs) (by simpa using h)]
theorem put_val {O : Addr → Prop} {H : Hp} {i : Int} {v : V} {z : D} {kk : List L2.Key} {vs : List V} {ys : List D} (h : kk.length = vs.length) (r : Reps G O H vs ys) (rz : Rep G O H v z) :
    ∃ (ll : List L2.Key) (ws : List V), putK (kk.zip vs) (.inl i) v = ll.zip ws ∧ ll.length = ws.length ∧ ll.map keyD = putKs (kk.map keyD) i ∧ Reps G O H ws (putYs (kk.map keyD) ys i z) := by
  unfold putK putKs putYs
  rw [any_has h]
  cases e : hasI (kk.map keyD) i with
  | true =>
    obtain ⟨ws, h1, h2, h3⟩ := repl_val (i := i) rz h r
    exact ⟨kk, ws, by rw [if_pos rfl, h1], h2, rfl, h3⟩
  | false =>
    refine ⟨kk ++ [.inl i], vs ++ [v], ?_, by simp [h], by simp [keyD], r.append (.cons rz .nil)⟩
    rw [if_neg (by decide), List.zip_append h]
    rfl
def rDGetU : R2 := fun x y H Q => ∃ a v, x = .ref a ∧ DGet H a y (some v) ∧ Q v H
def rIxU (K : PySem.W.Frag) : R2 := fun x y H Q => rIx K x y H Q ∨ rDGetU x y H Q
theorem ix_dct {X : Cx} (hu : X.A.units + 1 < cLine) : IxR X rDGetU := by
  intro value slice pins s σ H x y v u Q I rx ry h hs
  obtain ⟨a, w, rfl, g, q⟩ := h
  cases (show v = Value.ref a from rx)
  exact PyProof.Rows.tail_any (ops := [.ref a, u]) (dict_typeIs I g) PySem.F.slot_dict_getitem.lookup (d_getItem hu I g ry fun w' s3 I3 rw' => ⟨w, H, I3, rw', q⟩) hs
theorem ix_u {X : Cx} (hu : X.A.units + 1 < cLine) : IxR X (rIxU X.K) := ix_seq.or (ix_dct hu)
theorem bok_ix : BOk G (rIxU K) fIx := fun O H v u x y z Q' o r1 r2 e k => by
  unfold fIx at e
  split at e
  · obtain ⟨a, vs, rfl, na, ea, ra⟩ := r1.tup
    cases r2.int
    obtain ⟨w, h1, h2⟩ := atI_of ra e
    exact .inl (.inr (.inl ⟨a, vs, _, w, rfl, rfl, SqT.of ea, h1, k w H .refl h2⟩))
  · obtain ⟨a, vs, rfl, ea, ra⟩ := r1.lst
    cases r2.int
    obtain ⟨w, h1, h2⟩ := atI_of ra e
    exact .inl (.inl ⟨a, vs, _, w, rfl, rfl, SqL.of ea, h1, k w H .refl h2⟩)
  · obtain ⟨a, rfl, kk, us, ea, l, rfl, rr⟩ := r1
    cases r2.int
    obtain ⟨w, h1, h2⟩ := look_val l rr e
    exact .inr ⟨a, w, rfl, .inl ⟨_, _, .inl ea, rfl, h1.symm⟩, k w H .refl h2⟩
  · cases e
theorem sIx_eq (n d : Nat) (o : Option Int) : HT.sIx n d o = sIx n d o := by
  cases o with
  | none => rfl
  | some v =>
    show (if v < 0 then (v + (n : Int)).toNat else min v.toNat n) = (if 0 ≤ v then min v.toNat n else (v + (n : Int)).toNat)
    by_cases h : v < 0
    · rw [if_pos h, if_neg (by omega)]
    · rw [if_neg h, if_pos (by omega)]
theorem cutV_eq (xs : List V) (lo hi : Option Int) : cutV xs lo hi = cut xs lo hi := by
  unfold cutV cut
  rw [sIx_eq, sIx_eq]
theorem Reps.cut {O : Addr → Prop} {H : Hp} {vs : List V} {xs : List D} (r : Reps G O H vs xs) (lo hi : Option Int) : Reps G O H (cutV vs lo hi) (LW.cut xs lo hi) := by
  rw [cutV_eq]
  unfold LW.cut
  rw [r.length]
  exact (r.drop _).take _
def rSlAny (K : PySem.W.Frag) : V → Option Int → Option Int → Hp → VK → Prop := fun x lo hi H Q => rSlA K x lo hi H Q ∨ rSlL K x lo hi H Q
theorem sl_any {X : Cx} : SlR X (rSlAny X.K) := sl_tupA.or sl_list
theorem cut_all {vs : List V} {lo hi : Option Int} (h : HT.sIx vs.length 0 lo = 0 ∧ HT.sIx vs.length vs.length hi = vs.length) : cutV vs lo hi = vs := by
  unfold cutV
  rw [h.1, h.2, List.drop_zero, Nat.sub_zero, List.take_length]
theorem sok_slice : SOk G (rSlAny K) fSlice := fun O H v x z lo hi Q' o r1 e k => by
  unfold fSlice at e
  split at e
  · cases e
    obtain ⟨a, vs, rfl, na, ea, ra⟩ := r1.tup
    refine .inl ⟨a, vs, rfl, SqT.of ea, fun h => ?_, fun _ p hp => ?_⟩
    · have rc := ra.cut lo hi
      rw [cut_all h] at rc
      exact k _ H .refl (.tup na ea rc)
    · have kc : Kc G H (upd H p (.tup (cutV vs lo hi))) := Kc.new hp
      exact k _ _ kc (.tup (o.fresh hp) upd_same ((ra.cut lo hi).step (Kp.of kc o.oh)))
  · cases e
    obtain ⟨a, vs, rfl, ea, ra⟩ := r1.lst
    refine .inr ⟨a, vs, rfl, SqL.of ea, fun p hp => ?_⟩
    have kc : Kc G H (upd H p (.lst (cutV vs lo hi))) := Kc.new hp
    exact k _ _ kc (.lst (o.fresh hp) upd_same ((ra.cut lo hi).step (Kp.of kc o.oh)))
  · cases e
/-! ### len, all, any, abs, int, tuple, list -/
def rLenA (K : PySem.W.Frag) : List V → Hp → VK → Prop := fun xs H Q => (∃ x n, xs = [x] ∧ LenV K x H n ∧ Q (.int n) H) ∨ (∃ a kvs, xs = [V.ref a] ∧ H a = some (.dK kvs) ∧ Q (.int kvs.length) H)
theorem crOr {X : Cx} {f : Value} {r r' : List V → Hp → VK → Prop} (h : CallR X f r) (h' : CallR X f r') : CallR X f (fun xs H Q => r xs H Q ∨ r' xs H Q) := fun pins s σ H xs us Q I r1 q => q.elim (h pins s σ H xs us Q I r1) (h' pins s σ H xs us Q I r1)
theorem cr_lenA {X : Cx} : CallR X (.builtin "len") (rLenA X.K) := crOr call_len call_lenD
theorem uok_len : UOk G (fun v H Q => rLenA K [v] H Q) fLen := fun O H v x z Q' o r e k => by
  unfold fLen at e
  split at e
  · split at e
    · rename_i h
      cases e
      cases r.str
      exact .inl ⟨_, _, rfl, ⟨by rw [len_strV]; exact Nat.le_trans h sz_eq, rfl⟩, by rw [len_strV]; exact k _ H .refl (.int _)⟩
    · cases e
  · cases e
    obtain ⟨a, vs, rfl, na, ea, ra⟩ := r.tup
    exact .inl ⟨_, vs.length, rfl, .inr ⟨vs, SqT.of ea, rfl⟩, by rw [ra.length]; exact k _ H .refl (.int _)⟩
  · cases e
    obtain ⟨a, vs, rfl, ea, ra⟩ := r.lst
    exact .inl ⟨_, vs.length, rfl, .inl ⟨vs, SqL.of ea, rfl⟩, by rw [ra.length]; exact k _ H .refl (.int _)⟩
  · cases e
    rename_i ks vs
    obtain ⟨a, rfl, kk, us, ea, l, rfl, rr⟩ := r
    have hl : (kk.zip us).length = (kk.map keyD).length := by rw [List.length_zip, List.length_map, l, Nat.min_self]
    exact .inr ⟨_, _, rfl, ea, by rw [hl]; exact k _ H .refl (.int _)⟩
  · cases e
theorem uok_all : UOk G (fun v H Q => rAll K [v] H Q) fAll := fun O H v x z Q' o r e k => by
  unfold fAll at e
  split at e
  · obtain ⟨bs, h1, h2⟩ := Option.map_eq_some_iff.mp e
    subst h2
    obtain ⟨a, vs, rfl, ea, ra⟩ := r.lst
    exact ⟨a, bs, rfl, by rw [← ra.bls h1]; exact SqL.of ea, k _ H .refl (.bl _)⟩
  · cases e
theorem uok_any : UOk G (fun v H Q => rAny K [v] H Q) fAny := fun O H v x z Q' o r e k => by
  unfold fAny at e
  split at e
  · obtain ⟨bs, h1, h2⟩ := Option.map_eq_some_iff.mp e
    subst h2
    obtain ⟨a, vs, rfl, ea, ra⟩ := r.lst
    exact ⟨a, bs, rfl, by rw [← ra.bls h1]; exact SqL.of ea, k _ H .refl (.bl _)⟩
  · cases e
theorem uok_abs : UOk G (fun v H Q => (fun xs H (Q : VK) => ∃ i, xs = [V.int i] ∧ Q (.int (if i < 0 then -i else i)) H) [v] H Q) fAbs := fun O H v x z Q' o r e k => by
  unfold fAbs at e
  split at e
  · cases e
    cases r.int
    exact ⟨_, rfl, k _ H .refl (.int _)⟩
  · cases e
theorem uok_int : UOk G (fun v H Q => (fun xs H (Q : VK) => (∃ i, xs = [V.int i] ∧ Q (.int i) H) ∨ ∃ k, xs = [V.bl k] ∧ Q (.int (if k then 1 else 0)) H) [v] H Q) fInt := fun O H v x z Q' o r e k => by
  unfold fInt at e
  split at e
  · cases e
    cases r.int
    exact .inl ⟨_, rfl, k _ H .refl (.int _)⟩
  · cases e
    cases r.bl
    exact .inr ⟨_, rfl, k _ H .refl (.int _)⟩
  · cases e
def rTupOf (K : PySem.W.Frag) : List V → Hp → VK → Prop := fun xs H Q => ∃ p ys, xs = [.ref p] ∧ ((SqL K H p ys ∧ ∀ l, H l = none → Q (.ref l) (upd H l (.tup ys))) ∨ (SqT K H p ys ∧ Q (.ref p) H))
theorem uok_tuple : UOk G (fun v H Q => rTupOf K [v] H Q) fTuple := fun O H v x z Q' o r e k => by
  unfold fTuple at e
  split at e
  · cases e
    obtain ⟨a, vs, rfl, ea, ra⟩ := r.lst
    refine ⟨a, vs, rfl, .inl ⟨SqL.of ea, fun p hp => ?_⟩⟩
    have kc : Kc G H (upd H p (.tup vs)) := Kc.new hp
    exact k _ _ kc (.tup (o.fresh hp) upd_same (ra.step (Kp.of kc o.oh)))
  · cases e
    obtain ⟨a, vs, rfl, na, ea, ra⟩ := r.tup
    exact ⟨a, vs, rfl, .inr ⟨SqT.of ea, k _ H .refl (.tup na ea ra)⟩⟩
  · cases e
def rListOf (K : PySem.W.Frag) : List V → Hp → VK → Prop := fun xs H Q => ∃ p ys, xs = [.ref p] ∧ (SqL K H p ys ∨ SqT K H p ys) ∧ ∀ l, H l = none → Q (.ref l) (upd H l (.lst ys))
theorem ufk_list : UFk G (fun v H Q => rListOf K [v] H Q) fList := fun O H v x z Q' o r e k => by
  unfold fList seqOf at e
  split at e
  · cases e
    obtain ⟨a, vs, rfl, ea, ra⟩ := r.lst
    exact ⟨a, vs, rfl, .inl (SqL.of ea), fun p hp => k p vs H .refl hp ra⟩
  · cases e
    obtain ⟨a, vs, rfl, na, ea, ra⟩ := r.tup
    exact ⟨a, vs, rfl, .inr (SqT.of ea), fun p hp => k p vs H .refl hp ra⟩
  · cases e
end
end LW
end S6_

section S7_
set_option maxRecDepth 100000
set_option maxHeartbeats 1000000
/-! Own layer, part 7: tuple * k of any small k, isinstance, ==, in. -/
namespace LW
open PySem PySem.Spec PyProof.Rows L2 RZ
section
variable {l : Addr} {its : Array Value} {n : Nat} {dd : Option Addr} {sl : Array (Option Value)} {x : Int} {u : Tok}
theorem mul_same (c0 : (decide (x < -(2 ^ 63)) || decide (x ≥ 2 ^ 63)) = false) (c1 : (its.isEmpty || x == 1) = true) :
    Meets (Builtin.«tuple.__mul__» ⟨[.ref l, .int x u], []⟩) (fun _ R s => s.heap.get? l = some { cls := .type "tuple", dict := dd, data := .seq its n, slots := sl } ∧ R (.ok (.ret (.ref l))) s) := by
  refine .of_wp fun prog w A R s h => ?_
  obtain ⟨hp, g, d, tk, os⟩ := s
  obtain ⟨hl, h⟩ := h
  have f1 := AutoSeq1.idx_int
  wp_walk using wpAny_loadPart' hl
  refine wpAny_ite_false (decide_eq_false (by rw [c0]; exact Bool.false_ne_true)) ?_
  wp_walk using wpAny_loadPart' hl
  exact ⟨_, rfl, h⟩
theorem mul_none (c0 : (decide (x < -(2 ^ 63)) || decide (x ≥ 2 ^ 63)) = false) (c1 : (its.isEmpty || x == 1) = false) (c2 : (decide (x ≤ 0) || its.isEmpty) = true) :
    Meets (Builtin.«tuple.__mul__» ⟨[.ref l, .int x u], []⟩) (fun _ R s => s.heap.get? l = some { cls := .type "tuple", dict := dd, data := .seq its n, slots := sl } ∧
      R (.ok (.ret (.ref s.heap.objs.size))) { s with heap := s.heap.push { cls := .type "tuple", data := .seq #[] } }) := by
  refine .of_wp fun prog w A R s h => ?_
  obtain ⟨hp, g, d, tk, os⟩ := s
  obtain ⟨hl, h⟩ := h
  have f1 := AutoSeq1.idx_int
  wp_walk using wpAny_loadPart' hl
  repeat (first
    | (refine wpAny_ite_false (decide_eq_false (by rw [c0]; exact Bool.false_ne_true)) ?_; wp_walk using wpAny_loadPart' hl)
    | (refine wpAny_ite_false (decide_eq_false (by rw [c1]; exact Bool.false_ne_true)) ?_; wp_walk using wpAny_loadPart' hl)
    | (refine wpAny_ite_true (by rw [c2]; rfl) ?_; wp_walk using wpAny_loadPart' hl)
    | (refine wpAny_ite_true c2 ?_; wp_walk using wpAny_loadPart' hl))
  exact ⟨_, rfl, h⟩
end
/-- t * k, k at most 1 or t empty -/
def rRepLess (K : PySem.W.Frag) : R2 := fun x y H Q => ∃ l k xs, x = .ref l ∧ y = .int k ∧ SqT K H l xs ∧ -1000 ≤ k ∧ k ≤ 1000 ∧ ((xs = [] ∨ k = 1) ∧ Q (.ref l) H ∨ (xs ≠ [] ∧ k ≤ 0) ∧ ∀ p, H p = none → Q (.ref p) (upd H p (.tup [])))
theorem op_repLess {X : Cx} : OpR X (binaryOp .Mult) (rRepLess X.K) := by
  intro pins s σ H x y v u Q I rx ry h
  obtain ⟨l, k, xs, rfl, rfl, hT, h1, h2, q⟩ := h
  cases rx
  obtain ⟨t, rfl⟩ := ry
  obtain ⟨its, r, ⟨⟨cls, dd, data, sl⟩, ho, hc, n, hd⟩, hs⟩ := I.tuple hT
  simp only at hc hd
  subst hc hd
  have hle : its.length = xs.length := r.length.symm
  have c0 : (decide (k < -(2 ^ 63)) || decide (k ≥ 2 ^ 63)) = false := by rw [decide_eq_false (by omega), decide_eq_false (by omega)]; rfl
  have tail : ∀ {Q2 : Value → Shared → Prop} {R : Result → Shared → Prop → Prop} {D : (Program → World → Around → (Result → Shared → Prop) → Shared → Prop)}, True := trivial
  rcases q with ⟨hk, q⟩ | ⟨⟨hne, hk⟩, q⟩
  · have c1 : (its.toArray.isEmpty || k == 1) = true := by
      rcases hk with e | e
      · subst e
        have e2 := List.eq_nil_of_length_eq_zero hle
        subst e2
        rfl
      · subst e
        simp
    refine wpAny_binaryOp_repeat_ref (T := "tuple") (U := "int") (by decide) ⟨_, ho, rfl⟩ (fun s' => typeIs_int s' k t) noFill_tuple_mul F.fills_int_mul F.slot_int_rmul repeat_tuple F.slot_int_index.lookup
      (call_meets F.slot_int_rmul (typeIs_int s k t) F.entry_int_rmul (F.args_int_rmul_2 _ _) (int_rmul_tuple k t l its.toArray n dd sl)
        ⟨ho, rfl, ⟨_, ho, rfl⟩, call_meets F.slot_tuple_mul ⟨_, ho, rfl⟩ F.entry_tuple_mul (F.args_tuple_mul_2 _ _) (mul_same c0 c1) ⟨ho, ?_⟩⟩)
    exact ⟨.ref l, H, I, rfl, q⟩
  · have hn : its ≠ [] := fun e => hne (by subst e; exact List.eq_nil_of_length_eq_zero hle.symm)
    have hi : its.toArray.isEmpty = false := by
      cases its with
      | nil => exact absurd rfl hn
      | cons a b => rfl
    have c1 : (its.toArray.isEmpty || k == 1) = false := by
      rw [hi, Bool.false_or]
      exact beq_eq_false_iff_ne.mpr (by omega)
    have c2 : (decide (k ≤ 0) || its.toArray.isEmpty) = true := by rw [decide_eq_true hk]; rfl
    refine wpAny_binaryOp_repeat_ref (T := "tuple") (U := "int") (by decide) ⟨_, ho, rfl⟩ (fun s' => typeIs_int s' k t) noFill_tuple_mul F.fills_int_mul F.slot_int_rmul repeat_tuple F.slot_int_index.lookup
      (call_meets F.slot_int_rmul (typeIs_int s k t) F.entry_int_rmul (F.args_int_rmul_2 _ _) (int_rmul_tuple k t l its.toArray n dd sl)
        ⟨ho, rfl, ⟨_, ho, rfl⟩, call_meets F.slot_tuple_mul ⟨_, ho, rfl⟩ F.entry_tuple_mul (F.args_tuple_mul_2 _ _) (mul_none c0 c1 c2) ⟨ho, ?_⟩⟩)
    refine ⟨.ref _, _, I.laid (t' := s.toks) (o := .tup []) (fun b ob q => Heap.get?_push_of_some _ q) (Nat.le_refl _) ⟨Nat.zero_le _, [], .nil, ⟨_, Heap.get?_push_size _ rfl, rfl, 0, rfl⟩⟩, rfl, q _ (I.hok.fresh (Nat.le_refl _))⟩

section
variable {G : Gx} {K : PySem.W.Frag} {W : WX}
def rMulA (K : PySem.W.Frag) : R2 := fun x y H Q => (rI CMul fun i j => V.int (i * j)) x y H Q ∨ (rRep x y H Q ∨ (rRepT K x y H Q ∨ rRepLess K x y H Q))
theorem op_mulA {X : Cx} : OpR X (binaryOp .Mult) (rMulA X.K) := op_mul.or (op_rep.or (op_repT.or op_repLess))
theorem bok_mul : BOk G (rMulA K) fMul := fun O H v u x y z Q' o r1 r2 e k => by
  unfold fMul at e
  split at e
  · split at e
    · rename_i h
      cases e
      cases r1.int
      cases r2.int
      simp only [okMul, decide_eq_true_eq] at h
      exact .inl ⟨_, _, rfl, rfl, h, k _ H .refl (.int _)⟩
    · cases e
  · rename_i xs j
    split at e
    · rename_i h
      obtain ⟨h0, h1, h2⟩ := h
      cases e
      cases r2.int
      obtain ⟨a, vs, rfl, na, ea, ra⟩ := r1.tup
      by_cases c : xs = [] ∨ j = 1
      · refine .inr (.inr (.inr ⟨a, j, vs, rfl, rfl, SqT.of ea, by omega, h1, .inl ⟨c.elim (fun z => .inl ?_) .inr, ?_⟩⟩))
        · subst z
          cases ra
          rfl
        · have e2 : (List.replicate j.toNat xs).flatten = xs := by
            rcases c with z | z
            · subst z
              simp
            · subst z
              simp
          rw [e2] at k
          exact k _ H .refl (.tup na ea ra)
      · have hne : xs ≠ [] := fun z => c (.inl z)
        have hvs : vs ≠ [] := fun z => by
          subst z
          cases ra
          exact hne rfl
        by_cases c2 : j ≤ 0
        · refine .inr (.inr (.inr ⟨a, j, vs, rfl, rfl, SqT.of ea, by omega, h1, .inr ⟨⟨hvs, c2⟩, fun p hp => ?_⟩⟩))
          have e2 : (List.replicate j.toNat xs).flatten = [] := by
            have : j.toNat = 0 := by omega
            rw [this]
            rfl
          rw [e2] at k
          have kc : Kc G H (upd H p (.tup [])) := Kc.new hp
          exact k _ _ kc (.tup (o.fresh hp) upd_same .nil)
        · refine .inr (.inr (.inl ⟨a, j, vs, rfl, rfl, SqT.of ea, hvs, ?_, h1, by rw [ra.length]; exact h2, fun p hp => ?_⟩))
          · have : j ≠ 1 := fun z => c (.inr z)
            omega
          have kc : Kc G H (upd H p (.tup (List.replicate j.toNat vs).flatten)) := Kc.new hp
          exact k _ _ kc (.tup (o.fresh hp) upd_same ((ra.flat _).step (Kp.of kc o.oh)))
    · cases e
  · rename_i xs j
    split at e
    · rename_i h
      obtain ⟨h0, h1, h2⟩ := h
      cases e
      cases r2.int
      obtain ⟨a, vs, rfl, ea, ra⟩ := r1.lst
      refine .inr (.inl ⟨a, j, vs, rfl, rfl, ea, by omega, by omega, ?_, fun p hp => ?_⟩)
      · rw [ra.length, sizeLine_eq]
        have : xs.length * j.toNat ≤ 1000 * 1000 := Nat.mul_le_mul h2 (by omega)
        omega
      · have kc : Kc G H (upd H p (.lst (List.replicate j.toNat vs).flatten)) := Kc.new hp
        exact k _ _ kc (.lst (o.fresh hp) upd_same ((ra.flat _).step (Kp.of kc o.oh)))
    · cases e
  · cases e
theorem bfk_mul : BFk G (rMulA K) fMulL := fun O H v u x y z Q' o r1 r2 e k => by
  unfold fMulL at e
  split at e
  · rename_i xs j
    split at e
    · rename_i h
      obtain ⟨h0, h1, h2⟩ := h
      cases e
      cases r2.int
      obtain ⟨a, vs, rfl, ea, ra⟩ := r1.lst
      refine .inr (.inl ⟨a, j, vs, rfl, rfl, ea, by omega, by omega, ?_, fun p hp => k p _ H .refl hp (ra.flat _)⟩)
      rw [ra.length, sizeLine_eq]
      have : xs.length * j.toNat ≤ 1000 * 1000 := Nat.mul_le_mul h2 (by omega)
      omega
    · cases e
  · cases e

/-! ### in -/
theorem flat_v {O : Addr → Prop} {H : Hp} {v : V} {x : D} (r : Rep G O H v x) (h : flatD x = true) : flatV v = true := by
  cases r <;> first | rfl | cases h
theorem flats_v {O : Addr → Prop} {H : Hp} : ∀ {vs : List V} {xs : List D}, Reps G O H vs xs → xs.all flatD = true → vs.all flatV = true
  | _, _, .nil, _ => rfl
  | _, _, .cons r t, h => by
    simp only [List.all_cons, Bool.and_eq_true] at h ⊢
    exact ⟨flat_v r h.1, flats_v t h.2⟩
theorem strV_eq {s t : List Nat} : (strV s == strV t) = (s == t) := by
  rw [Bool.eq_iff_iff, beq_iff_eq, beq_iff_eq]
  constructor
  · intro h
    have := congrArg (fun z : Str => z.cps.toList) h
    simpa [strV] using this
  · intro h
    rw [h]
theorem eqF_v {O : Addr → Prop} {H : Hp} {v u : V} {x y : D} (r : Rep G O H v x) (q : Rep G O H u y) (h : flatD x = true) (h' : flatD y = true) : eqV v u = eqF x y := by
  cases r <;> (try (simp [flatD] at h; done)) <;> cases q <;> (try (simp [flatD] at h'; done)) <;> first | rfl | exact strV_eq
theorem any_v {O : Addr → Prop} {H : Hp} {u : V} {y : D} (q : Rep G O H u y) (h' : flatD y = true) : ∀ {vs : List V} {xs : List D}, Reps G O H vs xs → xs.all flatD = true → (vs.any fun z => eqV z u) = xs.any fun z => eqF z y
  | _, _, .nil, _ => rfl
  | _, _, .cons r t, h => by
    simp only [List.all_cons, Bool.and_eq_true] at h
    rw [List.any_cons, List.any_cons, any_v q h' t h.2, eqF_v r q h.1 h']
theorem flat_rep {O : Addr → Prop} {H : Hp} {v : V} {x : D} (r : RepT G O H v x) (h : flatD x = true) : Rep G O H v x := by
  cases x <;> first | exact r | cases h
theorem cInS_ok {O : Addr → Prop} {H : Hp} {v u : V} {x y : D} {b : Bool} (r1 : RepT G O H v x) (r2 : RepT G O H u y) (e : cInS x y = some b) : ∃ p vs, u = .ref p ∧ (SqL K H p vs ∨ SqT K H p vs) ∧ flatV v = true ∧ vs.all flatV = true ∧ inV v vs = b := by
  unfold cInS at e
  cases y with
  | lst ys =>
    simp only [seqOf] at e
    split at e
    · rename_i h
      obtain ⟨h1, h2⟩ := Bool.and_eq_true_iff.mp h
      cases e
      obtain ⟨a, vs, rfl, ea, ra⟩ := r2.lst
      exact ⟨a, vs, rfl, .inl (SqL.of ea), flat_v (flat_rep r1 h1) h1, flats_v ra h2, any_v (flat_rep r1 h1) h1 ra h2⟩
    · cases e
  | tup ys =>
    simp only [seqOf] at e
    split at e
    · rename_i h
      obtain ⟨h1, h2⟩ := Bool.and_eq_true_iff.mp h
      cases e
      obtain ⟨a, vs, rfl, na, ea, ra⟩ := r2.tup
      exact ⟨a, vs, rfl, .inr (SqT.of ea), flat_v (flat_rep r1 h1) h1, flats_v ra h2, any_v (flat_rep r1 h1) h1 ra h2⟩
    · cases e
  | _ => simp [seqOf] at e
/-- x in y: a list, a tuple; a dict -/
def rDInU (neg : Bool) : R2 := fun x y H Q => ∃ a o, y = .ref a ∧ DGet H a x o ∧ Q (.bl (if neg then !o.isSome else o.isSome)) H
def rInU (K : PySem.W.Frag) (neg : Bool) : R2 := fun x y H Q => rIn K neg x y H Q ∨ rDInU neg x y H Q
theorem op_dIn {X : Cx} (hu : X.A.units + 1 < cLine) : OpR X (compareOp .In) (rDInU false) := by
  intro pins s σ H x y v u Q I rx ry h
  obtain ⟨a, o, rfl, g, q⟩ := h
  cases (show u = Value.ref a from ry)
  exact d_in hu I g rx fun s3 I3 => ⟨.bl o.isSome, H, I3, rfl, q⟩
theorem op_dNotIn {X : Cx} (hu : X.A.units + 1 < cLine) : OpR X (compareOp .NotIn) (rDInU true) := by
  intro pins s σ H x y v u Q I rx ry h
  obtain ⟨a, o, rfl, g, q⟩ := h
  cases (show u = Value.ref a from ry)
  exact d_notIn hu I g rx fun s3 I3 => ⟨.bl (!o.isSome), H, I3, rfl, q⟩
theorem op_inU {X : Cx} (hu : X.A.units + 1 < cLine) : OpR X (compareOp .In) (rInU X.K false) := op_in_seq.or (op_dIn hu)
theorem op_notInU {X : Cx} (hu : X.A.units + 1 < cLine) : OpR X (compareOp .NotIn) (rInU X.K true) := op_notIn_seq.or (op_dNotIn hu)
theorem cIn_ok {O : Addr → Prop} {H : Hp} {v u : V} {x y : D} {b : Bool} (r1 : RepT G O H v x) (r2 : RepT G O H u y) (e : cIn x y = some b) : (∃ p vs, u = .ref p ∧ (SqL K H p vs ∨ SqT K H p vs) ∧ flatV v = true ∧ vs.all flatV = true ∧ inV v vs = b) ∨ ∃ a o, u = .ref a ∧ DGet H a v o ∧ o.isSome = b := by
  cases y with
  | dct ks ys =>
    obtain ⟨a, rfl, kk, us, ea, l, rfl, rr⟩ := r2
    cases x <;> simp [cIn] at e
    cases r1.int
    exact .inr ⟨a, _, rfl, .inl ⟨_, _, .inl ea, rfl, rfl⟩, by rw [← has_val (O := O) (H := H) l]; exact e⟩
  | _ => exact .inl (cInS_ok (K := K) r1 r2 e)
theorem cok_in : COk G (rInU K false) cIn := fun O H v u x y b Q' o r1 r2 e k => by
  rcases cIn_ok (K := K) r1 r2 e with ⟨p, vs, h1, h2, h3, h4, h5⟩ | ⟨a, o, h1, h2, h3⟩
  · exact .inl ⟨p, vs, h1, h2, h3, h4, by rw [h5]; exact k⟩
  · exact .inr ⟨a, o, h1, h2, by rw [h3]; exact k⟩
theorem cok_notIn : COk G (rInU K true) (cNot cIn) := fun O H v u x y b Q' o r1 r2 e k => by
  unfold cNot at e
  obtain ⟨c, e1, e2⟩ := Option.map_eq_some_iff.mp e
  rcases cIn_ok (K := K) r1 r2 e1 with ⟨p, vs, h1, h2, h3, h4, h5⟩ | ⟨a, o, h1, h2, h3⟩
  · exact .inl ⟨p, vs, h1, h2, h3, h4, by rw [h5]; exact e2 ▸ k⟩
  · exact .inr ⟨a, o, h1, h2, by rw [h3]; exact e2 ▸ k⟩

/-! ### == -/
mutual
def pd : D → PyData
  | .non => .none
  | .bl b => .bool b
  | .int i => .int i
  | .tup xs => .tuple (pds xs)
  | .lst xs => .list (pds xs)
  | _ => .none
def pds : List D → List PyData
  | [] => []
  | x :: xs => pd x :: pds xs
end
mutual
theorem dp_of {O : Addr → Prop} {H : Hp} : ∀ {v : V} {x : D}, Rep G O H v x → plain x = true → Dp K H v (pd x)
  | _, _, .non, _ => .non
  | _, _, .bl b, _ => .bl b
  | _, _, .int i, _ => .int i
  | _, _, .str s, h => by simp [plain] at h
  | _, _, .tup no e r, h => .tup (SqT.of e) (dps_of r (by simpa [plain] using h))
  | _, _, .lst no e r, h => .lst (SqL.of e) (dps_of r (by simpa [plain] using h))
  | _, _, .dct _ _ _ _, h => by simp [plain] at h
  | _, _, .obj _ _ _ _, h => by simp [plain] at h
  | _, _, .hand _, h => by simp [plain] at h
theorem dps_of {O : Addr → Prop} {H : Hp} : ∀ {vs : List V} {xs : List D}, Reps G O H vs xs → plains xs = true → DpAll K H vs (pds xs)
  | _, _, .nil, _ => .nil
  | _, _, .cons r t, h => by
    simp only [plains, Bool.and_eq_true] at h
    exact .cons (dp_of r h.1) (dps_of t h.2)
end
mutual
theorem pd_lay : ∀ x : D, plain x = true → (pd x).canLay0 = true
  | .non, _ => rfl
  | .bl b, _ => rfl
  | .int i, _ => rfl
  | .tup xs, h => pds_lay xs (by simpa [plain] using h)
  | .lst xs, h => pds_lay xs (by simpa [plain] using h)
  | .str _, h => by simp [plain] at h
  | .dct _ _, h => by simp [plain] at h
  | .obj _ _, h => by simp [plain] at h
  | .hand, h => by simp [plain] at h
theorem pds_lay : ∀ xs : List D, plains xs = true → PyData.canLayAll0 (pds xs) = true
  | [], _ => rfl
  | x :: xs, h => by
    simp only [plains, Bool.and_eq_true] at h
    simp [pds, PyData.canLayAll0, pd_lay x h.1, pds_lay xs h.2]
end
mutual
theorem pd_dep : ∀ x : D, plain x = true → (pd x).depth = dep x
  | .non, _ => rfl
  | .bl b, _ => rfl
  | .int i, _ => rfl
  | .tup xs, h => by simp [pd, PyData.depth, dep, pds_dep xs (by simpa [plain] using h)]
  | .lst xs, h => by simp [pd, PyData.depth, dep, pds_dep xs (by simpa [plain] using h)]
  | .str _, h => by simp [plain] at h
  | .dct _ _, h => by simp [plain] at h
  | .obj _ _, h => by simp [plain] at h
  | .hand, h => by simp [plain] at h
theorem pds_dep : ∀ xs : List D, plains xs = true → PyData.depthAll (pds xs) = deps xs
  | [], _ => rfl
  | x :: xs, h => by
    simp only [plains, Bool.and_eq_true] at h
    simp [pds, PyData.depthAll, deps, pd_dep x h.1, pds_dep xs h.2]
end
mutual
theorem pd_eqv : ∀ x y : D, plain x = true → plain y = true → PyData.eqv (pd x) (pd y) = eqD x y := fun x y h h' => by
  cases x <;> (try (simp [plain] at h; done)) <;> cases y <;> (try (simp [plain] at h'; done)) <;> first
    | (simp [pd, PyData.eqv, eqD]; done)
    | (simp only [pd, PyData.eqv, eqD]; exact pds_eqv _ _ (by simpa [plain] using h) (by simpa [plain] using h'))
theorem pds_eqv : ∀ xs ys : List D, plains xs = true → plains ys = true → PyData.eqvAll (pds xs) (pds ys) = eqDs xs ys
  | [], [], _, _ => rfl
  | [], _ :: _, _, _ => rfl
  | _ :: _, [], _, _ => rfl
  | x :: xs, y :: ys, h, h' => by
    simp only [plains, Bool.and_eq_true] at h h'
    simp [pds, PyData.eqvAll, eqDs, pd_eqv x y h.1 h'.1, pds_eqv xs ys h.2 h'.2]
end
end
end LW
end S7_

section S8_
set_option maxRecDepth 100000
set_option maxHeartbeats 1000000
/-! Own layer, part 8: ==, isinstance, fields, range lists, sorted sets, slices with a step. -/
namespace LW
open PySem PySem.Spec PyProof.Rows L2 RZ
section
variable {G : Gx} {K : PySem.W.Frag} {W : WX}
/-! ### == -/
def rEqA (K : PySem.W.Frag) : R2 := fun x y H Q => rEq x y H Q ∨ rEqD K x y H Q
def rNeA (K : PySem.W.Frag) : R2 := fun x y H Q => rNe x y H Q ∨ rNeD K x y H Q
theorem op_eqA {X : Cx} {k : Nat} (hr : Room k X.A) : OpR X (compareOp .Eq) (rEqA X.K) := op_eq.or (op_eqD hr.units)
theorem op_neA {X : Cx} {k : Nat} (hr : Room k X.A) : OpR X (compareOp .NotEq) (rNeA X.K) := op_ne.or (op_neD hr.units)
theorem scal_flat {x y : D} (h : scalD x y = true) : flatD x = true ∧ flatD y = true := by
  cases x <;> cases y <;> simp [scalD] at h <;> exact ⟨rfl, rfl⟩
theorem scal_v {O : Addr → Prop} {H : Hp} {v u : V} {x y : D} (r : Rep G O H v x) (q : Rep G O H u y) (h : scalD x y = true) : scal v u = true ∧ decide (v = u) = eqS x y := by
  cases r <;> (try (simp [scalD] at h; done)) <;> cases q <;> (try (simp [scalD] at h; done)) <;> (try exact ⟨rfl, rfl⟩)
  · exact ⟨rfl, dec_bl⟩
  · exact ⟨rfl, dec_int⟩
  · refine ⟨rfl, ?_⟩
    rw [dec_str]
    exact strV_eq
theorem plain_rep {O : Addr → Prop} {H : Hp} {v : V} {x : D} (r : RepT G O H v x) (h : plain x = true) : Dp K H v (pd x) := by
  cases x with
  | lst xs =>
    obtain ⟨a, vs, rfl, e, r⟩ := r
    exact .lst (SqL.of e) (dps_of r (by simpa [plain] using h))
  | dct ks ys => simp [plain] at h
  | _ => exact dp_of r h
theorem shaped_of {x : D} (h : plain x = true) (hd : dep x ≤ 60) : SeqAt.shaped (pd x) = true := by
  unfold SeqAt.shaped
  rw [pd_lay x h, pd_dep x h, Bool.true_and]
  exact decide_eq_true (by omega)
theorem eqA_ok {O : Addr → Prop} {H : Hp} {v u : V} {x y : D} {b : Bool} (r1 : RepT G O H v x) (r2 : RepT G O H u y) (e : cEq x y = some b) :
    (scal v u = true ∧ decide (v = u) = b) ∨ ∃ d e, Dp K H v d ∧ Dp K H u e ∧ SeqAt.shaped d = true ∧ SeqAt.shaped e = true ∧ PyData.eqv d e = b := by
  unfold cEq at e
  split at e
  · rename_i h
    cases e
    obtain ⟨h1, h2⟩ := scal_flat h
    exact .inl (scal_v (flat_rep r1 h1) (flat_rep r2 h2) h)
  · split at e
    · rename_i h
      simp only [Bool.and_eq_true, decide_eq_true_eq] at h
      obtain ⟨⟨⟨h1, h2⟩, h3⟩, h4⟩ := h
      cases e
      exact .inr ⟨_, _, plain_rep r1 h1, plain_rep r2 h2, shaped_of h1 h3, shaped_of h2 h4, pd_eqv x y h1 h2⟩
    · cases e
theorem cok_eq : COk G (rEqA K) cEq := fun O H v u x y b Q' o r1 r2 e k => by
  rcases eqA_ok (K := K) r1 r2 e with ⟨h1, h2⟩ | ⟨d, e, h1, h2, h3, h4, h5⟩
  · exact .inl ⟨h1, by rw [h2]; exact k⟩
  · exact .inr ⟨d, e, h1, h2, h3, h4, by rw [h5]; exact k⟩
theorem cok_ne : COk G (rNeA K) (cNot cEq) := fun O H v u x y b Q' o r1 r2 e k => by
  unfold cNot at e
  obtain ⟨c, e1, e2⟩ := Option.map_eq_some_iff.mp e
  rcases eqA_ok (K := K) r1 r2 e1 with ⟨h1, h2⟩ | ⟨d, e, h1, h2, h3, h4, h5⟩
  · exact .inl ⟨h1, by rw [h2]; exact e2 ▸ k⟩
  · exact .inr ⟨d, e, h1, h2, h3, h4, by rw [h5]; exact e2 ▸ k⟩

/-! ### isinstance -/
def tv (C : Cl) : Ty → Value
  | .int => .type "int" | .bool => .type "bool" | .str => .type "str" | .tuple => .type "tuple" | .list => .type "list" | .dict => .type "dict" | .none => .type "NoneType" | .own c => .ref (C.ca c)
def tV (C : Cl) : Ty → V
  | .int => .ty "int" | .bool => .ty "bool" | .str => .ty "str" | .tuple => .ty "tuple" | .list => .ty "list" | .dict => .ty "dict" | .none => .ty "NoneType" | .own c => .ref (C.ca c)
def bi : Ty → Bool
  | .own _ => false
  | _ => true
/-- what is asked of the classes whose instances are met -/
structure ClOk (K : PySem.W.Frag) (C : Cl) (cs : List Nat) : Prop where
  cls : ∀ c ∈ cs, Cls K (C.ca c)
  ha : ∀ c ∈ cs, PySem.W.findIn K (.ref (C.ca c)) "__class__" = some (some (.builtin "object.__class__"))
  hn : PySem.W.specialIn K (.builtin "object.__class__") "__get__" = some (some (.builtin "getset_descriptor.__get__"))
  htk : PySem.W.takesIn K (.builtin "object.__class__") = some true
  hm : ∀ c ∈ cs, PySem.W.mroIn K (C.ca c) (.type "object") = some true
  k1 : ∀ c ∈ cs, ∀ t, bi t = true → PySem.W.kitOne K (tv C t) (.ref (C.ca c)) = some false
  k2 : ∀ c ∈ cs, ∀ t, bi t = true → PySem.W.kitOne K (.ref (C.ca c)) (tv C t) = some false
  k3 : ∀ c ∈ cs, ∀ d ∈ cs, PySem.W.kitOne K (.ref (C.ca c)) (.ref (C.ca d)) = some (decide (c = d))
theorem kit_bb {C : Cl} {t u : Ty} (ht : bi t = true) (hu : bi u = true) : PySem.W.kitOne K (tv C t) (tv C u) = some (sub t u) := by
  cases t <;> (try (simp [bi] at ht; done)) <;> cases u <;> (try (simp [bi] at hu; done)) <;> exact kit_ty (by decide +kernel)
/-- a thing's kind by the classes allowed -/
def tyO (cs : List Nat) : D → Option Ty
  | .obj c _ => if c ∈ cs then some (.own c) else none
  | x => some (tyOf x)
theorem fIs_eq (cs : List Nat) (us : List Ty) (x : D) : fIs cs us x = (tyO cs x).map fun t => D.bl (us.any (sub t)) := by
  cases x <;> first | rfl | (simp only [fIs, tyO]; split <;> rfl)
theorem tyX_of {cs : List Nat} {O : Addr → Prop} {H : Hp} {v : V} {x : D} {t : Ty} (ok : ClOk K G.cl cs) (r : RepT G O H v x) (h : tyO cs x = some t) : TyX K H v (tv G.cl t) ∧ (bi t = true ∨ ∃ c, c ∈ cs ∧ t = .own c) := by
  cases x with
  | lst xs =>
    obtain ⟨a, vs, rfl, e, _⟩ := r
    cases h
    exact ⟨.base (.lst e), .inl rfl⟩
  | obj c xs =>
    simp only [tyO] at h
    split at h
    · rename_i hc
      cases h
      cases (show Rep G O H v (.obj c xs) from r) with
      | obj no e l r => exact ⟨.base (.ins e (ok.cls c hc) (ok.ha c hc) ok.hn ok.htk (ok.hm c hc)), .inr ⟨c, hc, rfl⟩⟩
    · cases h
  | hand =>
    cases h
    cases (show Rep G O H v .hand from r) with
    | hand e =>
      obtain ⟨ns, i1, i2, i3, i4, _, e, _⟩ := e
      exact ⟨.base (.lst e), .inl rfl⟩
  | dct ks vs =>
    cases h
    obtain ⟨a, rfl, kk, us, e, _⟩ := r
    exact ⟨.base (.dK e), .inl rfl⟩
  | tup xs =>
    cases h
    obtain ⟨a, vs, rfl, no, e, _⟩ := r.tup
    exact ⟨.base (.tup e), .inl rfl⟩
  | non =>
    cases h
    cases r.non
    exact ⟨.base .non, .inl rfl⟩
  | bl b =>
    cases h
    cases r.bl
    exact ⟨.base (.bl b), .inl rfl⟩
  | int b =>
    cases h
    cases r.int
    exact ⟨.base (.int b), .inl rfl⟩
  | str b =>
    cases h
    cases r.str
    exact ⟨.base (.str _), .inl rfl⟩
theorem kit_one {C : Cl} {cs : List Nat} {t u : Ty} (ok : ClOk K C cs) (ht : bi t = true ∨ ∃ c, c ∈ cs ∧ t = .own c) (hu : bi u = true ∨ ∃ c, c ∈ cs ∧ u = .own c) : PySem.W.kitOne K (tv C t) (tv C u) = some (sub t u) := by
  rcases ht with ht | ⟨c, hc, rfl⟩ <;> rcases hu with hu | ⟨d, hd, rfl⟩
  · exact kit_bb ht hu
  · rw [show tv C (.own d) = .ref (C.ca d) from rfl, ok.k1 d hd t ht]
    cases t <;> first | rfl | cases ht
  · rw [show tv C (.own c) = .ref (C.ca c) from rfl, ok.k2 c hc u hu]
    cases u <;> first | rfl | cases hu
  · rw [show tv C (.own c) = .ref (C.ca c) from rfl, show tv C (.own d) = .ref (C.ca d) from rfl, ok.k3 c hc d hd]
    simp [sub]
theorem clsV (C : Cl) (u : Ty) : ClsV (tV C u) (tv C u) := by cases u <;> first | exact .ty _ | exact .own _
theorem kit_any {C : Cl} {cs : List Nat} {t : Ty} (ok : ClOk K C cs) (ht : bi t = true ∨ ∃ c, c ∈ cs ∧ t = .own c) : ∀ us : List Ty, (∀ u ∈ us, bi u = true ∨ ∃ c, c ∈ cs ∧ u = .own c) → PySem.W.kitAny K (tv C t) (us.map (tv C)) = some (us.any (sub t))
  | [], _ => rfl
  | u :: us, h => by
    rw [List.map_cons, List.any_cons]
    exact kitAny_cons (kit_one ok ht (h u List.mem_cons_self)) (fun e => by rw [e, Bool.false_or]; exact kit_any ok ht us fun u hu => h u (List.mem_cons_of_mem _ hu)) fun e => by rw [e]; rfl
/-- isinstance(a, T) -/
theorem ge_isi {te : TE} {a : WE} {cs : List Nat} {u : Ty} (ok : ClOk K G.cl cs) (ha : GE G W te a) (hu : bi u = true ∨ ∃ c, c ∈ cs ∧ u = .own c) : GE G W (tCB (rIsi K) (tCons te (tCons (tC (tV G.cl u)) tNil))) (wUn (fIs cs [u]) a) := fun P H0 env σ H Q E Q' S h X k => by
  refine ha P H0 env σ H _ E _ S h X fun q e1 v H1 S1 K1 R1 h1 => ?_
  obtain ⟨z, e, h1⟩ := optP_of h1
  obtain ⟨x, e2, e3⟩ := bind_of e
  rw [fIs_eq] at e3
  obtain ⟨t, e4, e5⟩ := Option.map_eq_some_iff.mp e3
  subst e5
  obtain ⟨ty, bt⟩ := tyX_of ok (S1.res R1 e2) e4
  refine ⟨v, tV G.cl u, tv G.cl t, tv G.cl u, sub t u, rfl, clsV _ _, ty, kit_one ok bt hu, ?_⟩
  have e6 : ([u].any (sub t)) = sub t u := by simp
  rw [e6] at h1
  exact k (.d (.bl (sub t u))) e1 _ H1 S1 K1 (.bl _) h1
/-- isinstance(a, (T, U)) -/
theorem ge_isi2 {te : TE} {a : WE} {cs : List Nat} {u u' : Ty} (ok : ClOk K G.cl cs) (ha : GE G W te a) (hu : bi u = true ∨ ∃ c, c ∈ cs ∧ u = .own c) (hu' : bi u' = true ∨ ∃ c, c ∈ cs ∧ u' = .own c) :
    GE G W (tCB (rIsiT K) (tCons te (tCons (tTup (tCons (tC (tV G.cl u)) (tCons (tC (tV G.cl u')) tNil))) tNil))) (wUn (fIs cs [u, u']) a) := fun P H0 env σ H Q E Q' S h X k => by
  refine ha P H0 env σ H _ E _ S h X fun q e1 v H1 S1 K1 R1 h1 => ?_
  obtain ⟨z, e, h1⟩ := optP_of h1
  obtain ⟨x, e2, e3⟩ := bind_of e
  rw [fIs_eq] at e3
  obtain ⟨t, e4, e5⟩ := Option.map_eq_some_iff.mp e3
  subst e5
  refine ⟨by show 2 ≤ sizeLine; decide, fun p hp => ?_⟩
  have kc : Kc G H1 (upd H1 p (.tup [tV G.cl u, tV G.cl u'])) := Kc.new hp
  have S2 := S1.after kc
  have K2 := S1.kp kc
  obtain ⟨ty, bt⟩ := tyX_of ok (S2.res (RRep.step K2 R1) e2) e4
  refine ⟨v, p, _, tv G.cl t, [tv G.cl u, tv G.cl u'], _, rfl, upd_same, .cons (clsV _ _) (.cons (clsV _ _) .nil), ty, kit_any ok bt [u, u'] (fun w hw => by
    rcases List.mem_cons.mp hw with z | z
    · exact z ▸ hu
    · exact (List.mem_singleton.mp z) ▸ hu'), ?_⟩
  exact k (.d (.bl _)) e1 _ _ S2 (K1.trans K2) (.bl _) h1
end
end LW
end S8_

section S9_
set_option maxRecDepth 100000
set_option maxHeartbeats 1000000
/-! Own layer, part 9: instances made, fields read, own exceptions raised. -/
namespace LW
open PySem PySem.Spec PyProof.Rows L2 RZ

/-! ### C(..), where what its __init__ raises is wished for at the slots -/
section
variable {X : Cx} {CX : CXT} {k : Nat} {f C : Addr} {fd : FuncData} {ps : List Str} {sp : Sp} {E : L2.St → XK} {x : Str} {p pos : Pos} {e : Expr} {es : List Expr} {t : TA}
def tMakeS (C : Addr) (sp : Sp) (E : L2.St → XK) (t : TA) : TE := fun σ H Q => t σ H fun vs H1 => ∀ a dx, H1 a = none → H1 dx = none → dx ≠ a →
  sp (.ref a :: vs) (upd (upd H1 dx (.own a)) a (.ins C dx [])) (fun v H2 => v = .non ∧ Q (.ref a) H2) (E σ)
theorem pe_makeS (M : Mk X.K C f) (F : FnOk X.prog X.w X.K X.mg X.base CX k f fd ps sp) (hr : Room (k + 1) X.A) (hg : Gl X x) (hm : X.mg x = some (.ref C)) (hb : Binds X.K fd ps []) (hx : ∀ σ, PassesAt CX X σ (E σ)) (ha : PA X (e :: es) t)
    (hdb : (x == ("__debug__" : Str)) = false := by decide) (he : starEach (e :: es) X.env = (false, eval e X.env) :: starEach es X.env := by rfl) (hpl : (backTo pos (starEach es X.env)).any (·.1) = false := by rfl) : PE X (.Call (.Name x p) (e :: es) [] pos) (tMakeS C sp E t) := by
  constructor
  intro pins s σ H Q I h
  refine wpAny_Call_Name_kw (ld_glob I hg hm ?_ hdb)
  refine PySem.W.callWith_K (h₀ := X.base) I.ok.mod.kin M.kp (thn (ha.run pos pins s σ H _ I h) fun us s1 q0 => ?_) he hpl
  obtain ⟨vs, H1, I1, r, q⟩ := q0
  refine ⟨I1.kIn, ?_⟩
  have q2 := q (s1.heap.objs.size + 1) s1.heap.objs.size (I1.hok.fresh (Nat.le_succ _)) (I1.hok.fresh (Nat.le_refl _)) (Nat.ne_of_lt (Nat.lt_succ_self _))
  have I2 := Inv.made (C := C) I1
  have rr : Vals (V.ref (s1.heap.objs.size + 1) :: vs) (Value.ref (s1.heap.objs.size + 1) :: us) := .cons rfl r
  have hl : (Value.ref (s1.heap.objs.size + 1) :: us).length = ps.length := by rw [← rr.length]; exact F.len _ _ _ _ q2
  have hbb := hb _ (Value.ref (s1.heap.objs.size + 1) :: us) I2.kIn (by rw [List.append_nil]; exact hl)
  rw [List.append_nil] at hbb
  refine wpAny_call (make_map (f := f) I1.kIn M.makes M.init (beq_iff_eq.mp M.fn) (codeAny_mono (F.run _ X.stack _ _ ⟨Value.ref (s1.heap.objs.size + 1) :: us, []⟩ _ _ _ (E σ) (hr.make C us []) (I2.env0.make C us []) hbb rr q2) fun res s' hq => ?_))
  cases res with
  | error er => exact hx σ pins _ _ er s' I2 hq
  | ok fl =>
    cases fl with
    | ret u =>
      obtain ⟨v, H', I3, rv, ev, q3⟩ := I2.after hq
      subst ev
      exact ⟨rv, ⟨V.ref (s1.heap.objs.size + 1), H', I3, rfl, q3⟩⟩
    | next => exact hq.elim
    | brk => exact hq.elim
    | cont => exact hq.elim
end
/-- an __init__'s promise: the answer is the instance -/
def promI (C : Cl) (c : Nat) (ct : Ct) : Sp := fun vs H Q E => ∃ (h cc : Addr) (P : Addr → Prop) (ds : List D) (q e : D → Prop) (a dx : Addr) (ws : List V), vs = .ref a :: ws ∧ P h ∧ P cc ∧ (∀ b, P b → ∃ o, H b = some o) ∧ ¬ P a ∧ H a = some (.ins (C.ca c) dx []) ∧
  Reps ⟨C, h, cc⟩ (And1 P a) H ws ds ∧ ct ds q e ∧
  (∀ y H1, (∀ b o, b ≠ h → b ≠ a → H b = some o → H1 b = some o) → (IsHand ⟨C, h, cc⟩ H → IsHand ⟨C, h, cc⟩ H1) → (∀ b o, b ≠ a → H b = some o → ∃ u, H1 b = some u) → Rep ⟨C, h, cc⟩ P H1 (.ref a) y → q y → Q .non H1) ∧
  (∀ y cls d H1, (∀ b o, b ≠ h → b ≠ a → H b = some o → H1 b = some o) → (IsHand ⟨C, h, cc⟩ H → IsHand ⟨C, h, cc⟩ H1) → (∀ b o, b ≠ a → H b = some o → ∃ u, H1 b = some u) → XRep ⟨C, h, cc⟩ P H1 cls d y → e y → E cls d H1)
section
variable {G : Gx} {W : WX} {K : PySem.W.Frag}
theorem ge_make {ta : TA} {as : WA} {c : Nat} {ct : Ct} (ha : GA G W ta as) : GE G W (tMakeS (G.cl.ca c) (promI G.cl c ct) (L2.WE W) ta) (wCall ct as) := fun P H0 env σ H Q E Q' S h X k => by
  refine ha P H0 env σ H _ E _ S h X fun ds e1 vs H1 S1 K1 R1 h1 => ?_
  intro a dx na nd ne
  have k1 : Kc G H1 (upd H1 dx (.own a)) := Kc.new nd
  have na2 : upd H1 dx (.own a) a = none := by rw [upd_ne (Ne.symm ne)]; exact na
  have k2 : Kc G (upd H1 dx (.own a)) (upd (upd H1 dx (.own a)) a (.ins (G.cl.ca c) dx [])) := Kc.new na2
  have kc := k1.trans k2
  have S2 := S1.after kc
  have noa : ¬ Ow P e1 σ a := S1.fresh na
  have kp : Kp G (Ow P e1 σ) H1 (And1 (Ow P e1 σ) a) (upd (upd H1 dx (.own a)) a (.ins (G.cl.ca c) dx [])) := ⟨fun b o q n => ⟨((S1.kp kc).at_ b o q n).1, fun z => z.elim n (ne_of_none q na)⟩, kc.hnd⟩
  refine ⟨G.h, G.c, Ow P e1 σ, ds, _, _, a, dx, vs, rfl, .inl S1.ph, .inl S1.pc, fun b q => S2.odom q, noa, upd_same, R1.step kp, h1, fun y H3 q1 q2 q3 r qy => ⟨rfl, ?_⟩, fun y cls d H3 q1 q2 q3 r qy => ?_⟩
  · have k3 : Kc G H1 H3 := ⟨fun b o n q => q1 b o n (ne_of_none q na) (kc.at_ b o n q), fun q => q2 (kc.hnd q), fun b o q => let ⟨u, z⟩ := kc.dom b o q; q3 b u (ne_of_none q na) z⟩
    exact k (.d y) e1 _ H3 (S1.after k3) (K1.trans (S1.kp k3)) r qy
  · have k3 : Kc G H1 H3 := ⟨fun b o n q => q1 b o n (ne_of_none q na) (kc.at_ b o n q), fun q => q2 (kc.hnd q), fun b o q => let ⟨u, z⟩ := kc.dom b o q; q3 b u (ne_of_none q na) z⟩
    exact X y e1 cls d H3 (S1.after k3) r qy

/-! ### a field -/
theorem zip_lookup : ∀ {ns : List Str} {vs : List V} {i : Nat} {nm : Str} {v : V}, ns.Nodup → ns[i]? = some nm → vs[i]? = some v → (ns.zip vs).lookup nm = some v
  | [], _, _, _, _, _, h, _ => by simp at h
  | _ :: _, [], _, _, _, _, _, h => by simp at h
  | n :: ns, u :: vs, 0, nm, v, _, h1, h2 => by
    simp at h1 h2
    subst h1
    subst h2
    simp [List.lookup]
  | n :: ns, u :: vs, i + 1, nm, v, nd, h1, h2 => by
    have q := zip_lookup (i := i) (List.nodup_cons.mp nd).2 (by simpa using h1) (by simpa using h2)
    have ne : (nm == n) = false := by
      refine beq_eq_false_iff_ne.mpr fun z => (List.nodup_cons.mp nd).1 ?_
      rw [← z]
      exact List.mem_of_getElem? (by simpa using h1)
    show (match nm == n with | true => some u | false => (ns.zip vs).lookup nm) = some v
    rw [ne]
    exact q
theorem ge_fld {te : TE} {a : WE} {cs : List Nat} {c i : Nat} {nm : Str} (ok : ClOk K G.cl cs) (hc : c ∈ cs) (hn : (G.cl.cf c)[i]? = some nm) (nd : (G.cl.cf c).Nodup) (na : NoAttr K (G.cl.ca c) nm) (ha : GE G W te a) : GE G W (tFld K te nm) (wUn (fFld c i) a) := fun P H0 env σ H Q E Q' S h X k => by
  refine ha P H0 env σ H _ E _ S h X fun q e1 v H1 S1 K1 R1 hq => ?_
  obtain ⟨z, e, h1⟩ := optP_of hq
  obtain ⟨x, e2, e3⟩ := bind_of e
  have r := S1.res R1 e2
  clear hq
  unfold fFld at e3
  split at e3
  · split at e3
    · rename_i hd
      subst hd
      cases (show Rep G (Ow P e1 σ) H1 v (.obj _ _) from r) with
      | obj no ea l rr =>
        obtain ⟨u, hu, ru⟩ := rr.get i e3
        exact ⟨_, _, _, _, u, rfl, ea, ok.cls _ hc, na, zip_lookup nd hn hu, k (.d z) e1 u H1 S1 K1 ru h1⟩
    · cases e3
  · cases e3
end

/-! ### an own exception with two fields -/
/-- self.f = f; self.g = g -/
def spX2 (K : PySem.W.Frag) (f g : Str) : Sp := fun vs H Q _ => ∃ (a C : Addr) (v1 v2 : V), vs = [.ref a, v1, v2] ∧ H a = some (exo a C none) ∧ OexC K C ∧ PySem.W.findIn K (.ref C) f = some none ∧ PySem.W.findIn K (.ref C) g = some none ∧
  ∀ (dx : Addr) (H' : Hp), H dx = none → dx ≠ a → H' a = some (exo a C (some dx)) → H' dx = some (exd dx [(g, v2), (f, v1)]) → (∀ b, b ≠ a → b ≠ dx → H' b = H b) → Q .non H'
theorem x2_run {K : PySem.W.Frag} {f g : Str} {N : List Str} {vs : List V} {H : Hp} {Q : VK} {E : XK} (hN : N.length = 3) (h : spX2 K f g vs H Q E) :
    (tSeq (tOst K f (tVar 0) (tVar 1)) (tOst K g (tVar 0) (tVar 2))) { nx := fun _ H' => Q .non H', rt := Q } (L2.start N vs) H := by
  obtain ⟨a, C, v1, v2, rfl, ha, hC, hf, hg, hq⟩ := h
  have e : L2.start N [V.ref a, v1, v2] = [some (.ref a), some v1, some v2] := by
    unfold L2.start
    rw [hN]
    rfl
  rw [e]
  refine ⟨v1, rfl, _, rfl, a, C, rfl, hC, hf, .inl ⟨ha, fun dx nd ne => ?_⟩⟩
  refine ⟨v2, rfl, _, rfl, a, C, rfl, hC, hg, .inr ⟨dx, _, upd_same, by rw [upd_ne ne]; exact upd_same, by show 1 ≤ 900; decide, ?_⟩⟩
  refine hq dx _ nd ne (by rw [upd_ne (Ne.symm ne)]; exact upd_same) upd_same fun b h1 h2 => ?_
  rw [upd_ne h2, upd_ne h1, upd_ne h2]
section
variable {G : Gx} {W : WX} {K : PySem.W.Frag}
theorem gs_raise2 {ta : TA} {as : WA} {c : Nat} {f g : Str} (T : OexC K (G.cl.ca c)) (hf : PySem.W.findIn K (.ref (G.cl.ca c)) f = some none) (hg : PySem.W.findIn K (.ref (G.cl.ca c)) g = some none) (hc : G.cl.cf c = [f, g]) (ne : f ≠ g) (ha : GA G W ta as) :
    GS G W (fun _ σ H => tMkO (G.cl.ca c) (spX2 K f g) [] ta σ H fun cls d H' => W cls d σ H') (sRaise c as) := fun P H0 env σ H Z E Z' S h X k => by
  refine ha P H0 env σ H _ E _ S h (X.at_ σ) fun ds e1 vs H1 S1 K1 R1 h1 => ?_
  obtain ⟨hlen, h1⟩ := h1
  refine ⟨by rw [R1.length, hlen]; decide, fun a na => ?_⟩
  cases R1 with
  | nil => cases hlen
  | cons r1 rr =>
    cases rr with
    | nil => cases hlen
    | cons r2 rr =>
      cases rr with
      | cons _ _ => cases hlen
      | nil =>
        rename_i v1 x1 v2 x2
        refine ⟨a, G.cl.ca c, v1, v2, rfl, upd_same, T, hf, hg, fun dx H' nd ne' e1' e2' e3' => ⟨rfl, dx, _, e1', e2', ?_, ?_⟩⟩
        · rw [upd_ne ne'] at nd
          exact nd
        · rw [upd_ne ne'] at nd
          have same : ∀ b o, H1 b = some o → upd (del H' a) dx (.xd [(g, v2), (f, v1)]) b = some o := fun b o q => by
            have h1 : b ≠ a := ne_of_none q na
            have h2 : b ≠ dx := ne_of_none q nd
            rw [upd_ne h2, del_ne h1, e3' b h1 h2, upd_ne h1]
            exact q
          have kc : Kc G H1 (upd (del H' a) dx (.xd [(g, v2), (f, v1)])) := ⟨fun b o _ q => same b o q, fun q => q.keep fun b o _ q => same b o q, fun b o q => ⟨o, same b o q⟩⟩
          refine X (.obj c [x1, x2]) _ σ _ _ _ (S1.after kc) ⟨c, _, rfl, rfl, .inr ⟨(fun z => by cases z), dx, _, rfl, upd_same, fun i nm y q1 q2 => ?_⟩⟩ h1
          rw [hc] at q1
          match i, q1, q2 with
          | 0, q1, q2 =>
            cases q1
            cases q2
            refine ⟨v1, ?_, r1.step (S1.kp kc)⟩
            have : (f == g) = false := beq_eq_false_iff_ne.mpr ne
            simp [List.lookup, this]
          | 1, q1, q2 =>
            cases q1
            cases q2
            exact ⟨v2, by simp [List.lookup], r2.step (S1.kp kc)⟩
          | i + 2, q1, q2 => simp at q1
end
end LW
end S9_

section S10_
set_option maxRecDepth 100000
set_option maxHeartbeats 1000000
/-! Own layer, part 10: lists of ranges, slices with a step, enumerate over anything, several targets, {}. -/
namespace LW
open PySem PySem.Spec PyProof.Rows L2 RZ

section
variable {G : Gx} {W : WX} {K : PySem.W.Frag}
theorem gf_listRg {te : TE} {a : WE} (ha : GE G W te a) : GF G W (tLstRg (tRg1 te)) (wUnF (fun x => (asInt x).bind fun j => if 0 ≤ j ∧ j ≤ 1000 then some (rangeD j.toNat 0) else none) a) := fun P H0 env σ H Q E Q' S h X k => by
  refine ha P H0 env σ H _ E _ S h X fun q e1 v H1 S1 K1 R1 hq => ?_
  obtain ⟨z, e, h1⟩ := optP_of hq
  obtain ⟨x, e2, e3⟩ := bind_of e
  obtain ⟨j, e4, e5⟩ := bind_of e3
  cases asInt_of e4
  have hv := (S1.res R1 e2).int
  subst hv
  split at e5
  · rename_i hj
    cases e5
    refine ⟨j, rfl, ⟨by omega, by omega, by omega, by omega, by omega⟩, fun p hp => ?_⟩
    have rr : Reps G (Ow P e1 σ) H1 (rgV 0 j) (rangeD j.toNat 0) := by
      have e6 : (rgV 0 j) = ((List.range j.toNat).map fun (i : Nat) => (0 : Int) + i).map V.int := by
        unfold rgV
        rw [List.map_map, Int.sub_zero]
        rfl
      have e7 : rangeD j.toNat 0 = ((List.range j.toNat).map fun (i : Nat) => (0 : Int) + i).map D.int := by
        unfold rangeD
        rw [List.map_map]
        rfl
      rw [e6, e7]
      exact Reps.ofInts _
    obtain ⟨a1, a2, a3, a4, a5⟩ := gf_new S1 hp rr
    exact k _ e1 p _ _ a1 (K1.trans a2) upd_same a3 a4 a5 h1
  · cases e5
theorem ge_tupRg {te : TE} {a : WE} (ha : GE G W te a) : GE G W (tTupRg (tRg1 te)) (wUn (fun x => (asInt x).bind fun j => if 0 ≤ j ∧ j ≤ 1000 then some (.tup (rangeD j.toNat 0)) else none) a) := fun P H0 env σ H Q E Q' S h X k => by
  refine ha P H0 env σ H _ E _ S h X fun q e1 v H1 S1 K1 R1 hq => ?_
  obtain ⟨z, e, h1⟩ := optP_of hq
  obtain ⟨x, e2, e3⟩ := bind_of e
  obtain ⟨j, e4, e5⟩ := bind_of e3
  cases asInt_of e4
  have hv := (S1.res R1 e2).int
  subst hv
  split at e5
  · rename_i hj
    cases e5
    refine ⟨j, rfl, ⟨by omega, by omega, by omega, by omega, by omega⟩, fun p hp => ?_⟩
    have rr : Reps G (Ow P e1 σ) H1 (rgV 0 j) (rangeD j.toNat 0) := by
      have e6 : (rgV 0 j) = ((List.range j.toNat).map fun (i : Nat) => (0 : Int) + i).map V.int := by
        unfold rgV
        rw [List.map_map, Int.sub_zero]
        rfl
      have e7 : rangeD j.toNat 0 = ((List.range j.toNat).map fun (i : Nat) => (0 : Int) + i).map D.int := by
        unfold rangeD
        rw [List.map_map]
        rfl
      rw [e6, e7]
      exact Reps.ofInts _
    have kc : Kc G H1 (upd H1 p (.tup (rgV 0 j))) := Kc.new hp
    exact k (.d _) e1 _ _ (S1.after kc) (K1.trans (S1.kp kc)) (.tup (S1.fresh hp) upd_same (rr.step (S1.kp kc))) h1
  · cases e5
/-- {} -/
theorem ge_dct0 : GE G W tDNewK (wC (.dct [] [])) := fun P H0 env σ H Q E Q' S h X k => fun p hp => by
  have kc : Kc G H (upd H p (.dK [])) := Kc.new hp
  exact k (.d (.dct [] [])) env _ _ (S.after kc) (S.kp kc) (.dct (kk := []) (vs := []) (S.fresh hp) upd_same rfl .nil) h
end

/-! ### a slice with a step: some of the items -/
section
variable {X : Cx}
/-- xs[lo::st], xs a list -/
def tSlSt (K : PySem.W.Frag) (te : TE) (tl ts : TO) : TE := fun σ H Q => te σ H fun x H1 => tl σ H1 fun lo H2 => ts σ H2 fun st H3 => ∃ a xs, x = .ref a ∧ SqL K H3 a xs ∧ st ≠ some 0 ∧
  ∀ js : List Nat, (js.filterMap fun j => xs[j]?).length ≤ xs.length → ∀ p, H3 p = none → Q (.ref p) (upd H3 p (.lst (js.filterMap fun j => xs[j]?)))
theorem vals_pick {xs : List V} {its : List Value} (r : Vals xs its) : ∀ js : List Nat, Vals (js.filterMap fun j => xs[j]?) (js.filterMap fun j => its[j]?)
  | [] => .nil
  | j :: js => by
    rw [List.filterMap_cons, List.filterMap_cons]
    cases q : xs[j]? with
    | none =>
      rw [Vals.none_of r q]
      exact vals_pick r js
    | some x =>
      obtain ⟨u, e1, e2⟩ := r.get q
      rw [e1]
      exact .cons e2 (vals_pick r js)
theorem pe_slSt {e lo st : Expr} {te : TE} {tl ts : TO} {p3 pos : Pos} (he : PE X e te) (hl : PO X (some lo) tl) (hs : PO X (some st) ts) : PE X (.Subscript e (.Slice (some lo) none (some st) p3) pos) (tSlSt X.K te tl ts) := by
  constructor
  intro pins s σ H Q I h
  refine Subscript_ (thn (he.run pins s σ H _ I h) fun v s1 q0 => ?_)
  obtain ⟨x, H1, I1, r1, q1⟩ := q0
  refine wpAny_Slice (thn (hl.run pins s1 σ H1 _ I1 q1) fun vl s2 q2 => ?_)
  obtain ⟨l, H2, I2, pl, q2⟩ := q2
  refine thn (po_none.run pins s2 σ H2 (fun o H3 => o = none ∧ H3 = H2) I2 ⟨rfl, rfl⟩) fun vu s3 q3 => ?_
  obtain ⟨u, H3, I3, pu, eu, e3⟩ := q3
  subst eu e3
  refine thn (hs.run pins s3 σ H3 _ I3 q2) fun vs s4 q4 => ?_
  obtain ⟨o, H4, I4, ps, a, xs, ex, hx, n0, q⟩ := q4
  subst ex
  cases r1
  have I5 : Inv X pins σ H4 { s4 with heap := s4.heap.push { cls := .type "slice", data := .fields #[vl, vu, vs] } } := I4.kept (t' := s4.toks) fun b ob z => Heap.get?_push_of_some _ z
  obtain ⟨its, r, ht, hz⟩ := I5.list hx
  have hlen := r.length
  show wpAny _ _ (subscriptTail e (.Slice (some lo) none (some st) p3) (.ref a) (.ref s4.heap.objs.size)) _ _ _
  refine tail_any (ops := [.ref a, .ref s4.heap.objs.size]) ht.isList.typeIs (PySem.slot_list_getitem.lookup) ?_ (by with_unfolding_all rfl)
  refine wpAny_getItem_list_slice ht.isList (Heap.IsSliceOf.new _ vl vu vs) pl pu ps n0 ?_ (by rw [List.size_toArray]; omega)
  have hle := slicePick_size_le its.toArray l none o
  have hp : ∃ js : List Nat, slicePick its.toArray l none o = (js.filterMap fun j => its[j]?).toArray := ⟨_, by unfold slicePick; simp only [List.getElem?_toArray]; rfl⟩
  obtain ⟨js, ep⟩ := hp
  rw [ep] at hle ⊢
  have e8 := (vals_pick r js).length
  rw [List.size_toArray, List.size_toArray] at hle
  refine ⟨.ref _, _, I5.laid (t' := s4.toks) (o := .lst (js.filterMap fun j => xs[j]?)) (fun b ob z => Heap.get?_push_of_some _ z) (Nat.le_refl _) ?_, rfl, q js (by omega) _ (I5.hok.fresh (Nat.le_refl _))⟩
  exact ⟨by omega, _, 0, vals_pick r js, Heap.get?_push_size _ rfl⟩
end
section
variable {prog : Program} {w : World} {A : Around} {E : Value → Shared → Prop} {s : Shared}
theorem applied_back {sl : Addr} {vs : Value} {n : Nat} {Q : Int × Int × Nat → Shared → Prop} (hs : s.heap.IsSliceOf sl .none .none vs) (ps : IsPart vs (some (-1))) (h : Q ((n : Int) - 1, -1, n) s) :
    wpAny (model prog w) A (Builtin.Slice.sliceApplied (.ref sl) (pure (n : Int))) Q E s := by
  obtain ⟨os, hos, hcs, hds⟩ := id hs
  unfold Builtin.Slice.sliceApplied Builtin.Slice.sliceFields
  refine wpAny_bind (wpAny_bind (wpAny_field hos hds (x := .none) rfl (wpAny_bind (wpAny_field hos hds (x := .none) rfl (wpAny_bind (wpAny_field hos hds (x := vs) rfl (wpAny_pure ?_)))))))
  refine wpAny_bind (HT.slicePart_ ps ?_)
  show wpAny _ _ (if ((-1 : Int) == 0) = true then _ else _) _ _ s
  rw [if_neg (by decide)]
  refine wpAny_bind (HT.slicePart_ .none (wpAny_bind (HT.slicePart_ .none (wpAny_bind (wpAny_pure ?_)))))
  have e : Builtin.Slice.slicePlaces ((n : Int) - 1) (-1) (-1) = n := by
    unfold Builtin.Slice.slicePlaces
    rw [if_neg (by decide)]
    split
    · simp only [Int.neg_neg, Int.ediv_one]
      omega
    · omega
  show wpAny _ _ (pure ((n : Int) - 1, (-1 : Int), Builtin.Slice.slicePlaces ((n : Int) - 1) (-1) (-1))) _ _ s
  rw [e]
  exact wpAny_pure h
theorem getItem_tuple_back {t sl : Addr} {items : Array Value} {vs : Value} {Q : Value → Shared → Prop} (ht : IsTup s.heap t items) (hs : s.heap.IsSliceOf sl .none .none vs) (ps : IsPart vs (some (-1)))
    (h : Q (.ref s.heap.objs.size) { s with heap := s.heap.push { cls := .type "tuple", data := .seq ((List.range items.size).filterMap fun (k : Nat) => items[((items.size : Int) - 1 + (k : Int) * -1).toNat]?).toArray } })
    (hsz : items.size ≤ sizeLine) : wpAny (model prog w) A (getItem (.ref t) (.ref sl)) Q E s := by
  have fits : sizeOk (.seq ((List.range items.size).filterMap fun (k : Nat) => items[((items.size : Int) - 1 + (k : Int) * -1).toNat]?).toArray) := by
    show (List.toArray _).size ≤ sizeLine
    rw [List.size_toArray]
    refine Nat.le_trans (List.length_filterMap_le _ _) ?_
    rw [List.length_range]
    exact hsz
  have hTs : s.TypeIs (.ref sl) "slice" := let ⟨os, hos, hcs, _⟩ := hs; ⟨os, hos, hcs⟩
  unfold getItem
  try with_reducible refine wpAny_holding ?_
  first | refine wpAny_bind (wpAny_pure ?_) | skip
  refine wpAny_bind (wpAny_sequenceKey ht.typeIs (by decide) ?_)
  refine wpAny_bind (wpAny_callSpecial?_slot (name := Str.ofString "__getitem__") ht.typeIs PyProof.Rows.slot_tuple_getitem (wpAny_call_entry PyProof.Rows.slot_tuple_getitem ht.typeIs entry_tuple_getitem ?_ (args_tuple_getitem _ _)))
  show wpAny _ _ (Builtin.Tuple.tupleItemsOf (.ref t) >>= _) _ _ s
  refine wpAny_bind (PyProof.Rows.tupleItemsOf_ ht ?_)
  refine wpAny_bind (wpAny_typeOf hTs ?_)
  rw [if_pos (by decide)]
  refine wpAny_bind (applied_back hs ps ?_)
  have no : ¬ ((((items.size : Int) - 1) == 0 && (-1 : Int) == 1 && items.size == items.size) = true) := by
    simp
  show wpAny _ _ (if (((items.size : Int) - 1) == 0 && (-1 : Int) == 1 && items.size == items.size) = true then _ else _) _ _ s
  rw [if_neg no]
  first
    | exact wpAny_bind (m := Builtin.Tuple.tupleExact _) (wpAny_newObj_type (wpAny_pure ⟨_, rfl, wpAny_pure h⟩) fits)
    | exact wpAny_bind (m := Builtin.Tuple.tupleExact _) (wpAny_newObj_type (wpAny_bind (wpAny_pure (wpAny_pure ⟨_, rfl, wpAny_pure h⟩))) fits)
    | exact wpAny_bind (wpAny_bind (m := Builtin.Tuple.tupleExact _) (wpAny_newObj_type (wpAny_pure (wpAny_pure ⟨_, rfl, wpAny_pure h⟩)) fits))
    | exact wpAny_bind (wpAny_bind (m := Builtin.Tuple.tupleExact _) (wpAny_newObj_type (wpAny_pure ⟨_, rfl, wpAny_pure h⟩) fits))
end
section
variable {X : Cx}
/-- xs[::-1], a list or a tuple: some items -/
def tBack (K : PySem.W.Frag) (te : TE) : TE := fun σ H Q => te σ H fun x H1 => ∃ a xs, x = .ref a ∧ ((SqL K H1 a xs ∧ ∀ p, H1 p = none → Q (.ref p) (upd H1 p (.lst xs.reverse))) ∨
  (SqT K H1 a xs ∧ ∀ p, H1 p = none → Q (.ref p) (upd H1 p (.tup xs.reverse))))
theorem back_eq {α : Type} (xs : List α) : ((List.range xs.length).filterMap fun (k : Nat) => xs[((xs.length : Int) - 1 + (k : Int) * -1).toNat]?) = xs.reverse := by
  have h : ∀ n, n ≤ xs.length → ((List.range n).filterMap fun (k : Nat) => xs[((xs.length : Int) - 1 + (k : Int) * -1).toNat]?) = xs.reverse.take n := by
    intro n
    induction n with
    | zero => intro _; simp
    | succ n ih =>
      intro hn
      rw [List.range_succ, List.filterMap_append, ih (by omega), List.take_add_one]
      congr 1
      have e : ((xs.length : Int) - 1 + (n : Int) * -1).toNat = xs.length - 1 - n := by omega
      have e2 : xs.reverse[n]? = xs[xs.length - 1 - n]? := List.getElem?_reverse (by omega)
      rw [e2]
      have hlt : xs.length - 1 - n < xs.length := by omega
      simp only [List.filterMap_cons, List.filterMap_nil, e, List.getElem?_eq_getElem hlt, Option.toList]
  have := h xs.length (Nat.le_refl _)
  rw [this]
  rw [← List.length_reverse (as := xs), List.take_length]
theorem pe_back {e : Expr} {te : TE} {kk : Nat} {p1 p2 p3 pos : Pos} (he : PE X e te) : PE X (.Subscript e (.Slice none none (some (.UnaryOp .USub (.Constant (.int 1) kk p1) p2)) p3) pos) (tBack X.K te) := by
  constructor
  intro pins s σ H Q I h
  refine Subscript_ (thn (he.run pins s σ H _ I h) fun v s1 q0 => ?_)
  obtain ⟨x, H1, I1, r1, a, xs, ex, q1⟩ := q0
  subst ex
  cases r1
  have hst : PO X (some (.UnaryOp .USub (.Constant (.int 1) kk p1) p2)) (tPart (tUn (rU fun i => .int (-i)) (tC (.int 1)))) := po_some (pe_un un_neg pe_int)
  refine wpAny_Slice (thn (po_none.run pins s1 σ H1 (fun o H2 => o = none ∧ H2 = H1) I1 ⟨rfl, rfl⟩) fun vl s2 q2 => ?_)
  obtain ⟨l, H2, I2, pl, el, e2⟩ := q2
  subst el e2
  refine thn (po_none.run pins s2 σ H2 (fun o H3 => o = none ∧ H3 = H2) I2 ⟨rfl, rfl⟩) fun vu s3 q3 => ?_
  obtain ⟨u, H3, I3, pu, eu, e3⟩ := q3
  subst eu e3
  refine thn (hst.run pins s3 σ H3 (fun o H4 => o = some (-1) ∧ H4 = H3) I3 ⟨1, rfl, -1, rfl, rfl, rfl⟩) fun vs s4 q4 => ?_
  obtain ⟨o, H4, I4, ps, eo, e4⟩ := q4
  subst eo e4
  have I5 : Inv X pins σ H4 { s4 with heap := s4.heap.push { cls := .type "slice", data := .fields #[vl, vu, vs] } } := I4.kept (t' := s4.toks) fun b ob z => Heap.get?_push_of_some _ z
  show wpAny _ _ (subscriptTail e (.Slice none none (some (.UnaryOp .USub (.Constant (.int 1) kk p1) p2)) p3) (.ref a) (.ref s4.heap.objs.size)) _ _ _
  rcases q1 with ⟨hx, q⟩ | ⟨hx, q⟩
  · obtain ⟨its, r, ht, hz⟩ := I5.list hx
    have hlen := r.length
    refine tail_any (ops := [.ref a, .ref s4.heap.objs.size]) ht.isList.typeIs (PySem.slot_list_getitem.lookup) ?_ (by with_unfolding_all rfl)
    refine wpAny_getItem_list_slice ht.isList (Heap.IsSliceOf.new _ vl vu vs) pl pu ps (by decide) ?_ (by rw [List.size_toArray]; omega)
    rw [PySem.W.krv_pick]
    exact ⟨.ref _, _, I5.laid (t' := s4.toks) (o := .lst xs.reverse) (fun b ob z => Heap.get?_push_of_some _ z) (Nat.le_refl _) ⟨by rw [List.length_reverse]; exact hz, _, 0, r.reverse, Heap.get?_push_size _ rfl⟩, rfl, q _ (I5.hok.fresh (Nat.le_refl _))⟩
  · obtain ⟨its, r, ht, hz⟩ := I5.tuple hx
    have hlen := r.length
    cases pl
    cases pu
    refine tail_any (ops := [.ref a, .ref s4.heap.objs.size]) ht.typeIs (PyProof.Rows.slot_tuple_getitem.lookup) ?_ (by with_unfolding_all rfl)
    refine getItem_tuple_back ht (Heap.IsSliceOf.new _ _ _ vs) ps ?_ (by rw [List.size_toArray]; omega)
    have eq : ((List.range its.toArray.size).filterMap fun (k : Nat) => its.toArray[((its.toArray.size : Int) - 1 + (k : Int) * -1).toNat]?) = its.reverse := by
      rw [← back_eq its]
      simp only [List.size_toArray, List.getElem?_toArray]
    rw [eq]
    exact ⟨.ref _, _, I5.laid (t' := s4.toks) (o := .tup xs.reverse) (fun b ob z => Heap.get?_push_of_some _ z) (Nat.le_refl _) ⟨by rw [List.length_reverse]; exact hz, _, r.reverse, ⟨_, Heap.get?_push_size _ rfl, rfl, 0, rfl⟩⟩, rfl, q _ (I5.hok.fresh (Nat.le_refl _))⟩
end
section
variable {G : Gx} {W : WX} {K : PySem.W.Frag}
theorem Reps.pick {O : Addr → Prop} {H : Hp} {vs : List V} {xs : List D} (r : Reps G O H vs xs) : ∀ js : List Nat, ∃ ys, Reps G O H (js.filterMap fun j => vs[j]?) ys ∧ ∀ y ∈ ys, y ∈ xs
  | [] => ⟨[], .nil, fun _ h => nomatch h⟩
  | j :: js => by
    obtain ⟨ys, r2, h2⟩ := Reps.pick r js
    rw [List.filterMap_cons]
    cases q : vs[j]? with
    | none => exact ⟨ys, r2, h2⟩
    | some v =>
      obtain ⟨x, hx, rx⟩ := r.getV j q
      exact ⟨x :: ys, .cons rx r2, fun y hy => (List.mem_cons.mp hy).elim (fun e => e ▸ List.mem_of_getElem? hx) (h2 y)⟩
theorem Reps.reverse {O : Addr → Prop} {H : Hp} : ∀ {vs : List V} {xs : List D}, Reps G O H vs xs → Reps G O H vs.reverse xs.reverse
  | _, _, .nil => .nil
  | _, _, .cons h t => by
    rw [List.reverse_cons, List.reverse_cons]
    exact (Reps.reverse t).append (.cons h .nil)
theorem ge_some {te : TE} {tl ts : TO} {a : WE} {lo st : WO} (ha : GE G W te a) (hl : GO G W tl lo) (hs : GO G W ts st) : GE G W (tSlSt K te tl ts) (wSome a lo st) := fun P H0 env σ H Q E Q' S h X k => by
  refine ha P H0 env σ H _ E _ S h X fun q e1 v H1 S1 K1 R1 h1 => ?_
  refine hl P H0 e1 σ H1 _ E _ S1 h1 X fun l e2 H2 S2 K2 h2 => ?_
  refine hs P H0 e2 σ H2 _ E _ S2 h2 X fun m e3 H3 S3 K3 h3 => ?_
  obtain ⟨n0, h3⟩ := h3
  obtain ⟨x, ex, h3⟩ := optP_of h3
  have r := S3.res ((R1.step K2).step K3) ex
  cases x with
  | lst xs =>
    obtain ⟨b, vs, rfl, eb, rb⟩ := r.lst
    refine ⟨b, vs, rfl, SqL.of eb, n0, fun js hle p hp => ?_⟩
    obtain ⟨ys, ry, hy⟩ := rb.pick js
    have kc : Kc G H3 (upd H3 p (.lst (js.filterMap fun j => vs[j]?))) := Kc.new hp
    exact k (.d (.lst ys)) e3 _ _ (S3.after kc) (((K1.trans K2).trans K3).trans (S3.kp kc)) (.lst (S3.fresh hp) upd_same (ry.step (S3.kp kc))) (h3 ys hy (by rw [← ry.length, ← rb.length]; exact hle))
  | _ => exact h3.elim
theorem ge_back {te : TE} {a : WE} (ha : GE G W te a) : GE G W (tBack K te) (wUn fBack a) := fun P H0 env σ H Q E Q' S h X k => by
  refine ha P H0 env σ H _ E _ S h X fun q e1 v H1 S1 K1 R1 hq => ?_
  obtain ⟨z, e, h1⟩ := optP_of hq
  obtain ⟨x, ex, e⟩ := bind_of e
  have r := S1.res R1 ex
  unfold fBack at e
  split at e
  · cases e
    obtain ⟨b, vs, rfl, eb, rb⟩ := r.lst
    refine ⟨b, vs, rfl, .inl ⟨SqL.of eb, fun p hp => ?_⟩⟩
    have kc : Kc G H1 (upd H1 p (.lst vs.reverse)) := Kc.new hp
    exact k (.d _) e1 _ _ (S1.after kc) (K1.trans (S1.kp kc)) (.lst (S1.fresh hp) upd_same (rb.reverse.step (S1.kp kc))) h1
  · cases e
    obtain ⟨b, vs, rfl, nb, eb, rb⟩ := r.tup
    refine ⟨b, vs, rfl, .inr ⟨SqT.of eb, fun p hp => ?_⟩⟩
    have kc : Kc G H1 (upd H1 p (.tup vs.reverse)) := Kc.new hp
    exact k (.d _) e1 _ _ (S1.after kc) (K1.trans (S1.kp kc)) (.tup (S1.fresh hp) upd_same (rb.reverse.step (S1.kp kc))) h1
  · cases e
end
end LW
end S10_

section S11_
set_option maxRecDepth 100000
set_option maxHeartbeats 2000000
/-! Own layer, part 11: enumerate of a tuple. -/
namespace LW
open PySem PySem.Spec PyProof.Rows L2 RZ

theorem enum_newB {v : Value} {o : Obj} {Hc : Heap → Prop} (B : Begins v o Hc) :
    Meets (Builtin.«enumerate.__new__» ⟨[.type "enumerate", v], []⟩) (fun _ R s => Hc s.heap ∧
      R (.ok (.ret (.ref (s.heap.push o).objs.size))) { s with heap := (s.heap.push o).push { cls := .type "enumerate", data := .fields #[.none, .bool false, .ref s.heap.objs.size, rawInt 0, .none, .none] } }) := by
  refine .of_wp fun prog w A R s h => ?_
  obtain ⟨hp, g, d, tk, os⟩ := s
  obtain ⟨h1, h⟩ := h
  have hsub := sub_enumerate
  have q1 : ∀ {A' : Around} {E : Value → Shared → Prop} {Q : Value → Shared → Prop}, Q (.ref hp.objs.size) ⟨hp.push o, g, d, tk, os⟩ → wpAny (model prog w) A' (pyIter v) Q E ⟨hp, g, d, tk, os⟩ := fun q => B.iter prog w _ _ ⟨hp, g, d, tk, os⟩ _ h1 q
  wp_walk using q1
  refine wpAny_stack_any fun st => wpAny_pure ?_
  split
  · rename_i c _ _ _ _ _
    cases (c == Value.type "enumerate") <;> (wp_walk using q1; exact ⟨_, rfl, h⟩)
  · wp_walk using q1
    exact ⟨_, rfl, h⟩
theorem enum_call {prog : Program} {w : World} {A : Around} {E : Value → Shared → Prop} {s : Shared} {v : Value} {o : Obj} {Hc : Heap → Prop} {Q : Value → Shared → Prop} (B : Begins v o Hc) (h1 : Hc s.heap)
    (h : ∀ h', IsEnum h' (s.heap.objs.size + 1) s.heap.objs.size 0 .none → h'.get? s.heap.objs.size = some o → h'.objs.size = s.heap.objs.size + 2 → (∀ b u, s.heap.get? b = some u → h'.get? b = some u) → Q (.ref (s.heap.objs.size + 1)) { s with heap := h' }) :
    wpAny (model prog w) A (call (.type "enumerate") [v]) Q E s := by
  refine callType_new F.called_enumerate (by decide) (F.typeCall_enumerate_1 _) (F.newCall_enumerate_1 _) (fun obj => F.args_object_init_2 obj _) F.entry_enumerate_new (enum_newB B) ⟨h1, ?_⟩
  have hz : (s.heap.push o).objs.size = s.heap.objs.size + 1 := Heap.size_push ..
  show _ ∧ _
  rw [hz]
  have he : IsEnum ((s.heap.push o).push { cls := .type "enumerate", data := .fields #[.none, .bool false, .ref s.heap.objs.size, rawInt 0, .none, .none] }) (s.heap.objs.size + 1) s.heap.objs.size 0 .none := by
    have q := Heap.get?_push_size (s.heap.push o) (o := { cls := .type "enumerate", data := .fields #[.none, .bool false, .ref s.heap.objs.size, rawInt 0, .none, .none] }) rfl
    rw [hz] at q
    exact q
  exact ⟨⟨_, he, rfl⟩, h _ he (Heap.get?_push_of_some _ (Heap.get?_push_size _ B.free)) (by rw [Heap.size_push, hz]) fun b u x => Heap.get?_push_of_some _ (Heap.get?_push_of_some _ x)⟩
def IteT (K : PySem.W.Frag) (a : Addr) : It where
  go := fun i H => ∃ (xs : List V) (x : V), SqT K H a xs ∧ xs[i]? = some x
  yld := fun i H v H' => ∃ T x, v = .ref T ∧ H T = none ∧ H' = upd H T (.tup [.int (i : Nat), x]) ∧ ∀ xs, SqT K H a xs → xs[i]? = some x
  stop := fun i H => ∃ xs : List V, SqT K H a xs ∧ xs.length = i
def EnSt (a e it : Addr) (i : Nat) (h : Heap) : Prop := (∃ old, IsEnum h e it ((i : Nat) : Int) old) ∧ h.IsTupleIter it a i ∧ e ≠ it
theorem apart_it {h : Heap} {it a : Addr} {i : Nat} {its : Array Value} (x : h.IsTupleIter it a i) (y : IsTup h a its) : a ≠ it := fun z => by
  obtain ⟨o, ho, hc, _⟩ := x
  obtain ⟨u, hu, hd, _⟩ := y
  rw [z, ho] at hu
  cases hu
  rw [hc] at hd
  exact absurd hd (by decide)
theorem goes_enT {X : Cx} {pins : List (Addr × Obj)} {s : Shared} {σ : L2.St} {H : Hp} {elts : List Expr} {kk : Nat} {tpos : Pos} {a e it : Addr} {i : Nat} {its : List Value} (hc : X.calm = true) (I : L2.Inv X pins σ H s) (st : EnSt a e it i s.heap) (p : IsTup s.heap a its.toArray) :
    GoesN X.prog X.w X.A (.Tuple elts kk tpos) e (e :: [it, a]) [e, it] its.toArray.size (fun i h₀ v h => ∃ T t x, v = .ref T ∧ h₀.objs.size ≤ T ∧ its.toArray[i]? = some x ∧ h.IsTuple T #[.int ((0 : Int) + (i : Int)) t, x]) (fun i h => (∃ old, IsEnum h e it ((0 : Int) + (i : Int)) old) ∧ (h.IsTupleIter it a i ∧ h.IsTuple a its.toArray)) := by
  have hne : a ≠ it := apart_it st.2.1 p
  have hea : e ≠ a := fun z => by
    obtain ⟨⟨old, he⟩, _⟩ := st
    obtain ⟨u, hu, hd, _⟩ := p
    have he' : s.heap.get? e = _ := he
    rw [z, hu] at he'
    have q : u.cls = Value.type "enumerate" := by rw [Option.some.inj he']
    rw [q] at hd
    exact absurd hd (by decide)
  have hh : X.A.in1.handled = none := I.ok.hd hc
  exact GoesN.enumFrom 0 (Draws.tuple hh it a hne its.toArray) e st.2.2 (by simp [st.2.2, hea]) (by simp)
theorem turn_enT {P : Program} {w : World} {K : PySem.W.Frag} {elts : List Expr} {kk : Nat} {tpos : Pos} (a e it : Addr) : Turn P w K (.Tuple elts kk tpos) (IteT K a) [e, it] e (EnSt a e it) where
  mem := List.mem_cons_self
  obj := fun i h st b hb => by
    obtain ⟨h1, h2, ne⟩ := st
    obtain ⟨old, he⟩ := h1
    rcases List.mem_cons.mp hb with z | z
    · rw [z]
      exact ⟨_, he, fun v q => nomatch q⟩
    · rw [List.mem_singleton.mp z]
      exact h2.imp fun o q => ⟨q.1, fun v z => by rw [q.2.2] at z; cases z⟩
  keep := fun i h h' st k => ⟨st.1.imp fun old he => k e List.mem_cons_self _ he, st.2.1.at fun o q => k it (List.mem_cons_of_mem _ List.mem_cons_self) o q, st.2.2⟩
  item := by
    intro X hP hw hK hc i pins s σ H E I hf st hg
    subst hP hw hK
    obtain ⟨xs, x, hq, hx⟩ := hg
    obtain ⟨its, rv, p, hz⟩ := I.tuple hq
    obtain ⟨u, hu, ru⟩ := rv.get hx
    have W := goes_enT (elts := elts) (kk := kk) (tpos := tpos) hc I st p
    have hel : e < s.heap.objs.size := let ⟨_, he⟩ := st.1; Heap.lt_size he
    have hil : it < s.heap.objs.size := let ⟨_, q, _⟩ := st.2.1; Heap.lt_size q
    have e0 : ((0 : Int) + (i : Int)) = (i : Int) := by omega
    refine W.goes i s _ E (by rw [List.size_toArray]; exact (List.getElem?_eq_some_iff.mp hu).1) ⟨by rw [e0]; exact st.1, st.2.1, p⟩ fun v h' tk hY hst' hk htk => ?_
    obtain ⟨T, t, y, rfl, hT, hy, hTup⟩ := hY
    rw [List.getElem?_toArray, hu] at hy
    cases hy
    have new : ObjOk X.prog X.w (upd H T (.tup [.int (i : Nat), x])) h' T (.tup [.int (i : Nat), x]) := ⟨by show 2 ≤ sizeLine; decide, [.int i t, u], .cons ⟨_, rfl⟩ (.cons ru .nil), by rw [e0] at hTup; exact hTup⟩
    have I1 : L2.Inv X pins σ (upd H T (.tup [.int (i : Nat), x])) { s with heap := h', toks := tk } := I.turnedNew (ch := [e, it]) (fun b ob hb q => hk b ob hb q) hf hT new
    refine ⟨.ref T, _, I1, rfl, ⟨T, x, rfl, I.hok.fresh hT, rfl, fun ys hy => by rw [I.tuple_inj hy hq]; exact hx⟩, ⟨?_, hst'.2.1, st.2.2⟩, fun b hb => ?_⟩
    · have e1 : ((0 : Int) + ((i + 1 : Nat) : Int)) = ((i + 1 : Nat) : Int) := by omega
      rw [← e1]
      exact hst'.1
    · have hb' : b < s.heap.objs.size := by
        rcases List.mem_cons.mp hb with z | z
        · rw [z]; exact hel
        · rw [List.mem_singleton.mp z]; exact hil
      rw [upd_ne (Nat.ne_of_lt (Nat.lt_of_lt_of_le hb' hT))]
      exact (hf b hb).1
  done := by
    intro X hP hw hK hc i pins s σ H E I hf st hg
    subst hP hw hK
    obtain ⟨xs, hq, hx⟩ := hg
    obtain ⟨its, rv, p, hz⟩ := I.tuple hq
    obtain ⟨f0, f1, f2, f3, f4, f5⟩ := hf it (List.mem_cons_of_mem _ List.mem_cons_self)
    have hne : a ≠ it := apart_it st.2.1 p
    have hh : X.A.in1.handled = none := I.ok.hd hc
    obtain ⟨⟨old, he⟩, hit, hei⟩ := st
    have e1 : its.toArray.size = i := by rw [List.size_toArray, ← rv.length]; exact hx
    subst e1
    exact wpAny_pyNext_enum_endD (Draws.tuple hh it a hne its.toArray) he ⟨hit, p⟩ fun h' eb => ⟨rfl, I.turned (t' := s.toks) (fun b o hb q => eb b o hb q) f0 f1 f3 f4 f5⟩
  self := fun A i s Q E st h => let ⟨_, he⟩ := st.1; wpAny_pyIter_enum he h
/-- enumerate of a list or a tuple -/
def iEnumA (K : PySem.W.Frag) (ta : TA) : TI := fun σ H R => ta σ H fun vs H1 => ∃ a xs, vs = [.ref a] ∧ ((SqL K H1 a xs ∧ R (Ite K a) H1) ∨ (SqT K H1 a xs ∧ R (IteT K a) H1))
theorem pi_enumA {X : Cx} {e : Expr} {ta : TA} {p pos tpos : Pos} {elts : List Expr} {kk : Nat} (hg : Gl X "enumerate") (hm : X.mg "enumerate" = none) (ha : PA X [e] ta) (hs : starEach [e] X.env = [(false, eval e X.env)] := by rfl) :
    PI X (.Tuple elts kk tpos) (.Call (.Name "enumerate" p) [e] [] pos) (iEnumA X.K ta) := by
  constructor
  intro pins s σ H R I h
  refine Call_ (ld_blt I hg hm boot_enumerate (PyProof.Rows.callWith_type1 (thn (ha.run pos pins s σ H _ I h) fun us s1 q0 => ?_) hs rfl))
  obtain ⟨vs, H1, I1, r1, a, xs, ex, q1⟩ := q0
  subst ex
  cases r1 with
  | cons r rr =>
    cases rr
    cases r
    have two : ∀ b, b ∈ [s1.heap.objs.size + 1, s1.heap.objs.size] → FpOk X pins H1 b := fun b hb => by
      have hle : s1.heap.objs.size ≤ b := by
        rcases List.mem_cons.mp hb with z | z
        · rw [z]; exact Nat.le_succ _
        · rw [List.mem_singleton.mp z]; exact Nat.le_refl _
      exact I1.fpOk hle (I1.hok.fresh hle)
    rcases q1 with ⟨hq, q⟩ | ⟨hq, q⟩
    · obtain ⟨its, rv, p', hz⟩ := I1.list hq
      refine call_enumerate_list p'.isList fun h' he hit hsz hk => wpAny_pyIter_enum he ?_
      exact ⟨s1.heap.objs.size + 1, _, _, _, H1, rfl, I1.kept (t' := s1.toks) hk, turn_enum a (s1.heap.objs.size + 1) s1.heap.objs.size, ⟨⟨.none, he⟩, hit, Nat.succ_ne_self _⟩, two, q⟩
    · obtain ⟨its, rv, p', hz⟩ := I1.tuple hq
      refine enum_call (begins_tuple a its.toArray) p' fun h' he hit hsz hk => wpAny_pyIter_enum he ?_
      exact ⟨s1.heap.objs.size + 1, _, _, _, H1, rfl, I1.kept (t' := s1.toks) hk, turn_enT a (s1.heap.objs.size + 1) s1.heap.objs.size, ⟨⟨.none, he⟩, ⟨_, hit, rfl, rfl⟩, Nat.succ_ne_self _⟩, two, q⟩
section
variable {G : Gx} {W : WX} {K : PySem.W.Frag}
theorem enumD_len : ∀ {xs : List D} {k : Nat}, (enumD k xs).length = xs.length
  | [], _ => rfl
  | _ :: xs, k => by show (enumD (k + 1) xs).length + 1 = _; rw [enumD_len]; rfl
theorem enumD_get : ∀ {xs : List D} {k i : Nat} {x : D}, (enumD k xs)[i]? = some x → ∃ y, x = .tup [.int ((k + i : Nat) : Int), y] ∧ xs[i]? = some y
  | [], _, _, _, h => by simp [enumD] at h
  | y :: _, k, 0, x, h => by
    simp [enumD] at h
    exact ⟨y, by rw [← h]; rfl, rfl⟩
  | _ :: xs, k, i + 1, x, h => by
    obtain ⟨y, h1, h2⟩ := enumD_get (xs := xs) (k := k + 1) (i := i) (x := x) (by simpa [enumD] using h)
    refine ⟨y, ?_, by simpa using h2⟩
    rw [h1]
    congr 3
    omega
theorem ity_enL {O : Addr → Prop} {H1 : Hp} {a : Addr} {vs : List V} {xs : List D} (no : ¬ O a) (e : H1 a = some (.lst vs)) (r : Reps G O H1 vs xs) : Ity G O H1 (Ite K a) (enumD 0 xs) where
  go := fun i O' H' k hi => by
    rw [enumD_len, ← r.length] at hi
    exact ⟨vs, vs[i], SqL.of (k.at_ _ _ e no).1, by simp [hi]⟩
  stop := fun O' H' k => ⟨vs, SqL.of (k.at_ _ _ e no).1, by rw [enumD_len, r.length]; exact Nat.le_refl _⟩
  yld := fun i O' H' v H'' x o k hx y => by
    obtain ⟨c, ex, h1⟩ := enumD_get hx
    obtain ⟨T, p, ev, hn, e1, y1⟩ := y
    subst ex
    subst ev
    subst e1
    obtain ⟨u, hu, ru⟩ := r.get i h1
    have q1 := y1 vs (SqL.of (k.at_ _ _ e no).1)
    rw [hu] at q1
    cases q1
    rw [Nat.zero_add]
    exact pair_new o hn (.int _) (ru.step k)
theorem ity_enT {O : Addr → Prop} {H1 : Hp} {a : Addr} {vs : List V} {xs : List D} (no : ¬ O a) (e : H1 a = some (.tup vs)) (r : Reps G O H1 vs xs) : Ity G O H1 (IteT K a) (enumD 0 xs) where
  go := fun i O' H' k hi => by
    rw [enumD_len, ← r.length] at hi
    exact ⟨vs, vs[i], SqT.of (k.at_ _ _ e no).1, by simp [hi]⟩
  stop := fun O' H' k => ⟨vs, SqT.of (k.at_ _ _ e no).1, by rw [enumD_len, r.length]⟩
  yld := fun i O' H' v H'' x o k hx y => by
    obtain ⟨c, ex, h1⟩ := enumD_get hx
    obtain ⟨T, p, ev, hn, e1, y1⟩ := y
    subst ex
    subst ev
    subst e1
    obtain ⟨u, hu, ru⟩ := r.get i h1
    have q1 := y1 vs (SqT.of (k.at_ _ _ e no).1)
    rw [hu] at q1
    cases q1
    rw [Nat.zero_add]
    exact pair_new o hn (.int _) (ru.step k)
theorem gi_enum {ta : TA} {as : WA} (ha : GA G W ta as) : GI G W (iEnumA K ta) (wiArgs fEnum as) := fun P H0 env σ H Q E R' S h X k => by
  refine ha P H0 env σ H _ E _ S h X fun ds e1 vs H1 S1 K1 R1 hq => ?_
  obtain ⟨xs, e, h1⟩ := optP_of hq
  unfold fEnum at e
  split at e
  · obtain ⟨ys, e2, e3⟩ := Option.map_eq_some_iff.mp e
    subst e3
    cases R1 with
    | cons r rr =>
      cases rr
      cases r with
      | tup no ea ra =>
        cases e2
        exact ⟨_, _, rfl, .inr ⟨SqT.of ea, k _ e1 _ H1 S1 K1 (ity_enT no ea ra) h1⟩⟩
      | lst no ea ra =>
        cases e2
        exact ⟨_, _, rfl, .inl ⟨SqL.of ea, k _ e1 _ H1 S1 K1 (ity_enL no ea ra) h1⟩⟩
      | _ => cases e2
  · cases e
end
end LW
end S11_

section S12_
set_option maxRecDepth 100000
/-! Own layer, part 12: several names at once. -/
namespace LW
open PySem PySem.Spec PyProof.Rows L2 RZ
section
variable {G : Gx} {P : Addr → Prop} {H0 H : Hp} {e : Env} {σ : L2.St}
theorem upd_isHand {a : Addr} {o : HO} (h1 : a ≠ G.h) (h2 : a ≠ G.c) : IsHand G (upd H a o) ↔ IsHand G H := by
  constructor <;> rintro ⟨ns, i1, i2, i3, i4, z0, z1, z2, z3⟩
  · rw [upd_ne (Ne.symm h1)] at z1
    rw [upd_ne (Ne.symm h2)] at z2
    exact ⟨ns, i1, i2, i3, i4, z0, z1, z2, z3⟩
  · exact ⟨ns, i1, i2, i3, i4, z0, by rw [upd_ne (Ne.symm h1)]; exact z1, by rw [upd_ne (Ne.symm h2)]; exact z2, z3⟩
theorem Sim.pinA {a : Addr} {o : HO} (S : Sim G (And1 P a) H0 e σ H) (ph : P G.h) (pc : P G.c) (na : ¬ P a) (ha : H a = some o) : Sim G (And1 P a) (upd H0 a o) e σ H where
  len := S.len
  old := fun b u nb q => by
    by_cases z : b = a
    · subst z
      rw [upd_same] at q
      rw [ha]
      exact q
    · rw [upd_ne z] at q
      exact S.old b u nb q
  hnd := fun q => S.hnd ((upd_isHand (fun z => na (by rw [z]; exact ph)) (fun z => na (by rw [z]; exact pc))).mp q)
  dom := S.dom
  ph := S.ph
  pc := S.pc
  val := S.val
  own := fun i xs q => by
    obtain ⟨b, h1, h2, h4, h5⟩ := S.own i xs q
    exact ⟨b, h1, h2, h4, by rw [upd_ne (fun z => h4 (.inr z))]; exact h5⟩
  inj := S.inj
  fix := S.fix
theorem Sim.unpinA {a : Addr} {o : HO} (S : Sim G (And1 P a) (upd H0 a o) e σ H) (ph : P G.h) (pc : P G.c) (na : ¬ P a) (n0 : H0 a = none) : Sim G (And1 P a) H0 e σ H where
  len := S.len
  old := fun b u nb q => S.old b u nb (by rw [upd_ne (ne_of_none q n0)]; exact q)
  hnd := fun q => S.hnd ((upd_isHand (fun z => na (by rw [z]; exact ph)) (fun z => na (by rw [z]; exact pc))).mpr q)
  dom := S.dom
  ph := S.ph
  pc := S.pc
  val := S.val
  own := fun i xs q => by
    obtain ⟨b, h1, h2, h4, h5⟩ := S.own i xs q
    refine ⟨b, h1, h2, h4, ?_⟩
    rw [upd_ne (fun z => h4 (.inr z))] at h5
    exact h5
  inj := S.inj
  fix := S.fix
theorem Sim.notOw {a : Addr} (S : Sim G (And1 P a) H0 e σ H) (na : ¬ P a) : ¬ Ow P e σ a := fun h => by
  rcases h with h | ⟨i, xs, h1, h2⟩
  · exact na h
  · obtain ⟨b, h3, h4, h6, h7⟩ := S.own i xs h1
    rw [h2] at h3
    cases h3
    exact h6 (.inr rfl)
end
/-- what waits to be stored -/
inductive Pd (G : Gx) (P : Addr → Prop) (H0 : Hp) (O : Addr → Prop) (H : Hp) : List (Nat × Slot) → List V → (Addr → Prop) → Hp → Prop
  | nil : Pd G P H0 O H [] [] P H0
  | val {acc : List (Nat × Slot)} {ws : List V} {P' : Addr → Prop} {H0' : Hp} {i : Nat} {v : V} {x : D} (q : Pd G P H0 O H acc ws P' H0') (r : Rep G O H v x) : Pd G P H0 O H ((i, .val x) :: acc) (v :: ws) P' H0'
  | own {acc : List (Nat × Slot)} {ws : List V} {P' : Addr → Prop} {H0' : Hp} {i : Nat} {a : Addr} {u : HO} {o : Ob} (q : Pd G P H0 O H acc ws P' H0') (r : ∀ O' H', Kp G O H O' H' → H' a = some u → RepO G O' H' a o) (n : ¬ P' a) (n0 : H0' a = none) :
      Pd G P H0 O H ((i, .own o) :: acc) (.ref a :: ws) (And1 P' a) (upd H0' a u)
section
variable {G : Gx} {P P' : Addr → Prop} {H0 H0' H H1 : Hp} {O O1 : Addr → Prop} {acc : List (Nat × Slot)} {ws : List V}
theorem Pd.step (p : Pd G P H0 O H acc ws P' H0') (k : Kp G O H O1 H1) : Pd G P H0 O1 H1 acc ws P' H0' := by
  induction p with
  | nil => exact .nil
  | val q r ih => exact .val ih (r.step k)
  | own q r n n0 ih => exact .own ih (fun O' H' k' e => r O' H' (k.trans k') e) n n0
theorem Pd.more (p : Pd G P H0 O H acc ws P' H0') : ∀ a, P a → P' a := by
  induction p with
  | nil => exact fun _ h => h
  | val q r ih => exact ih
  | own q r n n0 ih => exact fun a h => .inl (ih a h)
theorem Pd.back (p : Pd G P H0 O H acc ws P' H0') (ph : P G.h) (pc : P G.c) : ∀ {e : Env} {σ : L2.St} {H1 : Hp}, Sim G P' H0' e σ H1 → Sim G P H0 e σ H1 := by
  induction p with
  | nil => exact fun S => S
  | val q r ih => exact ih
  | own q r n n0 ih => exact fun S => ih ((S.unpinA (q.more _ ph) (q.more _ pc) n n0).drop1 (q.more _ ph) (q.more _ pc))
def setAll (σ : L2.St) : List (Nat × Slot) → List V → L2.St
  | (i, _) :: acc, v :: ws => setAll (σ.set i (some v)) acc ws
  | _, _ => σ
theorem Pd.close (p : Pd G P H0 O H acc ws P' H0') (ph : P G.h) (pc : P G.c) : ∀ {e : Env} {σ : L2.St}, Sim G P' H0' e σ H → (∀ a, Ow P' e σ a → O a) →
    Sim G P H0 (acc.foldl (fun e p => st e p.1 p.2) e) (setAll σ acc ws) H ∧ ∀ a, Ow P (acc.foldl (fun e p => st e p.1 p.2) e) (setAll σ acc ws) a → O a := by
  induction p with
  | nil => exact fun S w => ⟨S, w⟩
  | val q r ih => exact fun S w => ih (S.setVal (r.step (Kp.weak w))) fun a z => w a (ow_val z)
  | own q r n n0 ih =>
      intro e σ S w
      have ph' := q.more _ ph
      have pc' := q.more _ pc
      have ha := S.old _ _ (fun z => n (by rw [z]; exact ph')) upd_same
      have S1 := S.unpinA ph' pc' n n0
      obtain ⟨S2, w2⟩ := S1.setOb ph' pc' (r _ _ (Kp.weak w) ha) (S1.notOw n) n0
      exact ih S2 fun a z => w a (w2 a z)
end
theorem Pd.len {G : Gx} {P : Addr → Prop} {H0 : Hp} {P' : Addr → Prop} {H0' : Hp} {acc : List (Nat × Slot)} {ws : List V} {O : Addr → Prop} {H : Hp} (p : Pd G P H0 O H acc ws P' H0') : acc.length = ws.length := by
  induction p with
  | nil => rfl
  | val q r ih => simp [ih]
  | own q r n n0 ih => simp [ih]
/-- the sources -/
inductive GSrc (G : Gx) (W : WX) : TA → List (Nat × Src) → Prop
  | nil : GSrc G W tNil []
  | v {te : TE} {a : WE} {ta : TA} {l : List (Nat × Src)} (i : Nat) (h : GE G W te a) (r : GSrc G W ta l) : GSrc G W (tCons te ta) ((i, .v a) :: l)
  | f {te : TE} {a : WA} {ta : TA} {l : List (Nat × Src)} (i : Nat) (h : GF G W te a) (r : GSrc G W ta l) : GSrc G W (tCons te ta) ((i, .f a) :: l)
  | d0 {ta : TA} {l : List (Nat × Src)} (i : Nat) (r : GSrc G W ta l) : GSrc G W (tCons tDNewK ta) ((i, .d0) :: l)
theorem par_go {G : Gx} {W : WX} {ta : TA} {l : List (Nat × Src)} (g : GSrc G W ta l) : ∀ {P : Addr → Prop} {H0 : Hp} {P' : Addr → Prop} {H0' : Hp} {acc : List (Nat × Slot)} {ws : List V} {e : Env} {σ : L2.St} {H : Hp} {Q : Env → Prop} {E : KE} {R : List V → Hp → Prop} {O0 : Addr → Prop} {Hs : Hp}
    (ph : P G.h) (pc : P G.c) (S : Sim G P' H0' e σ H) (k0 : Kp G O0 Hs (Ow P' e σ) H) (p : Pd G P H0 (Ow P' e σ) H acc ws P' H0') (X : XOK G P H0 σ W E) (h : srcGo l acc Q e E)
    (k : ∀ e1 H1 ws1 acc1, Sim G P H0 e1 (setAll σ acc1 ws1) H1 → Kp G O0 Hs (Ow P e1 (setAll σ acc1 ws1)) H1 → acc1.map Prod.fst = (l.map Prod.fst).reverse ++ acc.map Prod.fst → acc1.length = ws1.length → Q e1 → R ws1 H1), ta σ H fun vs H1 => R (vs.reverse ++ ws) H1 := by
  induction g with
  | nil =>
    intro P H0 P' H0' acc ws e σ H Q E R O0 Hs ph pc S k0 p X h k
    obtain ⟨S1, w⟩ := p.close ph pc S (fun _ z => z)
    exact k _ _ ws acc S1 (k0.trans (Kp.weak w)) (by simp) p.len h
  | @v te a ta l i h0 r ih =>
    intro P H0 P' H0' acc ws e σ H Q E R O0 Hs ph pc S k0 p X h k
    refine h0 P' H0' e σ H _ E _ S h (fun x e1 cls d H1 S1 r1 q1 => X x e1 cls d H1 (p.back ph pc S1) ?_ q1) fun x e1 v H1 S1 K1 R1 h1 => ?_
    · obtain ⟨c, xs, z1, z2, z3⟩ := r1
      refine ⟨c, xs, z1, z2, z3.elim .inl fun z => ?_⟩
      obtain ⟨ne0, dx, fs, y1, y2, y3⟩ := z
      exact .inr ⟨ne0, dx, fs, y1, y2, fun i nm y' a b => let ⟨v, q1, q2⟩ := y3 i nm y' a b; ⟨v, q1, q2.step (Kp.weak fun a z => z.elim (fun y => .inl (p.more a y)) .inr)⟩⟩
    · obtain ⟨pp, e2, h1⟩ := fzP_of h1
      obtain ⟨S2, K2, R2⟩ := S1.frz R1 e2
      have := ih (R := R) (ws := v :: ws) ph pc S2 (k0.trans (K1.trans K2)) (.val (i := i) (p.step (K1.trans K2)) R2) X h1 fun e3 H3 ws1 acc1 S3 K3 ea el h3 => k e3 H3 ws1 acc1 S3 K3 (by rw [ea]; simp) el h3
      simpa [tCons] using this
  | @f te a ta l i h0 r ih =>
    intro P H0 P' H0' acc ws e σ H Q E R O0 Hs ph pc S k0 p X h k
    refine h0 P' H0' e σ H _ E _ S h (fun x e1 cls d H1 S1 r1 q1 => X x e1 cls d H1 (p.back ph pc S1) ?_ q1) fun xs e1 b vs H1 S1 K1 hb R1 no n0 h1 => ?_
    · obtain ⟨c, xs, z1, z2, z3⟩ := r1
      refine ⟨c, xs, z1, z2, z3.elim .inl fun z => ?_⟩
      obtain ⟨ne0, dx, fs, y1, y2, y3⟩ := z
      exact .inr ⟨ne0, dx, fs, y1, y2, fun i nm y' a b => let ⟨v, q1, q2⟩ := y3 i nm y' a b; ⟨v, q1, q2.step (Kp.weak fun a z => z.elim (fun y => .inl (p.more a y)) .inr)⟩⟩
    · have np : ¬ P' b := fun z => no (.inl z)
      have S2 := S1.pinA (p.more _ ph) (p.more _ pc) np hb
      have := ih (R := R) (ws := .ref b :: ws) ph pc S2 (k0.trans K1) (.own (i := i) (o := .l xs) (p.step K1) (fun O' H' k' e => ⟨vs, e, R1.step k'⟩) np n0) X h1 fun e3 H3 ws1 acc1 S3 K3 ea el h3 => k e3 H3 ws1 acc1 S3 K3 (by rw [ea]; simp) el h3
      simpa [tCons] using this
  | @d0 ta l i r ih =>
    intro P H0 P' H0' acc ws e σ H Q E R O0 Hs ph pc S k0 p X h k
    intro b hb
    obtain ⟨S1, K1⟩ := S.new1 (o := .dK []) hb
    have np : ¬ P' b := fun z => S.fresh hb (.inl z)
    have n0 := S.fresh0 hb
    have S2 := S1.pinA (p.more _ ph) (p.more _ pc) np upd_same
    have := ih (R := R) (ws := .ref b :: ws) ph pc S2 (k0.trans K1) (.own (i := i) (o := .d [] []) (p.step K1) (fun O' H' k' e => ⟨[], [], e, rfl, rfl, .nil⟩) np n0) X h fun e3 H3 ws1 acc1 S3 K3 ea el h3 => k e3 H3 ws1 acc1 S3 K3 (by rw [ea]; simp) el h3
    simpa [tCons] using this
theorem acc2 {acc : List (Nat × Slot)} {i j : Nat} (h : acc.map Prod.fst = [j, i]) : ∃ a b, acc = [(j, a), (i, b)] := by
  cases acc with
  | nil => simp at h
  | cons p acc =>
    cases acc with
    | nil => simp at h
    | cons q acc =>
      cases acc with
      | nil =>
        obtain ⟨p1, p2⟩ := p
        obtain ⟨q1, q2⟩ := q
        simp at h
        obtain ⟨rfl, rfl⟩ := h
        exact ⟨p2, q2, rfl⟩
      | cons r acc => simp at h
theorem acc3 {acc : List (Nat × Slot)} {i j l : Nat} (h : acc.map Prod.fst = [l, j, i]) : ∃ a b c, acc = [(l, a), (j, b), (i, c)] := by
  cases acc with
  | nil => simp at h
  | cons p acc =>
    obtain ⟨p1, p2⟩ := p
    simp only [List.map_cons, List.cons.injEq] at h
    obtain ⟨h1, h2⟩ := h
    obtain ⟨b, c, e⟩ := acc2 h2
    subst e
    subst h1
    exact ⟨p2, b, c, rfl⟩
theorem gs_par2 {G : Gx} {W : WX} {ta : TA} {i j : Nat} {s1 s2 : Src} (hij : (i == j) = false) (g : GSrc G W ta [(i, s1), (j, s2)]) : GS G W (tPar i j ta) (sPar [(i, s1), (j, s2)]) := fun P H0 env σ H Z E Z' S h X k => by
  have := par_go g (R := fun ws H1 => ∃ v w, ws = [w, v] ∧ Z'.nx ((σ.set i (some v)).set j (some w)) H1) S.ph S.pc S .refl .nil (X.at_ σ) h fun e1 H1 ws1 acc1 S1 K1 ea el h1 => by
    obtain ⟨a, b, rfl⟩ := acc2 (by simpa using ea)
    obtain ⟨w, v, rfl⟩ : ∃ w v, ws1 = [w, v] := by
      match ws1, el with
      | [w, v], _ => exact ⟨w, v, rfl⟩
    refine ⟨v, w, rfl, ?_⟩
    rw [List.set_comm _ _ (by simpa using hij)]
    exact k.nx.ok _ _ _ S1 K1 h1
  have e : (fun (vs : List V) H1 => ∃ v w, vs.reverse ++ [] = [w, v] ∧ Z'.nx ((σ.set i (some v)).set j (some w)) H1) = fun (vs : List V) H1 => ∃ v w, vs = [v, w] ∧ Z'.nx ((σ.set i (some v)).set j (some w)) H1 := by
    funext vs H1
    simp only [List.append_nil, List.reverse_eq_iff, List.reverse_cons, List.reverse_nil, List.nil_append, List.singleton_append, List.cons_append]
  rw [e] at this
  exact this
theorem gs_par3 {G : Gx} {W : WX} {ta : TA} {i j l : Nat} {s1 s2 s3 : Src} (hij : (i == j) = false) (hil : (i == l) = false) (hjl : (j == l) = false) (g : GSrc G W ta [(i, s1), (j, s2), (l, s3)]) : GS G W (tPar3 i j l ta) (sPar [(i, s1), (j, s2), (l, s3)]) := fun P H0 env σ H Z E Z' S h X k => by
  have := par_go g (R := fun ws H1 => ∃ u v w, ws = [w, v, u] ∧ Z'.nx (((σ.set i (some u)).set j (some v)).set l (some w)) H1) S.ph S.pc S .refl .nil (X.at_ σ) h fun e1 H1 ws1 acc1 S1 K1 ea el h1 => by
    obtain ⟨a, b, c, rfl⟩ := acc3 (by simpa using ea)
    obtain ⟨w, v, u, rfl⟩ : ∃ w v u, ws1 = [w, v, u] := by
      match ws1, el with
      | [w, v, u], _ => exact ⟨w, v, u, rfl⟩
    refine ⟨u, v, w, rfl, ?_⟩
    have e3 : ((σ.set i (some u)).set j (some v)).set l (some w) = ((σ.set l (some w)).set j (some v)).set i (some u) := by
      rw [List.set_comm (some u) (some v) (by simpa using hij), List.set_comm (some u) (some w) (by simpa using hil), List.set_comm (some v) (some w) (by simpa using hjl)]
    rw [e3]
    exact k.nx.ok _ _ _ S1 K1 h1
  have e : (fun (vs : List V) H1 => ∃ u v w, vs.reverse ++ [] = [w, v, u] ∧ Z'.nx (((σ.set i (some u)).set j (some v)).set l (some w)) H1) = fun (vs : List V) H1 => ∃ u v w, vs = [u, v, w] ∧ Z'.nx (((σ.set i (some u)).set j (some v)).set l (some w)) H1 := by
    funext vs H1
    simp only [List.append_nil, List.reverse_eq_iff, List.reverse_cons, List.reverse_nil, List.nil_append, List.singleton_append, List.cons_append]
  rw [e] at this
  exact this
end LW
end S12_

section S13_
set_option maxRecDepth 100000
set_option maxHeartbeats 3000000
/-! Own layer, part 13: sorted(set(xs)), xs a list of integers. -/
namespace LW
open PySem PySem.Spec PyProof.Rows L2 RZ
section
variable {P : Program} {w : World} {A : Around} {E : Value → Shared → Prop} {s : Shared}
theorem init_of_list {O : Obj} {l : Addr} {its : Array Value} {ns : List Int} (hO : O = { cls := .type "set", dict := none, data := .set #[] 0 (.fresh 0 0 (!w.params.followText "set-order")) }) (hh : A.in1.in1.handled = none) (hl : s.heap.IsList l its) (hit : IntsAre its.toList ns) (hb : ns.length + 1 < scanBound)
    (hT : Shared.TypeIs { s with heap := s.heap.push O } (.ref s.heap.objs.size) "set") :
    codeAny (model P w) A (.call (.builtin "set.__init__") ⟨[.ref s.heap.objs.size, .ref l], []⟩) (wants (fun r s2 => r = .none ∧ ∃ h' tk c, s2 = { s with heap := h', toks := tk } ∧ SetR w h' s.heap.objs.size (fun j => decide (j ∈ ns)) c ∧ c ≤ ns.length ∧
      (∀ b o, s.heap.get? b = some o → h'.get? b = some o)) E) { s with heap := s.heap.push O } := by
  have hisz : its.size = ns.length := by rw [← Array.length_toList]; exact IntsAre.length hit
  have hS : (s.heap.push O).get? s.heap.objs.size = some O := Heap.get?_push_size _ (by rw [hO] <;> rfl)
  refine codeAny_call_builtin F.called_set.init.plain F.entry_set_init (check_set_init_1 hT ?_)
  obtain ⟨⟨c0, d0, data0, sl0⟩, g0, k0, n0, e0⟩ := hl
  simp only at k0 e0
  subst k0; subst e0
  have g1 : (s.heap.push O).get? l = some { cls := .type "list", dict := d0, data := .seq its n0, slots := sl0 } := Heap.get?_push_of_some _ g0
  have a1 := F.sub_list_set
  have a2 := F.sub_list_frozenset
  have a3 : (Value.type "list" == Value.type "dict") = false := by decide
  have L1 : (s.heap.push O).IsList l its := ⟨_, g1, rfl, n0, rfl⟩
  unfold Builtin.«set.__init__» noKeywords Builtin.Frozenset.updateFrom
  subst hO
  generalize hpi : pyIter = PI
  wp_walk
  subst hpi
  refine wpAny_pyIter_list L1 ?_
  refine wpAny_bind (wpAny_runValue ?_)
  have lt0 : l < s.heap.objs.size := Heap.lt_size g0
  have z1 : ∀ o : Obj, (s.heap.push o).objs.size = s.heap.objs.size + 1 := fun _ => Heap.size_push ..
  have ne1 : ∀ o : Obj, l ≠ (s.heap.push o).objs.size := fun o => by rw [z1]; exact Nat.ne_of_lt (Nat.lt_succ_of_lt lt0)
  have out1 : ∀ o : Obj, s.heap.objs.size ∉ [(s.heap.push o).objs.size, l] := fun o m => by
    rw [z1] at m
    rcases List.mem_cons.mp m with e | e
    · exact Nat.ne_of_lt (Nat.lt_succ_self _) e
    · exact Nat.ne_of_gt lt0 (List.mem_singleton.mp e)
  have val1 : ∀ (i : Nat) (v : Value), its[i]? = some v → ∃ k t, ns[i]? = some k ∧ v = .int k t := fun i v hv => by
    have hi : i < ns.length := by rw [← hisz]; exact (Array.getElem?_eq_some_iff.mp hv).1
    obtain ⟨t, e⟩ := IntsAre.int_at hit i v (by rw [Array.getElem?_toList]; exact hv)
    refine ⟨ns[i], t, List.getElem?_eq_getElem hi, ?_⟩
    rw [e, List.getD_eq_getElem?_getD, List.getElem?_eq_getElem hi] <;> rfl
  refine set_update_ints (Walks.list hh _ l (ne1 _) its).toS s.heap.objs.size (out1 _) ns hisz hb val1 (its.size - 0) 0 _ (by omega) (Nat.zero_le _) ⟨⟨_, Heap.get?_push_size _ rfl, rfl, rfl⟩, L1.push _⟩ ⟨0, Nat.le_refl 0, setR_new_at (by exact Heap.get?_push_of_some _ hS)⟩ ?_
  intro s' c' hm hc' hS'
  obtain ⟨h', g2, d', tk', os'⟩ := s'
  cases (show g2 = s.gens from hm.gens)
  cases (show d' = s.drawn from hm.drawn)
  cases (show os' = s.os from hm.os)
  show wpAny _ _ _ _ _ _
  refine wpAny_pure ?_
  show wpAny _ _ (ret Value.none) _ _ _
  refine wpAny_pure ⟨rfl, h', tk', c', rfl, hS', by rw [← hisz]; exact hc', fun b o e => ?_⟩
  have hb0 : b < s.heap.objs.size := Heap.lt_size e
  refine hm.heap b o (fun m => ?_) (Heap.get?_push_of_some _ (Heap.get?_push_of_some _ e))
  rw [z1] at m
  rcases List.mem_cons.mp m with e | e
  · exact Nat.ne_of_lt hb0 e
  · exact Nat.ne_of_lt (Nat.lt_succ_of_lt hb0) (List.mem_singleton.mp e)
theorem set_of_list {l : Addr} {its : Array Value} (ns : List Int) {Q : Value → Shared → Prop} (hh : A.handled = none) (hl : s.heap.IsList l its) (hit : IntsAre its.toList ns) (hb : ns.length + 1 < scanBound)
    (h : ∀ (h' : Heap) (tk c : Nat), SetR w h' s.heap.objs.size (fun j => decide (j ∈ ns)) c → c ≤ ns.length → (∀ b o, s.heap.get? b = some o → h'.get? b = some o) → Q (.ref s.heap.objs.size) { s with heap := h', toks := tk }) : wpAny (model P w) A (call (.type "set") [.ref l]) Q E s := by
  obtain ⟨O, hO⟩ : ∃ O : Obj, O = { cls := .type "set", dict := none, data := .set #[] 0 (.fresh 0 0 (!w.params.followText "set-order")) } := ⟨_, rfl⟩
  obtain ⟨m1, m2, m3⟩ := F.called_set.mro
  have b1 := F.called_set.made
  have b2 := F.called_set.sub
  refine wpAny_call (codeAny_of_tree ?_)
  show wpAny _ _ (callAny (.type "set") _) _ _ _
  refine wpAny_pure ⟨Code.quiet_builtin _ (by decide +kernel), codeAny_builtin F.entry_type_call ?_⟩
  rw [Around.under_plain (weight_type_call_type "set" [.ref l] []) rfl]
  have b3 := F.called_set.notType
  have b4 := F.called_set.canCreate
  have b5 := F.typeCall_set_1 (.ref l)
  repeat (any_goals (first | (assumption) | wp_step))
  refine codeAny_mono (code_set_led1 (.ref l) (E := E) (Q₁ := fun x s1 => x = .ref s.heap.objs.size ∧ s1 = { s with heap := s.heap.push O }) ⟨rfl, by rw [hO]⟩) fun r s1 hr => ?_
  rcases r with e | f
  · exact hr
  · cases f with
    | ret x =>
      obtain ⟨rfl, rfl⟩ := hr
      have hS : (s.heap.push O).get? s.heap.objs.size = some O := Heap.get?_push_size _ (by rw [hO] <;> rfl)
      have hT : Shared.TypeIs { s with heap := s.heap.push O } (.ref s.heap.objs.size) "set" := ⟨_, hS, by rw [hO]⟩
      have b6 := F.called_set.init.lookup
      have b7 := F.called_set.init.bind (.ref s.heap.objs.size)
      repeat (any_goals (first | (assumption) | wp_step))
      refine codeAny_mono (init_of_list (E := E) hO (by simp [hh]) hl hit hb hT) fun r2 s2 hr2 => ?_
      rcases r2 with e | f
      · exact hr2
      · cases f with
        | ret x =>
          obtain ⟨rfl, h', tk, c', rfl, q1, q2, q3⟩ := hr2
          repeat (any_goals (first | (assumption) | wp_step))
          exact h _ _ _ q1 q2 q3
        | next => exact hr2.elim
        | brk => exact hr2.elim
        | cont => exact hr2.elim
    | next => exact hr.elim
    | brk => exact hr.elim
    | cont => exact hr.elim
end
/-- ints, one behind another -/
def SqI (K : PySem.W.Frag) (H : Hp) (l : Addr) (ns : List Int) : Prop := SqL K H l (ns.map V.int) ∨ SqT K H l (ns.map V.int)
theorem Inv.sqi {X : Cx} {pins : List (Addr × Obj)} {σ : L2.St} {H : Hp} {s : Shared} {l : Addr} {ns : List Int} (I : L2.Inv X pins σ H s) (h : SqI X.K H l ns) : ∃ us : List Value, IntsAre us ns ∧ us.length = ns.length ∧ (s.heap.IsList l us.toArray ∨ s.heap.IsTuple l us.toArray) := by
  rcases h with h | h
  · obtain ⟨us, rv, pl, hz⟩ := I.list h
    exact ⟨us, by simpa using rv.ints, by rw [← rv.length, List.length_map], .inl pl.isList⟩
  · obtain ⟨us, rv, pl, hz⟩ := I.tuple h
    exact ⟨us, by simpa using rv.ints, by rw [← rv.length, List.length_map], .inr pl⟩
section
variable {P : Program} {w : World} {A : Around} {E : Value → Shared → Prop} {s : Shared}
theorem set_of_seq {l : Addr} {us : List Value} (ns : List Int) {Q : Value → Shared → Prop} (hh : A.handled = none) (hl : s.heap.IsList l us.toArray ∨ s.heap.IsTuple l us.toArray) (hit : IntsAre us ns) (hb : ns.length + 1 < scanBound)
    (h : ∀ (h' : Heap) (tk c : Nat), SetR w h' s.heap.objs.size (fun j => decide (j ∈ ns)) c → c ≤ ns.length → (∀ b o, s.heap.get? b = some o → h'.get? b = some o) → Q (.ref s.heap.objs.size) { s with heap := h', toks := tk }) : wpAny (model P w) A (call (.type "set") [.ref l]) Q E s := by
  rcases hl with hl | hl
  · exact set_of_list ns hh hl (by simpa using hit) hb h
  · exact call_set_tupI ns hh hl (by simpa using hit) hb h
end
/-- sorted(set(e)) -/
def tSortSet (K : PySem.W.Frag) (ta : TE) : TE := fun σ H Q => ta σ H fun x H1 => ∃ (l : Addr) (ns : List Int), x = .ref l ∧ (SqL K H1 l (ns.map V.int) ∨ SqT K H1 l (ns.map V.int)) ∧ ns.length < 64 ∧
  ∀ (ms : List Int) (p : Addr), ms.length < 64 → ms.Pairwise (· < ·) → (∀ k : Int, k ∈ ms ↔ k ∈ ns) → H1 p = none → Q (.ref p) (upd H1 p (.lst (ms.map V.int)))
theorem pe_sortSet {X : Cx} {a : Expr} {ta : TE} {p p2 q pos : Pos} (hc : X.calm = true) (hg : Gl X "sorted") (hm : X.mg "sorted" = none) (hg2 : Gl X "set") (hm2 : X.mg "set" = none) (ha : PE X a ta)
    (na : starEach [a] X.env = (false, eval a X.env) :: starEach [] X.env := by rfl) (nb : starEach [.Call (.Name "set" p2) [a] [] q] X.env = (false, eval (.Call (.Name "set" p2) [a] [] q) X.env) :: starEach [] X.env := by rfl) :
    PE X (.Call (.Name "sorted" p) [.Call (.Name "set" p2) [a] [] q] [] pos) (tSortSet X.K ta) := by
  refine ⟨fun pins s σ H Q I h => ?_⟩
  refine Call_ (ld_blt I hg hm boot_sorted ?_)
  refine callWith_builtin1 (PyProof.Rows.args_cons ?_ nb) rfl rfl
  refine Call_ (ld_blt I hg2 hm2 PyProof.Rows.boot_set ?_)
  refine callWith_type1 (PyProof.Rows.args_cons (thn (ha.run pins s σ H _ I h) fun v s1 q0 => PyProof.Rows.args_nil ?_) na) na rfl
  obtain ⟨x, H1, I1, r1, l, ns, rfl, hq, h64, q1⟩ := q0
  cases r1
  obtain ⟨us, hi, hz, hl⟩ := Inv.sqi I1 hq
  refine set_of_seq ns (I1.ok.hd hc) hl hi (by unfold scanBound; omega) fun h' tk c R hcl hk => ?_
  refine PyProof.Rows.args_nil ?_
  have I2 : L2.Inv X pins σ H1 { s1 with heap := h', toks := tk } := I1.kept fun b o e => hk b o e
  refine sorted_set R (I2.ok.hd hc) (by omega) fun s' p out cc ms k g o hp hg' hi hs hm' hl' => ?_
  have hlen : (ms.map V.int).length ≤ sizeLine := by rw [List.length_map, hl', sizeLine_eq]; omega
  have hn : H1 p = none := I2.hok.fresh hp
  have J : L2.Inv X pins σ (upd H1 p (.lst (ms.map V.int))) s' := I2.call' (ch := []) o (Un.laid k hp hn) (I2.hok.laid k hp ⟨hlen, out.toList, cc, vals_of_ints hi, hg'⟩) (by rw [g]; exact I2.bare) (fun _ z => nomatch z)
  exact ⟨.ref p, _, J, rfl, q1 ms p (by omega) hs (fun k => by rw [hm' k]; simp) hn⟩
theorem sqi_of {K : PySem.W.Frag} {G : Gx} {O : Addr → Prop} {H : Hp} {v : V} {x : D} {ns : List Int} (rr : RepT G O H v x) (e : intsD x = some ns) : ∃ b, v = .ref b ∧ SqI K H b ns := by
  cases x with
  | lst xs =>
    obtain ⟨b, vs, rfl, hb, rs⟩ := rr
    have hv := rs.ints e
    subst hv
    exact ⟨b, rfl, .inl (SqL.of hb)⟩
  | tup xs =>
    obtain ⟨b, vs, rfl, no, hb, rs⟩ := rr.tup
    have hv := rs.ints e
    subst hv
    exact ⟨b, rfl, .inr (SqT.of hb)⟩
  | _ => cases e
theorem gf_sortSet {G : Gx} {W : WX} {K : PySem.W.Frag} {te : TE} {a : WE} (ha : GE G W te a) : GF G W (tSortSet K te) (wSortSet a) := fun P H0 env σ H Q E Q' S h X k => by
  refine ha P H0 env σ H _ E _ S h X fun r e1 v H1 S1 K1 R1 h1 => ?_
  obtain ⟨ns, e, h64, h1⟩ := optP_of h1
  obtain ⟨x, ex, e⟩ := bind_of e
  have rr := S1.res R1 ex
  have fin : ∀ b, v = .ref b → SqI K H1 b ns → ∃ (l : Addr) (ns : List Int), v = .ref l ∧ (SqL K H1 l (ns.map V.int) ∨ SqT K H1 l (ns.map V.int)) ∧ ns.length < 64 ∧
      ∀ (ms : List Int) (p : Addr), ms.length < 64 → ms.Pairwise (· < ·) → (∀ k : Int, k ∈ ms ↔ k ∈ ns) → H1 p = none → Q' (.ref p) (upd H1 p (.lst (ms.map V.int))) := fun b ev hq => by
    refine ⟨b, ns, ev, hq, h64, fun ms p hl hs hm hn => ?_⟩
    obtain ⟨S2, K2⟩ := S1.new1 (o := .lst (ms.map V.int)) hn
    exact k _ e1 p _ _ S2 (K1.trans K2) upd_same (Reps.ofInts ms) (S1.fresh hn) (S1.fresh0 hn) (h1 ms hl hs hm)
  obtain ⟨b, eb, hq⟩ := sqi_of (K := K) rr e
  exact fin b eb hq
end LW
end S13_

section S14_
set_option maxRecDepth 100000
set_option maxHeartbeats 1000000
/-! Own layer, part 14: == and != of an instance whose class has an __eq__ of its own. -/
namespace LW
open PySem PySem.Spec PyProof.Rows L2 RZ
open PySem.W (Looks)
section
variable {M : Model} {prog : Program} {w : World} {A : Around} {E : Value → Shared → Prop} {s : Shared} {K : PySem.W.Frag} {x C f : Addr} {ox : Obj} {od : Option Obj} {b tb : Value}
theorem bound_ne {args : List Value} {Q : Option Value → Shared → Prop} (X : K.In s.heap) (I : PySem.W.InstAt s.heap x ox C od) (hs : PySem.W.findIn K (.ref C) "__ne__" = some (some (.builtin "object.__ne__")))
    (h : wpAny M A (call (.builtin "object.__ne__") (.ref x :: args)) (fun v => Q (some v)) E s) : wpAny M A (callSpecialIfBound? (.ref x) "__ne__" args) Q E s := by
  simp only [callSpecialIfBound?, bindSpecialIfBound?]
  refine wpAny_holding (wpAny_bind (wpAny_bind (wpAny_bind (I.type.here ((PySem.W.looks_findIn X hs).here (wpAny_bind (wpAny_askSetting (wpAny_ite ?_))))))))
  have go : wpAny M A (call (.builtin "object.__ne__") ([.ref x] ++ args) >>= fun v => pure (some v)) Q E s := wpAny_bind (wpAny_mono h (fun _ _ q => wpAny_pure q) fun _ _ q => q)
  split
  · exact wpAny_bind (wpAny_of_eq (PySem.F.cmp_object.ne.bind _) (wpAny_pure (by exact go)))
  · exact wpAny_tryCatch (wpAny_bind (wpAny_of_eq (PySem.F.cmp_object.ne.bind _) (wpAny_pure (by exact go))))
theorem body_ne {Q : Fin → Shared → Prop} (hu : A.units < cLine) (X : K.In s.heap) (I : PySem.W.InstAt s.heap x ox C od) (hs : PySem.W.findIn K (.ref C) "__eq__" = some (some (.ref f))) (hf : PySem.W.isFn K (.ref f) = true)
    (h : wpAny M A (call (.ref f) [.ref x, b]) (fun v s' => ∃ k, v = .bool k ∧ Q (.done (.ret (.bool (!k)))) s') E s) : wpAny M A (Builtin.«object.__ne__» ⟨[.ref x, b], []⟩) Q E s := by
  unfold Builtin.«object.__ne__»
  repeat (first
    | with_reducible refine wpAny_cRoomFor hu ?_
    | (refine wpAny_bind (m := callSpecialIfBound? (.ref x) (Str.ofString "__eq__") [b]) (PySem.W.ifBound_K X I hs hf (wpAny_mono h (fun v s' hv => ?_) fun _ _ e => e)))
    | wp_step)
  obtain ⟨k, rfl, q⟩ := hv
  repeat (first | (exact q) | (exact wpAny_pure q) | (exact wpAny_truthy_bool q) | (refine wpAny_bind (m := truthy (.bool k)) (wpAny_truthy_bool ?_)) | wp_step)
theorem rich_one {op : CmpOp} {Q : Value → Shared → Prop} (hu : A.units < cLine) (X : K.In s.heap) (I : PySem.W.InstAt s.heap x ox C od) (hb : Looks (model prog w) s.heap (typeOf b) tb) (hn : PySem.W.notFirst K C tb = true)
    (one : wpAny (model prog w) A (tryCompare (.ref x) (cmpInfo op).2.1 b) (fun r s' => ∃ v, r = some v ∧ Q v s') E s) : wpAny (model prog w) A (richCompare op (.ref x) b) Q E s := by
  unfold richCompare
  simp only [oneThing_ref]
  refine wpAny_holding (wpAny_bind (wpAny_cRoomFor hu (wpAny_bind (I.type.here (wpAny_bind (hb.here ?_))))))
  split
  · rename_i q
    have e : PySem.W.subIn K tb (.ref C) = some false := by
      rcases Bool.or_eq_true_iff.mp hn with e | e
      · rw [beq_iff_eq.mp e] at q
        simp at q
      · exact beq_iff_eq.mp e
    refine wpAny_bind ((PySem.W.looks_subIn X e).here ?_)
    simp only [Bool.false_eq_true, if_false]
    refine wpAny_bind (wpAny_mono one (fun r s' z => ?_) fun _ _ e => e)
    obtain ⟨v, rfl, q⟩ := z
    exact wpAny_pure q
  · refine wpAny_bind (wpAny_pure ?_)
    simp only [Bool.false_eq_true, if_false]
    refine wpAny_bind (wpAny_mono one (fun r s' z => ?_) fun _ _ e => e)
    obtain ⟨v, rfl, q⟩ := z
    exact wpAny_pure q
/-- what may stand on the other side -/
def NFst (K : PySem.W.Frag) (C : Addr) (u : Value) (h : Heap) : Prop := ∃ tb, (∀ M, Looks M h (typeOf u) tb) ∧ PySem.W.notFirst K C tb = true
theorem rich_eq {Q : Value → Shared → Prop} (hu : A.units < cLine) (X : K.In s.heap) (I : PySem.W.InstAt s.heap x ox C od) (hb : NFst K C b s.heap) (hs : PySem.W.findIn K (.ref C) "__eq__" = some (some (.ref f))) (hf : PySem.W.isFn K (.ref f) = true)
    (h : wpAny (model prog w) A (call (.ref f) [.ref x, b]) (fun v s' => ∃ k, v = .bool k ∧ Q (.bool k) s') E s) : wpAny (model prog w) A (compareOp .Eq (.ref x) b) Q E s := by
  obtain ⟨tb, h1, h2⟩ := hb
  show wpAny (model prog w) A (richCompare .Eq (.ref x) b) Q E s
  refine rich_one hu X I (h1 _) h2 ?_
  unfold tryCompare
  refine wpAny_bind (PySem.W.ifBound_K X I hs hf (wpAny_mono h (fun v s' hv => ?_) fun _ _ e => e))
  obtain ⟨k, rfl, q⟩ := hv
  exact wpAny_pure ⟨_, rfl, q⟩
theorem rich_ne {Q : Value → Shared → Prop} (hu : A.units + 1 < cLine) (X : K.In s.heap) (I : PySem.W.InstAt s.heap x ox C od) (hb : NFst K C b s.heap) (hm : PySem.W.mroIn K C (.type "object") = some true)
    (hs : PySem.W.findIn K (.ref C) "__eq__" = some (some (.ref f))) (hf : PySem.W.isFn K (.ref f) = true) (hs2 : PySem.W.findIn K (.ref C) "__ne__" = some (some (.builtin "object.__ne__")))
    (h : wpAny (model prog w) A.in1 (call (.ref f) [.ref x, b]) (fun v s' => ∃ k, v = .bool k ∧ Q (.bool (!k)) s') E s) : wpAny (model prog w) A (compareOp .NotEq (.ref x) b) Q E s := by
  obtain ⟨tb, h1, h2⟩ := hb
  show wpAny (model prog w) A (richCompare .NotEq (.ref x) b) Q E s
  refine rich_one (Nat.lt_of_succ_lt hu) X I (h1 _) h2 ?_
  unfold tryCompare
  refine wpAny_bind (bound_ne X I hs2 (wpAny_call (codeAny_call_builtin PySem.F.cmp_object.ne.plain PySem.F.cmpEntry_ne (PySem.W.check_slot PySem.F.cmpKind_ne PySem.F.cmpSplit_ne (I.type.andThen (PySem.W.looks_mroIn X hm)) (PySem.F.cmpArgs_ne _ _)
    (body_ne (A := A.in1) hu X I hs hf (wpAny_mono h (fun v s' hv => ?_) fun _ _ e => e))))))
  obtain ⟨k, rfl, q⟩ := hv
  exact ⟨k, rfl, wpAny_pure ⟨_, rfl, q⟩⟩
theorem nf_blt {n : String} (e : fastBuiltinMro n = some [.type n, .type "object"]) : PySem.W.notFirst K C (.type n) = true := by
  have q : PySem.W.subIn K (.type n) (.ref C) = some false := by
    show (fastBuiltinMro n).map (·.contains (.ref C)) = some false
    rw [e]
    first
      | rfl
      | simp
  unfold PySem.W.notFirst
  rw [q]
  simp
end
/-- the other side: None, an integer, a tuple, an instance of the same class -/
def OkO (C : Addr) (y : V) (H : Hp) : Prop := y = .non ∨ (∃ i, y = .int i) ∨ (∃ a xs, y = .ref a ∧ H a = some (.tup xs)) ∨ ∃ a dx fs, y = .ref a ∧ H a = some (.ins C dx fs)
theorem OkO.nf {X : Cx} {pins : List (Addr × Obj)} {σ : L2.St} {H : Hp} {s : Shared} {C : Addr} {y : V} {u : Value} (I : L2.Inv X pins σ H s) (r : RelV y u) (o : OkO C y H) : NFst X.K C u s.heap := by
  rcases o with rfl | ⟨i, rfl⟩ | ⟨a, xs, rfl, ha⟩ | ⟨a, dx, fs, rfl, ha⟩
  · cases r
    exact ⟨.type "NoneType", fun _ => .of_pure rfl, nf_blt (by decide +kernel)⟩
  · obtain ⟨t, rfl⟩ := r
    exact ⟨.type "int", fun _ => .of_pure rfl, nf_blt (by decide +kernel)⟩
  · cases r
    obtain ⟨its, rv, p, hz⟩ := I.tuple (SqT.of ha)
    obtain ⟨o, h1, h2, _⟩ := p
    exact ⟨.type "tuple", fun M => h2 ▸ (Looks.ld h1).andThen .now, nf_blt (by decide +kernel)⟩
  · cases r
    obtain ⟨mB, J', _⟩ := ins_get I.hok ha
    obtain ⟨od', J', _⟩ := J'.look
    exact ⟨.ref C, fun M => J'.type, by simp [PySem.W.notFirst]⟩
def tOwnEq (neg : Bool) (C : Addr) (sp : Sp) (E : L2.St → XK) (ta tb : TE) : TE := fun σ H Q => ta σ H fun x H1 => tb σ H1 fun y H2 => (∃ a dx fs, x = .ref a ∧ H2 a = some (.ins C dx fs)) ∧ OkO C y H2 ∧ sp [x, y] H2 (fun z H3 => ∃ k, z = .bl k ∧ Q (.bl (if neg then !k else k)) H3) (E σ)
section
variable {X : Cx} {CX : CXT} {k : Nat} {f C : Addr} {fd : FuncData} {ps : List Str} {sp : Sp} {E : L2.St → XK} {a b : Expr} {ta tb : TE} {pos : Pos}
theorem run_in {A : Around} {pins : List (Addr × Obj)} {σ : L2.St} {H : Hp} {s : Shared} {Q : VK} {us : List Value} {vs : List V} {e0 : XK} (F : FnOk X.prog X.w X.K X.mg X.base CX k f fd ps sp) (hr : Room k A) (he : Env0 X.prog X.w X.K X.mg X.base A X.stack s H) (hb : Binds X.K fd ps [])
    (hx : PassesAt CX X σ e0) (I : L2.Inv X pins σ H s) (r : Vals vs us) (h : sp vs H Q e0) : wpAny (model X.prog X.w) A (call (.ref f) us) (EP X pins σ Q) X.xe s := by
  have b := hb s us I.kIn (by rw [List.append_nil, ← r.length]; exact F.len _ _ _ _ h)
  rw [List.append_nil] at b
  refine wpAny_call (codeAny_mono (F.run A X.stack s H ⟨us, []⟩ us vs Q e0 hr he b r h) fun r s' hq => ?_)
  rcases r with e | fl
  · exact hx pins H s e s' I hq
  · cases fl with
    | ret u => exact I.after hq
    | next => exact False.elim hq
    | brk => exact False.elim hq
    | cont => exact False.elim hq
theorem pe_ownEq (hs : PySem.W.findIn X.K (.ref C) "__eq__" = some (some (.ref f))) (hf : PySem.W.isFn X.K (.ref f) = true) (F : FnOk X.prog X.w X.K X.mg X.base CX k f fd ps sp) (hr : Room k X.A) (hb : Binds X.K fd ps []) (hx : ∀ σ, PassesAt CX X σ (E σ))
    (ha : PE X a ta) (hb' : PE X b tb) (hm : behindInMarks .Eq b = false) : PE X (.Compare a [.Eq] [b] pos) (tOwnEq false C sp E ta tb) := by
  refine ⟨fun pins s σ H Q I h => ?_⟩
  refine wpAny_Compare1 (thn (ha.run pins s σ H _ I h) fun v s1 q1 => ?_) hm
  obtain ⟨x, H1, I1, rx, q1⟩ := q1
  refine thn (hb'.run pins s1 σ H1 _ I1 q1) fun u s2 q2 => ?_
  obtain ⟨y, H2, I2, ry, ⟨p, dx, fs, rfl, hp⟩, o, q2⟩ := q2
  cases rx
  obtain ⟨mA, J, _⟩ := ins_get I2.hok hp
  obtain ⟨od, J, _⟩ := J.look
  refine rich_eq hr.units0 I2.kIn J (o.nf I2 ry) hs hf (thn (run_in (us := [.ref p, u]) (vs := [.ref p, y]) F hr I2.env0 hb (hx σ) I2 (.cons rfl (.cons ry .nil)) q2) fun v s3 q3 => ?_)
  obtain ⟨z, H3, I3, rz, k, rfl, q3⟩ := q3
  cases rz
  exact ⟨k, rfl, .bl k, H3, I3, rfl, q3⟩
theorem pe_ownNe (hs : PySem.W.findIn X.K (.ref C) "__eq__" = some (some (.ref f))) (hs2 : PySem.W.findIn X.K (.ref C) "__ne__" = some (some (.builtin "object.__ne__"))) (ho : PySem.W.mroIn X.K C (.type "object") = some true) (hf : PySem.W.isFn X.K (.ref f) = true)
    (F : FnOk X.prog X.w X.K X.mg X.base CX k f fd ps sp) (hr : Room (k + 1) X.A) (hb : Binds X.K fd ps []) (hx : ∀ σ, PassesAt CX X σ (E σ))
    (ha : PE X a ta) (hb' : PE X b tb) (hm : behindInMarks .NotEq b = false) : PE X (.Compare a [.NotEq] [b] pos) (tOwnEq true C sp E ta tb) := by
  refine ⟨fun pins s σ H Q I h => ?_⟩
  refine wpAny_Compare1 (thn (ha.run pins s σ H _ I h) fun v s1 q1 => ?_) hm
  obtain ⟨x, H1, I1, rx, q1⟩ := q1
  refine thn (hb'.run pins s1 σ H1 _ I1 q1) fun u s2 q2 => ?_
  obtain ⟨y, H2, I2, ry, ⟨p, dx, fs, rfl, hp⟩, o, q2⟩ := q2
  cases rx
  obtain ⟨mA, J, _⟩ := ins_get I2.hok hp
  obtain ⟨od, J, _⟩ := J.look
  have r1 : Room k X.A.in1 := hr.in1
  have hu : X.A.units + 1 < cLine := r1.units0
  refine rich_ne hu I2.kIn J (o.nf I2 ry) ho hs hf hs2 (thn (run_in (us := [.ref p, u]) (vs := [.ref p, y]) F r1 I2.env0.in1 hb (hx σ) I2 (.cons rfl (.cons ry .nil)) q2) fun v s3 q3 => ?_)
  obtain ⟨z, H3, I3, rz, k, rfl, q3⟩ := q3
  cases rz
  exact ⟨k, rfl, .bl (!k), H3, I3, rfl, q3⟩
end
theorem okO_of {G : Gx} {O : Addr → Prop} {H : Hp} {y : V} {x : D} {c : Nat} (r : Rep G O H y x) (h : okO c x = true) : OkO (G.cl.ca c) y H := by
  cases r with
  | non => exact .inl rfl
  | int i => exact .inr (.inl ⟨i, rfl⟩)
  | tup no e r => exact .inr (.inr (.inl ⟨_, _, rfl, e⟩))
  | obj no e l r =>
    simp only [okO, beq_iff_eq] at h
    subst h
    exact .inr (.inr (.inr ⟨_, _, _, rfl, e⟩))
  | _ => cases h
theorem ge_ownEq {G : Gx} {W : WX} {ta tb : TE} {a b : WE} {neg : Bool} {c : Nat} {ct : Ct} (ha : GE G W ta a) (hb : GE G W tb b) : GE G W (tOwnEq neg (G.cl.ca c) (prom G.cl ct) (L2.WE W) ta tb) (wOwnEq neg c ct a b) := fun P H0 env σ H Q E Q' S h X k => by
  refine ha P H0 env σ H _ E _ S h X fun r e1 v H1 S1 K1 R1 h1 => ?_
  refine hb P H0 e1 σ H1 _ E _ S1 h1 X fun q e2 u H2 S2 K2 R2 h2 => ?_
  obtain ⟨p1, f1, h2⟩ := fzP_of h2
  obtain ⟨p2, f2, i1, i2, h2⟩ := fzP_of h2
  obtain ⟨S3, K3, Q3⟩ := S2.frz (R1.step K2) f1
  obtain ⟨S4, K4, Q4⟩ := S3.frz (R2.step K3) f2
  have Q3' := Q3.step K4
  have kk := ((K1.trans K2).trans K3).trans K4
  refine ⟨?_, okO_of Q4 i2, G.h, G.c, Ow P p2.2 σ, [p1.1, p2.1], _, _, .inl S4.ph, .inl S4.pc, fun a h => S4.odom h, .cons Q3' (.cons Q4 .nil), h2, fun z w H5 kc rz qz => ?_, fun x cls d H5 kc r q => X x p2.2 cls d H5 (S4.after kc) r q⟩
  · generalize p1.1 = x at Q3' i1
    cases Q3' with
    | obj no e l r =>
      simp only [isObj, beq_iff_eq] at i1
      subst i1
      exact ⟨_, _, _, rfl, e⟩
    | _ => cases i1
  · obtain ⟨m, em, qz⟩ := optP_of qz
    cases asBl_of em
    cases rz
    exact ⟨m, rfl, k (.d (.bl (if neg then !m else m))) p2.2 _ H5 (S4.after kc) (kk.trans (S4.kp kc)) (.bl _) qz⟩
end LW
end S14_

section S15_
set_option maxRecDepth 100000
set_option maxHeartbeats 1000000
/-! Own layer, part 15: the rules and their soundness as one; expressions. -/
namespace LW
open PySem PySem.Spec PyProof.Rows L2 RZ

def visB (sc : Scope) (x : Str) : Bool := match sc.names.lookup x with
  | some .local => true
  | some .cell => true
  | some .free => true
  | _ => false
def locB (fT : Bool) (sc : Scope) (x : Str) : Bool := match sc.names.lookup x with
  | some .local => true
  | some .cell => fT
  | _ => false
def gloB (sc : Scope) (x : Str) : Bool := match sc.names.lookup x with
  | some .globalImplicit => true
  | _ => false
/-- what is known of the contexts in which a text stands -/
structure Bd (P : Program) (w : World) (K : PySem.W.Frag) (mg : Str → Option Value) (base : Heap) (n : Nat) (N : List Str) (sc : Scope) (fT : Bool) (W : WX) (XP : Cx → Prop) : Prop where
  nd : N.Nodup
  p : ∀ X, XP X → X.prog = P
  w : ∀ X, XP X → X.w = w
  k : ∀ X, XP X → X.K = K
  m : ∀ X, XP X → X.mg = mg
  b : ∀ X, XP X → X.base = base
  c : ∀ X, XP X → X.calm = true
  r : ∀ X, XP X → Room n X.A
  n : ∀ X, XP X → X.N = N
  s : ∀ X, XP X → X.env.scope = sc
  t : ∀ X, XP X → Takes X W
  f : fT = true → ∀ X, XP X → (∀ x, X.fn x = true) ∧ PassesOwn (model X.prog X.w) X.A X.env X.xe
  g : fT = true → ∀ X, XP X → X.stack = X.env :: X.outer ∧ X.env.frame = some X.env.locals
abbrev Q2 (C : Cl) (P : Gx → Prop) : Prop := ∀ h c, P ⟨C, h, c⟩
def CE (C : Cl) (W : WX) (XP : Cx → Prop) (e : Expr) (we : WE) : Prop := ∃ te, (∀ X, XP X → PE X e te) ∧ Q2 C fun G => GE G W te we
def CF (C : Cl) (W : WX) (XP : Cx → Prop) (e : Expr) (wf : WA) : Prop := ∃ te, (∀ X, XP X → PE X e te) ∧ Q2 C fun G => GF G W te wf
def CT (C : Cl) (W : WX) (XP : Cx → Prop) (e : Expr) (wt : WT) : Prop := ∃ tt, (∀ X, XP X → PT X e tt) ∧ Q2 C fun G => GT G W tt wt
def Pl : List Expr → Prop
  | [] => True
  | e :: es => (∀ env : PySem.Env, starEach (e :: es) env = (false, eval e env) :: starEach es env) ∧ Pl es
theorem Pl.any {env : PySem.Env} {pos : Pos} : ∀ {es : List Expr}, Pl es → (backTo pos (starEach es env)).any (·.1) = false
  | [], _ => rfl
  | e :: es, h => by
    rw [h.1 env]
    show (false || (backTo pos (starEach es env)).any (·.1)) = false
    rw [Pl.any h.2]
    rfl
def CA (C : Cl) (W : WX) (XP : Cx → Prop) (es : List Expr) (wa : WA) : Prop := Pl es ∧ ∃ ta, (∀ X, XP X → PA X es ta) ∧ Q2 C fun G => GA G W ta wa
def CO (C : Cl) (W : WX) (XP : Cx → Prop) (e : Option Expr) (wo : WO) : Prop := ∃ to, (∀ X, XP X → PO X e to) ∧ Q2 C fun G => GO G W to wo
def CI (C : Cl) (W : WX) (XP : Cx → Prop) (tg e : Expr) (wi : WI) : Prop := ∃ ti, (∀ X, XP X → PI X tg e ti) ∧ Q2 C fun G => GI G W ti wi
def CG (C : Cl) (XP : Cx → Prop) (e : Expr) (kt : D → Env → Option Env) (ss : List Nat) : Prop := ∃ tg, (∀ X, XP X → PG X e tg) ∧ Q2 C fun G => GG G tg kt ss
def CGs (C : Cl) (XP : Cx → Prop) (es : List Expr) (ks : List (D → Env → Option Env)) (ss : List Nat) : Prop := ∃ tg, (∀ X, XP X → PGs X es tg) ∧ Q2 C fun G => GGs G tg ks ss
/-- a comparison -/
def CC (C : Cl) (XP : Cx → Prop) (op : CmpOp) (f : D → D → Option Bool) : Prop := ∃ r : R2, (∀ X, XP X → OpR X (compareOp op) r) ∧ Q2 C fun G => COk G r f
def CB (C : Cl) (XP : Cx → Prop) (op : Operator) (f : D → D → Option D) : Prop := ∃ r : R2, (∀ X, XP X → OpR X (binaryOp op) r) ∧ Q2 C fun G => BOk G r f

section
variable {P : Program} {w : World} {K : PySem.W.Frag} {mg : Str → Option Value} {base : Heap} {n : Nat} {N : List Str} {sc : Scope} {fT : Bool} {W : WX} {XP : Cx → Prop} {C : Cl} {pos p p2 : Pos}
theorem Bd.gl (B : Bd P w K mg base n N sc fT W XP) {x : Str} (h : gloB sc x = true) {X : Cx} (hX : XP X) : Gl X x := by
  show X.env.scope.names.lookup x = _
  rw [B.s X hX]
  unfold gloB at h
  split at h
  · assumption
  · cases h
theorem Bd.vis (B : Bd P w K mg base n N sc fT W XP) {x : Str} (h : visB sc x = true) {X : Cx} (hX : XP X) : Vis X.env.scope x := by
  rw [B.s X hX]
  unfold visB at h
  split at h
  · exact .inl (by assumption)
  · exact .inr (.inl (by assumption))
  · exact .inr (.inr (by assumption))
  · cases h
theorem Bd.loc (B : Bd P w K mg base n N sc fT W XP) {x : Str} (h : locB fT sc x = true) {X : Cx} (hX : XP X) : Loc X.env.scope x ∧ (X.fn x = true ∨ X.env.scope.names.lookup x = some .local) := by
  rw [B.s X hX]
  unfold locB at h
  split at h
  · rename_i q
    exact ⟨.inl q, .inr q⟩
  · rename_i q
    exact ⟨.inr q, .inl ((B.f h X hX).1 x)⟩
  · cases h
theorem Bd.lk (B : Bd P w K mg base n N sc fT W XP) {x : Str} {i : Nat} (h : N[i]? = some x) {X : Cx} (hX : XP X) : X.N[i]? = some x := by rw [B.n X hX]; exact h
theorem Bd.mv (B : Bd P w K mg base n N sc fT W XP) {x : Str} {v : Option Value} (h : mg x = v) {X : Cx} (hX : XP X) : X.mg x = v := by rw [B.m X hX]; exact h
theorem Bd.ndX (B : Bd P w K mg base n N sc fT W XP) {X : Cx} (hX : XP X) : X.N.Nodup := by rw [B.n X hX]; exact B.nd

theorem ce_var (B : Bd P w K mg base n N sc fT W XP) (i : Nat) {x : Str} (hN : N[i]? = some x := by rfl) (hv : visB sc x = true := by rfl) (hd : (x == ("__debug__" : Str)) = false := by decide) (hcd : (x == ("__classdict__" : Str)) = false := by decide) : CE C W XP (.Name x pos) (wVar i) :=
  ⟨_, fun X hX => pe_var (B.lk hN hX) (B.vis hv hX) hd hcd, fun _ _ => ge_var i⟩
theorem ce_int {i : Int} {j : Nat} : CE C W XP (.Constant (.int i) j pos) (wC (.int i)) := ⟨_, fun _ _ => pe_int, fun _ _ => ge_c fun _ _ => .int i⟩
theorem ce_bl {i : Bool} {j : Nat} : CE C W XP (.Constant (.bool i) j pos) (wC (.bl i)) := ⟨_, fun _ _ => pe_bl, fun _ _ => ge_c fun _ _ => .bl i⟩
theorem ce_non {j : Nat} : CE C W XP (.Constant .none j pos) (wC .non) := ⟨_, fun _ _ => pe_non, fun _ _ => ge_c fun _ _ => .non⟩
theorem ce_str (s : List Nat) {x : Str} {j : Nat} (h : x = strV s := by rfl) : CE C W XP (.Constant (.str x) j pos) (wC (.str s)) := ⟨_, fun _ _ => pe_str, fun _ _ => ge_c fun _ _ => h ▸ .str s⟩
theorem ce_gint (B : Bd P w K mg base n N sc fT W XP) {x : Str} {i : Int} (hm : ∃ t : Nat, mg x = some (.int i t)) (hg : gloB sc x = true := by rfl) (hd : (x == ("__debug__" : Str)) = false := by decide) : CE C W XP (.Name x pos) (wC (.int i)) :=
  let ⟨t, hm⟩ := hm; ⟨_, fun X hX => pe_glob (v := .int i) (B.gl hg hX) (B.mv hm hX) ⟨t, rfl⟩ hd, fun _ _ => ge_c fun _ _ => .int i⟩
theorem ce_neg {e : Expr} {a : WE} (h : CE C W XP e a) : CE C W XP (.UnaryOp .USub e pos) (wUn fNeg a) := by
  obtain ⟨te, h1, h2⟩ := h
  refine ⟨_, fun X hX => pe_un un_neg (h1 X hX), fun h c => ge_un (h2 h c) fun O H v x z Q' o r e k => ?_⟩
  unfold fNeg at e
  split at e
  · cases e
    cases r.int
    exact ⟨_, rfl, k _ H .refl (.int _)⟩
  · cases e
theorem ce_bool1 {op : BoolOp} {e : Expr} {a : WE} (h : CE C W XP e a) : CE C W XP (.BoolOp op [e] pos) a := let ⟨te, h1, h2⟩ := h; ⟨te, fun X hX => pe_one (h1 X hX), h2⟩
theorem ce_and {e e2 : Expr} {es : List Expr} {a b : WE} (h : CE C W XP e a) (h' : CE C W XP (.BoolOp .And (e2 :: es) pos) b) : CE C W XP (.BoolOp .And (e :: e2 :: es) pos) (wAndV a b) :=
  let ⟨_, h1, h2⟩ := h; let ⟨_, h3, h4⟩ := h'; ⟨_, fun X hX => pe_and (h1 X hX) (h3 X hX), fun h c => ge_andV (h2 h c) (h4 h c)⟩
theorem ce_or {e e2 : Expr} {es : List Expr} {a b : WE} (h : CE C W XP e a) (h' : CE C W XP (.BoolOp .Or (e2 :: es) pos) b) : CE C W XP (.BoolOp .Or (e :: e2 :: es) pos) (wOrV a b) :=
  let ⟨_, h1, h2⟩ := h; let ⟨_, h3, h4⟩ := h'; ⟨_, fun X hX => pe_or (h1 X hX) (h3 X hX), fun h c => ge_orV (h2 h c) (h4 h c)⟩
theorem ce_not {e : Expr} {a : WE} (h : CE C W XP e a) : CE C W XP (.UnaryOp .Not e pos) (wNotV a) := let ⟨_, h1, h2⟩ := h; ⟨_, fun X hX => pe_not (h1 X hX), fun h c => ge_notV (h2 h c)⟩
/-! comparisons -/
theorem cc_lt : CC C XP .Lt cLt := ⟨_, fun _ _ => op_lt, fun _ _ => cok_lt⟩
theorem cc_le : CC C XP .LtE cLe := ⟨_, fun _ _ => op_le, fun _ _ => cok_le⟩
theorem cc_gt : CC C XP .Gt cGt := ⟨_, fun _ _ => op_gt, fun _ _ => cok_gt⟩
theorem cc_ge : CC C XP .GtE cGe := ⟨_, fun _ _ => op_ge, fun _ _ => cok_ge⟩
theorem cc_eq (B : Bd P w K mg base n N sc fT W XP) : CC C XP .Eq cEq := ⟨rEqA K, fun X hX => B.k X hX ▸ op_eqA (B.r X hX), fun _ _ => cok_eq⟩
theorem cc_ne (B : Bd P w K mg base n N sc fT W XP) : CC C XP .NotEq (cNot cEq) := ⟨rNeA K, fun X hX => B.k X hX ▸ op_neA (B.r X hX), fun _ _ => cok_ne⟩
theorem cc_isN : CC C XP .Is cIsN := ⟨_, fun _ _ => op_isN, fun _ _ => cok_isN⟩
theorem cc_notN : CC C XP .IsNot (cNot cIsN) := ⟨_, fun _ _ => op_notN, fun _ _ => cok_notN⟩
theorem cc_isB : CC C XP .Is cIsB := ⟨_, fun _ _ => op_isBl, fun _ _ => cok_isB⟩
theorem cc_notB : CC C XP .IsNot (cNot cIsB) := ⟨_, fun _ _ => op_notBl, fun _ _ => cok_notB⟩
theorem cc_in (B : Bd P w K mg base n N sc fT W XP) : CC C XP .In cIn := ⟨rInU K false, fun X hX => B.k X hX ▸ op_inU (by have := (B.r X hX).units; omega), fun _ _ => cok_in⟩
theorem cc_notIn (B : Bd P w K mg base n N sc fT W XP) : CC C XP .NotIn (cNot cIn) := ⟨rInU K true, fun X hX => B.k X hX ▸ op_notInU (by have := (B.r X hX).units; omega), fun _ _ => cok_notIn⟩
theorem ce_cmp {op : CmpOp} {f : D → D → Option Bool} {e e2 : Expr} {a b : WE} (o : CC C XP op f) (h : CE C W XP e a) (h' : CE C W XP e2 b) (hm : behindInMarks op e2 = false := by first | exact nomark _ | with_unfolding_all rfl) : CE C W XP (.Compare e [op] [e2] pos) (wBin (vB f) a b) :=
  let ⟨_, o1, o2⟩ := o; let ⟨_, h1, h2⟩ := h; let ⟨_, h3, h4⟩ := h'; ⟨_, fun X hX => pe_cmpR (o1 X hX) (h1 X hX) (h3 X hX) hm, fun h c => ge_bin (h2 h c) (h4 h c) (o2 h c).b⟩
theorem ct_cmp {op : CmpOp} {f : D → D → Option Bool} {e e2 : Expr} {a b : WE} (o : CC C XP op f) (h : CE C W XP e a) (h' : CE C W XP e2 b) (hm : behindInMarks op e2 = false := by first | exact nomark _ | with_unfolding_all rfl) : CT C W XP (.Compare e [op] [e2] pos) (wB (wBin (vB f) a b)) :=
  let ⟨_, o1, o2⟩ := o; let ⟨_, h1, h2⟩ := h; let ⟨_, h3, h4⟩ := h'; ⟨_, fun X hX => pt_cmpR (o1 X hX) (h1 X hX) (h3 X hX) hm, fun h c => gt_test (ge_bin (h2 h c) (h4 h c) (o2 h c).b)⟩
theorem ce_chain {op op' : CmpOp} {f g : D → D → Option Bool} {e e2 e3 : Expr} {a b d : WE} (o : CC C XP op f) (o' : CC C XP op' g) (h : CE C W XP e a) (h' : CE C W XP e2 b) (h'' : CE C W XP e3 d) (hm : lastMarks [op, op'] [e2, e3] = false := by with_unfolding_all rfl) :
    CE C W XP (.Compare e [op, op'] [e2, e3] pos) (wChain f g a b d) :=
  let ⟨_, o1, o2⟩ := o; let ⟨_, o3, o4⟩ := o'; let ⟨_, h1, h2⟩ := h; let ⟨_, h3, h4⟩ := h'; let ⟨_, h5, h6⟩ := h''; ⟨_, fun X hX => pe_chain (o1 X hX) (o3 X hX) (h1 X hX) (h3 X hX) (h5 X hX) hm, fun h c => ge_chain (h2 h c) (h4 h c) (h6 h c) (o2 h c) (o4 h c)⟩
/-! arithmetic -/
theorem cb_add (B : Bd P w K mg base n N sc fT W XP) : CB C XP .Add fAdd := ⟨rAdd K, fun X hX => B.k X hX ▸ op_addA, fun _ _ => bok_add⟩
theorem cb_sub : CB C XP .Sub fSub := ⟨_, fun _ _ => op_sub, fun _ _ => bok_sub⟩
theorem cb_mul (B : Bd P w K mg base n N sc fT W XP) : CB C XP .Mult fMul := ⟨rMulA K, fun X hX => B.k X hX ▸ op_mulA, fun _ _ => bok_mul⟩
theorem cb_mod : CB C XP .Mod fMod := ⟨_, fun _ _ => op_mod, fun _ _ => bok_mod⟩
theorem cb_div : CB C XP .FloorDiv fDiv := ⟨_, fun _ _ => op_fdiv, fun _ _ => bok_div⟩
theorem cb_pow : CB C XP .Pow fPow := ⟨_, fun _ _ => op_pow, fun _ _ O H v u x y z Q' o r1 r2 e k => by
  unfold fPow at e
  split at e
  · split at e
    · rename_i hc
      cases e
      cases r1.int
      cases r2.int
      exact ⟨_, _, rfl, rfl, ⟨hc.1, by omega, by omega⟩, k _ H .refl (.int _)⟩
    · cases e
  · cases e⟩
theorem ce_bin {op : Operator} {f : D → D → Option D} {e e2 : Expr} {a b : WE} (o : CB C XP op f) (h : CE C W XP e a) (h' : CE C W XP e2 b) : CE C W XP (.BinOp e op e2 pos) (wBin f a b) :=
  let ⟨_, o1, o2⟩ := o; let ⟨_, h1, h2⟩ := h; let ⟨_, h3, h4⟩ := h'; ⟨_, fun X hX => pe_op (o1 X hX) (h1 X hX) (h3 X hX), fun h c => ge_bin (h2 h c) (h4 h c) (o2 h c)⟩
/-- a list times a number -/
theorem cf_mul (B : Bd P w K mg base n N sc fT W XP) {e e2 : Expr} {a b : WE} (h : CE C W XP e a) (h' : CE C W XP e2 b) : CF C W XP (.BinOp e .Mult e2 pos) (wBinF fMulL a b) :=
  let ⟨_, h1, h2⟩ := h; let ⟨_, h3, h4⟩ := h'; ⟨_, fun X hX => pe_op (r := rMulA K) (B.k X hX ▸ op_mulA) (h1 X hX) (h3 X hX), fun h c => gf_bin (h2 h c) (h4 h c) bfk_mul⟩
/-! subscripts -/
theorem ce_ix (B : Bd P w K mg base n N sc fT W XP) {e e2 : Expr} {a b : WE} (h : CE C W XP e a) (h' : CE C W XP e2 b) (hs : PlainIx e2 := by exact fun _ _ => rfl) : CE C W XP (.Subscript e e2 pos) (wBin fIx a b) :=
  let ⟨_, h1, h2⟩ := h; let ⟨_, h3, h4⟩ := h'; ⟨_, fun X hX => pe_ix (r := rIxU K) (B.k X hX ▸ ix_u (by have := (B.r X hX).units; omega)) (h1 X hX) (h3 X hX) hs, fun h c => ge_bin (h2 h c) (h4 h c) bok_ix⟩
theorem co_none : CO C W XP none wO0 := ⟨_, fun _ _ => po_none, fun _ _ => go_none⟩
theorem co_some {e : Expr} {a : WE} (h : CE C W XP e a) : CO C W XP (some e) (wO1 a) := let ⟨_, h1, h2⟩ := h; ⟨_, fun X hX => po_some (h1 X hX), fun h c => go_some (h2 h c)⟩
theorem ce_slice (B : Bd P w K mg base n N sc fT W XP) {e : Expr} {lo hi : Option Expr} {a : WE} {l r : WO} (h : CE C W XP e a) (hl : CO C W XP lo l) (hh : CO C W XP hi r) : CE C W XP (.Subscript e (.Slice lo hi none p2) pos) (wSl fSlice a l r) :=
  let ⟨_, h1, h2⟩ := h; let ⟨_, h3, h4⟩ := hl; let ⟨_, h5, h6⟩ := hh; ⟨_, fun X hX => pe_slice (r := rSlAny K) (B.k X hX ▸ sl_any) (h1 X hX) (h3 X hX) (h5 X hX), fun h c => ge_slice (h2 h c) (h4 h c) (h6 h c) sok_slice⟩
theorem ce_some (B : Bd P w K mg base n N sc fT W XP) {e lo st : Expr} {a : WE} {l r : WO} (h : CE C W XP e a) (hl : CO C W XP (some lo) l) (hh : CO C W XP (some st) r) : CE C W XP (.Subscript e (.Slice (some lo) none (some st) p2) pos) (wSome a l r) :=
  let ⟨te, h1, h2⟩ := h; let ⟨tl, h3, h4⟩ := hl; let ⟨ts, h5, h6⟩ := hh; ⟨tSlSt K te tl ts, fun X hX => B.k X hX ▸ pe_slSt (h1 X hX) (h3 X hX) (h5 X hX), fun h c => ge_some (h2 h c) (h4 h c) (h6 h c)⟩
theorem ce_back (B : Bd P w K mg base n N sc fT W XP) {e : Expr} {kk : Nat} {p1 p3 : Pos} {a : WE} (h : CE C W XP e a) : CE C W XP (.Subscript e (.Slice none none (some (.UnaryOp .USub (.Constant (.int 1) kk p1) p2)) p3) pos) (wUn fBack a) :=
  let ⟨te, h1, h2⟩ := h; ⟨tBack K te, fun X hX => B.k X hX ▸ pe_back (h1 X hX), fun h c => ge_back (h2 h c)⟩
/-! arguments, displays -/
theorem ca_nil : CA C W XP [] wA0 := ⟨trivial, _, fun _ _ => pa_nil, fun _ _ => ga_nil⟩
theorem ca_cons {e : Expr} {es : List Expr} {a : WE} {r : WA} (h : CE C W XP e a) (hr : CA C W XP es r) (hs : ∀ env : PySem.Env, starEach (e :: es) env = (false, eval e env) :: starEach es env := by intro _; rfl) : CA C W XP (e :: es) (wA1 a r) :=
  let ⟨_, h1, h2⟩ := h; let ⟨h0, _, h3, h4⟩ := hr; ⟨⟨hs, h0⟩, _, fun X hX => pa_cons (h1 X hX) (h3 X hX) (hs _), fun h c => ga_cons (h2 h c) (h4 h c)⟩
theorem ce_tup {es : List Expr} {as : WA} {x1 : Nat} (h : CA C W XP es as) : CE C W XP (.Tuple es x1 pos) (wTup as) := let ⟨_, _, h1, h2⟩ := h; ⟨_, fun X hX => pe_tup (h1 X hX), fun h c => ge_tup (h2 h c)⟩
theorem cf_lst {es : List Expr} {as : WA} (h : CA C W XP es as) : CF C W XP (.List es pos) (wLst as) := let ⟨_, _, h1, h2⟩ := h; ⟨_, fun X hX => pe_lst (h1 X hX), fun h c => gf_lst (h2 h c)⟩
theorem ce_frz {e : Expr} {f : WA} (h : CF C W XP e f) : CE C W XP e (wFz f) := let ⟨_, h1, h2⟩ := h; ⟨_, h1, fun h c => ge_frz (h2 h c)⟩
theorem ce_dct0 : CE C W XP (.Dict [] [] pos) (wC (.dct [] [])) := ⟨_, fun _ _ => pe_dnewK, fun _ _ => ge_dct0⟩
end
end LW
end S15_

section S16_
set_option maxRecDepth 100000
set_option maxHeartbeats 1000000
/-! Own layer, part 16: calls, kinds, comprehensions, statements. -/
namespace LW
open PySem PySem.Spec PyProof.Rows L2 RZ

section
variable {P : Program} {w : World} {K : PySem.W.Frag} {mg : Str → Option Value} {base : Heap} {n : Nat} {N : List Str} {sc : Scope} {fT : Bool} {W : WX} {XP : Cx → Prop} {C : Cl} {pos p p2 q : Pos} {e e2 : Expr} {es : List Expr} {a b : WE} {as : WA}
/-! builtins -/
theorem ce_len (B : Bd P w K mg base n N sc fT W XP) (hm : mg "len" = none) (h : CE C W XP e a) (hs : ∀ env : PySem.Env, starEach [e] env = (false, eval e env) :: starEach [] env := by intro _; rfl) (hg : gloB sc "len" = true := by rfl) : CE C W XP (.Call (.Name "len" p) [e] [] pos) (wUn fLen a) :=
  let ⟨te, h1, h2⟩ := h; ⟨tCB (rLenA K) (tCons te tNil), fun X hX => B.k X hX ▸ pe_callB cr_lenA (B.gl hg hX) (B.mv hm hX) boot_len (pa_cons (h1 X hX) pa_nil (hs _)) (by decide) (by decide) (hs _), fun h c => ge_cb (h2 h c) uok_len⟩
theorem ce_abs (B : Bd P w K mg base n N sc fT W XP) (hm : mg "abs" = none) (h : CE C W XP e a) (hs : ∀ env : PySem.Env, starEach [e] env = (false, eval e env) :: starEach [] env := by intro _; rfl) (hg : gloB sc "abs" = true := by rfl) : CE C W XP (.Call (.Name "abs" p) [e] [] pos) (wUn fAbs a) :=
  let ⟨te, h1, h2⟩ := h; ⟨_, fun X hX => pe_callB call_abs (B.gl hg hX) (B.mv hm hX) boot_abs (pa_cons (h1 X hX) pa_nil (hs _)) (by decide) (by decide) (hs _), fun h c => ge_cb (h2 h c) uok_abs⟩
theorem ce_toInt (B : Bd P w K mg base n N sc fT W XP) (hm : mg "int" = none) (h : CE C W XP e a) (hs : ∀ env : PySem.Env, starEach [e] env = (false, eval e env) :: starEach [] env := by intro _; rfl) (hg : gloB sc "int" = true := by rfl) : CE C W XP (.Call (.Name "int" p) [e] [] pos) (wUn fInt a) :=
  let ⟨te, h1, h2⟩ := h; ⟨_, fun X hX => pe_callTy call_int1 (B.gl hg hX) (B.mv hm hX) PyProof.Rows.boot_int (pa_cons (h1 X hX) pa_nil (hs _)) (by decide) (by decide) (hs _), fun h c => ge_cb (h2 h c) uok_int⟩
theorem ce_all (B : Bd P w K mg base n N sc fT W XP) (hm : mg "all" = none) (h : CE C W XP e a) (hs : ∀ env : PySem.Env, starEach [e] env = (false, eval e env) :: starEach [] env := by intro _; rfl) (hg : gloB sc "all" = true := by rfl) : CE C W XP (.Call (.Name "all" p) [e] [] pos) (wUn fAll a) :=
  let ⟨te, h1, h2⟩ := h; ⟨tCB (rAll K) (tCons te tNil), fun X hX => B.k X hX ▸ pe_callB (cr_all (B.c X hX)) (B.gl hg hX) (B.mv hm hX) boot_all (pa_cons (h1 X hX) pa_nil (hs _)) (by decide) (by decide) (hs _), fun h c => ge_cb (h2 h c) uok_all⟩
theorem ce_any (B : Bd P w K mg base n N sc fT W XP) (hm : mg "any" = none) (h : CE C W XP e a) (hs : ∀ env : PySem.Env, starEach [e] env = (false, eval e env) :: starEach [] env := by intro _; rfl) (hg : gloB sc "any" = true := by rfl) : CE C W XP (.Call (.Name "any" p) [e] [] pos) (wUn fAny a) :=
  let ⟨te, h1, h2⟩ := h; ⟨tCB (rAny K) (tCons te tNil), fun X hX => B.k X hX ▸ pe_callB (cr_any (B.c X hX)) (B.gl hg hX) (B.mv hm hX) boot_any (pa_cons (h1 X hX) pa_nil (hs _)) (by decide) (by decide) (hs _), fun h c => ge_cb (h2 h c) uok_any⟩
theorem ce_toTup (B : Bd P w K mg base n N sc fT W XP) (hm : mg "tuple" = none) (h : CE C W XP e a) (hs : ∀ env : PySem.Env, starEach [e] env = (false, eval e env) :: starEach [] env := by intro _; rfl) (hg : gloB sc "tuple" = true := by rfl) : CE C W XP (.Call (.Name "tuple" p) [e] [] pos) (wUn fTuple a) :=
  let ⟨te, h1, h2⟩ := h; ⟨tCB (rTupOf K) (tCons te tNil), fun X hX => B.k X hX ▸ pe_callTy call_tuple_of (B.gl hg hX) (B.mv hm hX) PyProof.Rows.boot_tuple (pa_cons (h1 X hX) pa_nil (hs _)) (by decide) (by decide) (hs _), fun h c => ge_cb (h2 h c) uok_tuple⟩
theorem cf_toLst (B : Bd P w K mg base n N sc fT W XP) (hm : mg "list" = none) (h : CE C W XP e a) (hs : ∀ env : PySem.Env, starEach [e] env = (false, eval e env) :: starEach [] env := by intro _; rfl) (hg : gloB sc "list" = true := by rfl) : CF C W XP (.Call (.Name "list" p) [e] [] pos) (wUnF fList a) :=
  let ⟨te, h1, h2⟩ := h; ⟨tCB (rListOf K) (tCons te tNil), fun X hX => B.k X hX ▸ pe_callTy call_list_of (B.gl hg hX) (B.mv hm hX) PyProof.Rows.boot_list (pa_cons (h1 X hX) pa_nil (hs _)) (by decide) (by decide) (hs _), fun h c => gf_cb (h2 h c) ufk_list⟩
theorem cf_sortSet (B : Bd P w K mg base n N sc fT W XP) (hm : mg "sorted" = none) (hm2 : mg "set" = none) (h : CE C W XP e a) (hs : ∀ env : PySem.Env, starEach [e] env = (false, eval e env) :: starEach [] env := by intro _; rfl) (hg : gloB sc "sorted" = true := by rfl) (hg2 : gloB sc "set" = true := by rfl) :
    CF C W XP (.Call (.Name "sorted" p) [.Call (.Name "set" p2) [e] [] q] [] pos) (wSortSet a) :=
  let ⟨te, h1, h2⟩ := h; ⟨tSortSet K te, fun X hX => B.k X hX ▸ pe_sortSet (B.c X hX) (B.gl hg hX) (B.mv hm hX) (B.gl hg2 hX) (B.mv hm2 hX) (h1 X hX) (hs _), fun h c => gf_sortSet (h2 h c)⟩
theorem cf_rgL (B : Bd P w K mg base n N sc fT W XP) (hm : mg "list" = none) (hm2 : mg "range" = none) (h : CE C W XP e a) (hs : ∀ env : PySem.Env, starEach [e] env = (false, eval e env) :: starEach [] env := by intro _; rfl) (hg : gloB sc "list" = true := by rfl) (hg2 : gloB sc "range" = true := by rfl) :
    CF C W XP (.Call (.Name "list" p) [.Call (.Name "range" p2) [e] [] q] [] pos) (wUnF fRgL a) :=
  let ⟨te, h1, h2⟩ := h; ⟨_, fun X hX => pe_listRg (B.c X hX) (B.gl hg hX) (B.mv hm hX) (prg_1 (B.gl hg2 hX) (B.mv hm2 hX) (h1 X hX) (hs _)), fun h c => gf_listRg (h2 h c)⟩
theorem ce_rgT (B : Bd P w K mg base n N sc fT W XP) (hm : mg "tuple" = none) (hm2 : mg "range" = none) (h : CE C W XP e a) (hs : ∀ env : PySem.Env, starEach [e] env = (false, eval e env) :: starEach [] env := by intro _; rfl) (hg : gloB sc "tuple" = true := by rfl) (hg2 : gloB sc "range" = true := by rfl) :
    CE C W XP (.Call (.Name "tuple" p) [.Call (.Name "range" p2) [e] [] q] [] pos) (wUn fRgT a) :=
  let ⟨te, h1, h2⟩ := h; ⟨_, fun X hX => pe_tupRg (B.c X hX) (B.gl hg hX) (B.mv hm hX) (prg_1 (B.gl hg2 hX) (B.mv hm2 hX) (h1 X hX) (hs _)), fun h c => ge_tupRg (h2 h c)⟩
/-! kinds -/
/-- a name of a kind -/
def TyN (C : Cl) (XP : Cx → Prop) (e : Expr) (u : Ty) : Prop := (∀ X, XP X → PE X e (tC (tV C u))) ∧ ∀ env : PySem.Env, ∀ es, starEach (e :: es) env = (false, eval e env) :: starEach es env
theorem ty_b (B : Bd P w K mg base n N sc fT W XP) {x : Str} (T : String) (u : Ty) (hm : mg x = none) (hv : bootBuiltins x = some (.type T)) (hu : tV C u = .ty T := by rfl) (hg : gloB sc x = true := by rfl) (hn : x ≠ "__name__" := by decide) (hd : (x == ("__debug__" : Str)) = false := by decide) : TyN C XP (.Name x pos) u :=
  ⟨fun X hX => hu ▸ pe_bltn (v := .ty T) (B.gl hg hX) (B.mv hm hX) hv rfl hn hd, fun _ _ => rfl⟩
theorem ty_c (B : Bd P w K mg base n N sc fT W XP) {x : Str} (c : Nat) (hm : mg x = some (.ref (C.ca c))) (hg : gloB sc x = true := by rfl) (hd : (x == ("__debug__" : Str)) = false := by decide) : TyN C XP (.Name x pos) (.own c) :=
  ⟨fun X hX => pe_glob (v := .ref (C.ca c)) (B.gl hg hX) (B.mv hm hX) rfl hd, fun _ _ => rfl⟩
def okTy (cs : List Nat) : Ty → Bool
  | .own c => decide (c ∈ cs)
  | _ => true
theorem okTy_of {cs : List Nat} {u : Ty} (h : okTy cs u = true) : bi u = true ∨ ∃ c, c ∈ cs ∧ u = .own c := by
  cases u <;> first | exact .inl rfl | exact .inr ⟨_, of_decide_eq_true h, rfl⟩
theorem ce_isi (B : Bd P w K mg base n N sc fT W XP) {cs : List Nat} {u : Ty} (ok : ClOk K C cs) (hm : mg "isinstance" = none) (h : CE C W XP e a) (t : TyN C XP e2 u) (hu : okTy cs u = true := by rfl) (hs : ∀ env : PySem.Env, starEach [e, e2] env = (false, eval e env) :: starEach [e2] env := by intro _; rfl) (hg : gloB sc "isinstance" = true := by rfl) :
    CE C W XP (.Call (.Name "isinstance" p) [e, e2] [] pos) (wUn (fIs cs [u]) a) :=
  let ⟨te, h1, h2⟩ := h; ⟨tCB (rIsi K) (tCons te (tCons (tC (tV C u)) tNil)), fun X hX => B.k X hX ▸ pe_callB call_isi (B.gl hg hX) (B.mv hm hX) boot_isinstance (pa_cons (h1 X hX) (pa_cons (t.1 X hX) pa_nil (t.2 _ _)) (hs _)) (by decide) (by decide) (hs _) (by rw [t.2]; rfl), fun h c => ge_isi ok (h2 h c) (okTy_of hu)⟩
theorem ce_isi2 (B : Bd P w K mg base n N sc fT W XP) {cs : List Nat} {u u' : Ty} {e3 : Expr} {x1 : Nat} (ok : ClOk K C cs) (hm : mg "isinstance" = none) (h : CE C W XP e a) (t : TyN C XP e2 u) (t' : TyN C XP e3 u') (hu : okTy cs u = true := by rfl) (hu' : okTy cs u' = true := by rfl) (hs : ∀ (env : PySem.Env) es, starEach (e :: es) env = (false, eval e env) :: starEach es env := by intro _ _; rfl) (hg : gloB sc "isinstance" = true := by rfl) :
    CE C W XP (.Call (.Name "isinstance" p) [e, .Tuple [e2, e3] x1 p2] [] pos) (wUn (fIs cs [u, u']) a) :=
  let ⟨te, h1, h2⟩ := h; ⟨tCB (rIsiT K) (tCons te (tCons (tTup (tCons (tC (tV C u)) (tCons (tC (tV C u')) tNil))) tNil)), fun X hX => B.k X hX ▸ pe_callB call_isiT (B.gl hg hX) (B.mv hm hX) boot_isinstance (pa_cons (h1 X hX) (pa_cons (pe_tup (pa_cons (t.1 X hX) (pa_cons (t'.1 X hX) pa_nil (t'.2 _ _)) (t.2 _ _))) pa_nil) (hs _ _)) (by decide) (by decide) (hs _ _), fun h c => ge_isi2 ok (h2 h c) (okTy_of hu) (okTy_of hu')⟩
/-! own defs, own classes -/
def Has (P : Program) (w : World) (K : PySem.W.Frag) (mg : Str → Option Value) (base : Heap) (C : Cl) (k : Nat) (x : Str) (ps : List Str) (ct : Ct) : Prop :=
  ∃ f fd, mg x = some (.ref f) ∧ PySem.W.keepIn K (.ref f) = true ∧ Binds K fd ps [] ∧ FnOk P w K mg base (L2.CX P w) k f fd ps (prom C ct)
def HasI (P : Program) (w : World) (K : PySem.W.Frag) (mg : Str → Option Value) (base : Heap) (C : Cl) (k : Nat) (x : Str) (c : Nat) (ps : List Str) (ct : Ct) : Prop :=
  ∃ f fd, mg x = some (.ref (C.ca c)) ∧ Mk K (C.ca c) f ∧ Binds K fd ps [] ∧ FnOk P w K mg base (L2.CX P w) k f fd ps (promI C c ct)
theorem ce_call (B : Bd P w K mg base n N sc fT W XP) {k : Nat} {x : Str} {ps : List Str} {ct : Ct} (H : Has P w K mg base C k x ps ct) (ha : CA C W XP (e :: es) as) (hk : k ≤ n := by decide) (hg : gloB sc x = true := by rfl) (hd : (x == ("__debug__" : Str)) = false := by decide) : CE C W XP (.Call (.Name x p) (e :: es) [] pos) (wCall ct as) := by
  obtain ⟨f, fd, m, kp, b, F⟩ := H
  obtain ⟨pl, ta, h1, h2⟩ := ha
  refine ⟨tCallS (prom C ct) (L2.WE W) ta, fun X hX => ?_, fun h c => ge_call (h2 h c)⟩
  have z1 := B.k X hX
  have z2 := B.m X hX
  have z3 := B.p X hX
  have z4 := B.w X hX
  have z5 := B.b X hX
  subst z1 z2 z3 z4 z5
  exact pe_callS F ((B.r X hX).mono hk) (B.gl hg hX) m kp b (fun σ => passAt (B.t X hX) σ) (h1 X hX) hd (pl.1 _) (Pl.any pl.2)
theorem ce_make (B : Bd P w K mg base n N sc fT W XP) {k c : Nat} {x : Str} {ps : List Str} {ct : Ct} (H : HasI P w K mg base C k x c ps ct) (ha : CA C W XP (e :: es) as) (hk : k + 1 ≤ n := by decide) (hg : gloB sc x = true := by rfl) (hd : (x == ("__debug__" : Str)) = false := by decide) : CE C W XP (.Call (.Name x p) (e :: es) [] pos) (wCall ct as) := by
  obtain ⟨f, fd, m, mk, b, F⟩ := H
  obtain ⟨pl, ta, h1, h2⟩ := ha
  refine ⟨tMakeS (C.ca c) (promI C c ct) (L2.WE W) ta, fun X hX => ?_, fun h c => ge_make (h2 h c)⟩
  have z1 := B.k X hX
  have z2 := B.m X hX
  have z3 := B.p X hX
  have z4 := B.w X hX
  have z5 := B.b X hX
  subst z1 z2 z3 z4 z5
  exact pe_makeS mk F ((B.r X hX).mono hk) (B.gl hg hX) m b (fun σ => passAt (B.t X hX) σ) (h1 X hX) hd (pl.1 _) (Pl.any pl.2)
theorem ce_fld (B : Bd P w K mg base n N sc fT W XP) {cs : List Nat} (c i : Nat) {nm : Str} (ok : ClOk K C cs) (na : NoAttr K (C.ca c) nm) (hn : (C.cf c)[i]? = some nm) (nd : (C.cf c).Nodup) (h : CE C W XP e a) (hc : c ∈ cs := by decide) (hb : ∀ env : PySem.Env, attributeBase e nm env (eval e env) = eval e env := by intro _; rfl) : CE C W XP (.Attribute e nm pos) (wUn (fFld c i) a) :=
  let ⟨te, h1, h2⟩ := h; ⟨tFld K te nm, fun X hX => B.k X hX ▸ pe_fld (h1 X hX) (hb _), fun h c' => ge_fld ok hc hn nd na (h2 h c')⟩
/-- the class' own __eq__ -/
structure EqOwn (P : Program) (w : World) (K : PySem.W.Frag) (mg : Str → Option Value) (base : Heap) (C : Cl) (k c : Nat) (ct : Ct) : Prop where
  ex : ∃ f fd ps, PySem.W.findIn K (.ref (C.ca c)) "__eq__" = some (some (.ref f)) ∧ PySem.W.isFn K (.ref f) = true ∧ Binds K fd ps [] ∧ FnOk P w K mg base (L2.CX P w) k f fd ps (prom C ct)
  ne : PySem.W.findIn K (.ref (C.ca c)) "__ne__" = some (some (.builtin "object.__ne__"))
  ob : PySem.W.mroIn K (C.ca c) (.type "object") = some true
theorem ce_ownEq (B : Bd P w K mg base n N sc fT W XP) {k c : Nat} {ct : Ct} (H : EqOwn P w K mg base C k c ct) (h : CE C W XP e a) (h' : CE C W XP e2 b) (hk : k ≤ n := by decide) : CE C W XP (.Compare e [.Eq] [e2] pos) (wOwnEq false c ct a b) := by
  obtain ⟨⟨f, fd, ps, m1, m2, bb, F⟩, _, _⟩ := H
  obtain ⟨ta, h1, h2⟩ := h
  obtain ⟨tb, h3, h4⟩ := h'
  refine ⟨tOwnEq false (C.ca c) (prom C ct) (L2.WE W) ta tb, fun X hX => ?_, fun h c => ge_ownEq (h2 h c) (h4 h c)⟩
  have z1 := B.k X hX
  have z2 := B.m X hX
  have z3 := B.p X hX
  have z4 := B.w X hX
  have z5 := B.b X hX
  subst z1 z2 z3 z4 z5
  exact pe_ownEq m1 m2 F ((B.r X hX).mono hk) bb (fun σ => passAt (B.t X hX) σ) (h1 X hX) (h3 X hX) (nomark _)
theorem ce_ownNe (B : Bd P w K mg base n N sc fT W XP) {k c : Nat} {ct : Ct} (H : EqOwn P w K mg base C k c ct) (h : CE C W XP e a) (h' : CE C W XP e2 b) (hk : k + 1 ≤ n := by decide) : CE C W XP (.Compare e [.NotEq] [e2] pos) (wOwnEq true c ct a b) := by
  obtain ⟨⟨f, fd, ps, m1, m2, bb, F⟩, m3, m4⟩ := H
  obtain ⟨ta, h1, h2⟩ := h
  obtain ⟨tb, h3, h4⟩ := h'
  refine ⟨tOwnEq true (C.ca c) (prom C ct) (L2.WE W) ta tb, fun X hX => ?_, fun h c => ge_ownEq (h2 h c) (h4 h c)⟩
  have z1 := B.k X hX
  have z2 := B.m X hX
  have z3 := B.p X hX
  have z4 := B.w X hX
  have z5 := B.b X hX
  subst z1 z2 z3 z4 z5
  exact pe_ownNe m1 m3 m4 m2 F ((B.r X hX).mono hk) bb (fun σ => passAt (B.t X hX) σ) (h1 X hX) (h3 X hX) (nomark _)
/-! tests -/
theorem ct_val (h : CE C W XP e a) (he : ∀ (env : PySem.Env) whole, isTrue e env whole = (do let v ← whole; standAt e.pos; holding [v] (truthy v)) := by intro _ _; rfl) : CT C W XP e (wB a) := let ⟨_, h1, h2⟩ := h; ⟨_, fun X hX => pt_val (h1 X hX) (he _), fun h c => gt_b (h2 h c)⟩
theorem ct_chain {op op' : CmpOp} {f g : D → D → Option Bool} {e3 : Expr} {d : WE} (o : CC C XP op f) (o' : CC C XP op' g) (h : CE C W XP e a) (h' : CE C W XP e2 b) (h'' : CE C W XP e3 d) (hm : lastMarks [op, op'] [e2, e3] = false := by with_unfolding_all rfl) : CT C W XP (.Compare e [op, op'] [e2, e3] pos) (wB (wChain f g a b d)) :=
  let ⟨_, o1, o2⟩ := o; let ⟨_, o3, o4⟩ := o'; let ⟨_, h1, h2⟩ := h; let ⟨_, h3, h4⟩ := h'; let ⟨_, h5, h6⟩ := h''; ⟨_, fun X hX => pt_chain (o1 X hX) (o3 X hX) (h1 X hX) (h3 X hX) (h5 X hX) hm, fun h c => gt_test (ge_chain (h2 h c) (h4 h c) (h6 h c) (o2 h c) (o4 h c))⟩
theorem ct_not {t : WT} (h : CT C W XP e t) : CT C W XP (.UnaryOp .Not e pos) (wNotT t) := let ⟨_, h1, h2⟩ := h; ⟨_, fun X hX => pt_not (h1 X hX), fun h c => gt_not (h2 h c)⟩
def CW (C : Cl) (W : WX) (XP : Cx → Prop) (e : Expr) (wt : WT) : Prop := ∃ tt, (∀ X, XP X → PW X e tt) ∧ Q2 C fun G => GT G W tt wt
theorem cw_and1 {t : WT} (h : CT C W XP e t) : CW C W XP (.BoolOp .And [e] pos) t := let ⟨_, h1, h2⟩ := h; ⟨_, fun X hX => pw_and1 (h1 X hX), h2⟩
theorem cw_or1 {t : WT} (h : CT C W XP e t) : CW C W XP (.BoolOp .Or [e] pos) t := let ⟨_, h1, h2⟩ := h; ⟨_, fun X hX => pw_or1 (h1 X hX), h2⟩
theorem cw_and {t u : WT} (h : CT C W XP e t) (h' : CW C W XP (.BoolOp .And (e2 :: es) pos) u) : CW C W XP (.BoolOp .And (e :: e2 :: es) pos) (wAndT t u) := let ⟨_, h1, h2⟩ := h; let ⟨_, h3, h4⟩ := h'; ⟨_, fun X hX => pw_and (h1 X hX) (h3 X hX), fun h c => gt_and (h2 h c) (h4 h c)⟩
theorem cw_or {t u : WT} (h : CT C W XP e t) (h' : CW C W XP (.BoolOp .Or (e2 :: es) pos) u) : CW C W XP (.BoolOp .Or (e :: e2 :: es) pos) (wOrT t u) := let ⟨_, h1, h2⟩ := h; let ⟨_, h3, h4⟩ := h'; ⟨_, fun X hX => pw_or (h1 X hX) (h3 X hX), fun h c => gt_or (h2 h c) (h4 h c)⟩
theorem ct_w {t : WT} (h : CW C W XP e t) : CT C W XP e t := let ⟨_, h1, h2⟩ := h; ⟨_, fun X hX => (h1 X hX).pt, h2⟩
theorem ce_if {c : Expr} {t : WT} (hc : CT C W XP c t) (h : CE C W XP e a) (h' : CE C W XP e2 b) : CE C W XP (.IfExp c e e2 pos) (wIf t a b) := let ⟨_, h5, h6⟩ := hc; let ⟨_, h1, h2⟩ := h; let ⟨_, h3, h4⟩ := h'; ⟨_, fun X hX => pe_ifExp (h5 X hX) (h1 X hX) (h3 X hX), fun h c => ge_if (h6 h c) (h2 h c) (h4 h c)⟩
/-! what is walked; targets -/
theorem ci_seq (B : Bd P w K mg base n N sc fT W XP) {tg : Expr} (h : CE C W XP e a) : CI C W XP tg e (wiSeq a) := let ⟨te, h1, h2⟩ := h; ⟨iSeq K te, fun X hX => B.k X hX ▸ pi_seq (h1 X hX), fun h c => gi_seq (h2 h c)⟩
theorem ci_range1 (B : Bd P w K mg base n N sc fT W XP) {tg : Expr} (hm : mg "range" = none) (h : CA C W XP [e] as) (hg : gloB sc "range" = true := by rfl) : CI C W XP tg (.Call (.Name "range" p) [e] [] pos) (wiArgs fRange1 as) :=
  let ⟨pl, _, h1, h2⟩ := h; ⟨_, fun X hX => pi_range1 (B.gl hg hX) (B.mv hm hX) (h1 X hX) (by rw [pl.1]; rfl), fun h c => gi_range1 (h2 h c)⟩
theorem ci_range2 (B : Bd P w K mg base n N sc fT W XP) {tg : Expr} (hm : mg "range" = none) (h : CA C W XP [e, e2] as) (hg : gloB sc "range" = true := by rfl) : CI C W XP tg (.Call (.Name "range" p) [e, e2] [] pos) (wiArgs fRange2 as) :=
  let ⟨pl, _, h1, h2⟩ := h; ⟨_, fun X hX => pi_range2 (B.gl hg hX) (B.mv hm hX) (h1 X hX) (by rw [pl.1, pl.2.1]; rfl) (by rw [pl.2.1]; rfl), fun h c => gi_range2 (h2 h c)⟩
theorem ci_zip (B : Bd P w K mg base n N sc fT W XP) {elts : List Expr} {kk : Nat} {tpos : Pos} (hm : mg "zip" = none) (h : CA C W XP [e, e2] as) (hg : gloB sc "zip" = true := by rfl) : CI C W XP (.Tuple elts kk tpos) (.Call (.Name "zip" p) [e, e2] [] pos) (wiArgs fZip as) :=
  let ⟨pl, ta, h1, h2⟩ := h; ⟨iZipA K ta, fun X hX => B.k X hX ▸ pi_zipA (B.gl hg hX) (B.mv hm hX) (h1 X hX) (pl.1 _) (Pl.any pl.2), fun h c => gi_zip (h2 h c)⟩
theorem ci_enum (B : Bd P w K mg base n N sc fT W XP) {elts : List Expr} {kk : Nat} {tpos : Pos} (hm : mg "enumerate" = none) (h : CA C W XP [e] as) (hg : gloB sc "enumerate" = true := by rfl) : CI C W XP (.Tuple elts kk tpos) (.Call (.Name "enumerate" p) [e] [] pos) (wiArgs fEnum as) :=
  let ⟨pl, ta, h1, h2⟩ := h; ⟨iEnumA K ta, fun X hX => B.k X hX ▸ pi_enumA (B.gl hg hX) (B.mv hm hX) (h1 X hX) (by rw [pl.1]; rfl), fun h c => gi_enum (h2 h c)⟩
theorem cg_name (B : Bd P w K mg base n N sc fT W XP) (i : Nat) {x : Str} (hN : N[i]? = some x := by rfl) (hl : locB fT sc x = true := by rfl) : CG C XP (.Name x pos) (kName i) [i] := ⟨_, fun X hX => pg_name (B.ndX hX) (B.lk hN hX) (B.loc hl hX).1 (B.loc hl hX).2, fun _ _ => gg_name i⟩
theorem cgs_nil : CGs C XP [] [] [] := ⟨_, fun _ _ => pgs_nil, fun _ _ => ggs_nil⟩
theorem cgs_cons {k : D → Env → Option Env} {ks : List (D → Env → Option Env)} {ss ts : List Nat} (h : CG C XP e k ss) (hr : CGs C XP es ks ts) (hs : ∀ env : PySem.Env, (assignEach (e :: es) env).map (·.2) = assign e env :: (assignEach es env).map (·.2) := by intro _; rfl) : CGs C XP (e :: es) (k :: ks) (ss ++ ts) :=
  let ⟨_, h1, h2⟩ := h; let ⟨_, h3, h4⟩ := hr; ⟨_, fun X hX => pgs_cons (h1 X hX) (h3 X hX) (hs _), fun h c => ggs_cons (h2 h c) (h4 h c)⟩
theorem cg_tup (B : Bd P w K mg base n N sc fT W XP) {ks : List (D → Env → Option Env)} {ss : List Nat} {kk : Nat} (h : CGs C XP es ks ss) (hn : ∀ env : PySem.Env, (assignEach es env).length = ks.length := by intro _; rfl) (hs : ∀ env : PySem.Env, (assignEach es env).findIdx? (·.1) = none := by intro _; rfl) : CG C XP (.Tuple es kk pos) (kTup ks) ss :=
  let ⟨t, h1, h2⟩ := h; ⟨gTup K ks.length t, fun X hX => B.k X hX ▸ pg_tup (B.c X hX) (h1 X hX) (hn _) (hs _), fun h c => gg_tup (h2 h c) rfl⟩
/-! comprehensions -/
def XPb (XP : Cx → Prop) (scope : Scope) : Cx → Prop := fun Y => ∃ (X : Cx) (s : Shared) (H : Hp) (D : Addr) (cl : List (Str × Addr)) (fp : List Addr), XP X ∧ Y = X.blk s H scope (compEnvC scope cl D X.env) fp
theorem Bd.blk (B : Bd P w K mg base n N sc fT W XP) (scope : Scope) : Bd P w K mg base n N (relS scope sc) false W0 (XPb XP scope) where
  nd := B.nd
  p := fun Y ⟨X, _, _, _, _, _, hX, e⟩ => e ▸ B.p X hX
  w := fun Y ⟨X, _, _, _, _, _, hX, e⟩ => e ▸ B.w X hX
  k := fun Y ⟨X, _, _, _, _, _, hX, e⟩ => e ▸ B.k X hX
  m := fun Y ⟨X, _, _, _, _, _, hX, e⟩ => e ▸ B.m X hX
  b := fun Y ⟨X, _, _, _, _, _, hX, e⟩ => e ▸ B.b X hX
  c := fun Y ⟨X, _, _, _, _, _, hX, e⟩ => e ▸ B.c X hX
  r := fun Y ⟨X, _, _, _, _, _, hX, e⟩ => e ▸ B.r X hX
  n := fun Y ⟨X, _, _, _, _, _, hX, e⟩ => e ▸ B.n X hX
  s := fun Y ⟨X, _, _, _, _, _, hX, e⟩ => by
    subst e
    show relS scope X.env.scope = _
    rw [B.s X hX]
  t := fun Y _ => takes0
  f := fun z => nomatch z
  g := fun z => nomatch z
def CTs (C : Cl) (W : WX) (XP : Cx → Prop) (es : List Expr) (wt : WT) : Prop := ∃ tt, (∀ X, XP X → PTs X es tt) ∧ Q2 C fun G => GT G W tt wt
theorem cts_nil : CTs C W XP [] wTrue := ⟨_, fun _ _ => pts_nil, fun _ _ => gt_true⟩
theorem cts_one {t : WT} (h : CT C W XP e t) : CTs C W XP [e] t := let ⟨_, h1, h2⟩ := h; ⟨_, fun X hX => pts_one (h1 X hX), h2⟩
theorem cf_lc (B : Bd P w K mg base n N sc fT W XP) {elt tg iter : Expr} {ifs : List Expr} {scope : Scope} (own : List (Str × Nat)) {wi : WI} {kt : D → Env → Option Env} {wt : WT} {we : WE} {ss : List Nat} (hi : CI C W XP tg iter wi) (hg : CG C (XPb XP scope) tg kt ss) (ht : CTs C W0 (XPb XP scope) ifs wt) (he : CE C W0 (XPb XP scope) elt we)
    (ok : blkC N sc scope own = true := by decide +kernel) (hs : (ss.all fun j => (own.map (·.2)).contains j) = true := by rfl) (hf : ∀ (env : PySem.Env) x, foldedSetIterable iter env x = pure x := by intro _ _; rfl) : CF C W XP (.ListComp elt [⟨tg, iter, ifs, 0⟩] scope pos) (wLc wi kt wt we (own.map (·.2))) := by
  obtain ⟨ti, i1, i2⟩ := hi
  obtain ⟨g, g1, g2⟩ := hg
  obtain ⟨tt, t1, t2⟩ := ht
  obtain ⟨te, e1, e2⟩ := he
  refine ⟨_, fun X hX => pe_lc (B.c X hX) (B.ndX hX) (i1 X hX) (blkOk_by (by rw [B.n X hX, B.s X hX]; exact ok)) (fun s H D cl fp => g1 _ ⟨X, s, H, D, cl, fp, hX, rfl⟩) (fun s H D cl fp => t1 _ ⟨X, s, H, D, cl, fp, hX, rfl⟩) (fun s H D cl fp => e1 _ ⟨X, s, H, D, cl, fp, hX, rfl⟩) (hf _), fun h c => gf_lc (i2 h c) (g2 h c) (t2 h c) (e2 h c) fun j hj => ?_⟩
  have := List.all_eq_true.mp hs j hj
  simpa using this
/-! lists of ours -/
theorem ce_popAt (B : Bd P w K mg base n N sc fT W XP) (i : Nat) {x : Str} {px pa : Pos} (h : CE C W XP e a) (hN : N[i]? = some x := by rfl) (hv : visB sc x = true := by rfl) (hline : (pa.endLine == pos.line) = true := by rfl) (hs : ∀ env : PySem.Env, starEach [e] env = (false, eval e env) :: starEach [] env := by intro _; rfl) (hd : (x == ("__debug__" : Str)) = false := by decide) (hcd : (x == ("__classdict__" : Str)) = false := by decide) :
    CE C W XP (.Call (.Attribute (.Name x px) "pop" pa) [e] [] pos) (wPopAt i a) :=
  let ⟨te, h1, h2⟩ := h; ⟨tBM K "list" rPopAt (tVar i) (tCons te tNil), fun X hX => B.k X hX ▸ pe_bm PySem.F.plainAttrs_list PySem.F.slot_list_pop PySem.F.type_list_pop mt_popAt (pe_var (B.lk hN hX) (B.vis hv hX) hd hcd) (pa_cons (h1 X hX) pa_nil (hs _)) rfl (by rw [hs]; rfl) hline (hs _) rfl, fun h c => ge_popAt i (h2 h c)⟩
end
end LW
end S16_

section S17_
set_option maxRecDepth 100000
set_option maxHeartbeats 1000000
/-! Own layer, part 17: statements. -/
namespace LW
open PySem PySem.Spec PyProof.Rows L2 RZ

/-- several names at once by a tuple that is made and taken apart -/
theorem gs_parT2 {G : Gx} {W : WX} {K : PySem.W.Frag} {ta : TA} {i j : Nat} {s1 s2 : Src} (hij : (i == j) = false) (g : GSrc G W ta [(i, s1), (j, s2)]) : GS G W (tAsg (tTup ta) (gTup K 2 (gCons (gName i) (gCons (gName j) gNil)))) (sPar [(i, s1), (j, s2)]) := fun P H0 env σ H Z E Z' S h X k => by
  let R2 : List V → Hp → Prop := fun vs H1 => vs.length ≤ sizeLine ∧ ∀ p, H1 p = none → gTup K 2 (gCons (gName i) (gCons (gName j) gNil)) (.ref p) σ (upd H1 p (.tup vs)) Z'.nx
  have := par_go g (R := fun ws H1 => R2 ws.reverse H1) S.ph S.pc S .refl .nil (X.at_ σ) h fun e1 H1 ws1 acc1 S1 K1 ea el h1 => by
    obtain ⟨a, b, rfl⟩ := acc2 (by simpa using ea)
    obtain ⟨w, v, rfl⟩ : ∃ w v, ws1 = [w, v] := by
      match ws1, el with
      | [w, v], _ => exact ⟨w, v, rfl⟩
    refine ⟨by show 2 ≤ sizeLine; decide, fun p hp => ?_⟩
    refine ⟨p, [v, w], rfl, SqT.of upd_same, rfl, v, [w], rfl, w, [], rfl, rfl, ?_⟩
    rw [List.set_comm _ _ (by simpa using hij)]
    have kc : Kc G H1 (upd H1 p (.tup [v, w])) := Kc.new hp
    exact k.nx.ok _ _ _ (S1.after kc) (K1.trans (S1.kp kc)) h1
  have e : (fun (vs : List V) H1 => R2 (vs.reverse ++ []).reverse H1) = R2 := by
    funext vs H1
    rw [List.append_nil, List.reverse_reverse]
  rw [e] at this
  exact this
theorem gs_parT3 {G : Gx} {W : WX} {K : PySem.W.Frag} {ta : TA} {i j l : Nat} {s1 s2 s3 : Src} (hij : (i == j) = false) (hil : (i == l) = false) (hjl : (j == l) = false) (g : GSrc G W ta [(i, s1), (j, s2), (l, s3)]) :
    GS G W (tAsg (tTup ta) (gTup K 3 (gCons (gName i) (gCons (gName j) (gCons (gName l) gNil))))) (sPar [(i, s1), (j, s2), (l, s3)]) := fun P H0 env σ H Z E Z' S h X k => by
  let R2 : List V → Hp → Prop := fun vs H1 => vs.length ≤ sizeLine ∧ ∀ p, H1 p = none → gTup K 3 (gCons (gName i) (gCons (gName j) (gCons (gName l) gNil))) (.ref p) σ (upd H1 p (.tup vs)) Z'.nx
  have := par_go g (R := fun ws H1 => R2 ws.reverse H1) S.ph S.pc S .refl .nil (X.at_ σ) h fun e1 H1 ws1 acc1 S1 K1 ea el h1 => by
    obtain ⟨a, b, c, rfl⟩ := acc3 (by simpa using ea)
    obtain ⟨w, v, u, rfl⟩ : ∃ w v u, ws1 = [w, v, u] := by
      match ws1, el with
      | [w, v, u], _ => exact ⟨w, v, u, rfl⟩
    refine ⟨by show 3 ≤ sizeLine; decide, fun p hp => ?_⟩
    refine ⟨p, [u, v, w], rfl, SqT.of upd_same, rfl, u, [v, w], rfl, v, [w], rfl, w, [], rfl, rfl, ?_⟩
    have e3 : ((σ.set i (some u)).set j (some v)).set l (some w) = ((σ.set l (some w)).set j (some v)).set i (some u) := by
      rw [List.set_comm (some u) (some v) (by simpa using hij), List.set_comm (some u) (some w) (by simpa using hil), List.set_comm (some v) (some w) (by simpa using hjl)]
    rw [e3]
    have kc : Kc G H1 (upd H1 p (.tup [u, v, w])) := Kc.new hp
    exact k.nx.ok _ _ _ (S1.after kc) (K1.trans (S1.kp kc)) h1
  have e : (fun (vs : List V) H1 => R2 (vs.reverse ++ []).reverse H1) = R2 := by
    funext vs H1
    rw [List.append_nil, List.reverse_reverse]
  rw [e] at this
  exact this

def CS (C : Cl) (W : WX) (XP : Cx → Prop) (st : Stmt) (ws : WS) : Prop := ∃ ts, (∀ X, XP X → PS X st ts) ∧ Q2 C fun G => GS G W ts ws
def CSs (C : Cl) (W : WX) (XP : Cx → Prop) (st : List Stmt) (ws : WS) : Prop := ∃ ts, (∀ X, XP X → PSs X st ts) ∧ Q2 C fun G => GS G W ts ws
/-- the sources of several names -/
def CSrc (C : Cl) (W : WX) (XP : Cx → Prop) (es : List Expr) (l : List (Nat × Src)) : Prop := ∃ ta, (∀ X, XP X → PA X es ta) ∧ Q2 C fun G => GSrc G W ta l
section
variable {P : Program} {w : World} {K : PySem.W.Frag} {mg : Str → Option Value} {base : Heap} {n : Nat} {N : List Str} {sc : Scope} {fT : Bool} {W : WX} {XP : Cx → Prop} {C : Cl} {pos p p2 q : Pos} {e e2 e3 : Expr} {es : List Expr} {a b : WE} {as : WA} {st : Stmt} {ss ss2 : List Stmt} {x y : WS}
theorem css_nil : CSs C W XP [] sNext := ⟨_, fun _ _ => pss_nil, fun _ _ => gs_next⟩
theorem css_one (h : CS C W XP st x) : CSs C W XP [st] x := let ⟨_, h1, h2⟩ := h; ⟨_, fun X hX => pss_one (h1 X hX), h2⟩
theorem css_cons (h : CS C W XP st x) (h' : CSs C W XP ss y) : CSs C W XP (st :: ss) (sSeq x y) := let ⟨_, h1, h2⟩ := h; let ⟨_, h3, h4⟩ := h'; ⟨_, fun X hX => pss_cons (h1 X hX) (h3 X hX), fun h c => gs_seq (h2 h c) (h4 h c)⟩
theorem cs_ret (h : CE C W XP e a) : CS C W XP (.Return (some e) pos) (sRet a) := let ⟨_, h1, h2⟩ := h; ⟨_, fun X hX => ps_ret (h1 X hX), fun h c => gs_ret (h2 h c)⟩
theorem cs_retN : CS C W XP (.Return none pos) sRetN := ⟨_, fun _ _ => ps_retN, fun _ _ => gs_retN⟩
theorem cs_break : CS C W XP (.Break pos) sBreak := ⟨_, fun _ _ => ps_break, fun _ _ => gs_break⟩
theorem cs_cont : CS C W XP (.Continue pos) sCont := ⟨_, fun _ _ => ps_continue, fun _ _ => gs_cont⟩
theorem cs_pass : CS C W XP (.Pass pos) sNext := ⟨_, fun _ _ => ps_pass, fun _ _ => gs_next⟩
theorem cs_drop (h : CE C W XP e a) (hs : ∀ (env : PySem.Env), swapsWith e none pos.line env = pure false := by intro _; rfl) : CS C W XP (.Expr e pos) (sDrop a) := let ⟨_, h1, h2⟩ := h; ⟨_, fun X hX => ps_expr (h1 X hX) (hs _), fun h c => gs_drop (h2 h c)⟩
theorem cs_if {t : WT} (hc : CT C W XP e t) (h : CSs C W XP ss x) (h' : CSs C W XP ss2 y) : CS C W XP (.If e ss ss2 pos) (sIf t x y) := let ⟨_, h5, h6⟩ := hc; let ⟨_, h1, h2⟩ := h; let ⟨_, h3, h4⟩ := h'; ⟨_, fun X hX => ps_if (h5 X hX) (h1 X hX) (h3 X hX), fun h c => gs_if (h6 h c) (h2 h c) (h4 h c)⟩
/-- name = e -/
theorem cs_set (B : Bd P w K mg base n N sc fT W XP) (i : Nat) {nm : Str} (h : CE C W XP e a) (hN : N[i]? = some nm := by rfl) (hl : locB fT sc nm = true := by rfl) (hs : ∀ (env : PySem.Env), swapsWith e (some (.Name nm p)) pos.line env = pure false := by intro _; rfl) : CS C W XP (.Assign [.Name nm p] e pos) (sSet i a) :=
  let ⟨_, h1, h2⟩ := h; ⟨_, fun X hX => ps_set (B.ndX hX) (B.lk hN hX) (B.loc hl hX).1 (h1 X hX) (hs _) (B.loc hl hX).2, fun h c => gs_set i (h2 h c)⟩
/-- name = a new list -/
theorem cs_own (B : Bd P w K mg base n N sc fT W XP) (i : Nat) {nm : Str} {f : WA} (h : CF C W XP e f) (hN : N[i]? = some nm := by rfl) (hl : locB fT sc nm = true := by rfl) (hs : ∀ (env : PySem.Env), swapsWith e (some (.Name nm p)) pos.line env = pure false := by intro _; rfl) : CS C W XP (.Assign [.Name nm p] e pos) (sOwn i f) :=
  let ⟨_, h1, h2⟩ := h; ⟨_, fun X hX => ps_set (B.ndX hX) (B.lk hN hX) (B.loc hl hX).1 (h1 X hX) (hs _) (B.loc hl hX).2, fun h c => gs_own i (h2 h c)⟩
/-- name = [..] -/
theorem cs_setLc (B : Bd P w K mg base n N sc fT W XP) (i : Nat) {nm : Str} {elt tg iter : Expr} {ifs : List Expr} {scope : Scope} (own : List (Str × Nat)) {wi : WI} {kt : D → Env → Option Env} {wt : WT} {we : WE} {sl : List Nat} (hi : CI C W XP tg iter wi) (hg : CG C (XPb XP scope) tg kt sl) (ht : CTs C W0 (XPb XP scope) ifs wt) (he : CE C W0 (XPb XP scope) elt we)
    (hN : N[i]? = some nm := by rfl) (hl : sc.names.lookup nm = some .local := by rfl) (hw : ∀ env : PySem.Env, env.scope = sc → swapsWith (.ListComp elt [⟨tg, iter, ifs, 0⟩] scope p2) (some (.Name nm p)) pos.line env = pure true := by intro env h; cases env; cases h; rfl) (ok : blkC N sc scope own = true := by decide +kernel) (hs : (sl.all fun j => (own.map (·.2)).contains j) = true := by rfl)
    (hf : ∀ (env : PySem.Env) x, foldedSetIterable iter env x = pure x := by intro _ _; rfl) : CS C W XP (.Assign [.Name nm p] (.ListComp elt [⟨tg, iter, ifs, 0⟩] scope p2) pos) (sOwn i (wLc wi kt wt we (own.map (·.2)))) := by
  obtain ⟨ti, i1, i2⟩ := hi
  obtain ⟨g, g1, g2⟩ := hg
  obtain ⟨tt, t1, t2⟩ := ht
  obtain ⟨te, e1, e2⟩ := he
  refine ⟨_, fun X hX => ps_setLc (B.c X hX) (B.ndX hX) (B.lk hN hX) (by rw [B.s X hX]; exact hl) (hw _ (B.s X hX)) (i1 X hX) (blkOk_by (by rw [B.n X hX, B.s X hX]; exact ok)) (fun s H D cl fp => g1 _ ⟨X, s, H, D, cl, fp, hX, rfl⟩) (fun s H D cl fp => t1 _ ⟨X, s, H, D, cl, fp, hX, rfl⟩) (fun s H D cl fp => e1 _ ⟨X, s, H, D, cl, fp, hX, rfl⟩) (hf _), fun h c => gs_own i (gf_lc (i2 h c) (g2 h c) (t2 h c) (e2 h c) fun j hj => ?_)⟩
  have := List.all_eq_true.mp hs j hj
  simpa using this
/-- name = [..], not changed any more -/
theorem cs_setLcV (B : Bd P w K mg base n N sc fT W XP) (i : Nat) {nm : Str} {elt tg iter : Expr} {ifs : List Expr} {scope : Scope} (own : List (Str × Nat)) {wi : WI} {kt : D → Env → Option Env} {wt : WT} {we : WE} {sl : List Nat} (hi : CI C W XP tg iter wi) (hg : CG C (XPb XP scope) tg kt sl) (ht : CTs C W0 (XPb XP scope) ifs wt) (he : CE C W0 (XPb XP scope) elt we)
    (hN : N[i]? = some nm := by rfl) (hl : sc.names.lookup nm = some .local := by rfl) (hw : ∀ env : PySem.Env, env.scope = sc → swapsWith (.ListComp elt [⟨tg, iter, ifs, 0⟩] scope p2) (some (.Name nm p)) pos.line env = pure true := by intro env h; cases env; cases h; rfl) (ok : blkC N sc scope own = true := by decide +kernel) (hs : (sl.all fun j => (own.map (·.2)).contains j) = true := by rfl)
    (hf : ∀ (env : PySem.Env) x, foldedSetIterable iter env x = pure x := by intro _ _; rfl) : CS C W XP (.Assign [.Name nm p] (.ListComp elt [⟨tg, iter, ifs, 0⟩] scope p2) pos) (sSet i (wFz (wLc wi kt wt we (own.map (·.2))))) := by
  obtain ⟨ti, i1, i2⟩ := hi
  obtain ⟨g, g1, g2⟩ := hg
  obtain ⟨tt, t1, t2⟩ := ht
  obtain ⟨te, e1, e2⟩ := he
  refine ⟨_, fun X hX => ps_setLc (B.c X hX) (B.ndX hX) (B.lk hN hX) (by rw [B.s X hX]; exact hl) (hw _ (B.s X hX)) (i1 X hX) (blkOk_by (by rw [B.n X hX, B.s X hX]; exact ok)) (fun s H D cl fp => g1 _ ⟨X, s, H, D, cl, fp, hX, rfl⟩) (fun s H D cl fp => t1 _ ⟨X, s, H, D, cl, fp, hX, rfl⟩) (fun s H D cl fp => e1 _ ⟨X, s, H, D, cl, fp, hX, rfl⟩) (hf _), fun h c => gs_set i (ge_frz (gf_lc (i2 h c) (g2 h c) (t2 h c) (e2 h c) fun j hj => ?_))⟩
  have := List.all_eq_true.mp hs j hj
  simpa using this
/-- a tuple's parts -/
theorem cs_asg (B : Bd P w K mg base n N sc fT W XP) {kt : D → Env → Option Env} {sl : List Nat} (h : CE C W XP e a) (hg : CG C XP e2 kt sl) (hs : ∀ (env : PySem.Env), swapsWithSole [e2] e pos.line env = pure false := by intro _; rfl) (hw : ∀ env : PySem.Env, env.scope = sc → swappedStores [e2] e env = pure none := by intro env h; cases env; cases h; rfl)
    (h1 : ∀ env : PySem.Env, (assignEach [e2] env).map (·.2) = [assign e2 env] := by intro _; rfl) : CS C W XP (.Assign [e2] e pos) (sAsg kt a) :=
  let ⟨_, h1', h2⟩ := h; let ⟨_, h3, h4⟩ := hg; ⟨_, fun X hX => ps_asg (h1' X hX) (h3 X hX) (hs _) (hw _ (B.s X hX)) (h1 _), fun h c => gs_asg (h2 h c) (h4 h c)⟩
theorem csrc_nil : CSrc C W XP [] [] := ⟨_, fun _ _ => pa_nil, fun _ _ => .nil⟩
theorem csrc_v (i : Nat) {l : List (Nat × Src)} (h : CE C W XP e a) (r : CSrc C W XP es l) (hs : ∀ env : PySem.Env, starEach (e :: es) env = (false, eval e env) :: starEach es env := by intro _; rfl) : CSrc C W XP (e :: es) ((i, .v a) :: l) := let ⟨_, h1, h2⟩ := h; let ⟨_, h3, h4⟩ := r; ⟨_, fun X hX => pa_cons (h1 X hX) (h3 X hX) (hs _), fun h c => .v i (h2 h c) (h4 h c)⟩
theorem csrc_d0 (i : Nat) {l : List (Nat × Src)} (r : CSrc C W XP es l) (hs : ∀ env : PySem.Env, starEach (.Dict [] [] p :: es) env = (false, eval (.Dict [] [] p) env) :: starEach es env := by intro _; rfl) : CSrc C W XP (.Dict [] [] p :: es) ((i, .d0) :: l) := let ⟨_, h3, h4⟩ := r; ⟨_, fun X hX => pa_cons pe_dnewK (h3 X hX) (hs _), fun h c => GSrc.d0 i (h4 h c)⟩
theorem csrc_f (i : Nat) {l : List (Nat × Src)} (h : CF C W XP e as) (r : CSrc C W XP es l) (hs : ∀ env : PySem.Env, starEach (e :: es) env = (false, eval e env) :: starEach es env := by intro _; rfl) : CSrc C W XP (e :: es) ((i, .f as) :: l) := let ⟨_, h1, h2⟩ := h; let ⟨_, h3, h4⟩ := r; ⟨_, fun X hX => pa_cons (h1 X hX) (h3 X hX) (hs _), fun h c => .f i (h2 h c) (h4 h c)⟩
theorem cs_par2 (B : Bd P w K mg base n N sc fT W XP) {i j : Nat} {s1 s2 : Src} {nx ny : Str} {px py pt pt2 : Pos} {kt k2 : Nat} (h : CSrc C W XP [e, e2] [(i, s1), (j, s2)]) (hi : N[i]? = some nx := by rfl) (hj : N[j]? = some ny := by rfl) (hij : (i == j) = false := by rfl) (hx : sc.names.lookup nx = some .local := by rfl) (hy : sc.names.lookup ny = some .local := by rfl)
    (hw : ∀ env : PySem.Env, env.scope = sc → swappedStores [.Tuple [.Name nx px, .Name ny py] kt pt] (.Tuple [e, e2] k2 pt2) env = pure (some [nx, ny]) := by intro env h; cases env; cases h; rfl) : CS C W XP (.Assign [.Tuple [.Name nx px, .Name ny py] kt pt] (.Tuple [e, e2] k2 pt2) pos) (sPar [(i, s1), (j, s2)]) :=
  let ⟨_, h1, h2⟩ := h; ⟨_, fun X hX => ps_par (B.c X hX) (B.ndX hX) (B.lk hi hX) (B.lk hj hX) (by simpa using hij) (by rw [B.s X hX]; exact hx) (by rw [B.s X hX]; exact hy) (h1 X hX) (hw _ (B.s X hX)), fun h c => gs_par2 hij (h2 h c)⟩
theorem cs_par3 (B : Bd P w K mg base n N sc fT W XP) {i j l : Nat} {s1 s2 s3 : Src} {nx ny nz : Str} {px py pz pt pt2 : Pos} {kt k2 : Nat} (h : CSrc C W XP [e, e2, e3] [(i, s1), (j, s2), (l, s3)]) (hi : N[i]? = some nx := by rfl) (hj : N[j]? = some ny := by rfl) (hl : N[l]? = some nz := by rfl) (hij : (i == j) = false := by rfl) (hil : (i == l) = false := by rfl) (hjl : (j == l) = false := by rfl)
    (hx : sc.names.lookup nx = some .local := by rfl) (hy : sc.names.lookup ny = some .local := by rfl) (hz : sc.names.lookup nz = some .local := by rfl)
    (hw : ∀ env : PySem.Env, env.scope = sc → swappedStores [.Tuple [.Name nx px, .Name ny py, .Name nz pz] kt pt] (.Tuple [e, e2, e3] k2 pt2) env = pure (some [nx, ny, nz]) := by intro env h; cases env; cases h; rfl) : CS C W XP (.Assign [.Tuple [.Name nx px, .Name ny py, .Name nz pz] kt pt] (.Tuple [e, e2, e3] k2 pt2) pos) (sPar [(i, s1), (j, s2), (l, s3)]) :=
  let ⟨_, h1, h2⟩ := h; ⟨_, fun X hX => ps_par3 (B.c X hX) (B.ndX hX) (B.lk hi hX) (B.lk hj hX) (B.lk hl hX) (by simpa using hij) (by simpa using hil) (by simpa using hjl) (by rw [B.s X hX]; exact hx) (by rw [B.s X hX]; exact hy) (by rw [B.s X hX]; exact hz) (h1 X hX) (hw _ (B.s X hX)), fun h c => gs_par3 hij hil hjl (h2 h c)⟩
theorem cs_parT2 (B : Bd P w K mg base n N sc fT W XP) {i j : Nat} {s1 s2 : Src} {nx ny : Str} {px py pt pt2 : Pos} {kt k2 : Nat} (h : CSrc C W XP [e, e2] [(i, s1), (j, s2)]) (hi : N[i]? = some nx := by rfl) (hj : N[j]? = some ny := by rfl) (hij : (i == j) = false := by rfl) (hx : locB fT sc nx = true := by rfl) (hy : locB fT sc ny = true := by rfl)
    (hw : ∀ env : PySem.Env, env.scope = sc → swappedStores [.Tuple [.Name nx px, .Name ny py] kt pt] (.Tuple [e, e2] k2 pt2) env = pure none := by intro env h; cases env; cases h; rfl) : CS C W XP (.Assign [.Tuple [.Name nx px, .Name ny py] kt pt] (.Tuple [e, e2] k2 pt2) pos) (sPar [(i, s1), (j, s2)]) := by
  obtain ⟨ta, h1, h2⟩ := h
  refine ⟨tAsg (tTup ta) (gTup K 2 (gCons (gName i) (gCons (gName j) gNil))), fun X hX => ?_, fun h c => gs_parT2 hij (h2 h c)⟩
  have hg : PG X (.Tuple [.Name nx px, .Name ny py] kt pt) (gTup X.K 2 (gCons (gName i) (gCons (gName j) gNil))) := pg_tup (B.c X hX) (pgs_cons (pg_name (B.ndX hX) (B.lk hi hX) (B.loc hx hX).1 (B.loc hx hX).2) (pgs_cons (pg_name (B.ndX hX) (B.lk hj hX) (B.loc hy hX).1 (B.loc hy hX).2) pgs_nil))
  rw [B.k X hX] at hg
  exact ps_asg (pe_tup (h1 X hX)) hg rfl (hw _ (B.s X hX))
theorem cs_parT3 (B : Bd P w K mg base n N sc fT W XP) {i j l : Nat} {s1 s2 s3 : Src} {nx ny nz : Str} {px py pz pt pt2 : Pos} {kt k2 : Nat} (h : CSrc C W XP [e, e2, e3] [(i, s1), (j, s2), (l, s3)]) (hi : N[i]? = some nx := by rfl) (hj : N[j]? = some ny := by rfl) (hl : N[l]? = some nz := by rfl) (hij : (i == j) = false := by rfl) (hil : (i == l) = false := by rfl) (hjl : (j == l) = false := by rfl)
    (hx : locB fT sc nx = true := by rfl) (hy : locB fT sc ny = true := by rfl) (hz : locB fT sc nz = true := by rfl)
    (hw : ∀ env : PySem.Env, env.scope = sc → swappedStores [.Tuple [.Name nx px, .Name ny py, .Name nz pz] kt pt] (.Tuple [e, e2, e3] k2 pt2) env = pure none := by intro env h; cases env; cases h; rfl) : CS C W XP (.Assign [.Tuple [.Name nx px, .Name ny py, .Name nz pz] kt pt] (.Tuple [e, e2, e3] k2 pt2) pos) (sPar [(i, s1), (j, s2), (l, s3)]) := by
  obtain ⟨ta, h1, h2⟩ := h
  refine ⟨tAsg (tTup ta) (gTup K 3 (gCons (gName i) (gCons (gName j) (gCons (gName l) gNil)))), fun X hX => ?_, fun h c => gs_parT3 hij hil hjl (h2 h c)⟩
  have hg : PG X (.Tuple [.Name nx px, .Name ny py, .Name nz pz] kt pt) (gTup X.K 3 (gCons (gName i) (gCons (gName j) (gCons (gName l) gNil)))) :=
    pg_tup (B.c X hX) (pgs_cons (pg_name (B.ndX hX) (B.lk hi hX) (B.loc hx hX).1 (B.loc hx hX).2) (pgs_cons (pg_name (B.ndX hX) (B.lk hj hX) (B.loc hy hX).1 (B.loc hy hX).2) (pgs_cons (pg_name (B.ndX hX) (B.lk hl hX) (B.loc hz hX).1 (B.loc hz hX).2) pgs_nil)))
  rw [B.k X hX] at hg
  exact ps_asg (pe_tup (h1 X hX)) hg rfl (hw _ (B.s X hX))
/-- xs.append(e) -/
theorem cs_append (B : Bd P w K mg base n N sc fT W XP) (i : Nat) {nm : Str} {px pa ps : Pos} (h : CE C W XP e a) (hN : N[i]? = some nm := by rfl) (hv : visB sc nm = true := by rfl) (hline : (pa.endLine == pos.line) = true := by rfl) (hs : ∀ env : PySem.Env, starEach [e] env = (false, eval e env) :: starEach [] env := by intro _; rfl) (hd : (nm == ("__debug__" : Str)) = false := by decide) (hcd : (nm == ("__classdict__" : Str)) = false := by decide) :
    CS C W XP (.Expr (.Call (.Attribute (.Name nm px) "append" pa) [e] [] pos) ps) (sAppend i a) :=
  let ⟨te, h1, h2⟩ := h; ⟨tDrop (tBM K "list" rAppend (tVar i) (tCons te tNil)), fun X hX => ps_expr (B.k X hX ▸ pe_bm PySem.F.plainAttrs_list PySem.F.slot_list_append PySem.F.type_list_append mt_append (pe_var (B.lk hN hX) (B.vis hv hX) hd hcd) (pa_cons (h1 X hX) pa_nil (hs _)) rfl (by rw [hs]; rfl) hline (hs _) rfl), fun h c => gs_append i (h2 h c)⟩
/-- xs[k] = e -/
theorem cs_setIx (B : Bd P w K mg base n N sc fT W XP) (i : Nat) {nm : Str} {px : Pos} (h : CE C W XP e a) (h' : CE C W XP e2 b) (hN : N[i]? = some nm := by rfl) (hv : visB sc nm = true := by rfl)
    (ha : ∀ (env : PySem.Env) v, assign (.Subscript (.Name nm px) e2 p) env v = (do
      let ov ← holding [v] (eval (.Name nm px) env)
      let iv ← holding [v, ov] (eval e2 env)
      standAt p
      holding [v, ov, iv] (setItem ov iv v)
      release [v, ov, iv] []) := by intro _ _; rfl) (hs : ∀ (env : PySem.Env), swapsWithSole [.Subscript (.Name nm px) e2 p] e pos.line env = pure false := by intro _; rfl) (hw : ∀ env : PySem.Env, swappedStores [.Subscript (.Name nm px) e2 p] e env = pure none := by intro env; rfl)
    (hd : (nm == ("__debug__" : Str)) = false := by decide) (hcd : (nm == ("__classdict__" : Str)) = false := by decide) : CS C W XP (.Assign [.Subscript (.Name nm px) e2 p] e pos) (sSetIx i b a) :=
  let ⟨_, h1, h2⟩ := h; let ⟨_, h3, h4⟩ := h'; ⟨_, fun X hX => ps_asg (h1 X hX) (pg_sub (pe_var (B.lk hN hX) (B.vis hv hX) hd hcd) (h3 X hX) set_list (ha _)) (hs _) (hw _), fun h c => gs_setIx i (h2 h c) (h4 h c)⟩
theorem cs_for (B : Bd P w K mg base n N sc true W XP) {tg iter : Expr} {wi : WI} {kt : D → Env → Option Env} {sl : List Nat} (hi : CI C W XP tg iter wi) (hg : CG C XP tg kt sl) (hb : CSs C W XP ss x) (hs : ∀ (env : PySem.Env) x, foldedSetIterable iter env x = pure x := by intro _ _; rfl) : CS C W XP (.For tg iter ss [] pos) (sFor wi kt x) :=
  let ⟨_, h1, h2⟩ := hi; let ⟨_, h3, h4⟩ := hg; let ⟨_, h5, h6⟩ := hb; ⟨_, fun X hX => ps_for (B.f rfl X hX).2 (B.c X hX) (h1 X hX) (h3 X hX) (h5 X hX) (hs _), fun h c => gs_for (h2 h c) (h4 h c) (h6 h c)⟩
theorem cs_while (B : Bd P w K mg base n N sc true W XP) {t : WT} (hc : CT C W XP e t) (hb : CSs C W XP ss x) : CS C W XP (.While e ss [] pos) (sWhile t x) :=
  let ⟨_, h1, h2⟩ := hc; let ⟨_, h5, h6⟩ := hb; ⟨_, fun X hX => ps_while (B.f rfl X hX).2 (h1 X hX) (h5 X hX), fun h c => gs_while (h2 h c) (h6 h c)⟩
/-- an own exception with two fields -/
def HasX2 (P : Program) (w : World) (K : PySem.W.Frag) (mg : Str → Option Value) (base : Heap) (C : Cl) (k : Nat) (x : Str) (c : Nat) (f g : Str) : Prop :=
  ∃ fi fd ps, mg x = some (.ref (C.ca c)) ∧ OexC K (C.ca c) ∧ PySem.W.findIn K (.ref (C.ca c)) "__init__" = some (some (.ref fi)) ∧ PySem.W.typeIn K (.ref fi) = some (.type "function") ∧ Binds K fd ps [] ∧ FnOk P w K mg base (L2.CX P w) k fi fd ps (spX2 K f g) ∧
    PySem.W.findIn K (.ref (C.ca c)) f = some none ∧ PySem.W.findIn K (.ref (C.ca c)) g = some none ∧ C.cf c = [f, g] ∧ f ≠ g
theorem cs_raise2 (B : Bd P w K mg base n N sc fT W XP) {k c : Nat} {nm f g : Str} (H : HasX2 P w K mg base C k nm c f g) (ha : CA C W XP (e :: es) as) (hk : k + 1 ≤ n := by decide) (hg : gloB sc nm = true := by rfl) (hd : (nm == ("__debug__" : Str)) = false := by decide) : CS C W XP (.Raise (some (.Call (.Name nm p) (e :: es) [] p2)) none pos) (sRaise c as) := by
  obtain ⟨fi, fd, ps, m, T, iC, tI, bb, F, f1, f2, hc, hne⟩ := H
  obtain ⟨pl, ta, h1, h2⟩ := ha
  refine ⟨(fun _ σ H => tMkO (C.ca c) (spX2 K f g) [] ta σ H fun cls d H' => W cls d σ H'), fun X hX => ?_, fun h c' => gs_raise2 T f1 f2 hc hne (h2 h c')⟩
  have z1 := B.k X hX
  have z2 := B.m X hX
  have z3 := B.p X hX
  have z4 := B.w X hX
  have z5 := B.b X hX
  subst z1 z2 z3 z4 z5
  exact ps_raise (B.c X hX) (B.t X hX) (pmk_oex T iC tI F ((B.r X hX).mono hk) bb .nil (fun _ _ _ _ _ _ _ z => by obtain ⟨_, _, _, _, _, _, _, _, _, _, _, _, q⟩ := z; exact q.elim) (B.gl hg hX) m (h1 X hX) hd (pl.1 _) (Pl.any pl.2))
/-- what a def's body may be taken for -/
def XPd (P : Program) (w : World) (K : PySem.W.Frag) (mg : Str → Option Value) (base : Heap) (k : Nat) (N : List Str) (sc : Scope) (W : WX) : Cx → Prop := fun X => X.prog = P ∧ X.w = w ∧ X.K = K ∧ X.mg = mg ∧ X.base = base ∧ X.N = N ∧ X.env.scope = sc ∧ X.calm = true ∧ Room k X.A ∧ (X.fn = fun _ => true) ∧
  PassesOwn (model X.prog X.w) X.A X.env X.xe ∧ Takes X W ∧ X.stack = X.env :: X.outer ∧ X.env.frame = some X.env.locals
theorem bd_def (hN : N.Nodup) {k : Nat} : Bd P w K mg base k N sc true W (XPd P w K mg base k N sc W) where
  nd := hN
  p := fun X h => h.1
  w := fun X h => h.2.1
  k := fun X h => h.2.2.1
  m := fun X h => h.2.2.2.1
  b := fun X h => h.2.2.2.2.1
  n := fun X h => h.2.2.2.2.2.1
  s := fun X h => h.2.2.2.2.2.2.1
  c := fun X h => h.2.2.2.2.2.2.2.1
  r := fun X h => h.2.2.2.2.2.2.2.2.1
  f := fun _ X h => ⟨fun x => by rw [h.2.2.2.2.2.2.2.2.2.1], h.2.2.2.2.2.2.2.2.2.2.1⟩
  t := fun X h => h.2.2.2.2.2.2.2.2.2.2.2.1
  g := fun _ X h => h.2.2.2.2.2.2.2.2.2.2.2.2
/-- a def by its text: the function, the body's reading, the contract -/
theorem has_def {x qual : Str} {params : Arguments} {body : List Stmt} {f : Addr} {fd : FuncData} {ps : List Str} {k : Nat} {wb : WS} {ct : Ct} (hm : mg x = some (.ref f)) (F : FunD K x qual params body sc [] [] f fd) (S : FnScope N ps sc) (bb : Binds K fd ps [])
    (hb : ∀ W, CSs C W (XPd P w K mg base k N sc W) body wb) (hl : ∀ ds q e, ct ds q e → ds.length = ps.length) (spec : ∀ ds q e, ct ds q e → fnW (N.length - ps.length) wb ds q e) (hn : ps.length ≤ N.length := by decide) : Has P w K mg base C (k + 1) x ps ct := by
  refine ⟨f, fd, hm, F.kp, bb, def_ok F S hl hn (fun X W h1 h2 h3 h4 h5 h6 h7 h8 h9 h10 h11 h12 h13 h14 => ?_) spec⟩
  obtain ⟨ts, a1, a2⟩ := hb W
  exact ⟨ts, a1 X ⟨h1, h2, h3, h4, h5, h6, h7, h8, h9, h12, h13, h14, h10, h11⟩, a2⟩
end
end LW
end S17_

section S18_
set_option maxRecDepth 100000
set_option maxHeartbeats 1000000
/-! Own layer, part 18: the draws, by reading. -/
namespace LW
open PySem PySem.Spec PyProof.Rows L2 RZ
abbrev rdV (K : PySem.W.Frag) (i : Int) : TE := tOp (rIx K) (tVar 0) (tC (.int i))
abbrev stV (te : TE) (i : Int) : TS := tAsg te (gSub (tVar 0) (tC (.int i)) rSetL)
abbrev rToI : List V → Hp → VK → Prop := fun xs H Q => (∃ i, xs = [V.int i] ∧ Q (.int i) H) ∨ ∃ k, xs = [V.bl k] ∧ Q (.int (if k then 1 else 0)) H
abbrev tInt (te : TE) : TE := tCB rToI (tCons te tNil)
abbrev rAddI : R2 := rI0 fun i j => V.int (i + j)
abbrev tAddI (ta tb : TE) : TE := tOp rAddI ta tb
abbrev tMulI (ta tb : TE) : TE := tOp (rI CMul fun i j => V.int (i * j)) ta tb
abbrev tModI (ta tb : TE) : TE := tOp (rI (fun _ j => 0 < j) fun i j => V.int (i % j)) ta tb
abbrev tDivI (ta tb : TE) : TE := tOp (rI CDiv fun i j => V.int (i / j)) ta tb
def t_draw (K : PySem.W.Frag) (c3 : Int) : TS :=
  tSeq (tIfS (tAnd (tTest (tOp rEq (rdV K 2) (tC (.int 0)))) (tTest (tOp (rI0 fun i j => .bl (decide (i < j))) (rdV K 1) (tCB (rLenA K) (tCons (rdV K 0) tNil)))))
      (tSeq (tAsg (tOp (rIx K) (rdV K 0) (rdV K 1)) (gName 2))
        (tSeq (stV (tAddI (rdV K 1) (tC (.int 1))) 1)
          (tSeq (stV (tModI (tInt (tAddI (tAddI (tMulI (rdV K 3) (tC (.int 69621))) (tMulI (tVar 2) (tC (.int 40692)))) (tC (.int c3)))) (tC (.int 2147483629))) 3)
            (tIfS (tTest (tOp (rI0 fun i j => .bl (decide (j ≤ i))) (tVar 2) (tOp (rI CPow fun i j => .int (i ^ j.toNat)) (tC (.int 10)) (tC (.int 18))))) (stV (tVar 2) 2) tNext)))) tNext)
    (tSeq (tIfS (tTest (tOp (rI0 fun i j => .bl (decide (j < i))) (rdV K 2) (tC (.int 0))))
        (tSeq (tAsg (tModI (tInt (rdV K 2)) (tVar 1)) (gName 3)) (tSeq (stV (tDivI (rdV K 2) (tVar 1)) 2) (tRet (tVar 3)))) tNext)
      (tSeq (stV (tAddI (rdV K 4) (tC (.int 1))) 4)
        (tSeq (tAsg (tModI (tInt (tMulI (tInt (tAddI (rdV K 3) (tMulI (tC (.int 7919)) (rdV K 4)))) (tC (.int 48271)))) (tC (.int 2147483647))) (gName 4))
          (tSeq (tAsg (tModI (tInt (tMulI (tVar 4) (tAddI (tDivI (tVar 4) (tC (.int 1009))) (tC (.int 69621))))) (tC (.int 2147483647))) (gName 4))
            (tSeq (tAsg (tModI (tInt (tMulI (tVar 4) (tAddI (tDivI (tVar 4) (tC (.int 2003))) (tC (.int 40014))))) (tC (.int 2147483563))) (gName 4))
              (tRet (tModI (tInt (tDivI (tVar 4) (tC (.int 16)))) (tVar 1))))))))
theorem brT {A B : Prop} (h : A) : (if true = true then A else B) := h
theorem brF {A B : Prop} (h : B) : (if false = true then A else B) := h
section
variable {K : PySem.W.Frag} {σ : L2.St} {H : Hp} {Q : VK} {a : Addr} {xs : List V} {v : V} {te ta tb : TE} {D : Ends} {i j : Int}
theorem rd_ok (e : σ[0]? = some (some (.ref a))) (eh : H a = some (.lst xs)) (ev : atI xs i = some v) (q : Q v H) : rdV K i σ H Q := ⟨_, e, .inl ⟨a, xs, i, v, rfl, rfl, SqL.of eh, ev, q⟩⟩
/-- the hand as it stands -/
structure HS (G : Gx) (H : Hp) (ns : List Int) (i1 i2 i3 i4 : Int) : Prop where
  ne : G.c ≠ G.h
  h : H G.h = some (.lst [.ref G.c, .int i1, .int i2, .int i3, .int i4])
  c : H G.c = some (.lst (ns.map V.int))
  nn : ∀ n ∈ ns, 0 ≤ n
  b1 : 0 ≤ i1
  l1 : i1 ≤ ns.length
  l : ns.length ≤ 63
  b2 : 0 ≤ i2
  b3 : 0 ≤ i3
  l3 : i3 < 2147483647
  b4 : 0 ≤ i4
theorem IsHand.hs {G : Gx} {H : Hp} (h : IsHand G H) : ∃ ns i1 i2 i3 i4, HS G H ns i1 i2 i3 i4 := by
  obtain ⟨ns, i1, i2, i3, i4, a, b, c, d, e, f, g, h1, h2, h3, h4⟩ := h
  exact ⟨ns, i1, i2, i3, i4, a, b, c, d, e, f, g, h1, h2, h3, h4⟩
theorem HS.is {G : Gx} {H : Hp} {ns : List Int} {i1 i2 i3 i4 : Int} (s : HS G H ns i1 i2 i3 i4) : IsHand G H := ⟨ns, i1, i2, i3, i4, s.ne, s.h, s.c, s.nn, s.b1, s.l1, s.l, s.b2, s.b3, s.l3, s.b4⟩
theorem HS.upd {G : Gx} {H : Hp} {ns : List Int} {i1 i2 i3 i4 j1 j2 j3 j4 : Int} (s : HS G H ns i1 i2 i3 i4) (b1 : 0 ≤ j1) (l1 : j1 ≤ ns.length) (b2 : 0 ≤ j2) (b3 : 0 ≤ j3) (l3 : j3 < 2147483647) (b4 : 0 ≤ j4) :
    HS G (L2.upd H G.h (.lst [.ref G.c, .int j1, .int j2, .int j3, .int j4])) ns j1 j2 j3 j4 ∧ Kc G H (L2.upd H G.h (.lst [.ref G.c, .int j1, .int j2, .int j3, .int j4])) := by
  have S : HS G (L2.upd H G.h (.lst [.ref G.c, .int j1, .int j2, .int j3, .int j4])) ns j1 j2 j3 j4 := ⟨s.ne, upd_same, by rw [upd_ne s.ne]; exact s.c, s.nn, b1, l1, s.l, b2, b3, l3, b4⟩
  refine ⟨S, fun b o n e => by rw [upd_ne n]; exact e, fun _ => S.is, fun b o e => ?_⟩
  by_cases z : b = G.h
  · exact ⟨_, by rw [z]; exact upd_same⟩
  · exact ⟨o, by rw [upd_ne z]; exact e⟩
theorem cm_r {i j : Int} (h1 : -(2 ^ 64) < j) (h2 : j < 2 ^ 64) : CMul i j := .inr ⟨h1, h2⟩
theorem cm_l {i j : Int} (h1 : -(2 ^ 64) < i) (h2 : i < 2 ^ 64) : CMul i j := .inl ⟨h1, h2⟩
theorem draw_tail {G : Gx} {ns : List Int} {i1 i2 i3 i4 many : Int} (s : HS G H ns i1 i2 i3 i4) (h0 : 0 < many) (hm : many < 1073741824) (e0 : σ[0]? = some (some (.ref G.h))) (e1 : σ[1]? = some (some (.int many))) (hl : σ.length = 5)
    (k : ∀ d H', Kc G H H' → 0 ≤ d → d < many → D.rt (.int d) H') :
    (tSeq (tIfS (tTest (tOp (rI0 fun i j => .bl (decide (j < i))) (rdV K 2) (tC (.int 0))))
        (tSeq (tAsg (tModI (tInt (rdV K 2)) (tVar 1)) (gName 3)) (tSeq (stV (tDivI (rdV K 2) (tVar 1)) 2) (tRet (tVar 3)))) tNext)
      (tSeq (stV (tAddI (rdV K 4) (tC (.int 1))) 4)
        (tSeq (tAsg (tModI (tInt (tMulI (tInt (tAddI (rdV K 3) (tMulI (tC (.int 7919)) (rdV K 4)))) (tC (.int 48271)))) (tC (.int 2147483647))) (gName 4))
          (tSeq (tAsg (tModI (tInt (tMulI (tVar 4) (tAddI (tDivI (tVar 4) (tC (.int 1009))) (tC (.int 69621))))) (tC (.int 2147483647))) (gName 4))
            (tSeq (tAsg (tModI (tInt (tMulI (tVar 4) (tAddI (tDivI (tVar 4) (tC (.int 2003))) (tC (.int 40014))))) (tC (.int 2147483563))) (gName 4))
              (tRet (tModI (tInt (tDivI (tVar 4) (tC (.int 16)))) (tVar 1)))))))) D σ H := by
  refine rd_ok e0 s.h rfl ⟨i2, 0, rfl, rfl, decide (0 < i2), rfl, ?_⟩
  by_cases hp : 0 < i2
  · rw [decide_eq_true hp]
    refine brT ?_
    refine rd_ok e0 s.h rfl (.inl ⟨i2, rfl, ⟨_, e1, i2, many, rfl, rfl, h0, ?_⟩⟩)
    have f0 : (σ.set 3 (some (V.int (i2 % many))))[0]? = some (some (.ref G.h)) := by rw [List.getElem?_set_ne (by decide)]; exact e0
    have f1 : (σ.set 3 (some (V.int (i2 % many))))[1]? = some (some (.int many)) := by rw [List.getElem?_set_ne (by decide)]; exact e1
    refine rd_ok f0 s.h rfl ⟨_, f1, i2, many, rfl, rfl, ⟨h0, hm⟩, ?_⟩
    obtain ⟨s1, k1⟩ := s.upd s.b1 s.l1 (Int.ediv_nonneg s.b2 (Int.le_of_lt h0)) s.b3 s.l3 s.b4
    refine ⟨_, f0, _, _, 2, 2, rfl, rfl, s.h, rfl, ?_⟩
    exact ⟨_, List.getElem?_set_self (by rw [hl]; decide), k _ _ k1 (Int.emod_nonneg _ (by omega)) (Int.emod_lt_of_pos _ h0)⟩
  · rw [decide_eq_false hp]
    refine brF ?_
    refine rd_ok e0 s.h rfl ⟨i4, 1, rfl, rfl, ?_⟩
    obtain ⟨s1, k1⟩ := s.upd (j4 := i4 + 1) s.b1 s.l1 s.b2 s.b3 s.l3 (by have := s.b4; omega)
    refine ⟨_, e0, _, _, 4, 4, rfl, rfl, s.h, rfl, ?_⟩
    have m1 : ∀ z : Int, 0 ≤ z % 2147483647 ∧ z % 2147483647 < 2147483647 := fun z => ⟨Int.emod_nonneg _ (by decide), Int.emod_lt_of_pos _ (by decide)⟩
    have m2 : ∀ z : Int, 0 ≤ z % 2147483563 ∧ z % 2147483563 < 2147483563 := fun z => ⟨Int.emod_nonneg _ (by decide), Int.emod_lt_of_pos _ (by decide)⟩
    refine rd_ok e0 s1.h rfl (rd_ok e0 s1.h rfl ⟨7919, i4 + 1, rfl, rfl, cm_l (by decide) (by decide), i3, _, rfl, rfl, .inl ⟨_, rfl, ?_⟩⟩)
    refine ⟨_, 48271, rfl, rfl, cm_r (by decide) (by decide), .inl ⟨_, rfl, _, 2147483647, rfl, rfl, (show (0 : Int) < 2147483647 by decide), ?_⟩⟩
    generalize hz : (i3 + 7919 * (i4 + 1)) * 48271 = z1
    have g0 : (σ.set 4 (some (V.int (z1 % 2147483647))))[0]? = some (some (.ref G.h)) := by rw [List.getElem?_set_ne (by decide)]; exact e0
    have g4 : (σ.set 4 (some (V.int (z1 % 2147483647))))[4]? = some (some (.int (z1 % 2147483647))) := List.getElem?_set_self (by rw [hl]; decide)
    have n1 := m1 z1
    refine ⟨_, g4, _, g4, _, 1009, rfl, rfl, ⟨by decide, by decide⟩, _, 69621, rfl, rfl, _, _, rfl, rfl, cm_l (by omega) (by omega), .inl ⟨_, rfl, _, 2147483647, rfl, rfl, (show (0 : Int) < 2147483647 by decide), ?_⟩⟩
    generalize hz2 : z1 % 2147483647 * (z1 % 2147483647 / 1009 + 69621) = z2
    have n2 := m1 z2
    have g4' : ((σ.set 4 (some (V.int (z1 % 2147483647)))).set 4 (some (V.int (z2 % 2147483647))))[4]? = some (some (.int (z2 % 2147483647))) := List.getElem?_set_self (by rw [List.length_set, hl]; decide)
    refine ⟨_, g4', _, g4', _, 2003, rfl, rfl, ⟨by decide, by decide⟩, _, 40014, rfl, rfl, _, _, rfl, rfl, cm_l (by omega) (by omega), .inl ⟨_, rfl, _, 2147483563, rfl, rfl, (show (0 : Int) < 2147483563 by decide), ?_⟩⟩
    generalize hz3 : z2 % 2147483647 * (z2 % 2147483647 / 2003 + 40014) = z3
    have n3 := m2 z3
    have g4'' : (((σ.set 4 (some (V.int (z1 % 2147483647)))).set 4 (some (V.int (z2 % 2147483647)))).set 4 (some (V.int (z3 % 2147483563))))[4]? = some (some (.int (z3 % 2147483563))) := List.getElem?_set_self (by rw [List.length_set, List.length_set, hl]; decide)
    have g1'' : (((σ.set 4 (some (V.int (z1 % 2147483647)))).set 4 (some (V.int (z2 % 2147483647)))).set 4 (some (V.int (z3 % 2147483563))))[1]? = some (some (.int many)) := by
      rw [List.getElem?_set_ne (by decide), List.getElem?_set_ne (by decide), List.getElem?_set_ne (by decide)]
      exact e1
    refine ⟨_, g4'', _, 16, rfl, rfl, ⟨by decide, by decide⟩, .inl ⟨_, rfl, _, g1'', _, many, rfl, rfl, h0, ?_⟩⟩
    exact k _ _ k1 (Int.emod_nonneg _ (by omega)) (Int.emod_lt_of_pos _ h0)
theorem atI_nat {α : Type} {xs : List α} {i : Int} {n : Nat} {x : α} (h : i = n) (e : xs[n]? = some x) : atI xs i = some x := by
  have hl := (List.getElem?_eq_some_iff.mp e).1
  unfold atI ixN
  subst h
  rw [if_pos (by omega), if_pos (by omega)]
  simpa using e
theorem draw_ok {G : Gx} {many c3 : Int} (s : IsHand G H) (h0 : 0 < many) (hm : many < 1073741824) (e0 : σ[0]? = some (some (.ref G.h))) (e1 : σ[1]? = some (some (.int many))) (hl : σ.length = 5)
    (k : ∀ d H', Kc G H H' → 0 ≤ d → d < many → D.rt (.int d) H') : t_draw K c3 D σ H := by
  obtain ⟨ns, i1, i2, i3, i4, s⟩ := s.hs
  refine rd_ok e0 s.h rfl ⟨rfl, decide (V.int i2 = V.int 0), rfl, ?_⟩
  by_cases z2 : i2 = 0
  · subst z2
    rw [decide_eq_true rfl]
    refine brT ?_
    refine rd_ok e0 s.h rfl (rd_ok e0 s.h rfl (.inl ⟨_, ns.length, rfl, .inl ⟨_, SqL.of s.c, by simp⟩, i1, ns.length, rfl, rfl, decide (i1 < ns.length), rfl, ?_⟩))
    by_cases hlt : i1 < ns.length
    · rw [decide_eq_true hlt]
      refine brT ?_
      obtain ⟨c, hc⟩ : ∃ c, ns[i1.toNat]? = some c := ⟨_, List.getElem?_eq_getElem (by have := s.b1; omega)⟩
      have c0 : 0 ≤ c := s.nn c (List.mem_of_getElem? hc)
      have hcv : atI (ns.map V.int) i1 = some (V.int c) := atI_nat (n := i1.toNat) (by have := s.b1; omega) (by rw [List.getElem?_map, hc] <;> rfl)
      refine rd_ok e0 s.h rfl (rd_ok e0 s.h rfl (.inl ⟨_, _, i1, _, rfl, rfl, SqL.of s.c, hcv, ?_⟩))
      have f0 : (σ.set 2 (some (V.int c)))[0]? = some (some (.ref G.h)) := by rw [List.getElem?_set_ne (by decide)]; exact e0
      have f1 : (σ.set 2 (some (V.int c)))[1]? = some (some (.int many)) := by rw [List.getElem?_set_ne (by decide)]; exact e1
      have f2 : (σ.set 2 (some (V.int c)))[2]? = some (some (.int c)) := List.getElem?_set_self (by rw [hl]; decide)
      have fl : (σ.set 2 (some (V.int c))).length = 5 := by rw [List.length_set, hl]
      refine rd_ok f0 s.h rfl ⟨i1, 1, rfl, rfl, ?_⟩
      obtain ⟨s1, k1⟩ := s.upd (j1 := i1 + 1) (j2 := 0) (j3 := i3) (j4 := i4) (by have := s.b1; omega) (by omega) (by decide) s.b3 s.l3 s.b4
      refine ⟨_, f0, _, _, 1, 1, rfl, rfl, s.h, rfl, ?_⟩
      refine rd_ok f0 s1.h rfl ⟨i3, 69621, rfl, rfl, cm_r (by decide) (by decide), _, f2, c, 40692, rfl, rfl, cm_r (by decide) (by decide), _, _, rfl, rfl, _, c3, rfl, rfl, .inl ⟨_, rfl, _, 2147483629, rfl, rfl, (show (0 : Int) < 2147483629 by decide), ?_⟩⟩
      obtain ⟨s2, k2⟩ := s1.upd (j1 := i1 + 1) (j2 := 0) (j3 := (i3 * 69621 + c * 40692 + c3) % 2147483629) (j4 := i4) s1.b1 s1.l1 (by decide) (Int.emod_nonneg _ (by decide)) (by have := Int.emod_lt_of_pos (i3 * 69621 + c * 40692 + c3) (b := 2147483629) (by decide); omega) s1.b4
      refine ⟨_, f0, _, _, 3, 3, rfl, rfl, s1.h, rfl, ?_⟩
      refine ⟨_, f2, 10, 18, rfl, rfl, ⟨by decide, by decide, by decide⟩, c, _, rfl, rfl, _, rfl, ?_⟩
      by_cases hb : (10 : Int) ^ (18 : Int).toNat ≤ c
      · rw [decide_eq_true hb]
        refine brT ?_
        obtain ⟨s3, k3⟩ := s2.upd (j1 := i1 + 1) (j2 := c) (j3 := (i3 * 69621 + c * 40692 + c3) % 2147483629) (j4 := i4) s2.b1 s2.l1 c0 s2.b3 s2.l3 s2.b4
        refine ⟨_, f2, _, f0, _, _, 2, 2, rfl, rfl, s2.h, rfl, ?_⟩
        exact draw_tail s3 h0 hm f0 f1 fl fun d H' kc a b => k d H' (((k1.trans k2).trans k3).trans kc) a b
      · rw [decide_eq_false hb]
        refine brF ?_
        exact draw_tail s2 h0 hm f0 f1 fl fun d H' kc a b => k d H' ((k1.trans k2).trans kc) a b
    · rw [decide_eq_false hlt]
      refine brF ?_
      exact draw_tail s h0 hm e0 e1 hl k
  · rw [decide_eq_false (fun z => z2 (V.int.inj z))]
    refine brF ?_
    exact draw_tail s h0 hm e0 e1 hl k
end
end LW
end S18_

section S19_
set_option maxRecDepth 100000
set_option maxHeartbeats 1000000
/-! Own layer, part 19: __init__ of own classes. -/
namespace LW
open PySem PySem.Spec PyProof.Rows L2 RZ
inductive GIn (G : Gx) (W : WX) (K : PySem.W.Frag) : TS → List Str → List IS → Prop
  | nil : GIn G W K tNext [] []
  | fld {te : TE} {a : WE} {f : Str} {ts : TS} {fs : List Str} {ws : List IS} (h : GE G W te a) (r : GIn G W K ts fs ws) : GIn G W K (tSeq (sFld K (tVar 0) te f) ts) (f :: fs) (.fld a :: ws)
  | st {t : TS} {x : WS} {ts : TS} {fs : List Str} {ws : List IS} (h : GS G W t x) (r : GIn G W K ts fs ws) : GIn G W K (tSeq t ts) fs (.st x :: ws)
theorem putF_zip {f : Str} {y : V} : ∀ {fs : List Str} {vs : List V}, f ∉ fs → vs.length = fs.length → putF f y (fs.zip vs) = (fs ++ [f]).zip (vs ++ [y])
  | [], [], _, _ => rfl
  | g :: fs, v :: vs, h, l => by
    have hg : ¬ g = f := fun z => h (by rw [z]; exact List.mem_cons_self)
    show (if g = f then _ else (g, v) :: putF f y (fs.zip vs)) = (g, v) :: (fs ++ [f]).zip (vs ++ [y])
    rw [if_neg hg, putF_zip (fun z => h (List.mem_cons_of_mem _ z)) (by simpa using l)]
section
variable {G : Gx} {W : WX} {K : PySem.W.Frag}
theorem gin_ok {c : Nat} (hc : Cls K (G.cl.ca c)) (ha : ∀ f ∈ G.cl.cf c, NoAttr K (G.cl.ca c) f) (nd : (G.cl.cf c).Nodup) (hl : (G.cl.cf c).length < 1000) {ts : TS} {fs : List Str} {ws : List IS} (g : GIn G W K ts fs ws) :
    ∀ {P : Addr → Prop} {H0 : Hp} {a dx : Addr} {done : List Str} {vs : List V} {acc : List D} {e : Env} {σ : L2.St} {H : Hp} {Q : List D → Prop} {E : KE} {Z' : Ends}, done ++ fs = G.cl.cf c → vs.length = done.length → P G.h → P G.c → ¬ P a → H0 a = none → gt e 0 = .fix a →
      Sim G (And1 P a) (upd H0 a (.ins (G.cl.ca c) dx (done.zip vs))) e σ H → Reps G (Ow (And1 P a) e σ) H vs acc → initGo ws acc Q E e → XOS G P H0 W E →
      (∀ xs e1 σ1 H1, Sim G P H0 e1 σ1 H1 → Rep G (Ow P e1 σ1) H1 (.ref a) (.obj c xs) → Q xs → Z'.nx σ1 H1) → ts Z' σ H := by
  have step : ∀ {P : Addr → Prop} {H0 : Hp} {a dx : Addr} {f : Str} {te : TE} {w : WE} {done fs : List Str} {vs : List V} {acc : List D} {e : Env} {σ : L2.St} {H : Hp} {E : KE} {R : List D → Env → Prop} {Nx : L2.St → Hp → Prop}, GE G W te w → done ++ (f :: fs) = G.cl.cf c → vs.length = done.length → P G.h → P G.c → ¬ P a → H0 a = none → gt e 0 = .fix a →
      Sim G (And1 P a) (upd H0 a (.ins (G.cl.ca c) dx (done.zip vs))) e σ H → Reps G (Ow (And1 P a) e σ) H vs acc → w e (fun x e1 => fzP (fz e1 x) fun pd pe => (∃ s, gt e 0 = .fix s ∧ gt pe 0 = .fix s) ∧ R (acc ++ [pd]) pe) E →
      XOS G P H0 W E →
      (∀ e2 vs2 acc2 H2, vs2.length = (done ++ [f]).length → gt e2 0 = .fix a → Sim G (And1 P a) (upd H0 a (.ins (G.cl.ca c) dx ((done ++ [f]).zip vs2))) e2 σ H2 → Reps G (Ow (And1 P a) e2 σ) H2 vs2 acc2 → R acc2 e2 → Nx σ H2) →
      (te σ H fun y H1 => tVar 0 σ H1 fun x H2 => ∃ a C dx fs, x = .ref a ∧ H2 a = some (.ins C dx fs) ∧ Cls K C ∧ NoAttr K C f ∧ fs.length < 1000 ∧ Nx σ (upd H2 a (.ins C dx (putF f y fs)))) := by
    intro P H0 a dx f te w done fs vs acc e σ H E R Nx h hf lv ph pc na n0 h0 S Rv hw X k
    have hup : ∀ {o : HO}, upd H0 a o a = some o := upd_same
    refine h (And1 P a) _ e σ H _ E _ S hw (fun x e1 cls d H1 S1 r1 q1 => ?_) fun x e1 y H1 S1 K1 R1 q1 => ?_
    · refine X x e1 σ cls d H1 ((S1.unpinA ph pc na n0).drop1 ph pc) ?_ q1
      obtain ⟨c', xs, z1, z2, z3⟩ := r1
      refine ⟨c', xs, z1, z2, z3.elim .inl fun z => ?_⟩
      obtain ⟨ne0, dx, fs, y1, y2, y3⟩ := z
      exact .inr ⟨ne0, dx, fs, y1, y2, fun i nm y' a b => let ⟨v, q1, q2⟩ := y3 i nm y' a b; ⟨v, q1, q2.step (Kp.weak fun a z => ow_mono (fun _ => .inl) z)⟩⟩
    · obtain ⟨p, ep, ⟨s, es, es2⟩, q1⟩ := fzP_of q1
      rw [h0] at es
      cases es
      obtain ⟨S2, K2, R2⟩ := S1.frz R1 ep
      have haH : H1 a = some (.ins (G.cl.ca c) dx (done.zip vs)) := S2.old a _ (fun z => na (by rw [z]; exact ph)) upd_same
      have fm : f ∈ G.cl.cf c := by rw [← hf]; simp
      have fn : f ∉ done := fun z => by
        rw [← hf] at nd
        exact (List.nodup_append.mp nd).2.2 f z f List.mem_cons_self rfl
      have zl : (done.zip vs).length < 1000 := by
        have : done.length < (G.cl.cf c).length := by rw [← hf]; simp
        rw [List.length_zip]
        omega
      refine ⟨_, S2.fix 0 a (by rw [es2] <;> rfl), a, _, dx, _, rfl, haH, hc, ha f fm, zl, ?_⟩
      rw [putF_zip fn lv]
      have S3 := S2.unpinA ph pc na n0
      obtain ⟨S4, K4⟩ := S3.mut1 (o := .ins (G.cl.ca c) dx ((done ++ [f]).zip (vs ++ [y]))) na ph pc n0
      have S5 := S4.pinA ph pc na upd_same
      have kk := (K1.trans K2).trans K4
      exact k p.2 (vs ++ [y]) (acc ++ [p.1]) _ (by simp [lv]) es2 S5 ((Rv.step kk).append (.cons (R2.step K4) .nil)) q1
  induction g with
  | nil =>
    intro P H0 a dx done vs acc e σ H Q E Z' hf lv ph pc na n0 h0 S Rv hw X k
    have S3 := S.unpinA ph pc na n0
    have S4 := S3.drop1 ph pc
    have haH : H a = some (.ins (G.cl.ca c) dx (done.zip vs)) := S.old a _ (fun z => na (by rw [z]; exact ph)) upd_same
    rw [List.append_nil] at hf
    rw [hf] at haH lv
    exact k acc e σ H S4 (.obj (S3.notOw na) haH lv.symm (Rv.step (Kp.weak fun b z => ow_mono (fun _ => .inl) z))) hw
  | @fld te w f ts fs ws h r ih =>
    intro P H0 a dx done vs acc e σ H Q E Z' hf lv ph pc na n0 h0 S Rv hw X k
    refine step (R := fun xs e => initGo ws xs Q E e) (Nx := fun σ H => ts Z' σ H) h hf lv ph pc na n0 h0 S Rv hw X fun e2 vs2 acc2 H2 lv2 h2 S2 Rv2 q2 => ?_
    exact ih (by rw [List.append_assoc]; exact hf) lv2 ph pc na n0 h2 S2 Rv2 q2 X k
  | @st t x ts fs ws h r ih =>
    intro P H0 a dx done vs acc e σ H Q E Z' hf lv ph pc na n0 h0 S Rv hw X k
    refine h (And1 P a) _ e σ H _ E { Z' with nx := ts Z' } S hw (fun x e1 σ1 cls d H1 S1 r1 q1 => ?_) ⟨⟨fun e1 σ1 H1 S1 K1 q1 => ?_⟩, ⟨fun _ _ _ _ _ z => z.elim⟩, ⟨fun _ _ _ _ _ z => z.elim⟩, fun _ _ _ _ _ _ _ z => z.elim⟩
    · refine X x e1 σ1 cls d H1 ((S1.unpinA ph pc na n0).drop1 ph pc) ?_ q1
      obtain ⟨c', xs, z1, z2, z3⟩ := r1
      refine ⟨c', xs, z1, z2, z3.elim .inl fun z => ?_⟩
      obtain ⟨ne0, dx, fs, y1, y2, y3⟩ := z
      exact .inr ⟨ne0, dx, fs, y1, y2, fun i nm y' a b => let ⟨v, q1, q2⟩ := y3 i nm y' a b; ⟨v, q1, q2.step (Kp.weak fun a z => ow_mono (fun _ => .inl) z)⟩⟩
    · obtain ⟨⟨s, es, es2⟩, q1⟩ := q1
      rw [h0] at es
      cases es
      exact ih hf lv ph pc na n0 es2 S1 (Rv.step K1) q1 X k
end
theorem sim_startI {C : Cl} {h c : Addr} {P : Addr → Prop} {H : Hp} {a : Addr} {vs : List V} {ds : List D} {N : List Str} (ph : P h) (pc : P c) (hd : ∀ a, P a → ∃ o, H a = some o) (r : Reps ⟨C, h, c⟩ P H vs ds) (hn : ds.length + 1 ≤ N.length) :
    Sim ⟨C, h, c⟩ P H (.fix a :: (ds.map Slot.val ++ List.replicate (N.length - (ds.length + 1)) Slot.un)) (L2.start N (.ref a :: vs)) H := by
  cases N with
  | nil => simp at hn
  | cons n N =>
    have e1 : (n :: N).length - (ds.length + 1) = N.length - ds.length := by simp
    rw [e1]
    have S := sim_start (C := C) (h := h) (c := c) (N := N) (ps := N) ph pc hd r (by simpa using hn)
    have e2 : L2.start (n :: N) (.ref a :: vs) = some (.ref a) :: L2.start N vs := by
      unfold L2.start
      have : (n :: N).length - (V.ref a :: vs).length = N.length - vs.length := by simp
      rw [this]
      rfl
    rw [e2]
    have w : ∀ b, Ow P (.fix a :: (ds.map Slot.val ++ List.replicate (N.length - ds.length) Slot.un)) (some (.ref a) :: L2.start N vs) b → Ow P (ds.map Slot.val ++ List.replicate (N.length - ds.length) Slot.un) (L2.start N vs) b := fun b z => by
      rcases z with z | ⟨i, xs, z1, z2⟩
      · exact .inl z
      · cases i with
        | zero => cases z1
        | succ i => exact .inr ⟨i, xs, z1, z2⟩
    refine ⟨by simp [S.len], S.old, S.hnd, S.dom, S.ph, S.pc, fun i x q => ?_, fun i xs q => ?_, fun i j xs ys b q1 q2 q3 q4 => ?_, fun i b q => ?_⟩
    · cases i with
      | zero => cases q
      | succ i =>
        obtain ⟨v, z1, z2⟩ := S.val i x q
        exact ⟨v, z1, z2.step (Kp.weak w)⟩
    · cases i with
      | zero => cases q
      | succ i =>
        obtain ⟨b, z1, z2, z4⟩ := S.own i xs q
        exact ⟨b, z1, z2.step (Kp.weak w), z4⟩
    · cases i with
      | zero => cases q1
      | succ i =>
        cases j with
        | zero => cases q2
        | succ j => rw [S.inj i j xs ys b q1 q2 q3 q4]
    · cases i with
      | zero =>
        cases q
        rfl
      | succ i => exact S.fix i b q
def CIn (C : Cl) (W : WX) (K : PySem.W.Frag) (XP : Cx → Prop) (sts : List Stmt) (fs : List Str) (ws : List IS) : Prop := ∃ ts, (∀ X, XP X → PSs X sts ts) ∧ Q2 C fun G => GIn G W K ts fs ws
section
variable {P : Program} {w : World} {K : PySem.W.Frag} {mg : Str → Option Value} {base : Heap} {n : Nat} {N : List Str} {sc : Scope} {fT : Bool} {W : WX} {XP : Cx → Prop} {C : Cl} {pos p q : Pos} {e : Expr} {a : WE} {st : Stmt} {sts : List Stmt} {fs : List Str} {ws : List IS} {x : WS}
theorem cin_nil : CIn C W K XP [] [] [] := ⟨_, fun _ _ => pss_nil, fun _ _ => .nil⟩
theorem cin_st (h : CS C W XP st x) (r : CIn C W K XP sts fs ws) : CIn C W K XP (st :: sts) fs (.st x :: ws) := let ⟨_, h1, h2⟩ := h; let ⟨_, h3, h4⟩ := r; ⟨_, fun X hX => pss_cons (h1 X hX) (h3 X hX), fun h c => .st (h2 h c) (h4 h c)⟩
theorem cin_fld (B : Bd P w K mg base n N sc fT W XP) {nm f : Str} (h : CE C W XP e a) (r : CIn C W K XP sts fs ws) (hN : N[0]? = some nm := by rfl) (hv : visB sc nm = true := by rfl) (hs : ∀ (env : PySem.Env), swapsWith e (some (.Attribute (.Name nm p) f q)) pos.line env = pure false := by intro _; rfl)
    (hd : (nm == ("__debug__" : Str)) = false := by decide) (hcd : (nm == ("__classdict__" : Str)) = false := by decide) : CIn C W K XP (.Assign [.Attribute (.Name nm p) f q] e pos :: sts) (f :: fs) (.fld a :: ws) :=
  let ⟨te, h1, h2⟩ := h; let ⟨ts, h3, h4⟩ := r; ⟨tSeq (sFld K (tVar 0) te f) ts, fun X hX => pss_cons (B.k X hX ▸ ps_fld (pe_var (B.lk hN hX) (B.vis hv hX) hd hcd) (h1 X hX) (hs _)) (h3 X hX), fun h c => .fld (h2 h c) (h4 h c)⟩
/-- an own class by its __init__'s text -/
theorem hasI_def {x nm qual : Str} {params : Arguments} {body : List Stmt} {f : Addr} {fd : FuncData} {ps : List Str} {k c : Nat} {wi : List IS} {ct : Ct} (hm : mg x = some (.ref (C.ca c))) (M : Mk K (C.ca c) f) (hc : Cls K (C.ca c)) (ha : ∀ f ∈ C.cf c, NoAttr K (C.ca c) f) (hnd : (C.cf c).Nodup) (hlc : (C.cf c).length < 1000)
    (F : FunD K nm qual params body sc [] [] f fd) (S : FnScope N ps sc) (bb : Binds K fd ps []) (hb : ∀ W, CIn C W K (XPd P w K mg base k N sc W) body (C.cf c) wi) (hl : ∀ ds q e, ct ds q e → ds.length + 1 = ps.length) (spec : ∀ ds q e, ct ds q e → fnI (N.length - ps.length) c wi ds q e) (hn : ps.length ≤ N.length := by decide) :
    HasI P w K mg base C (k + 1) x c ps ct := by
  refine ⟨f, fd, hm, M, bb, F.ok S (fun vs H Q E h => ?_) (fun cdv A outer s H vs Q E hr h => ?_)⟩
  · obtain ⟨h, cc, Pa, ds, q, e, a, dx, us, rfl, ph, pc, hd, npa, haH, r, hct, _⟩ := h
    simp only [List.length_cons]
    rw [r.length]
    exact hl ds q e hct
  · obtain ⟨ts, p, gs⟩ := hb (fun cls d _ H => E cls d H)
    refine ⟨ts, p _ ⟨rfl, rfl, rfl, rfl, rfl, rfl, rfl, rfl, hr, rfl, passes_of rfl, takes_of rfl rfl rfl rfl, rfl, rfl⟩, ?_⟩
    obtain ⟨h, cc, Pa, ds, q, e, a, dx, us, rfl, ph, pc, hd, npa, haH, r, hct, hq, he⟩ := h
    have sp := spec ds q e hct
    have hlen := hl ds q e hct
    have sp2 := sp a
    rw [← hlen] at sp2
    have hd1 : ∀ b, And1 Pa a b → ∃ o, H b = some o := fun b z => z.elim (hd b) fun z => z ▸ ⟨_, haH⟩
    have S0 := sim_startI (C := C) (N := N) (a := a) (P := And1 Pa a) (h := h) (c := cc) (.inl ph) (.inl pc) hd1 r (by rw [hlen]; exact hn)
    have eH : H = upd (del H a) a (.ins (C.ca c) dx (([] : List Str).zip ([] : List V))) := by
      funext b
      by_cases z : b = a
      · rw [z, upd_same, haH]
        rfl
      · rw [upd_ne z, del_ne z]
    have kc : ∀ {e1 : Env} {σ1 : L2.St} {H1 : Hp}, Sim ⟨C, h, cc⟩ Pa (del H a) e1 σ1 H1 → (∀ b o, b ≠ h → b ≠ a → H b = some o → H1 b = some o) ∧ (IsHand ⟨C, h, cc⟩ H → IsHand ⟨C, h, cc⟩ H1) ∧ (∀ b o, b ≠ a → H b = some o → ∃ u, H1 b = some u) := fun S1 => by
      refine ⟨fun b o n1 n2 z => S1.old b o n1 (by rw [del_ne n2]; exact z), fun z => S1.hnd (z.keep fun b o hb z => ?_), fun b o n2 z => ?_⟩
      · rw [del_ne (fun y => npa (by rcases hb with y2 | y2 <;> rw [← y, y2] <;> assumption))]
        exact z
      · by_cases z3 : b = h
        · rw [z3]
          exact S1.dom h ph
        · exact ⟨o, S1.old b o z3 (by rw [del_ne n2]; exact z)⟩
    have S0' : Sim ⟨C, h, cc⟩ (And1 Pa a) (upd (del H a) a (.ins (C.ca c) dx (([] : List Str).zip ([] : List V)))) (.fix a :: (ds.map Slot.val ++ List.replicate (N.length - (ds.length + 1)) Slot.un)) (L2.start N (.ref a :: us)) H := by
      rw [← eH]
      exact S0
    refine gin_ok (c := c) hc ha hnd hlc (gs h cc) (P := Pa) (H0 := del H a) (a := a) (dx := dx) (done := []) (vs := []) (acc := []) (Q := fun xs => q (.obj c xs)) (E := fun x _ => e x) rfl rfl ph pc npa del_same rfl S0' .nil sp2 (fun y e1 σ1 cls d H1 S1 r1 q1 => ?_) fun xs e1 σ1 H1 S1 r1 q1 => ?_
    · obtain ⟨k1, k2, k3⟩ := kc S1
      refine he y cls d H1 k1 k2 k3 ?_ q1
      · obtain ⟨c', xs, z1, z2, z3⟩ := r1
        refine ⟨c', xs, z1, z2, z3.elim .inl fun z => ?_⟩
        obtain ⟨ne0, dx, fs, y1, y2, y3⟩ := z
        exact .inr ⟨ne0, dx, fs, y1, y2, fun i nm y' a b => let ⟨v, q1, q2⟩ := y3 i nm y' a b; ⟨v, q1, q2.step (Kp.weak fun a z => .inl z)⟩⟩
    · obtain ⟨k1, k2, k3⟩ := kc S1
      exact hq (.obj c xs) H1 k1 k2 k3 (r1.step (Kp.weak fun a z => .inl z)) q1
end
end LW
end S19_

section S20_
set_option maxRecDepth 100000
set_option maxHeartbeats 1000000
/-! Own layer, part 20: try .. except C as e: told = (e.f, e.g) if isinstance(e, D) else .. -/
namespace LW
open PySem PySem.Spec PyProof.Rows L2 RZ
def rIsT (K : PySem.W.Frag) (D a : Addr) (cls : Value) : List V → Hp → VK → Prop := fun xs H Q => ∃ Cc, cls = .ref D ∧ xs = [.ref a, .ref Cc] ∧ PySem.W.isIn K (.ref D) Cc = true ∧ Q (.bl true) H
theorem call_isT {X : Cx} {a D : Addr} {oe : Obj} {pn : List (Addr × Obj)} {cls : Value} {d : Option Addr} (hz : Zc cls d oe) : CallR (X.suite a ((a, oe) :: pn)) (.builtin "isinstance") (rIsT X.K D a cls) := by
  intro pins s σ H xs us Q I r h
  obtain ⟨Cc, hc, rfl, e, q⟩ := h
  cases r with
  | cons rx rr =>
    cases rr with
    | cons rt rr =>
      cases rr
      cases rx
      cases rt
      obtain ⟨hget, _⟩ := I.pin (a, oe) (List.mem_append.mpr (.inl List.mem_cons_self))
      have ty : ∀ M, PySem.W.Looks M s.heap (typeOf (.ref a)) (.ref D) := fun M => by
        have := (PySem.W.Looks.ld (M := M) (part := none) hget).andThen (f := fun o => pure o.cls) .now
        rw [hz.1, hc] at this
        exact this
      exact PySem.W.isi_call I.kIn ty e (fun z => nomatch z) ⟨.bl true, H, I, rfl, q⟩
section
variable {G : Gx} {P : Addr → Prop} {H0 H H1 : Hp} {env e1 : Env} {σ σ1 : L2.St}
/-- the heap but for the lists of ours -/
noncomputable def b0 (env : Env) (σ : L2.St) (H : Hp) : Hp := fun a => open Classical in if (∃ i xs, mob (gt env i) = some xs ∧ σ[i]? = some (some (.ref a))) then none else H a
theorem b0_of {a : Addr} {o : HO} (h : b0 env σ H a = some o) : H a = some o ∧ ¬ ∃ i xs, mob (gt env i) = some xs ∧ σ[i]? = some (some (.ref a)) := by
  unfold b0 at h
  split at h
  · cases h
  · exact ⟨h, by assumption⟩
theorem b0_at {a : Addr} {o : HO} (h : H a = some o) (n : ¬ ∃ i xs, mob (gt env i) = some xs ∧ σ[i]? = some (some (.ref a))) : b0 env σ H a = some o := by
  unfold b0
  rw [if_neg n]
  exact h
theorem Sim.re1 (S : Sim G P H0 env σ H) : Sim G P (b0 env σ H) env σ H where
  len := S.len
  old := fun a o _ e => (b0_of e).1
  hnd := fun q => q.keep fun a o _ e => (b0_of e).1
  dom := S.dom
  ph := S.ph
  pc := S.pc
  val := S.val
  own := fun i xs q => by
    obtain ⟨a, h1, h2, h4, h5⟩ := S.own i xs q
    refine ⟨a, h1, h2, h4, ?_⟩
    unfold b0
    rw [if_pos ⟨i, xs, q, h1⟩]
  inj := S.inj
  fix := S.fix
theorem Sim.nown (S : Sim G P H0 env σ H) {a : Addr} (h : P a ∨ ∃ o, H0 a = some o) : ¬ ∃ i xs, mob (gt env i) = some xs ∧ σ[i]? = some (some (.ref a)) := fun ⟨i, xs, q, e⟩ => by
  obtain ⟨b, h1, h2, h4, h5⟩ := S.own i xs q
  rw [e] at h1
  cases h1
  rcases h with h | ⟨o, h⟩
  · exact h4 h
  · rw [h5] at h
    cases h
theorem Sim.re2 (S0 : Sim G P H0 env σ H) (S1 : Sim G P (b0 env σ H) e1 σ1 H1) : Sim G P H0 e1 σ1 H1 ∧ Kp G (Ow P env σ) H (Ow P e1 σ1) H1 := by
  have hh : IsHand G H → IsHand G H1 := fun q => S1.hnd (q.keep fun a o ha e => b0_at e (S0.nown (.inl (by rcases ha with z | z <;> rw [z] <;> first | exact S0.ph | exact S0.pc))))
  refine ⟨⟨S1.len, fun a o n e => S1.old a o n (b0_at (S0.old a o n e) (S0.nown (.inr ⟨o, e⟩))), fun q => hh (S0.hnd q), S1.dom, S1.ph, S1.pc, S1.val, fun i xs q => ?_, S1.inj, S1.fix⟩, fun a o e n => ?_, hh⟩
  · obtain ⟨a, h1, h2, h4, h5⟩ := S1.own i xs q
    refine ⟨a, h1, h2, h4, ?_⟩
    cases z : H0 a with
    | none => rfl
    | some o =>
      have na : a ≠ G.h := fun y => h4 (by rw [y]; exact S0.ph)
      rw [b0_at (S0.old a o na z) (S0.nown (.inr ⟨o, z⟩))] at h5
      cases h5
  · have no : ¬ ∃ i xs, mob (gt env i) = some xs ∧ σ[i]? = some (some (.ref a)) := fun z => n (.inr z)
    have nh : a ≠ G.h := fun y => n (.inl (by rw [y]; exact S0.ph))
    refine ⟨S1.old a o nh (b0_at e no), fun z => ?_⟩
    rcases z with z | ⟨i, xs, q, e2⟩
    · exact n (.inl z)
    · obtain ⟨b, h1, h2, h4, h5⟩ := S1.own i xs q
      rw [e2] at h1
      cases h1
      rw [b0_at e no] at h5
      cases h5
end
/-- the contexts within a try -/
def XPt (XP : Cx → Prop) (W : WX) : Cx → Prop := fun Y => ∃ (X : Cx) (pn : List (Addr × Obj)) (xe : Value → Shared → Prop), XP X ∧ Y = X.tr pn xe ∧ Takes Y W ∧ PassesOwn (model X.prog X.w) X.A X.env xe
section
variable {P : Program} {w : World} {K : PySem.W.Frag} {mg : Str → Option Value} {base : Heap} {n : Nat} {N : List Str} {sc : Scope} {W : WX} {XP : Cx → Prop} {C : Cl} {pos p q : Pos}
theorem Bd.try_ (B : Bd P w K mg base n N sc true W XP) (W' : WX) : Bd P w K mg base n N sc true W' (XPt XP W') where
  nd := B.nd
  p := fun Y ⟨X, _, _, hX, e, _⟩ => e ▸ B.p X hX
  w := fun Y ⟨X, _, _, hX, e, _⟩ => e ▸ B.w X hX
  k := fun Y ⟨X, _, _, hX, e, _⟩ => e ▸ B.k X hX
  m := fun Y ⟨X, _, _, hX, e, _⟩ => e ▸ B.m X hX
  b := fun Y ⟨X, _, _, hX, e, _⟩ => e ▸ B.b X hX
  c := fun Y ⟨X, _, _, hX, e, _⟩ => e ▸ B.c X hX
  r := fun Y ⟨X, _, _, hX, e, _⟩ => e ▸ B.r X hX
  n := fun Y ⟨X, _, _, hX, e, _⟩ => e ▸ B.n X hX
  s := fun Y ⟨X, _, _, hX, e, _⟩ => e ▸ B.s X hX
  t := fun Y ⟨_, _, _, _, _, t, _⟩ => t
  f := fun _ Y ⟨X, _, _, hX, e, _, po⟩ => by
    subst e
    exact ⟨(B.f rfl X hX).1, po⟩
  g := fun _ Y ⟨X, _, _, hX, e, _⟩ => by
    subst e
    exact B.g rfl X hX
/-- what is asked of the class caught -/
structure ExOk (K : PySem.W.Frag) (mg : Str → Option Value) (C : Cl) (c : Nat) (x y : Str) (f g : Str) : Prop where
  cx : mg x = some (.ref (C.ca c))
  top : ∃ a, mg y = some (.ref a) ∧ PySem.W.isIn K (.ref (C.ca c)) a = true
  xf : XfC K (C.ca c)
  exm : PySem.W.exmOne K (.ref (C.ca c)) (.ref (C.ca c)) = some true
  nf : PySem.W.findIn K (.ref (C.ca c)) f = some none
  ng : PySem.W.findIn K (.ref (C.ca c)) g = some none
  cf : C.cf c = [f, g]
theorem cs_tryX (B : Bd P w K mg base n N sc true W XP) {c : Nat} (i j : Nat) {x y nm nt f g : Str} {pb pe p1 p2 p3 p4 p5 p6 p7 p8 p9 pa ph pp : Pos} {body : List Stmt} {xb : WS} {e3 : Expr} {k1 : Nat} (O : ExOk K mg C c x y f g) (hi0 : mg "isinstance" = none) (hb : ∀ W', CSs C W' (XPt XP W') body xb)
    (h3 : ∃ t3, ∀ X, XP X → ∀ a pn, PE (X.suite a pn) e3 t3)
    (hi : N[i]? = some nm := by rfl) (hj : N[j]? = some nt := by rfl) (hin : sc.names.lookup nm = some .local := by rfl) (hjn : locB true sc nt = true := by rfl) (hgx : gloB sc x = true := by rfl) (hgy : gloB sc y = true := by rfl) (hgi : gloB sc "isinstance" = true := by rfl) (hv : visB sc nm = true := by rfl) (hij : (i == j) = false := by rfl)
    (hdx : (x == ("__debug__" : Str)) = false := by decide) (hdy : (y == ("__debug__" : Str)) = false := by decide) (hdn : (nm == ("__debug__" : Str)) = false := by decide) (hcn : (nm == ("__classdict__" : Str)) = false := by decide) :
    CS C W XP (.Try body [.ExceptHandler (some (.Name x p1)) (some nm) [.Assign [.Name nt p2] (.IfExp (.Call (.Name "isinstance" p3) [.Name nm p4, .Name y p5] [] p6) (.Tuple [.Attribute (.Name nm p7) f p8, .Attribute (.Name nm p9) g pa] k1 ph) e3 pp) pb] pe] [] [] pos) (sTryX xb c i j) := by
  obtain ⟨ac, hm2, hisin⟩ := O.top
  obtain ⟨t3, h3⟩ := h3
  have hne : i ≠ j := by simpa using hij
  let tb : WX → TS := fun W' => Classical.choose (hb W')
  have tb1 : ∀ W', (∀ X, XPt XP W' X → PSs X body (tb W')) ∧ Q2 C fun G => GS G W' (tb W') xb := fun W' => Classical.choose_spec (hb W')
  let ts : Addr → Value → Option Addr → TS := fun a cls d => tAsg (tIf (tB (tCB (rIsT K (C.ca c) a cls) (tCons (tVar i) (tCons (tC (.ref ac)) tNil)))) (tTup (tCons (tXf a cls d (C.ca c) f (tVar i)) (tCons (tXf a cls d (C.ca c) g (tVar i)) tNil))) t3) (gName j)
  refine ⟨fun D σ H => tb (wAs K (.ref (C.ca c)) i ts W D) D σ H, fun X hX => ?_, fun h cc P0 H0 env σ H Z E Z' S hz Xo k => ?_⟩
  · have kk := B.k X hX
    obtain ⟨hs, hf⟩ := B.g rfl X hX
    have hsu : ∀ (a : Addr) (oe : Obj) (cls : Value) (d : Option Addr) (pn : List (Addr × Obj)), Zc cls d oe → (∃ vs, oe.data = .fields vs) → PSs (X.suite a ((a, oe) :: pn)) [.Assign [.Name nt p2] (.IfExp (.Call (.Name "isinstance" p3) [.Name nm p4, .Name y p5] [] p6) (.Tuple [.Attribute (.Name nm p7) f p8, .Attribute (.Name nm p9) g pa] k1 ph) e3 pp) pb] (ts a cls d) := by
      intro a oe cls d pn hz hfl
      have vr : ∀ {pos}, PE (X.suite a ((a, oe) :: pn)) (.Name nm pos) (tVar i) := pe_var (X := X.suite a ((a, oe) :: pn)) (B.lk (X := X) hi hX) (B.vis (X := X) hv hX) hdn hcn
      have xf : XfC (X.suite a ((a, oe) :: pn)).K (C.ca c) := by
        show XfC X.K _
        rw [kk]
        exact O.xf
      have nf : PySem.W.findIn (X.suite a ((a, oe) :: pn)).K (.ref (C.ca c)) f = some none := by
        show PySem.W.findIn X.K _ _ = _
        rw [kk]
        exact O.nf
      have ng : PySem.W.findIn (X.suite a ((a, oe) :: pn)).K (.ref (C.ca c)) g = some none := by
        show PySem.W.findIn X.K _ _ = _
        rw [kk]
        exact O.ng
      have ci : CallR (X.suite a ((a, oe) :: pn)) (.builtin "isinstance") (rIsT K (C.ca c) a cls) := by
        have := call_isT (X := X) (a := a) (D := C.ca c) (pn := pn) hz
        rw [kk] at this
        exact this
      have gy : PE (X.suite a ((a, oe) :: pn)) (.Name y p5) (tC (.ref ac)) := pe_glob (X := X.suite a ((a, oe) :: pn)) (v := .ref ac) (B.gl (X := X) hgy hX) (B.mv (X := X) hm2 hX) rfl hdy
      have tt : PT (X.suite a ((a, oe) :: pn)) (.Call (.Name "isinstance" p3) [.Name nm p4, .Name y p5] [] p6) (tB (tCB (rIsT K (C.ca c) a cls) (tCons (tVar i) (tCons (tC (.ref ac)) tNil)))) :=
        pt_val (pe_callB (X := X.suite a ((a, oe) :: pn)) ci (B.gl (X := X) hgi hX) (B.mv (X := X) hi0 hX) boot_isinstance (pa_cons vr (pa_cons gy pa_nil)))
      exact pss_one (ps_set (X := X.suite a ((a, oe) :: pn)) (B.ndX (X := X) hX) (B.lk (X := X) hj hX) (B.loc (X := X) hjn hX).1 (pe_ifExp tt (pe_tup (pa_cons (pe_xf xf nf hz hfl vr) (pa_cons (pe_xf xf ng hz hfl vr) pa_nil))) (h3 X hX a _)) rfl (B.loc (X := X) hjn hX).2)
    have := ps_try_as (X := X) (pos := pos) (np := p1) (pos' := pe) (Wout := W) hs hf (B.ndX hX) (B.lk hi hX) (show X.env.scope.names.lookup nm = some .local by rw [B.s X hX]; exact hin) (c := .ref (C.ca c)) (x := x) ⟨B.gl hgx hX, hdx, .inl (B.mv O.cx hX)⟩ (B.t X hX) (tb := tb) (fun W' pn xe tk po => (tb1 W').1 _ ⟨X, pn, xe, hX, rfl, tk, po⟩) hsu
    rw [kk] at this
    exact this
  · refine (tb1 _).2 h cc P0 (b0 env σ H) env σ H Z _ Z' S.re1 hz (fun x e1 σ1 cls d H1 S1' r1 q1 => ?_) ⟨⟨fun e1 σ1 H1 S1 K1 q1 => k.nx.ok e1 σ1 H1 (S.re2 S1).1 K1 q1⟩, ⟨fun e1 σ1 H1 S1 K1 q1 => k.bk.ok e1 σ1 H1 (S.re2 S1).1 K1 q1⟩, ⟨fun e1 σ1 H1 S1 K1 q1 => k.ct.ok e1 σ1 H1 (S.re2 S1).1 K1 q1⟩, fun x e1 σ1 v H1 S1 r1 q1 => k.rt x e1 σ1 v H1 (S.re2 S1).1 r1 q1⟩
    obtain ⟨S1, K1⟩ := S.re2 S1'
    obtain ⟨c', xs, rfl, rfl, r3⟩ := r1
    match xs, q1, r3 with
    | [x1, x2], q1, r3 =>
      obtain ⟨rfl, hil, q1⟩ := q1
      obtain ⟨_, dd, fs, rfl, hd, hfld⟩ := r3.elim (fun z => nomatch z.1) id
      obtain ⟨v1, l1, R1⟩ := hfld 0 f x1 (by rw [show (Gx.cl ⟨C, h, cc⟩) = C from rfl, O.cf] <;> rfl) rfl
      obtain ⟨v2, l2, R2⟩ := hfld 1 g x2 (by rw [show (Gx.cl ⟨C, h, cc⟩) = C from rfl, O.cf] <;> rfl) rfl
      refine ⟨true, O.exm, fun _ a na => ?_, fun z => nomatch z⟩
      have gi : (σ1.set i (some (V.ref a)))[i]? = some (some (.ref a)) := List.getElem?_set_self (by rw [← S1.len]; exact hil)
      refine ⟨_, gi, ac, rfl, rfl, hisin, true, rfl, brT ?_⟩
      refine ⟨_, gi, rfl, rfl, dd, fs, v1, rfl, hd, l1, _, gi, rfl, rfl, dd, fs, v2, rfl, hd, l2, by show 2 ≤ sizeLine; decide, fun p hp => ?_⟩
      have kc : Kc ⟨C, h, cc⟩ H1 (upd H1 p (.tup [v1, v2])) := Kc.new hp
      have S2 := S1.after kc
      have rr : Rep ⟨C, h, cc⟩ (Ow P0 e1 σ1) (upd H1 p (.tup [v1, v2])) (.ref p) (.tup [x1, x2]) := .tup (S1.fresh hp) upd_same (.cons (R1.step (S1.kp kc)) (.cons (R2.step (S1.kp kc)) .nil))
      have S3 := (S2.setVal (i := j) rr).setUn (i := i) (v := none)
      have es : ((σ1.set i (some (V.ref a))).set j (some (V.ref p))).set i none = (σ1.set j (some (V.ref p))).set i none := by rw [List.set_comm _ _ hne, List.set_set]
      show Z'.nx (((σ1.set i (some (V.ref a))).set j (some (V.ref p))).set i none) _
      rw [es]
      exact k.nx.ok _ _ _ S3 ((K1.trans (S1.kp kc)).trans ((Kp.weak fun a z => ow_val z).trans (Kp.weak fun a z => ow_un z))) q1
end
end LW
end S20_

section S22_
set_option maxRecDepth 100000
set_option maxHeartbeats 1000000
/-! Own layer, part 22: the hand is made. -/
namespace LW
open PySem PySem.Spec PyProof.Rows L2 RZ
abbrev rAbsI : List V → Hp → VK → Prop := fun xs H Q => ∃ i, xs = [V.int i] ∧ Q (.int (if i < 0 then -i else i)) H
def t_hand (K : PySem.W.Frag) (c1 c2 : Nat) : TS :=
  tSeq (tAsg (tLc (iSeq K (tSl (rSlAny K) (tVar 0) tNoPart (tPart (tC (.int 63))))) (gName 2) tYes (tCB rAbsI (tCons (tInt (tVar 2)) tNil)) [2]) (gName 1))
    (tRet (tLst (tCons (tVar 1) (tCons (tC (.int 0)) (tCons (tC (.int 0)) (tCons (tAddI (tC (.int c1)) (tMulI (tC (.int c2)) (tCB (rLenA K) (tCons (tVar 1) tNil)))) (tCons (tC (.int 0)) tNil)))))))
def absI (i : Int) : Int := if i < 0 then -i else i
theorem wipe1 {σ : L2.St} : wipe σ [2] = σ.set 2 none := rfl
theorem hand_ok {K : PySem.W.Frag} {H : Hp} {a s1 : Addr} {ns : List Int} {D : Ends} {C : Cl} (hS : SqL K H a (ns.map V.int)) (hl : ns.length ≤ 63) {c1 c2 : Nat} (hc1 : c1 ≤ 100000) (hc2 : c2 ≤ 100000)
    (k : ∀ h c H', IsHand ⟨C, h, c⟩ H' → (∀ b o, H b = some o → H' b = some o) → H h = none → H c = none → D.rt (.ref h) H') : t_hand K c1 c2 D [some (.ref a), none, none] H := by
  refine ⟨_, rfl, 63, rfl, .inr ⟨a, _, rfl, hS, fun p hp => ⟨p, rfl, .inl ⟨⟨_, SqL.of upd_same⟩, fun d hd => ?_⟩⟩⟩⟩
  have hns : cutV (ns.map V.int) none (some 63) = ns.map V.int := by
    rw [cutV_eq]
    unfold cut sIx
    simp only [List.length_map]
    rw [if_pos (by decide), List.drop_zero, Nat.sub_zero, List.take_of_length_le (by rw [List.length_map]; omega)]
  rw [hns] at hd ⊢
  have hpd : d ≠ p := fun z => by rw [z, upd_same] at hd; cases hd
  have hd0 : H d = none := by rw [upd_ne hpd] at hd; exact hd
  have sq : ∀ (o : HO), SqL K (upd (upd H p (.lst (ns.map V.int))) d o) p (ns.map V.int) := fun o => SqL.of (by rw [upd_ne (Ne.symm hpd)]; exact upd_same)
  refine ⟨fun i m H' => m = ns.length - i ∧ i ≤ ns.length ∧ H' = upd (upd H p (.lst (ns.map V.int))) d (.lst (((ns.take i).map absI).map V.int)), ⟨ns.length, by simp⟩, ?_⟩
  rintro i m H' ⟨rfl, hi, rfl⟩
  by_cases hlt : i < ns.length
  · refine .inr ⟨⟨_, V.int ns[i], sq _, by simp [hlt]⟩, fun H' => ∃ m', m' < ns.length - i ∧ (m' = ns.length - (i + 1) ∧ i + 1 ≤ ns.length ∧ H' = upd (upd H p (.lst (ns.map V.int))) d (.lst (((ns.take (i + 1)).map absI).map V.int))), fun H' z => z, fun v H' hy => ?_⟩
    obtain ⟨rfl, hv⟩ := hy
    have ev := hv _ (sq _)
    simp [hlt] at ev
    subst ev
    refine ⟨rfl, ?_⟩
    unfold tYes
    simp only [if_true]
    refine ⟨_, rfl, .inl ⟨_, rfl, _, rfl, _, upd_same, ?_, ns.length - (i + 1), by omega, rfl, hlt, ?_⟩⟩
    · have : ((ns.take i).map absI).length ≤ 63 := by simp; omega
      rw [List.length_map, sizeLine_eq]
      omega
    · have e : ((ns.take (i + 1)).map absI).map V.int = ((ns.take i).map absI).map V.int ++ [V.int (absI ns[i])] := by
        have e2 : ns.take (i + 1) = ns.take i ++ [ns[i]] := by
          rw [List.take_add_one, List.getElem?_eq_getElem hlt]
          rfl
        rw [e2, List.map_append, List.map_append]
        rfl
      rw [upd_upd, e]
      rfl
  · have ei : i = ns.length := by omega
    subst ei
    rw [List.take_length]
    refine .inl ⟨⟨_, sq _, by simp⟩, ?_⟩
    refine ⟨_, rfl, _, rfl, .inl ⟨_, ns.length, rfl, .inl ⟨_, SqL.of upd_same, by simp⟩, (c2 : Int), ns.length, rfl, rfl, cm_l (by omega) (by omega), (c1 : Int), _, rfl, rfl, by show 5 ≤ sizeLine; decide, fun h hh => ?_⟩⟩
    have hhd : h ≠ d := fun z => by rw [z, upd_same] at hh; cases hh
    have hhp : h ≠ p := fun z => by rw [z, upd_ne (Ne.symm hpd), upd_same] at hh; cases hh
    have hh0 : H h = none := by rw [upd_ne hhd, upd_ne hhp] at hh; exact hh
    have m1 : c2 * ns.length ≤ 100000 * 63 := Nat.mul_le_mul hc2 hl
    have m2 : ((c2 * ns.length : Nat) : Int) = (c2 : Int) * ns.length := by push_cast; rfl
    have m0 : 0 ≤ (c2 : Int) * ns.length := by rw [← m2]; omega
    have m3 : (c2 : Int) * ns.length ≤ 6300000 := by rw [← m2]; omega
    refine k h d _ ⟨ns.map absI, 0, 0, (c1 : Int) + c2 * ns.length, 0, Ne.symm hhd, upd_same, by rw [upd_ne (Ne.symm hhd)]; exact upd_same, fun n hn => ?_, by decide, by simp, by simpa using hl, by decide, by omega, by omega, by decide⟩ (fun b o e => ?_) hh0 hd0
    · obtain ⟨m, _, rfl⟩ := List.mem_map.mp hn
      unfold absI
      split <;> omega
    · rw [upd_ne (ne_of_none e hh0), upd_ne (ne_of_none e hd0), upd_ne (ne_of_none e hp)]
      exact e
end LW
end S22_

section S23_
set_option maxRecDepth 100000
set_option maxHeartbeats 1000000
/-! Own layer, part 23: what the head is asked for. -/
namespace LW
open PySem PySem.Spec PyProof.Rows L2 RZ
def mkC (K : PySem.W.Frag) (nm : Nat → Str) (fl : Nat → List Str) : Cl := ⟨fun c => He.ga K (nm c), fl⟩
def tyAll : List Ty := [.int, .bool, .str, .tuple, .list, .dict, .none]
def clsB (K : PySem.W.Frag) (C : Cl) (cs : List Nat) : Bool :=
  (He.eqO (PySem.W.specialIn K (.builtin "object.__class__") "__get__") (some (some (.builtin "getset_descriptor.__get__"))) && decide (PySem.W.takesIn K (.builtin "object.__class__") = some true)) &&
  cs.all fun c => (He.eqO (PySem.W.findIn K (.ref (C.ca c)) "__class__") (some (some (.builtin "object.__class__"))) && decide (PySem.W.mroIn K (C.ca c) (.type "object") = some true)) &&
    ((tyAll.all fun t => decide (PySem.W.kitOne K (tv C t) (.ref (C.ca c)) = some false) && decide (PySem.W.kitOne K (.ref (C.ca c)) (tv C t) = some false)) &&
      cs.all fun d => decide (PySem.W.kitOne K (.ref (C.ca c)) (.ref (C.ca d)) = some (decide (c = d))))
section
variable {P : Program} {w : World} {K : PySem.W.Frag} {mg : Str → Option Value} {base : Heap} {C : Cl}
theorem clsB_ok {cs : List Nat} (h : clsB K C cs = true) (hc : ∀ c ∈ cs, Cls K (C.ca c)) : ClOk K C cs := by
  obtain ⟨h1, h2⟩ := He.ba h
  obtain ⟨h1, h3⟩ := He.ba h1
  have g : ∀ c ∈ cs, _ := fun c hm => List.all_eq_true.mp h2 c hm
  have ty : ∀ t : Ty, bi t = true → t ∈ tyAll := fun t ht => by
    cases t with
    | own c => cases ht
    | _ => simp [tyAll]
  refine ⟨hc, fun c hm => ?_, He.eqO_ok h1, of_decide_eq_true h3, fun c hm => ?_, fun c hm t ht => ?_, fun c hm t ht => ?_, fun c hm d hd => ?_⟩
  · exact He.eqO_ok (He.ba (He.ba (g c hm)).1).1
  · exact of_decide_eq_true (He.ba (He.ba (g c hm)).1).2
  · exact of_decide_eq_true (He.ba (List.all_eq_true.mp (He.ba (He.ba (g c hm)).2).1 t (ty t ht))).1
  · exact of_decide_eq_true (He.ba (List.all_eq_true.mp (He.ba (He.ba (g c hm)).2).1 t (ty t ht))).2
  · exact of_decide_eq_true (List.all_eq_true.mp (He.ba (He.ba (g c hm)).2).2 d hd)
/-- an own exception's class -/
def oexB (K : PySem.W.Frag) (C : Addr) : Bool := (match K.lookup C with
  | some ⟨.type "type", _, .cls cd, sl⟩ => (match cd.mro, sl.toList with
    | .ref C' :: bm, [_, _, _, _, some (.builtin n), _] => C' == C && n == "ValueError.__new__" && !cd.hasDel && cd.hasDict && PySem.HandSPX.refsVE bm
    | _, _ => false)
  | _ => false) && (He.eqO (PySem.W.findIn K (.ref C) "__setattr__") (some (some (.builtin "object.__setattr__"))) && (decide (PySem.W.subIn K (.ref C) (.type "BaseException") = some true) && (decide (PySem.W.typeIn K (.ref C) = some (.type "type")) && PySem.W.keepIn K (.ref C))))
theorem oexB_ok {A : Addr} (h : oexB K A = true) : OexC K A := by
  obtain ⟨h1, h2⟩ := He.ba h
  obtain ⟨h2, h3⟩ := He.ba h2
  obtain ⟨h3, h4⟩ := He.ba h3
  obtain ⟨h4, h5⟩ := He.ba h4
  refine ⟨?_, He.eqO_ok h2, of_decide_eq_true h3, of_decide_eq_true h4, h5⟩
  split at h1
  · rename_i dd cd sl ho
    split at h1
    · rename_i C' bm k0 k1 k2 k3 n k5 hm hs
      simp only [Bool.and_eq_true, beq_iff_eq, Bool.not_eq_true'] at h1
      obtain ⟨⟨⟨⟨rfl, rfl⟩, hdel⟩, hdi⟩, ht⟩ := h1
      obtain ⟨nm, bs, mro, ns, qn, hd, sn, sub, ab, col, del⟩ := cd
      dsimp only at hm hdel hdi
      subst hm hdel hdi
      have hsl : sl = #[k0, k1, k2, k3, some (.builtin "ValueError.__new__"), k5] := by
        obtain ⟨l⟩ := sl
        simp only at hs
        rw [hs]
      subst hsl
      exact ⟨nm, qn, ns, bs, bm, sn, sub, ab, col, dd, k0, k1, k2, k3, k5, ho, ht⟩
    · cases h1
  · cases h1
/-- an own exception with two fields, caught: x below y -/
def exoB (K : PySem.W.Frag) (x y f g : Str) : Bool := PySem.W.isIn K (.ref (He.ga K x)) (He.ga K y) && (xfB K (He.ga K x) && (decide (PySem.W.exmOne K (.ref (He.ga K x)) (.ref (He.ga K x)) = some true) && (He.eqO (PySem.W.findIn K (.ref (He.ga K x)) f) (some none) && He.eqO (PySem.W.findIn K (.ref (He.ga K x)) g) (some none))))
theorem exoB_ok {c : Nat} {x y f g : Str} (h : exoB K x y f g = true) (hc : C.ca c = He.ga K x) (hf : C.cf c = [f, g]) (hx : mg x = some (.ref (He.ga K x))) (hy : mg y = some (.ref (He.ga K y))) : ExOk K mg C c x y f g := by
  obtain ⟨h1, h⟩ := He.ba h
  obtain ⟨h2, h⟩ := He.ba h
  obtain ⟨h3, h⟩ := He.ba h
  obtain ⟨h4, h5⟩ := He.ba h
  refine ⟨by rw [hc]; exact hx, ⟨_, hy, by rw [hc]; exact h1⟩, by rw [hc]; exact xfB_ok h2, by rw [hc]; exact of_decide_eq_true h3, by rw [hc]; exact He.eqO_ok h4, by rw [hc]; exact He.eqO_ok h5, hf⟩
def initB (K : PySem.W.Frag) (x : Str) : Bool := He.eqO (PySem.W.findIn K (.ref (He.ga K x)) "__init__") (some (some (.ref (He.ma K (He.ga K x) "__init__")))) && decide (PySem.W.typeIn K (.ref (He.ma K (He.ga K x) "__init__")) = some (.type "function"))
theorem hasX2_of {k c : Nat} {x f g : Str} {ps : List Str} {fd : FuncData} (h : initB K x = true) (ho : oexB K (He.ga K x) = true) (hc : C.ca c = He.ga K x) (hf : C.cf c = [f, g]) (hx : mg x = some (.ref (He.ga K x))) (bb : Binds K fd ps []) (F : FnOk P w K mg base (L2.CX P w) k (He.ma K (He.ga K x) "__init__") fd ps (spX2 K f g))
    (n1 : NoAttr K (He.ga K x) f) (n2 : NoAttr K (He.ga K x) g) (ne : f ≠ g) : HasX2 P w K mg base C k x c f g := by
  obtain ⟨h1, h2⟩ := He.ba h
  exact ⟨_, _, _, by rw [hc]; exact hx, by rw [hc]; exact oexB_ok ho, by rw [hc]; exact He.eqO_ok h1, of_decide_eq_true h2, bb, F, by rw [hc]; exact n1, by rw [hc]; exact n2, hf, ne⟩
/-- the class' own __eq__ -/
def eqB (K : PySem.W.Frag) (x : Str) : Bool := He.eqO (PySem.W.findIn K (.ref (He.ga K x)) "__eq__") (some (some (.ref (He.ma K (He.ga K x) "__eq__")))) && (PySem.W.isFn K (.ref (He.ma K (He.ga K x) "__eq__")) && (He.eqO (PySem.W.findIn K (.ref (He.ga K x)) "__ne__") (some (some (.builtin "object.__ne__"))) && decide (PySem.W.mroIn K (He.ga K x) (.type "object") = some true)))
theorem eqOwn_of {k c : Nat} {x : Str} {ps : List Str} {fd : FuncData} {ct : Ct} (h : eqB K x = true) (hc : C.ca c = He.ga K x) (bb : Binds K fd ps []) (F : FnOk P w K mg base (L2.CX P w) k (He.ma K (He.ga K x) "__eq__") fd ps (prom C ct)) : EqOwn P w K mg base C k c ct := by
  obtain ⟨h1, h⟩ := He.ba h
  obtain ⟨h2, h⟩ := He.ba h
  obtain ⟨h3, h4⟩ := He.ba h
  exact ⟨⟨_, _, _, by rw [hc]; exact He.eqO_ok h1, h2, bb, F⟩, by rw [hc]; exact He.eqO_ok h3, by rw [hc]; exact of_decide_eq_true h4⟩
end
theorem walk_law {l : PySem.W.OpenLaw} {n k : Nat} {q : Program} {loose : List Str} {XP : (Str → Option Value) → Heap → Prop} {YP : World → Heap → Prop} {d : DefRec} {CXw : World → CXT} {x : Str}
    (hn : l.most = some n) (hn2 : n ≤ sizeLine) (hdf : d.params.defaults = []) (hr : Room k callerA)
    (F : ∀ (w : World) (mg : Str → Option Value) (fa : Addr) (h : Heap), YP w h → h.Ns mainGlobals mg → mg d.name = some (.ref fa) →
      ∃ (K : PySem.W.Frag) (fd : FuncData) (sp : Sp), K.In h ∧ (∀ (s : Shared) (u : Value), BindsTo s fd ⟨[u], []⟩ [(x, u)]) ∧
        (∀ (H : Hp) (a : Addr) (ns : List Int), ns.length ≤ n → Only H → SqL K H a (ns.map V.int) → sp [.ref a] H (fun v _ => v = .bl true) fun _ _ _ => False) ∧
        ∀ base : Heap, K.In base → base.Ns mainGlobals mg → FnOk l.prog w K mg base (CXw w) k fa fd [x] sp)
    (hCX : ∀ (w : World) (H : Hp) (s : Shared) (e : Value) (s' : Shared), CXw w [] H s (fun _ _ _ => False) e s' → False) : PySem.W.WalkO q loose XP YP l.row.toRowW d [] (fun f vs => PySem.call f vs) := by
  refine Att.attach_call hn hdf fun w s₀ s₁ mg mb fa o pm cd doc a vs ns G Y ho hd hcd hmg hobj hints hlen hg => ?_
  obtain ⟨K, fd, sp, KX, hb, hsp, hF⟩ := F w mg fa _ Y G.T.g hmg
  exact law_call KX G.T.g G.T.b G.T.builtins G.T.nolimit hg hobj hints (Nat.le_trans hlen hn2) hr hF hb (fun H hO hS => hsp H a ns hlen hO hS) fun H e s' => hCX w H s₁ e s'
end LW
end S23_

section S24_
set_option maxRecDepth 100000
set_option maxHeartbeats 1000000
/-! Own layer, part 24: exceptions without fields; try .. except C as e, where e is asked for its kind alone. -/
namespace LW
open PySem PySem.Spec PyProof.Rows L2 RZ
section
variable {X : Cx} {C : Addr} {bmB : List Value} {B newId initId : String}
/-- X() -/
theorem pmk_own0 {x : Str} {p pos : Pos} (F : ExcBaseFacts B newId initId bmB) (q : PySem.W.excIn X.K C bmB newId = true) (gC : X.mg x = some (.ref C)) (kC : PySem.W.keepIn X.K (.ref C) = true) (r : Raises X (.ref C)) (hg : Gl X x)
    (hdb : (x == ("__debug__" : Str)) = false := by decide) : PMk X (.Call (.Name x p) [] [] pos) (fun _ H Q => Q (.ref C) none H) := by
  intro pins s σ H Q I h
  refine wpAny_Call_Name_kw (ld_glob I hg gC ?_ hdb)
  refine PySem.W.callWith_K0 I.kIn kC ?_
  show wpAny _ _ (call (.ref C) []) _ _ _
  obtain ⟨bm, N, nm, qn, bs, hdct, sn, sub, ab, col, dd, k0, k1, k2, k3, k5, mN, hC, hN, hni, T⟩ := exc_obj I.kIn q
  refine wpAny_call_exc_subT F T hC hN hni (fun h' e hm => ?_) (Nat.zero_le _)
  exact mk_of I hm r h (I.hok.gone hm.new)
end
/-- an own exception's class without __init__ -/
structure HasX0 (K : PySem.W.Frag) (mg : Str → Option Value) (C : Cl) (x : Str) (c : Nat) : Prop where
  g : mg x = some (.ref (C.ca c))
  q : PySem.W.excIn K (C.ca c) He.veBase "ValueError.__new__" = true
  k : PySem.W.keepIn K (.ref (C.ca c)) = true
  s : PySem.W.subIn K (.ref (C.ca c)) (.type "BaseException") = some true
  t : PySem.W.typeIn K (.ref (C.ca c)) = some (.type "type")
/-- what is asked of a class caught -/
structure CaOk (K : PySem.W.Frag) (C : Cl) (cx : Addr) (c : Nat) : Prop where
  m : PySem.W.exmOne K (.ref (C.ca c)) (.ref cx) = some true
  e : ExcC K (C.ca c)
theorem gt_fix {α : Type} {env : Env} {i j a : Nat} {f : Slot → Option α} {x : α} (h : f (gt (st env i (.fix a)) j) = some x) (n1 : f (.fix a) = none) (n2 : f .un = none) : f (gt (st env i .un) j) = some x := by
  by_cases z : j = i
  · subst z
    by_cases hl : j < env.length
    · rw [gt_st_same hl, n1] at h
      cases h
    · have : gt (st env j (.fix a)) j = .un := gt_out (by rw [st_len]; omega)
      rw [this, n2] at h
      cases h
  · rw [gt_st_ne z] at h
    rw [gt_st_ne z]
    exact h
def valO : Slot → Option D
  | .val x => some x
  | _ => none
theorem valO_of {s : Slot} {x : D} (h : valO s = some x) : s = .val x := by cases s <;> first | (cases h; rfl) | cases h
theorem ow_fix {P : Addr → Prop} {env : Env} {i a : Nat} {σ : L2.St} {b : Addr} (h : Ow P (st env i (.fix a)) σ b) : Ow P (st env i .un) σ b := h.elim .inl fun ⟨j, xs, q, e⟩ => .inr ⟨j, xs, gt_fix q rfl rfl, e⟩
section
variable {G : Gx} {P : Addr → Prop} {H0 H : Hp} {env : Env} {σ : L2.St}
theorem Sim.toFix {i a : Nat} (S : Sim G P H0 (st env i .un) σ H) (h : σ[i]? = some (some (.ref a))) : Sim G P H0 (st env i (.fix a)) σ H := by
  have k : Kp G (Ow P (st env i .un) σ) H (Ow P (st env i (.fix a)) σ) H := Kp.weak fun b z => ow_fix z
  refine ⟨by rw [st_len, ← S.len, st_len], S.old, S.hnd, S.dom, S.ph, S.pc, fun j x q => ?_, fun j xs q => ?_, fun j l xs ys b h1 h2 h3 h4 => S.inj j l xs ys b (gt_fix h1 rfl rfl) (gt_fix h2 rfl rfl) h3 h4, fun j b q => ?_⟩
  · obtain ⟨v, e, r⟩ := S.val j x (valO_of (gt_fix (f := valO) (by rw [q] <;> rfl) rfl rfl))
    exact ⟨v, e, r.step k⟩
  · obtain ⟨b, h1, h2, h4⟩ := S.own j xs (gt_fix q rfl rfl)
    exact ⟨b, h1, h2.step k, h4⟩
  · by_cases z : j = i
    · subst z
      have hl := gt_lt (e := st env j (.fix a)) (i := j) (by intro z; rw [z] at q; cases q)
      rw [st_len] at hl
      rw [gt_st_same hl] at q
      cases q
      exact h
    · rw [gt_st_ne z] at q
      exact S.fix j b (by rw [gt_st_ne z]; exact q)
end
/-- the contexts within such a suite -/
def XPh (XP : Cx → Prop) (a D : Addr) : Cx → Prop := fun Y => ∃ (X : Cx) (oe : Obj) (pn : List (Addr × Obj)), XP X ∧ Zc (.ref D) none oe ∧ (∃ vs, oe.data = .fields vs) ∧ Y = X.suite a ((a, oe) :: pn)
section
variable {P : Program} {w : World} {K : PySem.W.Frag} {mg : Str → Option Value} {base : Heap} {n : Nat} {N : List Str} {sc : Scope} {W : WX} {XP : Cx → Prop} {C : Cl} {pos p q : Pos}
theorem gs_raise0 {G : Gx} {c : Nat} : GS G W (fun _ σ H => W (.ref (G.cl.ca c)) none σ H) (sRaise0 c) := fun P H0 env σ H Z E Z' S h X k =>
  X (.obj c []) env σ _ none H S ⟨c, [], rfl, rfl, .inl ⟨rfl, rfl⟩⟩ h
theorem cs_raise0 (B : Bd P w K mg base n N sc true W XP) {c : Nat} {nm : Str} (H : HasX0 K mg C nm c) (hg : gloB sc nm = true := by rfl) (hd : (nm == ("__debug__" : Str)) = false := by decide) : CS C W XP (.Raise (some (.Call (.Name nm p) [] [] q)) none pos) (sRaise0 c) := by
  refine ⟨fun _ σ H => W (.ref (C.ca c)) none σ H, fun X hX => ?_, fun h cc => gs_raise0⟩
  have z1 := B.k X hX
  have z2 := B.m X hX
  subst z1 z2
  exact ps_raise (B.c X hX) (B.t X hX) (pmk_own0 PySem.F.excBase_ValueError H.q H.g H.k (raises_own H.s H.t) (B.gl hg hX) hd)
theorem PSs.never {X : Cx} {sts : List Stmt} {t : TS} (h : ∀ D σ H, t D σ H → False) : PSs X sts t := ⟨fun pins s σ H D I z => (h D σ H z).elim⟩
theorem PSs.anyof {X : Cx} {sts : List Stmt} {ι : Type} {t : ι → TS} {T : ι → Prop} (h : ∀ i, T i → PSs X sts (t i)) : PSs X sts (fun D σ H => ∃ i, T i ∧ t i D σ H) := ⟨fun pins s σ H D I ⟨i, hi, z⟩ => (h i hi).run pins s σ H D I z⟩
theorem cs_try (B : Bd P w K mg base n N sc true W XP) {cx : Addr} {x nm : Str} {pb p1 : Pos} {body hs : List Stmt} {b₀ : Stmt} {xb : WS} {hd : Nat → Nat → WS} (i : Nat) (caught : Nat → Bool) (hx : mg x = some (.ref cx)) (ok : ∀ c, caught c = true → CaOk K C cx c)
    (hb : ∀ W', CSs C W' (XPt XP W') body xb) (hh : ∀ c a, caught c = true → CSs C W0 (XPh XP a (C.ca c)) (b₀ :: hs) (hd c a))
    (hi : N[i]? = some nm := by rfl) (hin : sc.names.lookup nm = some .local := by rfl) (hgx : gloB sc x = true := by rfl) (hdx : (x == ("__debug__" : Str)) = false := by decide) :
    CS C W XP (.Try body [.ExceptHandler (some (.Name x p1)) (some nm) (b₀ :: hs) pb] [] [] pos) (sTry xb caught i hd) := by
  let tb : WX → TS := fun W' => Classical.choose (hb W')
  have tb1 : ∀ W', (∀ X, XPt XP W' X → PSs X body (tb W')) ∧ Q2 C fun G => GS G W' (tb W') xb := fun W' => Classical.choose_spec (hb W')
  let th : ∀ c a, caught c = true → TS := fun c a h => Classical.choose (hh c a h)
  have th1 : ∀ c a h, (∀ X, XPh XP a (C.ca c) X → PSs X (b₀ :: hs) (th c a h)) ∧ Q2 C fun G => GS G W0 (th c a h) (hd c a) := fun c a h => Classical.choose_spec (hh c a h)
  let ts : Addr → Value → Option Addr → TS := fun a cls d D σ H => ∃ k : (Σ' c, caught c = true), (cls = .ref (C.ca k.1) ∧ d = none) ∧ th k.1 a k.2 D σ H
  refine ⟨fun D σ H => tb (wAs K (.ref cx) i ts W D) D σ H, fun X hX => ?_, fun h cc P0 H0 env σ H Z E Z' S hz Xo k => ?_⟩
  · have kk := B.k X hX
    obtain ⟨hst, hf⟩ := B.g rfl X hX
    have hsu : ∀ (a : Addr) (oe : Obj) (cls : Value) (d : Option Addr) (pn : List (Addr × Obj)), Zc cls d oe → (∃ vs, oe.data = .fields vs) → PSs (X.suite a ((a, oe) :: pn)) (b₀ :: hs) (ts a cls d) := by
      intro a oe cls d pn hz hfl
      exact PSs.anyof fun k hk => by
        obtain ⟨rfl, rfl⟩ := hk
        exact (th1 k.1 a k.2).1 _ ⟨X, oe, pn, hX, hz, hfl, rfl⟩
    have := ps_try_as (X := X) (pos := pos) (np := p1) (pos' := pb) (Wout := W) hst hf (B.ndX hX) (B.lk hi hX) (show X.env.scope.names.lookup nm = some .local by rw [B.s X hX]; exact hin) (c := .ref cx) (x := x) ⟨B.gl hgx hX, hdx, .inl (B.mv hx hX)⟩ (B.t X hX) (tb := tb) (fun W' pn xe tk po => (tb1 W').1 _ ⟨X, pn, xe, hX, rfl, tk, po⟩) hsu
    rw [kk] at this
    exact this
  · refine (tb1 _).2 h cc P0 (b0 env σ H) env σ H Z _ Z' S.re1 hz (fun x e1 σ1 cls d H1 S1' r1 q1 => ?_) ⟨⟨fun e1 σ1 H1 S1 K1 q1 => k.nx.ok e1 σ1 H1 (S.re2 S1).1 K1 q1⟩, ⟨fun e1 σ1 H1 S1 K1 q1 => k.bk.ok e1 σ1 H1 (S.re2 S1).1 K1 q1⟩, ⟨fun e1 σ1 H1 S1 K1 q1 => k.ct.ok e1 σ1 H1 (S.re2 S1).1 K1 q1⟩, fun x e1 σ1 v H1 S1 r1 q1 => k.rt x e1 σ1 v H1 (S.re2 S1).1 r1 q1⟩
    obtain ⟨S1, K1⟩ := S.re2 S1'
    obtain ⟨c', xs, rfl, rfl, r3⟩ := r1
    match xs, q1, r3 with
    | [], q1, r3 =>
      obtain ⟨hc, hil, q1⟩ := q1
      obtain ⟨_, rfl⟩ := r3.elim id fun z => absurd rfl z.1
      refine ⟨true, (ok c' hc).m, fun _ a na => ?_, fun z => nomatch z⟩
      have gi : (σ1.set i (some (V.ref a)))[i]? = some (some (.ref a)) := List.getElem?_set_self (by rw [← S1.len]; exact hil)
      refine ⟨⟨c', hc⟩, ⟨rfl, rfl⟩, ?_⟩
      have S2 : Sim ⟨C, h, cc⟩ P0 H0 (st e1 i (.fix a)) (σ1.set i (some (.ref a))) H1 := (S1.setUn (i := i) (v := some (.ref a))).toFix gi
      have K2 : Kp ⟨C, h, cc⟩ (Ow P0 env σ) H (Ow P0 (st e1 i (.fix a)) (σ1.set i (some (.ref a)))) H1 := K1.trans (Kp.weak fun b z => ow_un (ow_fix z))
      refine (th1 c' a hc).2 h cc P0 H0 _ _ H1 _ _ _ S2 (q1 a) (fun _ _ _ _ _ _ _ _ z => z.elim) ⟨⟨fun e2 σ2 H2 S3 K3 q2 => ?_⟩, ⟨fun e2 σ2 H2 S3 K3 q2 => ?_⟩, ⟨fun e2 σ2 H2 S3 K3 q2 => ?_⟩, fun x e2 σ2 v H2 S3 r q2 => k.rt x e2 σ2 v H2 S3 r q2⟩
      · exact k.nx.ok _ _ _ S3.setUn ((K2.trans K3).trans (Kp.weak fun b z => ow_un z)) q2
      · exact k.bk.ok _ _ _ S3.setUn ((K2.trans K3).trans (Kp.weak fun b z => ow_un z)) q2
      · exact k.ct.ok _ _ _ S3.setUn ((K2.trans K3).trans (Kp.weak fun b z => ow_un z)) q2
    | x1 :: [], q1, _ => exact q1.elim
    | x1 :: x2 :: r, q1, _ => exact q1.elim
/-- within the suite: a name; isinstance(e, Y) -/
theorem he_var (B : Bd P w K mg base n N sc true W XP) {a D : Addr} {W' : WX} (i : Nat) {x : Str} (hN : N[i]? = some x := by rfl) (hv : visB sc x = true := by rfl) (hd : (x == ("__debug__" : Str)) = false := by decide) (hcd : (x == ("__classdict__" : Str)) = false := by decide) : CE C W' (XPh XP a D) (.Name x pos) (wVar i) :=
  ⟨_, fun Y ⟨X, oe, pn, hX, _, _, e⟩ => e ▸ pe_var (X := X.suite a ((a, oe) :: pn)) (B.lk (X := X) hN hX) (B.vis (X := X) hv hX) hd hcd, fun _ _ => ge_var i⟩
/-- what Y says of the class D -/
structure IsY (K : PySem.W.Frag) (mg : Str → Option Value) (y : Str) (D : Addr) (b : Bool) : Prop where
  ex : (∃ A, mg y = some (.ref A) ∧ PySem.W.kitOne K (.ref D) (.ref A) = some b) ∨ ∃ T, mg y = none ∧ bootBuiltins y = some (.type T) ∧ y ≠ "__name__" ∧ PySem.W.kitOne K (.ref D) (.type T) = some b
theorem he_isi (B : Bd P w K mg base n N sc true W XP) {a : Addr} {c : Nat} {b : Bool} {W' : WX} (i : Nat) {x y : Str} {p1 p2 p3 : Pos} (hi0 : mg "isinstance" = none) (he : ExcC K (C.ca c)) (hy : IsY K mg y (C.ca c) b)
    (hN : N[i]? = some x := by rfl) (hv : visB sc x = true := by rfl) (hgy : gloB sc y = true := by rfl) (hgi : gloB sc "isinstance" = true := by rfl) (hdx : (x == ("__debug__" : Str)) = false := by decide) (hcx : (x == ("__classdict__" : Str)) = false := by decide) (hdy : (y == ("__debug__" : Str)) = false := by decide) :
    CE C W' (XPh XP a (C.ca c)) (.Call (.Name "isinstance" p1) [.Name x p2, .Name y p3] [] pos) (wExI i a b) := by
  obtain ⟨u, uv, hu, hk, hn⟩ : ∃ (u : V) (uv : Value), (∀ z, RelV u z → z = uv) ∧ PySem.W.kitOne K (.ref (C.ca c)) uv = some b ∧ ∀ X, XP X → ∀ oe pn, PE (X.suite a ((a, oe) :: pn)) (.Name y p3) (tC u) := by
    rcases hy.ex with ⟨A, h1, h2⟩ | ⟨T, h1, h2, h3, h4⟩
    · exact ⟨.ref A, .ref A, fun z r => by cases r; rfl, h2, fun X hX oe pn => pe_glob (X := X.suite a ((a, oe) :: pn)) (v := .ref A) (B.gl (X := X) hgy hX) (B.mv (X := X) h1 hX) rfl hdy⟩
    · exact ⟨.ty T, .type T, fun z r => by cases r; rfl, h4, fun X hX oe pn => pe_bltn (X := X.suite a ((a, oe) :: pn)) (v := .ty T) (B.gl (X := X) hgy hX) (B.mv (X := X) h1 hX) h2 rfl h3 hdy⟩
  refine ⟨tCB (rIsE K (C.ca c) a) (tCons (tVar i) (tCons (tC u) tNil)), fun Y ⟨X, oe, pn, hX, hz, hf, e⟩ => ?_, fun h cc => ?_⟩
  · subst e
    have kk := B.k X hX
    have ci : CallR (X.suite a ((a, oe) :: pn)) (.builtin "isinstance") (rIsE K (C.ca c) a) := by
      have := call_isE (X := X) (a := a) (D := C.ca c) (pn := pn) (by rw [kk]; exact he) hz hf
      rw [kk] at this
      exact this
    exact pe_callB (X := X.suite a ((a, oe) :: pn)) ci (B.gl (X := X) hgi hX) (B.mv (X := X) hi0 hX) boot_isinstance (pa_cons (pe_var (X := X.suite a ((a, oe) :: pn)) (B.lk (X := X) hN hX) (B.vis (X := X) hv hX) hdx hcx) (pa_cons (hn X hX oe pn) pa_nil))
  · intro P0 H0 env σ H Q E Q' S hw Xo k
    obtain ⟨h1, h2⟩ := hw
    refine ⟨_, S.fix i a (by rw [h1] <;> rfl), u, uv, b, rfl, hu, hk, ?_⟩
    exact k (.d (.bl b)) env _ H S .refl (.bl b) h2
/-- within the suite: a name is stored -/
theorem hs_set (B : Bd P w K mg base n N sc true W XP) {a D : Addr} {e : Expr} {we : WE} {W' : WX} (i : Nat) {nm : Str} (h : CE C W' (XPh XP a D) e we) (hN : N[i]? = some nm := by rfl) (hl : locB true sc nm = true := by rfl) (hs : ∀ (env : PySem.Env), swapsWith e (some (.Name nm p)) pos.line env = pure false := by intro _; rfl) :
    CS C W' (XPh XP a D) (.Assign [.Name nm p] e pos) (sSet i we) :=
  let ⟨te, h1, h2⟩ := h
  ⟨_, fun Y hY => by
    obtain ⟨X, oe, pn, hX, hz, hf, e⟩ := hY
    have := h1 Y ⟨X, oe, pn, hX, hz, hf, e⟩
    subst e
    exact ps_set (X := X.suite a ((a, oe) :: pn)) (B.ndX (X := X) hX) (B.lk (X := X) hN hX) (B.loc (X := X) hl hX).1 this (hs _) (B.loc (X := X) hl hX).2, fun h c => gs_set i (h2 h c)⟩
end
end LW
end S24_

section S25_
set_option maxRecDepth 100000
set_option maxHeartbeats 1000000
/-! Own layer, part 25: dicts that are changed in place; objects handed in to be changed. -/
namespace LW
open PySem PySem.Spec PyProof.Rows L2 RZ
section
variable {G : Gx} {W : WX} {P : Addr → Prop} {H0 H : Hp} {e : Env} {σ : L2.St}
/-- d[k] = v -/
theorem gs_putD {te tk : TE} {a k : WE} (i : Nat) (ha : GE G W te a) (hk : GE G W tk k) : GS G W (tAsg te (gSub (tVar i) tk rSetD)) (sPutD i k a) := fun P H0 env σ H Z E Z' S h X kk => by
  refine ha P H0 env σ H _ E _ S h (X.at_ σ) fun r e1 v H1 S1 K1 R1 h1 => ?_
  obtain ⟨p, e, h1⟩ := fzP_of h1
  obtain ⟨S2, K2, R2⟩ := S1.frz R1 e
  obtain ⟨ho, h1⟩ := h1
  obtain ⟨o0, ho⟩ := Option.isSome_iff_exists.mp ho
  obtain ⟨b, hb, _⟩ := S2.own i _ (dob_of (ks := o0.1) (vs := o0.2) ho)
  refine ⟨_, hb, ?_⟩
  refine hk P H0 p.2 σ H1 _ E _ S2 h1 (X.at_ σ) fun q e2 u H2 S3 K3 R3 h2 => ?_
  obtain ⟨j, e', h2⟩ := optP_of h2
  obtain ⟨x, ex, e'⟩ := bind_of e'
  cases asInt_of e'
  have hv := (S3.res R3 ex).int
  subst hv
  obtain ⟨o, g, h2⟩ := optP_of h2
  replace g := dob_of (ks := o.1) (vs := o.2) g
  obtain ⟨hz, h2⟩ := h2
  obtain ⟨b', hb', ⟨kk', vs, e3, l3, q3, r3⟩, _⟩ := S3.own i _ g
  rw [hb] at hb'
  cases hb'
  obtain ⟨ll, ws, p1, p2, p3, p4⟩ := put_val (i := j) l3 r3 (R2.step K3)
  have hlen : (kk'.zip vs).length < sizeLine := by
    have h1 : kk'.length = o.1.length := by rw [q3, List.length_map]
    rw [List.length_zip, ← l3, Nat.min_self, h1]
    exact Nat.lt_of_lt_of_le hz sz_eq
  obtain ⟨S4, K4⟩ := S3.mutOb (ys := .d (putKs o.1 j) (putYs o.1 o.2 j p.1)) (u := .dK (putK (kk'.zip vs) (.inl j) v)) g hb fun O' H' k' q' => ⟨ll, ws, by rw [← p1]; exact q', p2, by rw [p3, ← q3], by rw [← q3] at p4; exact p4.step k'⟩
  exact ⟨b, _, rfl, DPut.k (k := .inl j) e3 hlen, kk.nx.ok _ σ _ S4 (((K1.trans K2).trans K3).trans K4) h2⟩
/-- x = {} -/
theorem gs_newD (i : Nat) : GS G W (tAsg tDNewK (gName i)) (sNewD i) := fun P H0 env σ H Z E Z' S h X kk => by
  intro p hp
  obtain ⟨S1, K1⟩ := S.new1 (o := .dK []) hp
  obtain ⟨S2, w⟩ := S1.setOb (xs := .d [] []) (i := i) S.ph S.pc ⟨[], [], upd_same, rfl, rfl, .nil⟩ (S.fresh hp) (S.fresh0 hp)
  exact kk.nx.ok _ _ _ S2 (K1.trans (Kp.weak w)) h
/-- x.get(k) -/
theorem rs_loc {env : Env} {i : Nat} {x : D} (S : Sim G P H0 env σ H) (h : rs env (.loc i) = some x) : ∃ v, σ[i]? = some (some v) := by
  simp only [rs] at h
  cases q : gt env i with
  | un => simp [q] at h
  | fix _ => simp [q] at h
  | val y =>
    obtain ⟨v, e, _⟩ := S.val i y q
    exact ⟨v, e⟩
  | own o =>
    obtain ⟨a, e, _⟩ := S.own i o (by rw [q] <;> rfl)
    exact ⟨_, e⟩
  | ref b o =>
    obtain ⟨a, e, _⟩ := S.own i o (by rw [q] <;> rfl)
    exact ⟨_, e⟩
theorem fGet1_of {x y z : D} (h : fGet1 x y = some z) : ∃ ks ys i, x = .dct ks ys ∧ y = .int i ∧ z = (lookI ks ys i).getD .non := by
  unfold fGet1 at h
  split at h
  · cases h
    exact ⟨_, _, _, rfl, rfl, rfl⟩
  · cases h
theorem ge_getV {tk : TE} {k : WE} (i : Nat) (hk : GE G W tk k) : GE G W (tDGet1 (tVar i) tk) (wGetV i k) := fun P H0 env σ H Q E Q' S h X kk => by
  obtain ⟨x, ex, hd, h1⟩ := optP_of h
  obtain ⟨v, hv⟩ := rs_loc S ex
  have h0 := S.res (r := .loc i) (v := v) hv ex
  cases x <;> simp [isDct] at hd
  obtain ⟨b, rfl, kk0, us0, e0, l0, q0, r0⟩ := h0
  refine ⟨_, hv, b, rfl, .inl ⟨_, .inl e0⟩, ?_⟩
  refine hk P H0 env σ H _ E _ S h1 X fun q e2 u H2 S2 K2 R2 h2 => ?_
  obtain ⟨z, ez, h2⟩ := optP_of h2
  obtain ⟨x, ex, ez⟩ := bind_of ez
  obtain ⟨y, ey, ez⟩ := bind_of ez
  obtain ⟨ks, ys, i', rfl, rfl, rfl⟩ := fGet1_of ez
  · obtain ⟨b', hb, kk1, us, ea, l, rfl, rr⟩ := S2.res (r := .loc i) (v := .ref b) hv ex
    cases hb
    have hi := (S2.res R2 ey).int
    subst hi
    cases hl : lookI (kk1.map keyD) ys i' with
    | some w =>
      rw [hl] at h2
      obtain ⟨v', h3, h4⟩ := look_val l rr hl
      exact ⟨some v', .inl ⟨_, .inl i', .inl ea, rfl, h3.symm⟩, kk (.d w) e2 v' H2 S2 K2 h4 h2⟩
    | none =>
      rw [hl] at h2
      exact ⟨none, .inl ⟨_, .inl i', .inl ea, rfl, (look_none l rr hl).symm⟩, kk (.d .non) e2 .non H2 S2 K2 .non h2⟩
end

/-! ### objects handed in -/
/-- what stands for the arguments; P1: what is protected now, the new dict too -/
inductive ArgV (G : Gx) (P P1 : Addr → Prop) (H0 : Hp) (O : Addr → Prop) (H : Hp) (σ : L2.St) : List Pa → List D → List V → Prop
  | nil (w : P1 = P) : ArgV G P P1 H0 O H σ [] [] []
  | v {ps : List Pa} {ds : List D} {vs : List V} {d : D} {v : V} (h : Rep G O H v d) (r : ArgV G P P1 H0 O H σ ps ds vs) : ArgV G P P1 H0 O H σ (.v :: ps) (d :: ds) (v :: vs)
  | r {ps : List Pa} {ds : List D} {vs : List V} {i : Nat} {v : V} (h : σ[i]? = some (some v)) (r : ArgV G P P1 H0 O H σ ps ds vs) : ArgV G P P1 H0 O H σ (.r i :: ps) ds (v :: vs)
  | n {p : Addr} (h : H p = some (.dK [])) (w : P1 = And1 P p) (no : ¬ P p ∧ H0 p = none) : ArgV G P P1 H0 O H σ [.n] [] [.ref p]
theorem ArgV.sub {G : Gx} {P P1 : Addr → Prop} {H0 : Hp} {O : Addr → Prop} {H : Hp} {σ : L2.St} {ps : List Pa} {ds : List D} {vs : List V} (A : ArgV G P P1 H0 O H σ ps ds vs) : ∀ a, P a → P1 a := by
  induction A with
  | nil w => intro a h; rw [w]; exact h
  | v _ _ ih => exact ih
  | r _ _ ih => exact ih
  | n h w no => intro a h; rw [w]; exact .inl h
inductive GAr (G : Gx) (W : WX) : TA → List Pa → WA → Prop
  | nil : GAr G W tNil [] wA0
  | v {te : TE} {a : WE} {ta : TA} {ps : List Pa} {as : WA} (h : GE G W te a) (r : GAr G W ta ps as) : GAr G W (tCons te ta) (.v :: ps) (wA1 a as)
  | r {ta : TA} {ps : List Pa} {as : WA} (i : Nat) (r : GAr G W ta ps as) : GAr G W (tCons (tVar i) ta) (.r i :: ps) as
  | n : GAr G W (tCons tDNewK tNil) [.n] wA0
theorem ar_go {G : Gx} {W : WX} {ta : TA} {ps : List Pa} {as : WA} (g : GAr G W ta ps as) : ∀ {P : Addr → Prop} {H0 : Hp} {env : Env} {σ : L2.St} {H : Hp} {Q : KA} {E : KE} {Q' : List V → Hp → Prop}, (∀ i, .r i ∈ ps → ∃ v, σ[i]? = some (some v)) → Sim G P H0 env σ H → as env Q E → XOK G P H0 σ W E →
    (∀ P1 ds e1 vs H1, Sim G P1 H0 e1 σ H1 → (∀ a, P1 a → P a ∨ ¬ Ow P e1 σ a) → Kp G (Ow P env σ) H (Ow P1 e1 σ) H1 → ArgV G P P1 H0 (Ow P1 e1 σ) H1 σ ps ds vs → Q ds e1 → Q' vs H1) → ta σ H Q' := by
  induction g with
  | nil => exact fun _ S h X k => k _ [] _ [] _ S (fun _ z => .inl z) .refl (.nil rfl) h
  | @v te a ta ps as h0 r ih =>
    intro P H0 env σ H Q E Q' hr S h X k
    refine h0 P H0 env σ H _ E _ S h X fun x e1 v H1 S1 K1 R1 h1 => ?_
    obtain ⟨p, e, h1⟩ := fzP_of h1
    obtain ⟨S2, K2, R2⟩ := S1.frz R1 e
    refine ih (fun i hi => hr i (List.mem_cons_of_mem _ hi)) S2 h1 X fun P1 ds e2 vs H2 S3 n3 K3 A3 h2 => ?_
    exact k P1 _ e2 _ H2 S3 n3 ((K1.trans K2).trans K3) (.v (R2.step K3) A3) h2
  | @r ta ps as i r ih =>
    intro P H0 env σ H Q E Q' hr S h X k
    obtain ⟨v, hv⟩ := hr i List.mem_cons_self
    refine ⟨v, hv, ?_⟩
    exact ih (fun i hi => hr i (List.mem_cons_of_mem _ hi)) S h X fun P1 ds e2 vs H2 S3 n3 K3 A3 h2 => k P1 _ e2 _ H2 S3 n3 K3 (.r hv A3) h2
  | n =>
    intro P H0 env σ H Q E Q' hr S h X k
    intro p hp
    obtain ⟨S1, K1⟩ := S.new1 (o := .dK []) hp
    exact k _ [] env [.ref p] _ S1 (fun a z => z.elim .inl fun y => .inr (by rw [y]; exact S.fresh hp)) K1 (.n upd_same rfl ⟨fun z => S.fresh hp (.inl z), S.fresh0 hp⟩) h
/-! the promise -/
inductive Ag where
  | v (x : D) | r (a : Addr) (o : Ob)
def Ag.pure : Ag → D ⊕ Ob
  | .v x => .inl x
  | .r _ o => .inr o
def refA : List Ag → List Addr
  | [] => []
  | .v _ :: l => refA l
  | .r a _ :: l => a :: refA l
inductive ArgR (G : Gx) (O : Addr → Prop) (H : Hp) : List V → List Ag → Prop
  | nil : ArgR G O H [] []
  | v {vs : List V} {l : List Ag} {v : V} {x : D} (h : Rep G O H v x) (r : ArgR G O H vs l) : ArgR G O H (v :: vs) (.v x :: l)
  | r {vs : List V} {l : List Ag} {a : Addr} {o : Ob} (h : RepO G O H a o) (r : ArgR G O H vs l) : ArgR G O H (.ref a :: vs) (.r a o :: l)
theorem ArgR.step {G : Gx} {O O' : Addr → Prop} {H : Hp} (k : Kp G O H O' H) {vs : List V} {l : List Ag} (h : ArgR G O H vs l) : ArgR G O' H vs l := by
  induction h with
  | nil => exact .nil
  | v h r ih => exact .v (h.step k) ih
  | r h r ih => exact .r (h.step k) ih
/-- the objects behind the call -/
inductive OutR (G : Gx) (O : Addr → Prop) (H : Hp) : List Addr → List Ob → Prop
  | nil : OutR G O H [] []
  | cons {as : List Addr} {os : List Ob} {a : Addr} {o : Ob} (h : RepO G O H a o) (r : OutR G O H as os) : OutR G O H (a :: as) (o :: os)
structure KcR (G : Gx) (as : List Addr) (H H' : Hp) : Prop where
  at_ : ∀ a o, a ≠ G.h → a ∉ as → H a = some o → H' a = some o
  hnd : IsHand G H → IsHand G H'
  dom : ∀ a o, H a = some o → ∃ u, H' a = some u
def promR (C : Cl) (ct : CtR) : Sp := fun vs H Q _ => ∃ (h c : Addr) (P : Addr → Prop) (l : List Ag) (q : D → List Ob → Prop), P h ∧ P c ∧ (∀ a, P a → ∃ o, H a = some o) ∧ (∀ a ∈ refA l, ¬ P a) ∧ (refA l).Nodup ∧
  ArgR ⟨C, h, c⟩ (fun a => P a ∨ a ∈ refA l) H vs l ∧ ct (l.map Ag.pure) q ∧
  ∀ x os v H1, KcR ⟨C, h, c⟩ (refA l) H H1 → Rep ⟨C, h, c⟩ (fun a => P a ∨ a ∈ refA l) H1 v x → OutR ⟨C, h, c⟩ (fun a => P a ∨ a ∈ refA l) H1 (refA l) os → q x os → Q v H1
/-- the slots of what is handed in -/
def slotsR : List Pa → List Nat
  | [] => []
  | .r i :: ps => i :: slotsR ps
  | .v :: ps => slotsR ps
  | .n :: ps => slotsR ps
theorem mem_slotsR {i : Nat} : ∀ {ps : List Pa}, .r i ∈ ps ↔ i ∈ slotsR ps
  | [] => by simp [slotsR]
  | .r j :: ps => by simp [slotsR, mem_slotsR (ps := ps)]
  | .v :: ps => by simp [slotsR, mem_slotsR (ps := ps)]
  | .n :: ps => by simp [slotsR, mem_slotsR (ps := ps)]
/-- how both go together -/
inductive Lnk (e : Env) (σ : L2.St) (H0 : Hp) (P P1 : Addr → Prop) : List Pa → List Ag → Prop
  | nil : Lnk e σ H0 P P1 [] []
  | v {ps : List Pa} {l : List Ag} {d : D} (r : Lnk e σ H0 P P1 ps l) : Lnk e σ H0 P P1 (.v :: ps) (.v d :: l)
  | r {ps : List Pa} {l : List Ag} {i : Nat} {b : Addr} {o : Ob} (h : mob (gt e i) = some o) (hs : σ[i]? = some (some (.ref b))) (r : Lnk e σ H0 P P1 ps l) : Lnk e σ H0 P P1 (.r i :: ps) (.r b o :: l)
  | n {p : Addr} (w : P1 = And1 P p) (no : ¬ P p ∧ H0 p = none) : Lnk e σ H0 P P1 [.n] [.r p (.d [] [])]
theorem lnk_of {G : Gx} {P P1 : Addr → Prop} {H0 H : Hp} {e : Env} {σ : L2.St} (S : Sim G P1 H0 e σ H) {ps : List Pa} {ds : List D} {vs : List V} (A : ArgV G P P1 H0 (Ow P1 e σ) H σ ps ds vs) : ∀ {ar : List (D ⊕ Ob)}, mergeA ps ds e = some ar →
    ∃ l, Lnk e σ H0 P P1 ps l ∧ l.map Ag.pure = ar ∧ ArgR G (Ow P1 e σ) H vs l := by
  induction A with
  | nil w =>
    intro ar h
    cases h
    exact ⟨[], .nil, rfl, .nil⟩
  | @v ps ds vs d v h r ih =>
    intro ar hm
    simp only [mergeA, Option.map_eq_some_iff] at hm
    obtain ⟨ar', h1, rfl⟩ := hm
    obtain ⟨l, h2, h3, h4⟩ := ih h1
    exact ⟨.v d :: l, .v h2, by simp [h3, Ag.pure], .v h h4⟩
  | @r ps ds vs i v h r ih =>
    intro ar hm
    simp only [mergeA] at hm
    obtain ⟨o, h0, hm⟩ := bind_of hm
    obtain ⟨ar', h1, rfl⟩ := Option.map_eq_some_iff.mp hm
    obtain ⟨l, h2, h3, h4⟩ := ih h1
    obtain ⟨b, hb, ro, _⟩ := S.own i o h0
    rw [h] at hb
    cases hb
    exact ⟨.r b o :: l, .r h0 h h2, by simp [h3, Ag.pure], .r ro h4⟩
  | @n p h w no =>
    intro ar hm
    simp only [mergeA, Option.map_some, Option.some.injEq] at hm
    subst hm
    exact ⟨[.r p (.d [] [])], .n w no, rfl, .r ⟨[], [], h, rfl, rfl, .nil⟩ .nil⟩
theorem Lnk.mem {e : Env} {σ : L2.St} {H0 : Hp} {P P1 : Addr → Prop} {ps : List Pa} {l : List Ag} (k : Lnk e σ H0 P P1 ps l) {a : Addr} (h : a ∈ refA l) : (∃ i o, i ∈ slotsR ps ∧ mob (gt e i) = some o ∧ σ[i]? = some (some (.ref a))) ∨ P1 = And1 P a ∧ ¬ P a ∧ H0 a = none := by
  induction k with
  | nil => cases h
  | v r ih =>
    rcases ih h with ⟨i, o, h1, h2⟩ | h1
    · exact .inl ⟨i, o, h1, h2⟩
    · exact .inr h1
  | @r ps l i b o h0 hs r ih =>
    rcases List.mem_cons.mp h with z | z
    · subst z
      exact .inl ⟨i, o, List.mem_cons_self, h0, hs⟩
    · rcases ih z with ⟨i, o, h1, h2⟩ | h1
      · exact .inl ⟨i, o, List.mem_cons_of_mem _ h1, h2⟩
      · exact .inr h1
  | n w no =>
    rw [List.mem_singleton.mp h]
    exact .inr ⟨w, no⟩
theorem Lnk.slot {e : Env} {σ : L2.St} {H0 : Hp} {P P1 : Addr → Prop} {ps : List Pa} {l : List Ag} (k : Lnk e σ H0 P P1 ps l) {i : Nat} (h : i ∈ slotsR ps) : ∃ o b, mob (gt e i) = some o ∧ σ[i]? = some (some (.ref b)) ∧ b ∈ refA l := by
  induction k with
  | nil => cases h
  | v r ih => exact ih h
  | @r ps l j b o h0 hs r ih =>
    rcases List.mem_cons.mp h with z | z
    · subst z
      exact ⟨o, b, h0, hs, List.mem_cons_self⟩
    · obtain ⟨o', b', z1, z2, z3⟩ := ih z
      exact ⟨o', b', z1, z2, List.mem_cons_of_mem _ z3⟩
  | n w no => cases h
theorem and1_inj {P : Addr → Prop} {a b : Addr} (h : And1 P a = And1 P b) (n : ¬ P a) : a = b := by
  have : And1 P b a := by
    rw [← h]
    exact .inr rfl
  exact this.elim (fun z => absurd z n) id
theorem Lnk.nodup {G : Gx} {H0 H : Hp} {e : Env} {σ : L2.St} {P P1 : Addr → Prop} {ps : List Pa} {l : List Ag} (S : Sim G P1 H0 e σ H) (k : Lnk e σ H0 P P1 ps l) : (slotsR ps).Nodup → (refA l).Nodup := by
  induction k with
  | nil => exact fun _ => .nil
  | v r ih => exact ih
  | @r ps l i b o h0 hs r ih =>
    intro nd
    obtain ⟨n1, n2⟩ := List.nodup_cons.mp nd
    refine List.nodup_cons.mpr ⟨fun hb => ?_, ih n2⟩
    rcases r.mem hb with ⟨j, o', h1, h2, h3⟩ | h1
    · exact n1 (S.inj i j o o' b h0 h2 hs h3 ▸ h1)
    · obtain ⟨b', z1, _, z2, _⟩ := S.own i o h0
      rw [hs] at z1
      cases z1
      exact z2 (by rw [h1.1]; exact .inr rfl)
  | n w no => exact fun _ => by simp [refA]
/-- the env behind the call, slot by slot -/
theorem puts_at {G : Gx} {O : Addr → Prop} {H H0 : Hp} {σ : L2.St} {P P1 : Addr → Prop} {e0 : Env} {ps : List Pa} {l : List Ag} (k : Lnk e0 σ H0 P P1 ps l) : ∀ {e e2 : Env} {os : List Ob}, (slotsR ps).Nodup → puts ps os e = some e2 → OutR G O H (refA l) os → (∀ i ∈ slotsR ps, (mob (gt e i)).isSome = true) →
    e2.length = e.length ∧ (∀ j, j ∉ slotsR ps → gt e2 j = gt e j) ∧ ∀ i ∈ slotsR ps, ∃ b o, σ[i]? = some (some (.ref b)) ∧ gt e2 i = withO (gt e i) o ∧ RepO G O H b o ∧ b ∈ refA l := by
  induction k with
  | nil =>
    intro e e2 os _ hp ho _
    cases ho
    cases hp
    exact ⟨rfl, fun _ _ => rfl, fun i hi => by cases hi⟩
  | v r ih =>
    intro e e2 os nd hp ho hm
    exact ih nd hp ho hm
  | @r ps l i b o h0 hs r ih =>
    intro e e2 os nd hp ho hm
    obtain ⟨n1, n2⟩ := List.nodup_cons.mp nd
    cases ho with
    | @cons as os a o' ha hr =>
      have hl : i < e.length := gt_lt (by intro z; have := hm i List.mem_cons_self; rw [z] at this; cases this)
      obtain ⟨h1, h2, h3⟩ := ih (e := st e i (withO (gt e i) o')) n2 hp hr (fun j hj => by rw [gt_st_ne (fun z => n1 (by rw [← z]; exact hj))]; exact hm j (List.mem_cons_of_mem _ hj))
      refine ⟨by rw [h1, st_len], fun j hj => ?_, fun j hj => ?_⟩
      · rw [h2 j fun z => hj (List.mem_cons_of_mem _ z), gt_st_ne fun z => hj (by rw [z]; exact List.mem_cons_self)]
      · rcases List.mem_cons.mp hj with z | z
        · subst z
          exact ⟨b, o', hs, by rw [h2 j n1, gt_st_same hl], ha, List.mem_cons_self⟩
        · obtain ⟨b', o2, q1, q2, q3, q4⟩ := h3 j z
          exact ⟨b', o2, q1, by rw [q2, gt_st_ne (fun y => n1 (by rw [← y]; exact z))], q3, List.mem_cons_of_mem _ q4⟩
  | n w no =>
    intro e e2 os nd hp ho hm
    cases ho with
    | @cons as os a o' ha hr =>
      cases hr
      cases hp
      exact ⟨rfl, fun _ _ => rfl, fun i hi => by cases hi⟩
theorem ge_callR {G : Gx} {W : WX} {ta : TA} {ps : List Pa} {as : WA} {ct : CtR} (ha : GAr G W ta ps as) (nd : (slotsR ps).Nodup) : GE G W (tCallS (promR G.cl ct) (L2.WE W) ta) (wCallR ct ps as) := fun P H0 env σ H Q E Q' S h X k => by
  obtain ⟨h0, h⟩ := h
  have allR_at : ∀ {ps : List Pa}, allR ps env = true → ∀ i, .r i ∈ ps → (mob (gt env i)).isSome = true := by
    intro ps
    induction ps with
    | nil => exact fun _ i hi => by cases hi
    | cons q ps ih =>
      intro h i hi
      cases q with
      | v => exact ih h i (by simpa using hi)
      | n => exact ih h i (by simpa using hi)
      | r j =>
        simp only [allR, Bool.and_eq_true] at h
        rcases List.mem_cons.mp hi with z | z
        · cases z
          exact h.1
        · exact ih h.2 i z
  refine ar_go ha (fun i hi => ?_) S h X fun P1 ds e1 vs H1 S1 n1 K1 A1 h1 => ?_
  · obtain ⟨o, ho⟩ := Option.isSome_iff_exists.mp (allR_at h0 i hi)
    obtain ⟨a, e, _⟩ := S.own i o ho
    exact ⟨_, e⟩
  · obtain ⟨ar, em, h1⟩ := optP_of h1
    obtain ⟨l, kl, rfl, ra⟩ := lnk_of S1 A1 em
    have inO : ∀ a ∈ refA l, Ow P1 e1 σ a := fun a hm => by
      rcases kl.mem hm with ⟨i, o, _, h2, h3⟩ | h2
      · exact .inr ⟨i, o, h2, h3⟩
      · exact .inl (by rw [h2.1]; exact .inr rfl)
    have sub := A1.sub
    have nP : ∀ a ∈ refA l, ¬ P a ∧ H0 a = none := fun a hm => by
      rcases kl.mem hm with ⟨i, o, _, h2, h3⟩ | h2
      · obtain ⟨b, z1, _, z2, z3⟩ := S1.own i o h2
        rw [h3] at z1
        cases z1
        exact ⟨fun hp => z2 (sub _ hp), z3⟩
      · exact h2.2
    have eqO : (fun a => (Ow P1 e1 σ a ∧ a ∉ refA l) ∨ a ∈ refA l) = Ow P1 e1 σ := by
      funext a
      refine propext ⟨fun z => z.elim (fun y => y.1) (inO a), fun z => ?_⟩
      by_cases q : a ∈ refA l
      · exact .inr q
      · exact .inl ⟨z, q⟩
    have hh : G.h ∉ refA l := fun z => (nP _ z).1 S.ph
    have hc : G.c ∉ refA l := fun z => (nP _ z).1 S.pc
    refine ⟨G.h, G.c, fun a => Ow P1 e1 σ a ∧ a ∉ refA l, l, _, ⟨.inl S1.ph, hh⟩, ⟨.inl S1.pc, hc⟩, fun a h => S1.odom h.1, fun a hm z => z.2 hm, Lnk.nodup S1 kl nd, by rw [eqO]; exact ra, h1, fun x os v H2 kc r ho q => ?_⟩
    rw [eqO] at r ho
    obtain ⟨e2, hp, q⟩ := optP_of q
    obtain ⟨q1, q2, q3⟩ := puts_at kl nd hp ho fun i hi => by
      obtain ⟨o, b, z, _⟩ := kl.slot hi
      rw [z]
      rfl
    -- slot by slot
    have sl : ∀ i, gt e2 i = gt e1 i ∨ ∃ b o o', σ[i]? = some (some (.ref b)) ∧ mob (gt e1 i) = some o' ∧ gt e2 i = withO (gt e1 i) o ∧ RepO G (Ow P1 e1 σ) H2 b o ∧ b ∈ refA l := fun i => by
      by_cases hi : i ∈ slotsR ps
      · obtain ⟨b, o, z1, z2, z3, z4⟩ := q3 i hi
        obtain ⟨o', b', y1, y2, y3⟩ := kl.slot hi
        exact .inr ⟨b, o, o', z1, y1, z2, z3, z4⟩
      · exact .inl (q2 i hi)
    have ns : ∀ i o a, gt e2 i = gt e1 i → mob (gt e1 i) = some o → σ[i]? = some (some (.ref a)) → i ∉ slotsR ps → a ∉ refA l := fun i o a _ m hs ni hm => by
      rcases kl.mem hm with ⟨j, o', z1, z2, z3⟩ | h2
      · exact ni (S1.inj i j o o' a m z2 hs z3 ▸ z1)
      · obtain ⟨b, y1, _, y2, _⟩ := S1.own i o m
        rw [hs] at y1
        cases y1
        exact y2 (by rw [h2.1]; exact .inr rfl)
    have mo : ∀ i, (∃ o, mob (gt e2 i) = some o) ↔ ∃ o, mob (gt e1 i) = some o := fun i => by
      rcases sl i with z | ⟨b, o, o', z1, z2, z3, _⟩
      · rw [z]
      · rw [z3, mob_with z2]
        exact ⟨fun _ => ⟨_, z2⟩, fun _ => ⟨_, rfl⟩⟩
    have ow : ∀ P' : Addr → Prop, Ow P' e2 σ = Ow P' e1 σ := fun P' => by
      funext a
      refine propext ⟨fun z => z.elim .inl fun ⟨i, o, y1, y2⟩ => ?_, fun z => z.elim .inl fun ⟨i, o, y1, y2⟩ => ?_⟩
      · obtain ⟨o', y⟩ := (mo i).mp ⟨o, y1⟩
        exact .inr ⟨i, o', y, y2⟩
      · obtain ⟨o', y⟩ := (mo i).mpr ⟨o, y1⟩
        exact .inr ⟨i, o', y, y2⟩
    have K2 : Kp G (Ow P1 e1 σ) H1 (Ow P1 e1 σ) H2 := ⟨fun a o e n => ⟨kc.at_ a o (fun z => n (by rw [z]; exact .inl S1.ph)) (fun z => n (inO a z)) e, n⟩, kc.hnd⟩
    have S2 : Sim G P1 H0 e2 σ H2 := ⟨by rw [q1]; exact S1.len, fun a o n e => kc.at_ a o n (fun z => by rw [(nP a z).2] at e; cases e) (S1.old a o n e), fun z => kc.hnd (S1.hnd z), fun a z => let ⟨o, e⟩ := S1.dom a z; kc.dom a o e, S1.ph, S1.pc,
      fun i x z => ?_, fun i o z => ?_, fun i j xs ys a z1 z2 z3 z4 => ?_, fun i a z => ?_⟩
    · have S3 := S2.less sub S.ph S.pc
      exact k (.d x) e2 v H2 S3 (K1.trans (K2.trans (Kp.weak fun a z => by rw [ow] at z; exact z.elim (fun y => .inl (sub a y)) .inr))) (r.step (Kp.weak fun a z => by rw [ow] at z; exact z.elim (fun y => .inl (sub a y)) .inr)) q
    · rw [ow]
      rcases sl i with y | ⟨b, o, o', y1, y2, y3, _⟩
      · rw [y] at z
        obtain ⟨v, w1, w2⟩ := S1.val i x z
        exact ⟨v, w1, w2.step K2⟩
      · rw [y3] at z
        have := mob_with (y := o) y2
        rw [z] at this
        cases this
    · rw [ow]
      by_cases hi : i ∈ slotsR ps
      · obtain ⟨b, o', w1, w2, w3, w4⟩ := q3 i hi
        obtain ⟨o1, b', y1, y2, y3⟩ := kl.slot hi
        rw [w2, mob_with y1] at z
        cases z
        obtain ⟨b2, v1, v2, v3, v4⟩ := S1.own i o1 y1
        rw [w1] at v1
        cases v1
        exact ⟨b, w1, w3, v3, v4⟩
      · have e0 := q2 i hi
        rw [e0] at z
        obtain ⟨b, v1, v2, v3, v4⟩ := S1.own i o z
        exact ⟨b, v1, v2.keep K2 fun u e => kc.at_ b u (fun y => v3 (by rw [y]; exact S1.ph)) (ns i o b e0 z v1 hi) e, v3, v4⟩
    · obtain ⟨o1, y1⟩ := (mo i).mp ⟨_, z1⟩
      obtain ⟨o2, y2⟩ := (mo j).mp ⟨_, z2⟩
      exact S1.inj i j o1 o2 a y1 y2 z3 z4
    · rcases sl i with y | ⟨b, o, o', y1, y2, y3, _⟩
      · rw [y] at z
        exact S1.fix i a z
      · rw [y3, adr_with] at z
        exact S1.fix i a z
end LW
end S25_

section S26_
set_option maxRecDepth 100000
set_option maxHeartbeats 1000000
/-! Own layer, part 26: a def to which objects are handed in. -/
namespace LW
open PySem PySem.Spec PyProof.Rows L2 RZ
def slA : Ag → Slot
  | .v x => .val x
  | .r a o => .ref a o
theorem inR_eq : ∀ l : List Ag, inR (l.map Ag.pure) (refA l) = l.map slA
  | [] => rfl
  | .v x :: l => by
    show Slot.val x :: inR (l.map Ag.pure) (refA l) = _
    rw [inR_eq l]
    rfl
  | .r a o :: l => by
    show Slot.ref a o :: inR (l.map Ag.pure) (refA l) = _
    rw [inR_eq l]
    rfl
theorem nRef_eq : ∀ l : List Ag, (refA l).length = nRef (l.map Ag.pure)
  | [] => rfl
  | .v x :: l => nRef_eq l
  | .r a o :: l => by
    show (refA l).length + 1 = nRef (l.map Ag.pure) + 1
    rw [nRef_eq l]
theorem ArgR.len {G : Gx} {O : Addr → Prop} {H : Hp} {vs : List V} {l : List Ag} (h : ArgR G O H vs l) : vs.length = l.length := by
  induction h with
  | nil => rfl
  | v h r ih => simp [ih]
  | r h r ih => simp [ih]
theorem gt_uns : ∀ (n i : Nat), gt (List.replicate n Slot.un) i = .un
  | 0, i => rfl
  | n + 1, 0 => rfl
  | n + 1, i + 1 => gt_uns n i
theorem gt_slA : ∀ {l : List Ag} {n i : Nat} {s : Slot}, gt (l.map slA ++ List.replicate n Slot.un) i = s → s ≠ .un → ∃ g, l[i]? = some g ∧ s = slA g
  | [], n, i, s, h, h2 => by
    exact absurd h.symm (by rw [show gt (List.map slA [] ++ List.replicate n Slot.un) i = .un from gt_uns n i]; exact h2)
  | g :: l, n, 0, s, h, h2 => ⟨g, rfl, h.symm⟩
  | g :: l, n, i + 1, s, h, h2 => gt_slA (l := l) (n := n) (i := i) h h2
theorem slA_gt : ∀ {l : List Ag} {n i : Nat} {g : Ag}, l[i]? = some g → gt (l.map slA ++ List.replicate n Slot.un) i = slA g
  | g :: l, n, 0, s, h => by
    cases h
    rfl
  | g :: l, n, i + 1, s, h => slA_gt (l := l) (n := n) (i := i) h
theorem ArgR.getV {G : Gx} {O : Addr → Prop} {H : Hp} {vs : List V} {l : List Ag} (h : ArgR G O H vs l) : ∀ {i : Nat} {x : D}, l[i]? = some (.v x) → ∃ v, vs[i]? = some v ∧ Rep G O H v x := by
  induction h with
  | nil => intro i x h; cases h
  | v h r ih =>
    intro i x q
    cases i with
    | zero => cases q; exact ⟨_, rfl, h⟩
    | succ i => exact ih q
  | r h r ih =>
    intro i x q
    cases i with
    | zero => cases q
    | succ i => exact ih q
theorem ArgR.getR {G : Gx} {O : Addr → Prop} {H : Hp} {vs : List V} {l : List Ag} (h : ArgR G O H vs l) : ∀ {i : Nat} {a : Addr} {o : Ob}, l[i]? = some (.r a o) → vs[i]? = some (.ref a) ∧ RepO G O H a o := by
  induction h with
  | nil => intro i x _ h; cases h
  | v h r ih =>
    intro i x _ q
    cases i with
    | zero => cases q
    | succ i => exact ih q
  | r h r ih =>
    intro i x _ q
    cases i with
    | zero => cases q; exact ⟨rfl, h⟩
    | succ i => exact ih q
theorem mem_refA : ∀ {l : List Ag} {i : Nat} {a : Addr} {o : Ob}, l[i]? = some (.r a o) → a ∈ refA l
  | .v x :: l, i + 1, a, o, h => mem_refA (l := l) (i := i) h
  | .r b x :: l, 0, a, o, h => by cases h; exact List.mem_cons_self
  | .r b x :: l, i + 1, a, o, h => List.mem_cons_of_mem _ (mem_refA (l := l) (i := i) h)
theorem ref_inj : ∀ {l : List Ag} {i j : Nat} {a : Addr} {o u : Ob}, (refA l).Nodup → l[i]? = some (.r a o) → l[j]? = some (.r a u) → i = j
  | .v x :: l, i + 1, j + 1, a, o, u, n, h, h' => by rw [ref_inj (l := l) (i := i) (j := j) n h h']
  | .r b x :: l, 0, 0, a, o, u, n, h, h' => rfl
  | .r b x :: l, 0, j + 1, a, o, u, n, h, h' => by
    cases h
    exact absurd (mem_refA (l := l) (i := j) h') (List.nodup_cons.mp n).1
  | .r b x :: l, i + 1, 0, a, o, u, n, h, h' => by
    cases h'
    exact absurd (mem_refA (l := l) (i := i) h) (List.nodup_cons.mp n).1
  | .r b x :: l, i + 1, j + 1, a, o, u, n, h, h' => by rw [ref_inj (l := l) (i := i) (j := j) (List.nodup_cons.mp n).2 h h']
theorem out_of {G : Gx} {O : Addr → Prop} {H : Hp} : ∀ {l : List Ag} {e : Env} {os : List Ob}, outR (l.map Ag.pure) (refA l) e = some os → (∀ i a o, gt e i = .ref a o → RepO G O H a o) → OutR G O H (refA l) os ∧ ∀ a ∈ refA l, ∃ i o, gt e i = .ref a o
  | [], [], os, h, r => by
    cases h
    exact ⟨.nil, fun a z => by cases z⟩
  | [], _ :: _, os, h, r => by
    cases h
    exact ⟨.nil, fun a z => by cases z⟩
  | .v x :: l, [], os, h, r => by cases h
  | .v x :: l, s :: e, os, h, r => by
    obtain ⟨h1, h2⟩ := out_of (l := l) (e := e) h fun i a o q => r (i + 1) a o q
    exact ⟨h1, fun a z => let ⟨i, o, q⟩ := h2 a z; ⟨i + 1, o, q⟩⟩
  | .r b x :: l, [], os, h, r => by cases h
  | .r b x :: l, s :: e, os, h, r => by
    have h1 : outR (.inr x :: l.map Ag.pure) (b :: refA l) (s :: e) = some os := h
    clear h
    unfold outR at h1
    cases s with
    | ref c o =>
      simp only at h1
      cases hc : c == b with
      | false => rw [hc] at h1; cases h1
      | true =>
        rw [hc] at h1
        have := (by simpa using hc : c = b)
        subst this
        obtain ⟨os', q, rfl⟩ := Option.map_eq_some_iff.mp h1
        obtain ⟨h1, h2⟩ := out_of (l := l) (e := e) q fun i a o q => r (i + 1) a o q
        refine ⟨.cons (r 0 c o rfl) h1, fun a z => ?_⟩
        rcases List.mem_cons.mp z with z | z
        · exact ⟨0, o, by rw [z]; rfl⟩
        · obtain ⟨i, o', q'⟩ := h2 a z
          exact ⟨i + 1, o', q'⟩
    | un => cases h1
    | val _ => cases h1
    | own _ => cases h1
    | fix _ => cases h1
theorem OutR.dom {G : Gx} {O : Addr → Prop} {H : Hp} {as : List Addr} {os : List Ob} (h : OutR G O H as os) : ∀ a ∈ as, ∃ u, H a = some u := by
  induction h with
  | nil => intro a z; cases z
  | cons h r ih =>
    intro a z
    rcases List.mem_cons.mp z with z | z
    · rw [z]; exact h.dom
    · exact ih a z
theorem OutR.step {G : Gx} {O O' : Addr → Prop} {H : Hp} (k : Kp G O H O' H) {as : List Addr} {os : List Ob} (h : OutR G O H as os) : OutR G O' H as os := by
  induction h with
  | nil => exact .nil
  | cons h r ih => exact .cons (h.step k) ih
/-- what the callee may take as given -/
def less (H : Hp) (as : List Addr) : Hp := fun a => if a ∈ as then none else H a
theorem less_some {H : Hp} {as : List Addr} {a : Addr} {o : HO} (h : less H as a = some o) : H a = some o ∧ a ∉ as := by
  unfold less at h
  split at h
  · cases h
  · exact ⟨h, by assumption⟩
theorem less_of {H : Hp} {as : List Addr} {a : Addr} (h : a ∉ as) : less H as a = H a := by
  unfold less
  rw [if_neg h]
theorem sim_startR {C : Cl} {h c : Addr} {P : Addr → Prop} {H : Hp} {vs : List V} {l : List Ag} {N : List Str} (ph : P h) (pc : P c) (hd : ∀ a, P a → ∃ o, H a = some o) (np : ∀ a ∈ refA l, ¬ P a) (nd : (refA l).Nodup)
    (r : ArgR ⟨C, h, c⟩ (fun a => P a ∨ a ∈ refA l) H vs l) (hn : l.length ≤ N.length) :
    Sim ⟨C, h, c⟩ P (less H (refA l)) (inR (l.map Ag.pure) (refA l) ++ List.replicate (N.length - l.length) Slot.un) (L2.start N vs) H := by
  rw [inR_eq]
  have st : ∀ {i : Nat} {v : V}, vs[i]? = some v → (L2.start N vs)[i]? = some (some v) := fun {i v} e => by
    unfold L2.start
    rw [List.getElem?_append_left (by rw [List.length_map]; exact (List.getElem?_eq_some_iff.mp e).1), List.getElem?_map, e]
    rfl
  have ow : ∀ i o, mob (gt (l.map slA ++ List.replicate (N.length - l.length) Slot.un) i) = some o → ∃ a, l[i]? = some (.r a o) := fun i o q => by
    obtain ⟨g, h1, h2⟩ := gt_slA (l := l) (n := N.length - l.length) (i := i) rfl (by intro z; rw [z] at q; cases q)
    rw [h2] at q
    cases g with
    | v x => cases q
    | r a o' => cases q; exact ⟨a, h1⟩
  have w : ∀ a, Ow P (l.map slA ++ List.replicate (N.length - l.length) Slot.un) (L2.start N vs) a → P a ∨ a ∈ refA l := fun a q => by
    rcases q with q | ⟨i, o, q, q2⟩
    · exact .inl q
    · obtain ⟨b, hb⟩ := ow i o q
      obtain ⟨z1, z2⟩ := r.getR hb
      rw [st z1] at q2
      cases q2
      exact .inr (mem_refA hb)
  refine ⟨?_, fun _ _ _ e => (less_some e).1, fun q => q.keep fun a o _ e => (less_some e).1, hd, ph, pc, fun i x q => ?_, fun i o q => ?_, fun i j xs ys a q q' e e' => ?_, fun i a q => ?_⟩
  · unfold L2.start
    simp only [List.length_append, List.length_map, List.length_replicate, r.len]
  · obtain ⟨g, h1, h2⟩ := gt_slA (l := l) q (fun z => nomatch z)
    cases g with
    | r a o => cases h2
    | v y =>
      cases h2
      obtain ⟨v, z1, z2⟩ := r.getV h1
      exact ⟨v, st z1, z2.step (Kp.weak w)⟩
  · obtain ⟨b, hb⟩ := ow i o q
    obtain ⟨z1, z2⟩ := r.getR hb
    refine ⟨b, st z1, z2.step (Kp.weak w), np b (mem_refA hb), ?_⟩
    unfold less
    rw [if_pos (mem_refA hb)]
  · obtain ⟨b, hb⟩ := ow i _ q
    obtain ⟨b', hb'⟩ := ow j _ q'
    obtain ⟨z1, z2⟩ := r.getR hb
    obtain ⟨z1', z2'⟩ := r.getR hb'
    rw [st z1] at e
    rw [st z1'] at e'
    cases e
    cases e'
    exact ref_inj nd hb hb'
  · obtain ⟨g, h1, h2⟩ := gt_slA (l := l) (n := N.length - l.length) (i := i) rfl (by intro z; rw [z] at q; cases q)
    rw [h2] at q
    cases g with
    | v x => cases q
    | r b o => cases q; exact st (r.getR h1).1
section
variable {P : Program} {w : World} {K : PySem.W.Frag} {mg : Str → Option Value} {base : Heap} {C : Cl} {ct : CtR} {x qual : Str} {params : Arguments} {body : List Stmt} {scope : Scope} {dvs : List V} {kws : List (Str × V)} {f : Addr} {fd : FuncData} {N ps : List Str} {k : Nat} {wb : WS}
/-- THE RULE for a def to which objects are handed in -/
theorem def_okR (F : FunD K x qual params body scope dvs kws f fd) (S : FnScope N ps scope) (hl : ∀ ar q, ct ar q → ar.length = ps.length) (hn : ps.length ≤ N.length)
    (hb : ∀ (X : Cx) (W : WX), X.prog = P → X.w = w → X.K = K → X.mg = mg → X.base = base → X.N = N → X.env.scope = scope → X.calm = true → Room k X.A → X.stack = X.env :: X.outer → X.env.frame = some X.env.locals → (X.fn = fun _ => true) → PassesOwn (model X.prog X.w) X.A X.env X.xe → Takes X W →
      ∃ ts, PSs X body ts ∧ ∀ h c, GS ⟨C, h, c⟩ W ts wb)
    (spec : ∀ ar q, ct ar q → fnR (N.length - ps.length) wb ar q) : FnOk P w K mg base (L2.CX P w) (k + 1) f fd ps (promR C ct) := by
  refine F.ok S (fun vs H Q E h => ?_) (fun cdv A outer s H vs Q E hr h => ?_)
  · obtain ⟨h, c, P, l, q, ph, pc, hd, np, nd, r, hc, _⟩ := h
    rw [r.len, ← hl _ q hc, List.length_map]
  · obtain ⟨ts, p, gs⟩ := hb (cxOf (L2.CX P w) P w K mg base N qual scope f cdv A outer s H E) (fun cls d _ H => E cls d H) rfl rfl rfl rfl rfl rfl rfl rfl hr rfl rfl rfl (passes_of rfl) (takes_of rfl rfl rfl rfl)
    refine ⟨ts, p, ?_⟩
    obtain ⟨h, c, Pa, l, q, ph, pc, hd, np, nd, r, hc, hq⟩ := h
    have sp := spec _ q hc (refA l) (nRef_eq l) nd
    have hlen := hl _ q hc
    rw [List.length_map] at hlen
    rw [← hlen] at sp
    have S0 := sim_startR (C := C) (N := N) ph pc hd np nd r (by rw [hlen]; exact hn)
    have fin : ∀ {x : D} {e1 : Env} {σ1 : L2.St} {v : V} {H1 : Hp} {os : List Ob}, Sim ⟨C, h, c⟩ Pa (less H (refA l)) e1 σ1 H1 → Rep ⟨C, h, c⟩ (Ow Pa e1 σ1) H1 v x → outR (l.map Ag.pure) (refA l) e1 = some os → q x os → Q v H1 := fun {x e1 σ1 v H1 os} S1 r1 ho hx => by
      obtain ⟨o1, o2⟩ := out_of (G := ⟨C, h, c⟩) (O := Ow Pa e1 σ1) (H := H1) ho fun i a o q => by
        obtain ⟨b, z1, z2, _⟩ := S1.own i o (by rw [q]; rfl)
        have := S1.fix i a (by rw [q]; rfl)
        rw [z1] at this
        cases this
        exact z2
      have ww : ∀ a, Pa a ∨ a ∈ refA l → Ow Pa e1 σ1 a := fun a z => z.elim .inl fun z => by
        obtain ⟨i, o, q⟩ := o2 a z
        exact .inr ⟨i, o, by rw [q]; rfl, S1.fix i a (by rw [q]; rfl)⟩
      refine hq x os v H1 ⟨fun a o n m e => S1.old a o n (by rw [less_of m]; exact e), fun z => S1.hnd (z.keep fun a o y e => ?_), fun a o e => ?_⟩ (r1.step (Kp.weak ww)) (o1.step (Kp.weak ww)) hx
      · rw [less_of (fun m => np a m (by rcases y with y | y <;> rw [y] <;> assumption))]
        exact e
      · by_cases z : a ∈ refA l
        · exact o1.dom a z
        · by_cases y : a = h
          · rw [y]; exact S1.dom h ph
          · exact ⟨o, S1.old a o y (by rw [less_of z]; exact e)⟩
    refine gs h c Pa _ _ _ H _ _ _ S0 sp (fun y e1 σ1 cls d H1 S1 r1 q1 => q1.elim) ⟨⟨fun e1 σ1 H1 S1 K1 h1 => ?_⟩, ⟨fun _ _ _ _ _ z => z.elim⟩, ⟨fun _ _ _ _ _ z => z.elim⟩, fun y e1 σ1 v H1 S1 r1 h1 => ?_⟩
    · obtain ⟨os, e, h1⟩ := optP_of h1
      exact fin S1 .non e h1
    · obtain ⟨os, e, h1⟩ := optP_of h1
      exact fin S1 r1 e h1
end
end LW
end S26_

section S27_
set_option maxRecDepth 100000
set_option maxHeartbeats 1000000
/-! Own layer, part 27: comprehensions that make dicts, and over dicts. -/
namespace LW
open PySem PySem.Spec PyProof.Rows L2 RZ
/-! ### the keys of a value -/
theorem upd_back {H : Hp} {b D : Addr} {u f o : HO} (n : D ≠ b) (h : H b = some u) : upd (upd (upd H b f) D o) b u = upd H D o := by
  funext x
  unfold upd
  by_cases x1 : x = b
  · subst x1
    simp [Ne.symm n, h]
  · simp [x1]
theorem keysEq_of {ks ys : List D} {h : Int} {k : D} {r zs : List D} (e : keysEq ks ys h (k :: r) = some zs) : ∃ i j z, k = .int i ∧ lookI ks ys i = some (.int j) ∧ keysEq ks ys h r = some z ∧ (match j == h with
    | true => D.int i :: z
    | false => z) = zs := by
  cases k <;> try (cases e; done)
  rename_i i
  obtain ⟨j, g1, e⟩ := bind_of e
  obtain ⟨w, g2, g3⟩ := bind_of g1
  cases asInt_of g3
  obtain ⟨z, e3, e4⟩ := Option.map_eq_some_iff.mp e
  exact ⟨i, j, z, rfl, g2, e3, e4⟩
theorem invD_of {ks ys : List D} {k : D} {r : List D} {acc p : List D × List D} (e : invD ks ys (k :: r) acc = some p) : ∃ i j, k = .int i ∧ lookI ks ys i = some (.int j) ∧ invD ks ys r (putKs acc.1 j, putYs acc.1 acc.2 j (.int i)) = some p := by
  cases k <;> try (cases e; done)
  rename_i i
  obtain ⟨j, g1, e⟩ := bind_of e
  obtain ⟨w, g2, g3⟩ := bind_of g1
  cases asInt_of g3
  exact ⟨i, j, rfl, g2, e⟩
theorem keyD_int {k : L2.Key} {i : Int} (h : keyD k = .int i) : k = .inl i := by
  cases k with
  | inl j => cases h; rfl
  | inr s => cases h
section
variable {G : Gx} {W : WX} {K : PySem.W.Frag}
theorem keys_at {kk : List L2.Key} {us : List V} {n : Nat} {k : L2.Key} {v : V} (h : (kk.zip us)[n]? = some (k, v)) : kk[n]? = some k := by
  rw [List.getElem?_zip_eq_some] at h
  exact h.1
theorem zip_len {kk : List L2.Key} {us : List V} (h : kk.length = us.length) : (kk.zip us).length = kk.length := by
  rw [List.length_zip, ← h, Nat.min_self]
theorem gf_keysEq {i j v : Nat} (hi : (i == v) = false) (hj : (j == v) = false) : GF G W (tLockE (tLc (iKeys (tVar i)) (gName v) (tTest (tOp (rEqA K) (tOp (rIxU K) (tVar i) (tVar v)) (tVar j))) (tVar v) [v])) (wKeysEq i j v) := fun P H0 env σ H Q E Q' S h X k => by
  have hi := (by simpa using hi : ¬ i = v)
  have hj := (by simpa using hj : ¬ j = v)
  obtain ⟨hv, h⟩ := h
  obtain ⟨zs, e, h1⟩ := optP_of h
  obtain ⟨x, ex, e⟩ := bind_of e
  obtain ⟨y, ey, e⟩ := bind_of e
  obtain ⟨ks, ys, hh, rfl, rfl, hz, ev⟩ : ∃ ks ys hh, x = .dct ks ys ∧ y = .int hh ∧ ks.length ≤ SZ ∧ keysEq ks ys hh ks = some zs := by
    unfold fKeysEq at e
    split at e
    · split at e
      · exact ⟨_, _, _, rfl, rfl, by assumption, e⟩
      · cases e
    · cases e
  obtain ⟨v0, hv0⟩ := rs_loc S ex
  have h0 := S.res (r := .loc i) (v := v0) hv0 ex
  obtain ⟨b, rfl, kk, us, e0, l0, rfl, r0⟩ := h0
  obtain ⟨vj, hvj⟩ := rs_loc S ey
  have hy := (S.res (r := .loc j) (v := vj) hvj ey).int
  subst hy
  have hvs : v < σ.length := by rw [← S.len]; exact hv
  refine ⟨b, _, e0, trivial, fun od => ?_⟩
  refine ⟨_, hv0, b, od, rfl, .inl ⟨_, upd_same, ?_⟩⟩
  intro Dn hD
  have hDb : Dn ≠ b := fun z => by rw [z, upd_same] at hD; cases hD
  have hDn : H Dn = none := by rw [upd_ne hDb] at hD; exact hD
  refine ⟨fun n m H' => m = kk.length - n ∧ n ≤ kk.length ∧ ∃ (acc : List Int) (zs' : List D), keysEq (kk.map keyD) ys hh ((kk.map keyD).drop n) = some zs' ∧ zs = acc.map D.int ++ zs' ∧ H' = upd (upd H b (.frz od (.dK (kk.zip us)))) Dn (.lst (acc.map V.int)) ∧ acc.length ≤ n,
    ⟨kk.length, by simp, Nat.zero_le _, [], zs, ev, rfl, rfl, Nat.le_refl _⟩, ?_⟩
  rintro n m H' ⟨rfl, hn, acc, zs', e1, e2, rfl, hl⟩
  have hfb : upd (upd H b (.frz od (.dK (kk.zip us)))) Dn (.lst (acc.map V.int)) b = some (.frz od (.dK (kk.zip us))) := by rw [upd_ne hDb.symm, upd_same]
  by_cases hlt : n < kk.length
  · have hlt' : n < (kk.map keyD).length := by rw [List.length_map]; exact hlt
    rw [List.drop_eq_getElem_cons hlt', List.getElem_map] at e1
    obtain ⟨i', jj, z2, q1, g2, e3, e4⟩ := keysEq_of e1
    · have hk := keyD_int q1
      obtain ⟨wv, g4, g5⟩ := look_val l0 r0 g2
      cases g5
      refine .inr ⟨⟨hfb, by rw [zip_len l0]; exact hlt⟩, fun H'' => ∃ m', m' < kk.length - n ∧ m' = kk.length - (n + 1) ∧ n + 1 ≤ kk.length ∧ ∃ (acc : List Int) (zs' : List D), keysEq (kk.map keyD) ys hh ((kk.map keyD).drop (n + 1)) = some zs' ∧ zs = acc.map D.int ++ zs' ∧ H'' = upd (upd H b (.frz od (.dK (kk.zip us)))) Dn (.lst (acc.map V.int)) ∧ acc.length ≤ n + 1,
        fun H'' z => z, fun x H'' hyl => ?_⟩
      obtain ⟨rfl, k1, v1, g6, rfl⟩ := hyl
      have g7 := keys_at g6
      have g8 : kk[n]? = some kk[n] := List.getElem?_eq_getElem hlt
      rw [g7] at g8
      cases g8
      rw [hk]
      show wipe ((wipe σ [v]).set v _) [v] = wipe σ [v] ∧ _
      refine ⟨wipe_eq (ss := [v]) (by rw [List.length_set, wipe_length]) (fun jx hx => List.getElem?_set_ne (fun z => hx (by simp [z]))) (fun jx hx => hx), ?_⟩
      have at_ : ∀ {x : Nat}, ¬ x = v → ((wipe σ [v]).set v (some (kV (.inl i'))))[x]? = σ[x]? := fun {x} hx => by
        rw [List.getElem?_set_ne (fun z => hx z.symm), wipe_out (by simpa using hx)]
      have atv : ((wipe σ [v]).set v (some (kV (.inl i'))))[v]? = some (some (kV (.inl i'))) := by
        rw [List.getElem?_set_self (by rw [wipe_length]; exact hvs)]
      refine ⟨_, (at_ hi).trans hv0, _, atv, .inr ⟨b, _, rfl, .inl ⟨_, .inl i', .inr ⟨od, hfb⟩, rfl, g4.symm⟩, ?_⟩⟩
      refine ⟨_, (at_ hj).trans hvj, .inl ⟨rfl, _, rfl, ?_⟩⟩
      rw [dec_int]
      cases hq : jj == hh with
      | true =>
        rw [hq] at e4
        refine ⟨_, atv, acc.map V.int, upd_same, by rw [List.length_map]; exact Nat.lt_of_lt_of_le (Nat.lt_of_le_of_lt hl hlt) (Nat.le_trans (by simpa using hz) sz_eq), ?_⟩
        refine ⟨_, by omega, rfl, hlt, acc ++ [i'], z2, e3, by rw [e2, ← e4]; simp, ?_, by simp; omega⟩
        rw [upd_upd]
        simp [kV]
      | false =>
        rw [hq] at e4
        exact ⟨_, by omega, rfl, hlt, acc, z2, e3, by rw [e2, ← e4], rfl, by omega⟩
  · have en : n = kk.length := by omega
    subst en
    rw [List.drop_of_length_le (by simp)] at e1
    cases e1
    refine .inl ⟨⟨hfb, by rw [zip_len l0]; exact Nat.le_refl _⟩, hfb, ?_⟩
    rw [upd_back hDb e0]
    rw [List.append_nil] at e2
    subst e2
    obtain ⟨S2, K2⟩ := S.new1 (o := .lst (acc.map V.int)) hDn
    exact k _ env Dn _ _ S2 K2 upd_same (Reps.ofInts acc) (S.fresh hDn) (S.fresh0 hDn) h1
theorem ge_inv {i v : Nat} (hi : (i == v) = false) : GE G W (tLockE (tDc (iKeys (tVar i)) (gName v) tYes (tOp (rIxU K) (tVar i) (tVar v)) (tVar v) [v])) (wInv i v) := fun P H0 env σ H Q E Q' S h X k => by
  have hi := (by simpa using hi : ¬ i = v)
  obtain ⟨hv, h⟩ := h
  obtain ⟨zs, e, h1⟩ := optP_of h
  obtain ⟨x, ex, e⟩ := bind_of e
  obtain ⟨ks, ys, p, rfl, hz, ev, rfl⟩ : ∃ ks ys p, x = .dct ks ys ∧ ks.length ≤ SZ ∧ invD ks ys ks ([], []) = some p ∧ zs = .dct p.1 p.2 := by
    unfold fInv at e
    split at e
    · split at e
      · obtain ⟨p, e1, e2⟩ := Option.map_eq_some_iff.mp e
        exact ⟨_, _, p, rfl, by assumption, e1, e2.symm⟩
      · cases e
    · cases e
  obtain ⟨v0, hv0⟩ := rs_loc S ex
  have h0 := S.res (r := .loc i) (v := v0) hv0 ex
  obtain ⟨b, rfl, kk, us, e0, l0, rfl, r0⟩ := h0
  have hvs : v < σ.length := by rw [← S.len]; exact hv
  refine ⟨b, _, e0, trivial, fun od => ?_⟩
  refine ⟨_, hv0, b, od, rfl, .inl ⟨_, upd_same, ?_⟩⟩
  intro Dn hD
  have hDb : Dn ≠ b := fun z => by rw [z, upd_same] at hD; cases hD
  have hDn : H Dn = none := by rw [upd_ne hDb] at hD; exact hD
  refine ⟨fun n m H' => m = kk.length - n ∧ n ≤ kk.length ∧ ∃ (ll : List L2.Key) (ws : List V) (zy : List D), invD (kk.map keyD) ys ((kk.map keyD).drop n) (ll.map keyD, zy) = some p ∧ ll.length = ws.length ∧ Reps G (Ow P env σ) H ws zy ∧ H' = upd (upd H b (.frz od (.dK (kk.zip us)))) Dn (.dK (ll.zip ws)) ∧ ll.length ≤ n,
    ⟨kk.length, by simp, Nat.zero_le _, [], [], [], ev, rfl, .nil, rfl, Nat.le_refl _⟩, ?_⟩
  rintro n m H' ⟨rfl, hn, ll, ws, zy, e1, e2, rr, rfl, hl⟩
  have hfb : upd (upd H b (.frz od (.dK (kk.zip us)))) Dn (.dK (ll.zip ws)) b = some (.frz od (.dK (kk.zip us))) := by rw [upd_ne hDb.symm, upd_same]
  by_cases hlt : n < kk.length
  · have hlt' : n < (kk.map keyD).length := by rw [List.length_map]; exact hlt
    rw [List.drop_eq_getElem_cons hlt', List.getElem_map] at e1
    obtain ⟨i', jj, q1, g2, e1⟩ := invD_of e1
    · have hk := keyD_int q1
      obtain ⟨wv, g4, g5⟩ := look_val l0 r0 g2
      cases g5
      refine .inr ⟨⟨hfb, by rw [zip_len l0]; exact hlt⟩, fun H'' => ∃ m', m' < kk.length - n ∧ m' = kk.length - (n + 1) ∧ n + 1 ≤ kk.length ∧ ∃ (ll : List L2.Key) (ws : List V) (zy : List D), invD (kk.map keyD) ys ((kk.map keyD).drop (n + 1)) (ll.map keyD, zy) = some p ∧ ll.length = ws.length ∧ Reps G (Ow P env σ) H ws zy ∧ H'' = upd (upd H b (.frz od (.dK (kk.zip us)))) Dn (.dK (ll.zip ws)) ∧ ll.length ≤ n + 1,
        fun H'' z => z, fun x H'' hyl => ?_⟩
      obtain ⟨rfl, k1, v1, g6, rfl⟩ := hyl
      have g7 := keys_at g6
      have g8 : kk[n]? = some kk[n] := List.getElem?_eq_getElem hlt
      rw [g7] at g8
      cases g8
      rw [hk]
      show wipe ((wipe σ [v]).set v _) [v] = wipe σ [v] ∧ _
      refine ⟨wipe_eq (ss := [v]) (by rw [List.length_set, wipe_length]) (fun jx hx => List.getElem?_set_ne (fun z => hx (by simp [z]))) (fun jx hx => hx), ?_⟩
      have at_ : ∀ {x : Nat}, ¬ x = v → ((wipe σ [v]).set v (some (kV (.inl i'))))[x]? = σ[x]? := fun {x} hx => by
        rw [List.getElem?_set_ne (fun z => hx z.symm), wipe_out (by simpa using hx)]
      have atv : ((wipe σ [v]).set v (some (kV (.inl i'))))[v]? = some (some (kV (.inl i'))) := by
        rw [List.getElem?_set_self (by rw [wipe_length]; exact hvs)]
      obtain ⟨ll', ws', p1, p2, p3, p4⟩ := put_val (G := G) (i := jj) e2 rr (.int i' : Rep G (Ow P env σ) H (.int i') (.int i'))
      refine ⟨_, (at_ hi).trans hv0, _, atv, .inr ⟨b, _, rfl, .inl ⟨_, .inl i', .inr ⟨od, hfb⟩, rfl, g4.symm⟩, ?_⟩⟩
      refine ⟨_, atv, _, .inl jj, rfl, upd_same, by rw [zip_len e2]; exact Nat.lt_of_lt_of_le (Nat.lt_of_le_of_lt hl hlt) (Nat.le_trans (by simpa using hz) sz_eq), ?_⟩
      refine ⟨_, by omega, rfl, hlt, ll', ws', _, by rw [p3]; exact e1, p2, p4, by rw [upd_upd, ← p1] <;> rfl, ?_⟩
      have : ll'.length ≤ ll.length + 1 := by
        have h5 := congrArg List.length p3
        rw [List.length_map] at h5
        rw [h5]
        unfold putKs
        split <;> simp
      omega
  · have en : n = kk.length := by omega
    subst en
    rw [List.drop_of_length_le (by simp)] at e1
    cases e1
    refine .inl ⟨⟨hfb, by rw [zip_len l0]; exact Nat.le_refl _⟩, hfb, ?_⟩
    rw [upd_back hDb e0]
    obtain ⟨S2, K2⟩ := S.new1 (o := .dK (ll.zip ws)) hDn
    have kw : Kp G (Ow (And1 P Dn) env σ) (upd H Dn (.dK (ll.zip ws))) (Ow P env σ) (upd H Dn (.dK (ll.zip ws))) := Kp.weak fun b z => ow_mono (fun c y => .inl y) z
    exact k (.d (.dct (ll.map keyD) zy)) env _ _ (S2.drop1 S.ph S.pc) (K2.trans kw) (Rep.dct (S.fresh hDn) upd_same e2 (rr.step (K2.trans kw))) h1
end
end LW
end S27_

section S28_
set_option maxRecDepth 100000
set_option maxHeartbeats 1000000
/-! Own layer, part 28: comprehensions that make dicts. -/
namespace LW
open PySem PySem.Spec PyProof.Rows L2 RZ
section
variable {G : Gx} {W : WX}
def DcInv (G : Gx) (P : Addr → Prop) (H0 : Hp) (σ : L2.St) (vs : List Nat) (kt : D → Env → Option Env) (wt : WT) (wk we : WE) (items : List D) (a : Addr) (Q2 : List D → List D → Env → Prop) (O1 : Addr → Prop) (H1 : Hp) (i m : Nat) (H : Hp) : Prop :=
  m = items.length - i ∧ i ≤ items.length ∧ ∃ (ll : List L2.Key) (ws : List V) (zy : List D) (e : Env), dcGo kt wt wk we vs Q2 (items.drop i) (ll.map keyD) zy e ∧ Sim G (And1 P a) H0 e (wipe σ vs) H ∧ Kp G O1 H1 (Ow (And1 P a) e (wipe σ vs)) H ∧ H a = some (.dK (ll.zip ws)) ∧ ll.length = ws.length ∧
    Reps G (Ow (And1 P a) e (wipe σ vs)) H ws zy ∧ ∀ j ∈ vs, gt e j = .un
theorem ge_dc {ti : TI} {wi : WI} {g : TG} {kt : D → Env → Option Env} {tt : TT} {wt : WT} {tk te : TE} {wk we : WE} {ss vs : List Nat} (hi : GI G W ti wi) (hg : GG G g kt ss) (ht : GT G W0 tt wt) (hk : GE G W0 tk wk) (he : GE G W0 te we) (hs : ∀ j ∈ ss, j ∈ vs) :
    GE G W (tDc ti g tt tk te vs) (wDc wi kt wt wk we vs) := fun P H0 env σ H Q E Q' S h X k => by
  refine hi P H0 env σ H _ E _ S h X fun items e1 J H1 S1 K1 I1 h1 => ?_
  obtain ⟨hn, h1⟩ := h1
  replace h1 := hold_e h1
  intro a hD
  obtain ⟨Sn, Kn⟩ := S1.new1 (o := .dK []) hD
  have noD : ¬ Ow P e1 σ a := S1.fresh hD
  have nPD : ¬ P a := fun z => noD (.inl z)
  have n0 : H0 a = none := S1.fresh0 hD
  have kD : ∀ {Ha Hb : Hp} {u : HO}, Kc G Ha Hb → Ha a = some u → Hb a = some u := fun kc q => kc.at_ a _ (fun z => nPD (z ▸ S.ph)) q
  obtain ⟨Sw, Ww⟩ := Sn.wipes vs
  refine ⟨DcInv G P H0 σ vs kt wt wk we items a (fun ks ys e2 => Q (.d (.dct ks ys)) (backE e1 e2 vs)) (Ow P e1 σ) H1, ⟨items.length, by simp, Nat.zero_le _, [], [], [], wipeE e1 vs, h1, Sw, Kn.trans (Kp.weak Ww), upd_same, rfl, .nil, fun j hj => gt_wipe_in hj⟩, ?_⟩
  rintro i m H ⟨rfl, hil, ll, us, zy, e, hgo, Se, Ke, hDe, hll, Re, hu⟩
  by_cases hlt : i < items.length
  · refine .inr ⟨I1.go i _ H Ke hlt, fun H' => ∃ m', m' < items.length - i ∧ DcInv G P H0 σ vs kt wt wk we items a (fun ks ys e2 => Q (.d (.dct ks ys)) (backE e1 e2 vs)) (Ow P e1 σ) H1 (i + 1) m' H', fun _ z => z, fun v H' hy => ?_⟩
    have hx : items[i]? = some items[i] := List.getElem?_eq_getElem hlt
    obtain ⟨kc, rv⟩ := I1.yld i _ H v H' items[i] Se.od Ke hx hy
    have S2 := Se.after kc
    have K2 := Ke.trans (Se.kp kc)
    have R2 := Re.step (Se.kp kc)
    have D2 := kD kc hDe
    rw [List.drop_eq_getElem_cons hlt] at hgo
    obtain ⟨e2, he2, hgo⟩ := optP_of hgo
    refine hg (And1 P a) H0 e (wipe σ vs) H' v items[i] e2 _ S2 rv he2 fun σ2 S3 K3 ns hl => ⟨wipe_eq (by rw [hl, wipe_length]) ns hs, ?_⟩
    have wq : wipe σ2 vs = wipe σ vs := wipe_eq (by rw [hl, wipe_length]) ns hs
    have fin : ∀ (ll' : List L2.Key) (zy' : List D) (us' : List V) (e' : Env) (H'' : Hp), noOwn e' vs → dcGo kt wt wk we vs (fun ks ys e2 => Q (.d (.dct ks ys)) (backE e1 e2 vs)) (items.drop (i + 1)) (ll'.map keyD) zy' (wipeE e' vs) → Sim G (And1 P a) H0 e' σ2 H'' →
        Kp G (Ow P e1 σ) H1 (Ow (And1 P a) e' σ2) H'' → H'' a = some (.dK (ll'.zip us')) → ll'.length = us'.length → Reps G (Ow (And1 P a) e' σ2) H'' us' zy' → ∃ m', m' < items.length - i ∧ DcInv G P H0 σ vs kt wt wk we items a (fun ks ys e2 => Q (.d (.dct ks ys)) (backE e1 e2 vs)) (Ow P e1 σ) H1 (i + 1) m' H'' := by
      intro ll' zy' us' e' H'' _ g1 S6 K6 D6 L6 R6
      obtain ⟨S7, W7⟩ := S6.wipes vs
      rw [wq] at S7 W7
      exact ⟨items.length - (i + 1), by omega, rfl, hlt, ll', us', zy', wipeE e' vs, g1, S7, K6.trans (Kp.weak W7), D6, L6, R6.step (Kp.weak W7), fun j hj => gt_wipe_in hj⟩
    refine ht (And1 P a) (upd H0 a (.dK (ll.zip us))) e2 σ2 H' _ noX _ (S3.pin S.ph S.pc nPD D2 n0) hgo .no fun b e3 H3 S4' K4 hb => ?_
    obtain ⟨S4, D4⟩ := S4'.unpin S.ph S.pc nPD n0
    have R4 := (R2.step K3).step K4
    cases b with
    | false =>
      have hb' : noOwn e3 vs ∧ dcGo kt wt wk we vs (fun ks ys e2 => Q (.d (.dct ks ys)) (backE e1 e2 vs)) (items.drop (i + 1)) (ll.map keyD) zy (wipeE e3 vs) := hb
      exact fin ll zy us e3 H3 hb'.1 hb'.2 S4 ((K2.trans K3).trans K4) D4 hll R4
    | true =>
      refine hk (And1 P a) (upd H0 a (.dK (ll.zip us))) e3 σ2 H3 _ noX _ S4' hb .no fun r e4 y H4 S5' K5 RR hr => ?_
      obtain ⟨j, ej, hr⟩ := optP_of hr
      obtain ⟨x, ex, ej⟩ := bind_of ej
      cases asInt_of ej
      cases (S5'.res RR ex).int
      refine he (And1 P a) (upd H0 a (.dK (ll.zip us))) e4 σ2 H4 _ noX _ S5' hr .no fun r2 e5 z H5 S6' K6 RR2 hr => ?_
      obtain ⟨S6, D6⟩ := S6'.unpin S.ph S.pc nPD n0
      obtain ⟨p, hp, hr⟩ := fzP_of hr
      obtain ⟨hsz, hno, hr⟩ := hr
      obtain ⟨S7, K7, R7⟩ := S6.frz RR2 hp
      have R6 := ((R4.step K5).step K6).step K7
      obtain ⟨ll', ws', p1, p2, p3, p4⟩ := put_val (i := j) hll R6 R7
      refine ⟨ll.zip us, .inl j, rfl, D6, ?_, ?_⟩
      · rw [zip_len hll]
        rw [List.length_map] at hsz
        exact Nat.lt_of_lt_of_le hsz sz_eq
      · obtain ⟨S8, K8⟩ := S7.mut1 (o := .dK (putK (ll.zip us) (.inl j) z)) nPD S.ph S.pc n0
        exact fin ll' _ ws' p.2 _ hno (by rw [p3]; exact hr) S8 ((((((K2.trans K3).trans K4).trans K5).trans K6).trans K7).trans K8) (by rw [← p1]; exact upd_same) p2 (p4.step K8)
  · have ei : i = items.length := by omega
    subst ei
    rw [List.drop_length] at hgo
    refine .inl ⟨I1.stop _ H Ke, ?_⟩
    have kb : Kp G (Ow (And1 P a) e1 σ) (upd H1 a (.dK [])) (Ow (And1 P a) e (wipe σ vs)) H := by
      refine ⟨fun b o q n => ?_, fun q => Ke.hnd (q.keep fun b u hb r => by rwa [upd_ne (fun z => nPD (by rcases hb with y | y <;> rw [← z, y] <;> first | exact S.ph | exact S.pc))] at r)⟩
      have nb : b ≠ a := fun z => n (.inl (.inr z))
      rw [upd_ne nb] at q
      exact Ke.at_ b o q fun z => n (ow_mono (fun c y => .inl y) z)
    obtain ⟨Sb, Wb⟩ := Sim.backs (P := And1 P a) Sn Se hn hu kb
    have kw : Kp G (Ow (And1 P a) (backE e1 e vs) σ) H (Ow P (backE e1 e vs) σ) H := Kp.weak fun b z => ow_mono (fun c y => .inl y) z
    refine k (.d (.dct (ll.map keyD) zy)) (backE e1 e vs) (.ref a) H (Sb.drop1 S.ph S.pc) ((K1.trans (Ke.trans (Kp.weak Wb))).trans kw) (Rep.dct (fun z => ?_) hDe hll ((Re.step (Kp.weak Wb)).step kw)) hgo
    rcases z with z | ⟨j, xs, z1, z2⟩
    · exact nPD z
    · obtain ⟨b, h1, _, h4, _⟩ := Sb.own j xs z1
      rw [z2] at h1
      cases h1
      exact h4 (.inr rfl)
end
end LW
end S28_

section S29_
set_option maxRecDepth 100000
set_option maxHeartbeats 1000000
/-! Own layer, part 29: the rules by the text, for dicts and what is handed in. -/
namespace LW
open PySem PySem.Spec PyProof.Rows L2 RZ
section
variable {X : Cx}
theorem ps_setDc {i : Nat} {y : Str} {py : Pos} {kx vx tg iter : Expr} {ifs : List Expr} {scope : Scope} {own : List (Str × Nat)} {pos spos : Pos} {wi : TI} {g : TG} {tt : TT} {tk tv : TE} (hc : X.calm = true) (hN : X.N.Nodup) (hy : X.N[i]? = some y) (hyl : X.env.scope.names.lookup y = some .local)
    (hsw : swapsWith (.DictComp kx vx [⟨tg, iter, ifs, 0⟩] scope pos) (some (.Name y py)) spos.line X.env = pure true) (hi : PI X tg iter wi) (ok : BlkOk X.N X.env.scope scope own)
    (hg : ∀ (s : Shared) (H : Hp) (C : Addr) (cl : List (Str × Addr)) (fp : List Addr), PG (X.blk s H scope (compEnvC scope cl C X.env) fp) tg g) (ht : ∀ (s : Shared) (H : Hp) (C : Addr) (cl : List (Str × Addr)) (fp : List Addr), PTs (X.blk s H scope (compEnvC scope cl C X.env) fp) ifs tt)
    (hk : ∀ (s : Shared) (H : Hp) (C : Addr) (cl : List (Str × Addr)) (fp : List Addr), PE (X.blk s H scope (compEnvC scope cl C X.env) fp) kx tk)
    (he : ∀ (s : Shared) (H : Hp) (C : Addr) (cl : List (Str × Addr)) (fp : List Addr), PE (X.blk s H scope (compEnvC scope cl C X.env) fp) vx tv) (hs : ∀ x, foldedSetIterable iter X.env x = pure x := by intro _; rfl) :
    PS X (.Assign [.Name y py] (.DictComp kx vx [⟨tg, iter, ifs, 0⟩] scope pos) spos) (tAsg (tDc wi g tt tk tv (own.map (·.2))) (gName i)) := by
  refine ⟨fun pins s σ H D I h => ?_⟩
  rw [exec_Assign_Name_used _ _ _ _ hsw]
  refine wpAny_bind (wpAny_standAt (wpAny_bind ?_))
  show wpAny _ X.A (do let _ ← comprehension (.DictComp kx vx [⟨tg, iter, ifs, 0⟩] scope pos) scope X.env (firstIterPos [⟨tg, iter, ifs, 0⟩] pos) newDict false (eval iter X.env) (some (assign (.Name y py) X.env))) _ _ s
  have h : tDc wi g tt tk tv (own.map (·.2)) σ H (fun x H1 => gName i x σ H1 D.nx) := h
  refine wpAny_bind (thn (dc_core (Qf := fun _ s' => SP X pins D .next s') hc hN I hi ok hg ht hk he hs h fun L C s' m H' I' q hn f => ?_) fun _ s' hq => wpAny_pure (wpAny_pure hq))
  show wpAny _ _ (assign (.Name y py) X.env (.ref L)) _ _ _
  refine wpAny_assign_Name (store_ok2 (v := V.ref L) I' hN hy (.inl hyl) rfl (fun s2 I2 ⟨a, sb, ha⟩ => ?_) (.inr hyl))
  obtain ⟨f0, f1, f2, f3, f4, f5⟩ := f
  have haC : C ≠ a := by
    rcases ha with z | z
    · rw [z]; exact f1
    · exact fun e => f4 y a z e.symm
  refine ⟨m, hn.sameBut sb haC, fun h3 sb3 => ?_⟩
  exact ⟨_, H', I2.turned (t' := s2.toks) (fun b o hb e => (sb3.2 b hb).trans e) f0 f1 f3 f4 f5, q⟩
end
/-! builtins of several arguments -/
def AOk (G : Gx) (r : List V → Hp → VK → Prop) (f : List D → Option D) : Prop := ∀ (O : Addr → Prop) (H : Hp) (vs : List V) (ds : List D) (z : D) (Q' : VK), OD G O H → Reps G O H vs ds → f ds = some z → (∀ w H1, Kc G H H1 → Rep G O H1 w z → Q' w H1) → r vs H Q'
section
variable {G : Gx} {W : WX} {K : PySem.W.Frag}
theorem ge_argF {ta : TA} {as : WA} {r : List V → Hp → VK → Prop} {f : List D → Option D} (ha : GA G W ta as) (hr : AOk G r f) : GE G W (tCB r ta) (wArgF f as) := fun P H0 env σ H Q E Q' S h X k => by
  refine ha P H0 env σ H _ E _ S h X fun ds e1 vs H1 S1 K1 R1 h1 => ?_
  obtain ⟨z, e, h1⟩ := optP_of h1
  exact hr _ H1 vs ds z Q' S1.od R1 e fun w H2 kc r => k (.d z) e1 w H2 (S1.after kc) (K1.trans (S1.kp kc)) r h1
theorem reps2 {O : Addr → Prop} {H : Hp} {vs : List V} {i j : Int} (r : Reps G O H vs [.int i, .int j]) : vs = [.int i, .int j] := by
  cases r with
  | cons a t =>
    cases t with
    | cons b t =>
      cases t
      cases a
      cases b
      rfl
theorem reps3 {O : Addr → Prop} {H : Hp} {vs : List V} {i j k : Int} (r : Reps G O H vs [.int i, .int j, .int k]) : vs = [.int i, .int j, .int k] := by
  cases r with
  | cons a t =>
    cases a
    rw [reps2 t]
theorem aok_min2 : AOk G (fun xs H Q => ∃ i j, xs = [.int i, .int j] ∧ Q (.int (if j < i then j else i)) H) fMin2 := fun O H vs ds z Q' o r e k => by
  unfold fMin2 at e
  split at e
  · cases e
    exact ⟨_, _, reps2 r, k _ H .refl (.int _)⟩
  · cases e
theorem aok_max2 : AOk G (fun xs H Q => ∃ i j, xs = [.int i, .int j] ∧ Q (.int (if j > i then j else i)) H) fMax2 := fun O H vs ds z Q' o r e k => by
  unfold fMax2 at e
  split at e
  · cases e
    exact ⟨_, _, reps2 r, k _ H .refl (.int _)⟩
  · cases e
theorem nu_min2 (i j : Int) : nuMin2 (.int i) (.int j) = some (.int (min2 i j)) := by
  unfold nuMin2 min2
  by_cases h : j < i <;> simp [nuLt, nuCB, h]
theorem aok_min3 : AOk G (rNuC3 nuMin3) fMin3 := fun O H vs ds z Q' o r e k => by
  unfold fMin3 at e
  split at e
  · cases e
    refine ⟨_, _, _, _, reps3 r, ?_, k _ H .refl (.int _)⟩
    unfold nuMin3
    rw [nu_min2]
    exact nu_min2 _ _
  · cases e
/-! sorted, of a tuple too -/
section
open Srt SrtO
variable {prog : Program} {w : World} {A : Around} {E : Value → Shared → Prop} {s : Shared}
theorem gather_tup {l : Addr} {us : List Value} {Q : List Value → Shared → Prop} (ht : s.heap.IsTuple l us.toArray) (hz : us.length ≤ sizeLine)
    (fin : Q us { s with heap := (s.heap.push (seqObj "list" #[] 0)).update s.heap.objs.size (Obj.mapSeq (· ++ us.toArray)) }) : wpAny (model prog w) A (collect (.ref l)) Q E s := by
  obtain ⟨ob, g0, k0, n0, d0⟩ := id ht
  unfold collect
  refine wpAny_bind (wpAny_runValue (codeAny_builtin entry_proto_collect' ?_))
  show wpAny _ _ ((newList []) >>= fun x => again (.builtin "list.__iadd__" ⟨[x, .ref l], []⟩)) _ _ s
  refine wpAny_bind (wpAny_newList (wpAny_pure ⟨Code.quiet_builtin _ (by decide +kernel), codeAny_builtin entry_list_iadd' ?_⟩))
  show wpAny _ _ (Builtin.List.listExtendWith (.ref s.heap.objs.size) (.ref l) (.ref s.heap.objs.size)) _ _ ({ s with heap := s.heap.push (seqObj "list" #[] 0) } : Shared)
  unfold Builtin.List.listExtendWith
  have g1 := Heap.get?_push_of_some (seqObj "list" #[] 0) g0
  have gN : (s.heap.push (seqObj "list" #[] 0)).get? s.heap.objs.size = some (seqObj "list" #[] 0) := Heap.get?_push_size _ rfl
  refine wpAny_bind (wpAny_typeOf (T := "tuple") ⟨ob, g1, k0⟩ ?_)
  have hq : (Value.type "tuple" == Value.type "tuple") = true := by rfl
  rw [if_pos (by rw [hq, Bool.or_true])]
  refine wpAny_bind (listItems_at g1 d0 ?_)
  refine wpAny_bind (listItems_at gN rfl ?_)
  rw [if_neg (by simp)]
  refine wpAny_bind (listUpdate_at gN rfl ?_ (Nat.zero_le _) (by show (#[] ++ us.toArray).size ≤ sizeLine + 1; rw [Array.size_append, List.size_toArray]; show 0 + us.length ≤ _; omega))
  refine wpAny_pure ?_
  refine wpAny_bind (m := load s.heap.objs.size) (wpAny_load (get?_update_seq gN _) ?_)
  have e0 : ((#[] : Array Value) ++ us.toArray).toList = us := by simp
  show wpAny _ _ (pure ((#[] : Array Value) ++ us.toArray).toList) Q E _
  rw [e0]
  exact wpAny_pure fin
theorem sort_gathered {l : Addr} {us : List Value} {lt : Value → Value → Bool} {Q : Value → Shared → Prop} (O : Swo lt) (hz : us.length ≤ sizeLine)
    (hc : ∀ {A' : Around} {Q' : List Value → Shared → Prop}, Q' us { s with heap := (s.heap.push (seqObj "list" #[] 0)).update s.heap.objs.size (Obj.mapSeq (· ++ us.toArray)) } → wpAny (model prog w) A' (collect (.ref l)) Q' E s)
    (hS : 2 ≤ us.length → ∀ (h1 : Heap) (a : Addr), SortableO prog w A.in1.in1 { s with heap := h1 } a us lt)
    (fin : ∀ out : List Value, Srtd lt out → Stb lt out us → Q (.ref (s.heap.objs.size + 1)) { s with heap := sortedAll s.heap us out.toArray }) : wpAny (model prog w) A (call (.builtin "sorted") [.ref l]) Q E s := by
  refine Calls.call_function_entry kind_sorted plain_sorted entry_sorted (args_sorted1 _) ?_
  unfold Builtin.«sorted»
  refine wpAny_bind (m := checkCount "sorted" 1 1 _) (wpAny_pure ?_)
  refine wpAny_bind (hc ?_)
  refine wpAny_bind (wpAny_newList ?_ hz)
  obtain ⟨h2, e2⟩ : ∃ h2, h2 = (s.heap.push (seqObj "list" #[] 0)).update s.heap.objs.size (Obj.mapSeq (· ++ us.toArray)) := ⟨_, rfl⟩
  have z2 : h2.objs.size = s.heap.objs.size + 1 := by rw [e2, Heap.size_update, size_push']
  have gL : (h2.push (seqObj "list" us.toArray 0)).get? (s.heap.objs.size + 1) = some (seqObj "list" us.toArray 0) := by rw [← z2]; exact Heap.get?_push_size _ rfl
  rw [← e2]
  show wpAny _ _ _ _ _ ({ s with heap := h2.push (seqObj "list" us.toArray 0) } : Shared)
  rw [z2]
  refine wpAny_bind (wpAny_holding (wpAny_call_entry slot_list_sort ⟨_, gL, rfl⟩ entry_list_sort (list_sort_ord O gL hz (fun q => hS q _ _) fun out q1 q2 => ⟨_, rfl, ?_⟩) (args_list_sort _)))
  refine wpAny_pure ⟨_, rfl, ?_⟩
  have := fin out q1 q2
  unfold sortedAll at this
  rw [e2]
  exact this
end
/-- sorted(xs), ints, a list or a tuple -/
def rSortedQ (K : PySem.W.Frag) : List V → Hp → VK → Prop := fun vs H Q => ∃ (a : Addr) (ns : List Int), vs = [V.ref a] ∧ SqI K H a ns ∧
  ∀ (ms : List Int) (p : Addr), ms.Perm ns → ms.Pairwise (· ≤ ·) → H p = none → Q (.ref p) (upd H p (.lst (ms.map V.int)))
theorem cr_sortedQ {X : Cx} : CallR X (.builtin "sorted") (rSortedQ X.K) := by
  intro pins s σ H vs us Q I r h
  obtain ⟨a, ns, rfl, hs, q⟩ := h
  have hz : ns.length ≤ sizeLine := by
    rcases hs with hs | hs
    · obtain ⟨_, _, _, z⟩ := I.list hs
      rwa [List.length_map] at z
    · obtain ⟨_, _, _, z⟩ := I.tuple hs
      rwa [List.length_map] at z
  obtain ⟨its, hi, hl, hk⟩ := Inv.sqi I hs
  rw [Vals.ref1 r]
  refine sort_gathered SrtO.swo_int (by rw [hl]; exact hz) (fun {A'} {Q'} fin => ?_) (fun h2 h1 a' => SrtO.ints_sortable hi h2) fun out q1 q2 => ?_
  · rcases hk with hk | hk
    · exact collect_list hk fin (by rw [hl]; exact hz)
    · exact gather_tup hk (by rw [hl]; exact hz) fin
  · obtain ⟨k1, k2, k3⟩ := SrtO.ints_out hi q1 q2
    obtain ⟨ep, he⟩ := sortedAll_at s.heap its out.toArray
    have hn : ((out.map SrtO.iv).map V.int).length ≤ sizeLine := by rw [List.length_map, k2.length_eq]; exact hz
    refine ⟨.ref _, upd H (s.heap.objs.size + 1) (.lst ((out.map SrtO.iv).map V.int)), ?_, rfl, q _ _ k2 k3 (I.hok.fresh (Nat.le_succ _))⟩
    exact I.laid (t' := s.toks) (fun _ _ => sortedAll_old) (Nat.le_succ _) ⟨hn, out, ep, vals_of_ints k1, he⟩
/-! len(set(a)), integers -/
theorem cnt_nodup : ∀ (ns l : List Int), l.Nodup → (∀ k, k ∈ l ↔ k ∈ ns) → l.length = cnt ns
  | [], l, _, h => by
    cases l with
    | nil => rfl
    | cons x l => exact absurd ((h x).mp List.mem_cons_self) List.not_mem_nil
  | x :: ns, l, nd, h => by
    cases hc : ns.contains x with
    | true =>
      have hx : x ∈ ns := List.contains_iff_mem.mp hc
      have : cnt (x :: ns) = cnt ns := by
        show (match ns.contains x with | true => cnt ns | false => cnt ns + 1) = _
        rw [hc]
      rw [this]
      refine cnt_nodup ns l nd fun k => ⟨fun z => ?_, fun z => (h k).mpr (List.mem_cons_of_mem _ z)⟩
      rcases List.mem_cons.mp ((h k).mp z) with rfl | y
      · exact hx
      · exact y
    | false =>
      have hx : x ∉ ns := fun z => by rw [List.contains_iff_mem.mpr z] at hc; cases hc
      have : cnt (x :: ns) = cnt ns + 1 := by
        show (match ns.contains x with | true => cnt ns | false => cnt ns + 1) = _
        rw [hc]
      rw [this]
      have hm : x ∈ l := (h x).mpr List.mem_cons_self
      have := cnt_nodup ns (l.erase x) (nd.erase x) fun k => by
        rw [nd.mem_erase_iff, h k, List.mem_cons]
        constructor
        · rintro ⟨n, rfl | z⟩
          · exact absurd rfl n
          · exact z
        · intro z
          exact ⟨fun e => hx (e ▸ z), .inr z⟩
      rw [List.length_erase_of_mem hm] at this
      have : 0 < l.length := List.length_pos_of_mem hm
      omega
def tLenSetQ (K : PySem.W.Frag) (ta : TE) : TE := fun σ H Q => ta σ H fun x H1 => ∃ (l : Addr) (ns : List Int), x = V.ref l ∧ SqI K H1 l ns ∧ ns.length ≤ 1000 ∧ Q (.int (cnt ns)) H1
theorem pe_lenSetQ {X : Cx} {a : Expr} {ta : TE} {p p2 q pos : Pos} (hc : X.calm = true) (hg : Gl X "len") (hm : X.mg "len" = none) (hg2 : Gl X "set") (hm2 : X.mg "set" = none) (ha : PE X a ta) (na : starEach [a] X.env = (false, eval a X.env) :: starEach [] X.env := by rfl) :
    PE X (.Call (.Name "len" p) [.Call (.Name "set" p2) [a] [] q] [] pos) (tLenSetQ X.K ta) := by
  refine ⟨fun pins s σ H Q I h => ?_⟩
  refine Call_ (ld_blt I hg hm PySem.boot_len ?_)
  refine callWith_builtin1 (PyProof.Rows.args_cons ?_ rfl) rfl rfl
  refine Call_ (ld_blt I hg2 hm2 PyProof.Rows.boot_set ?_)
  refine callWith_type1 (PyProof.Rows.args_cons (thn (ha.run pins s σ H _ I h) fun v s1 q0 => PyProof.Rows.args_nil ?_) na) na rfl
  obtain ⟨x, H1, I1, r1, l, ns, rfl, hq, h0, q1⟩ := q0
  cases r1
  obtain ⟨us, hi, hz, hl⟩ := Inv.sqi I1 hq
  refine set_of_seq ns (I1.ok.hd hc) hl hi (by unfold scanBound; omega) fun h' tk c R hcl hk => ?_
  refine PyProof.Rows.args_nil ?_
  obtain ⟨o, es, ep, t, ho, hex, hd, _, nd, hS, hb, hf, hn, _⟩ := R
  have e1 : (es.toList.map keyOf).length = cnt ns := cnt_nodup ns _ nd fun k => by rw [← hS k]; simp
  have e2 : es.size = cnt ns := by rw [← e1, List.length_map, Array.length_toList]
  have I2 : L2.Inv X pins σ H1 { s1 with heap := h', toks := tk } := I1.kept fun b o e => hk b o e
  have e3 : cnt ns ≤ 1000 := by rw [← e2, hn]; omega
  exact call_len_set ho hex hd hf (by rw [e2] <;> omega) ⟨.int (cnt ns : Nat), H1, I2.tok _, ⟨_, by rw [e2]⟩, q1⟩
theorem ge_lenSet {te : TE} {a : WE} (ha : GE G W te a) : GE G W (tLenSetQ K te) (wUn fLenSet a) := fun P H0 env σ H Q E Q' S h X k => by
  refine ha P H0 env σ H _ E _ S h X fun r e1 v H1 S1 K1 R1 h1 => ?_
  obtain ⟨z, e, h1⟩ := optP_of h1
  obtain ⟨x, ex, e⟩ := bind_of e
  obtain ⟨ns, e0, e⟩ := bind_of e
  obtain ⟨b, rfl, hq⟩ := sqi_of (K := K) (S1.res R1 ex) e0
  split at e
  · rename_i hl
    cases e
    exact ⟨b, ns, rfl, hq, hl, k (.d (.int (cnt ns : Nat))) e1 _ H1 S1 K1 (.int _) h1⟩
  · cases e
theorem sql_of {O : Addr → Prop} {H : Hp} {v : V} {x : D} {ns : List Int} (rr : RepT G O H v x) (e : intsL x = some ns) : ∃ b, v = .ref b ∧ SqL K H b (ns.map V.int) := by
  cases x with
  | lst xs =>
    obtain ⟨b, vs, rfl, hb, rs⟩ := rr
    have hv := rs.ints e
    subst hv
    exact ⟨b, rfl, SqL.of hb⟩
  | _ => cases e
theorem ge_maxL {te : TE} {a : WE} (ha : GE G W te a) : GE G W (tCB (rMax K) (tCons te tNil)) (wMaxL a) := fun P H0 env σ H Q E Q' S h X k => by
  refine ha P H0 env σ H _ E _ S h X fun r e1 v H1 S1 K1 R1 h1 => ?_
  obtain ⟨ns, e, h1⟩ := optP_of h1
  obtain ⟨x, ex, e⟩ := bind_of e
  obtain ⟨b, rfl, hq⟩ := sql_of (K := K) (S1.res R1 ex) e
  exact ⟨b, ns, rfl, hq, List.length_pos_iff.mpr h1.1, fun m hm hk => k (.d (.int m)) e1 _ H1 S1 K1 (.int _) (h1.2 m hm hk)⟩
theorem ge_minL {te : TE} {a : WE} (ha : GE G W te a) : GE G W (tCB (rMin K) (tCons te tNil)) (wMinL a) := fun P H0 env σ H Q E Q' S h X k => by
  refine ha P H0 env σ H _ E _ S h X fun r e1 v H1 S1 K1 R1 h1 => ?_
  obtain ⟨ns, e, h1⟩ := optP_of h1
  obtain ⟨x, ex, e⟩ := bind_of e
  obtain ⟨b, rfl, hq⟩ := sql_of (K := K) (S1.res R1 ex) e
  exact ⟨b, ns, rfl, hq, List.length_pos_iff.mpr h1.1, fun m hm hk => k (.d (.int m)) e1 _ H1 S1 K1 (.int _) (h1.2 m hm hk)⟩
theorem gf_sortI {te : TE} {a : WE} (ha : GE G W te a) : GF G W (tCB (rSortedQ K) (tCons te tNil)) (wSortI a) := fun P H0 env σ H Q E Q' S h X k => by
  refine ha P H0 env σ H _ E _ S h X fun r e1 v H1 S1 K1 R1 h1 => ?_
  obtain ⟨ns, e, h1⟩ := optP_of h1
  obtain ⟨x, ex, e⟩ := bind_of e
  obtain ⟨b, rfl, hq⟩ := sqi_of (K := K) (S1.res R1 ex) e
  refine ⟨b, ns, rfl, hq, fun ms p hp hs hn => ?_⟩
  obtain ⟨S2, K2⟩ := S1.new1 (o := .lst (ms.map V.int)) hn
  exact k _ e1 p _ _ S2 (K1.trans K2) upd_same (Reps.ofInts ms) (S1.fresh hn) (S1.fresh0 hn) (h1 ms hp hs)
end
section
variable {P : Program} {w : World} {K : PySem.W.Frag} {mg : Str → Option Value} {base : Heap} {n : Nat} {N : List Str} {sc : Scope} {fT : Bool} {W : WX} {XP : Cx → Prop} {C : Cl} {pos p p2 q : Pos} {e e2 e3 : Expr} {es : List Expr} {a b : WE} {as : WA}
theorem ce_min2 (B : Bd P w K mg base n N sc fT W XP) (hm : mg "min" = none) (ha : CA C W XP [e, e2] as) (hg : gloB sc "min" = true := by rfl) : CE C W XP (.Call (.Name "min" p) [e, e2] [] pos) (wArgF fMin2 as) :=
  let ⟨pl, ta, h1, h2⟩ := ha; ⟨tCB (fun xs H Q => ∃ i j, xs = [.int i, .int j] ∧ Q (.int (if j < i then j else i)) H) ta, fun X hX => pe_callB (call_min2 (B.c X hX)) (B.gl hg hX) (B.mv hm hX) boot_min (h1 X hX) (by decide) (by decide) (pl.1 _) (Pl.any pl.2), fun h c => ge_argF (h2 h c) aok_min2⟩
theorem ce_max2 (B : Bd P w K mg base n N sc fT W XP) (hm : mg "max" = none) (ha : CA C W XP [e, e2] as) (hg : gloB sc "max" = true := by rfl) : CE C W XP (.Call (.Name "max" p) [e, e2] [] pos) (wArgF fMax2 as) :=
  let ⟨pl, ta, h1, h2⟩ := ha; ⟨tCB (fun xs H Q => ∃ i j, xs = [.int i, .int j] ∧ Q (.int (if j > i then j else i)) H) ta, fun X hX => pe_callB (call_max2 (B.c X hX)) (B.gl hg hX) (B.mv hm hX) boot_max (h1 X hX) (by decide) (by decide) (pl.1 _) (Pl.any pl.2), fun h c => ge_argF (h2 h c) aok_max2⟩
theorem ce_min3 (B : Bd P w K mg base n N sc fT W XP) (hm : mg "min" = none) (ha : CA C W XP [e, e2, e3] as) (hg : gloB sc "min" = true := by rfl) : CE C W XP (.Call (.Name "min" p) [e, e2, e3] [] pos) (wArgF fMin3 as) :=
  let ⟨pl, ta, h1, h2⟩ := ha; ⟨tCB (rNuC3 nuMin3) ta, fun X hX => pe_callB (call_min3Nu (B.c X hX)) (B.gl hg hX) (B.mv hm hX) boot_min (h1 X hX) (by decide) (by decide) (pl.1 _) (Pl.any pl.2), fun h c => ge_argF (h2 h c) aok_min3⟩
theorem cf_sortI (B : Bd P w K mg base n N sc fT W XP) (hm : mg "sorted" = none) (h : CE C W XP e a) (hs : ∀ env : PySem.Env, starEach [e] env = (false, eval e env) :: starEach [] env := by intro _; rfl) (hg : gloB sc "sorted" = true := by rfl) : CF C W XP (.Call (.Name "sorted" p) [e] [] pos) (wSortI a) :=
  let ⟨te, h1, h2⟩ := h; ⟨tCB (rSortedQ K) (tCons te tNil), fun X hX => B.k X hX ▸ pe_callB cr_sortedQ (B.gl hg hX) (B.mv hm hX) boot_sorted (pa_cons (h1 X hX) pa_nil (hs _)) (by decide) (by decide) (hs _), fun h c => gf_sortI (h2 h c)⟩
theorem ce_maxL (B : Bd P w K mg base n N sc fT W XP) (hm : mg "max" = none) (h : CE C W XP e a) (hs : ∀ env : PySem.Env, starEach [e] env = (false, eval e env) :: starEach [] env := by intro _; rfl) (hg : gloB sc "max" = true := by rfl) : CE C W XP (.Call (.Name "max" p) [e] [] pos) (wMaxL a) :=
  let ⟨te, h1, h2⟩ := h; ⟨tCB (rMax K) (tCons te tNil), fun X hX => B.k X hX ▸ pe_callB (cr_max (B.c X hX)) (B.gl hg hX) (B.mv hm hX) boot_max (pa_cons (h1 X hX) pa_nil (hs _)) (by decide) (by decide) (hs _), fun h c => ge_maxL (h2 h c)⟩
theorem ce_minL (B : Bd P w K mg base n N sc fT W XP) (hm : mg "min" = none) (h : CE C W XP e a) (hs : ∀ env : PySem.Env, starEach [e] env = (false, eval e env) :: starEach [] env := by intro _; rfl) (hg : gloB sc "min" = true := by rfl) : CE C W XP (.Call (.Name "min" p) [e] [] pos) (wMinL a) :=
  let ⟨te, h1, h2⟩ := h; ⟨tCB (rMin K) (tCons te tNil), fun X hX => B.k X hX ▸ pe_callB (cr_min (B.c X hX)) (B.gl hg hX) (B.mv hm hX) boot_min (pa_cons (h1 X hX) pa_nil (hs _)) (by decide) (by decide) (hs _), fun h c => ge_minL (h2 h c)⟩
theorem ce_lenSet (B : Bd P w K mg base n N sc fT W XP) (hm : mg "len" = none) (hm2 : mg "set" = none) (h : CE C W XP e a) (hs : ∀ env : PySem.Env, starEach [e] env = (false, eval e env) :: starEach [] env := by intro _; rfl) (hg : gloB sc "len" = true := by rfl) (hg2 : gloB sc "set" = true := by rfl) :
    CE C W XP (.Call (.Name "len" p) [.Call (.Name "set" p2) [e] [] q] [] pos) (wUn fLenSet a) :=
  let ⟨te, h1, h2⟩ := h; ⟨tLenSetQ K te, fun X hX => B.k X hX ▸ pe_lenSetQ (B.c X hX) (B.gl hg hX) (B.mv hm hX) (B.gl hg2 hX) (B.mv hm2 hX) (h1 X hX) (hs _), fun h c => ge_lenSet (h2 h c)⟩
/-! dicts -/
/-- d[k] = e -/
theorem cs_putD (B : Bd P w K mg base n N sc fT W XP) (i : Nat) {nm : Str} {px : Pos} (h : CE C W XP e a) (h' : CE C W XP e2 b) (hN : N[i]? = some nm := by rfl) (hv : visB sc nm = true := by rfl)
    (ha : ∀ (env : PySem.Env) v, assign (.Subscript (.Name nm px) e2 p) env v = (do
      let ov ← holding [v] (eval (.Name nm px) env)
      let iv ← holding [v, ov] (eval e2 env)
      standAt p
      holding [v, ov, iv] (setItem ov iv v)
      release [v, ov, iv] []) := by intro _ _; rfl) (hs : ∀ (env : PySem.Env), swapsWithSole [.Subscript (.Name nm px) e2 p] e pos.line env = pure false := by intro _; rfl) (hw : ∀ env : PySem.Env, swappedStores [.Subscript (.Name nm px) e2 p] e env = pure none := by intro env; rfl)
    (hd : (nm == ("__debug__" : Str)) = false := by decide) (hcd : (nm == ("__classdict__" : Str)) = false := by decide) : CS C W XP (.Assign [.Subscript (.Name nm px) e2 p] e pos) (sPutD i b a) :=
  let ⟨_, h1, h2⟩ := h; let ⟨_, h3, h4⟩ := h'; ⟨_, fun X hX => ps_asg (h1 X hX) (pg_sub (pe_var (B.lk hN hX) (B.vis hv hX) hd hcd) (h3 X hX) (set_dict (by have := (B.r X hX).units; omega)) (ha _)) (hs _) (hw _), fun h c => gs_putD i (h2 h c) (h4 h c)⟩
/-- d = {} -/
theorem cs_newD (B : Bd P w K mg base n N sc fT W XP) (i : Nat) {nm : Str} (hN : N[i]? = some nm := by rfl) (hl : locB fT sc nm = true := by rfl) (hs : ∀ (env : PySem.Env), swapsWith (.Dict [] [] p2) (some (.Name nm p)) pos.line env = pure false := by intro _; rfl) : CS C W XP (.Assign [.Name nm p] (.Dict [] [] p2) pos) (sNewD i) :=
  ⟨_, fun X hX => ps_set (B.ndX hX) (B.lk hN hX) (B.loc hl hX).1 pe_dnewK (hs _) (B.loc hl hX).2, fun h c => gs_newD i⟩
/-- d.get(k) -/
theorem ce_getV (B : Bd P w K mg base n N sc fT W XP) (i : Nat) {x : Str} {px pa : Pos} (h : CE C W XP e a) (hN : N[i]? = some x := by rfl) (hv : visB sc x = true := by rfl) (hline : (pa.endLine == pos.line) = true := by rfl) (hs : ∀ env : PySem.Env, starEach [e] env = (false, eval e env) :: starEach [] env := by intro _; rfl) (hd : (x == ("__debug__" : Str)) = false := by decide) (hcd : (x == ("__classdict__" : Str)) = false := by decide) :
    CE C W XP (.Call (.Attribute (.Name x px) "get" pa) [e] [] pos) (wGetV i a) :=
  let ⟨te, h1, h2⟩ := h; ⟨tDGet1 (tVar i) te, fun X hX => pe_dget1 (by have := (B.r X hX).units; omega) (pe_var (B.lk hN hX) (B.vis hv hX) hd hcd) (h1 X hX) ⟨rfl, by rw [hs]; rfl, hline, by rw [hs]; rfl⟩, fun h c => ge_getV i (h2 h c)⟩
/-- {kx: vx for ..} -/
theorem ce_dc (B : Bd P w K mg base n N sc fT W XP) {kx vx tg iter : Expr} {ifs : List Expr} {scope : Scope} (own : List (Str × Nat)) {wi : WI} {kt : D → Env → Option Env} {wt : WT} {wk we : WE} {ss : List Nat} (hi : CI C W XP tg iter wi) (hg : CG C (XPb XP scope) tg kt ss) (ht : CTs C W0 (XPb XP scope) ifs wt) (hk : CE C W0 (XPb XP scope) kx wk) (he : CE C W0 (XPb XP scope) vx we)
    (ok : blkC N sc scope own = true := by decide +kernel) (hs : (ss.all fun j => (own.map (·.2)).contains j) = true := by rfl) (hf : ∀ (env : PySem.Env) x, foldedSetIterable iter env x = pure x := by intro _ _; rfl) : CE C W XP (.DictComp kx vx [⟨tg, iter, ifs, 0⟩] scope pos) (wDc wi kt wt wk we (own.map (·.2))) := by
  obtain ⟨ti, i1, i2⟩ := hi
  obtain ⟨g, g1, g2⟩ := hg
  obtain ⟨tt, t1, t2⟩ := ht
  obtain ⟨tk, k1, k2⟩ := hk
  obtain ⟨te, e1, e2⟩ := he
  refine ⟨_, fun X hX => pe_dc (B.c X hX) (B.ndX hX) (i1 X hX) (blkOk_by (by rw [B.n X hX, B.s X hX]; exact ok)) (fun s H D cl fp => g1 _ ⟨X, s, H, D, cl, fp, hX, rfl⟩) (fun s H D cl fp => t1 _ ⟨X, s, H, D, cl, fp, hX, rfl⟩) (fun s H D cl fp => k1 _ ⟨X, s, H, D, cl, fp, hX, rfl⟩) (fun s H D cl fp => e1 _ ⟨X, s, H, D, cl, fp, hX, rfl⟩) (hf _), fun h c => ge_dc (i2 h c) (g2 h c) (t2 h c) (k2 h c) (e2 h c) fun j hj => ?_⟩
  have := List.all_eq_true.mp hs j hj
  simpa using this
/-- name = {kx: vx for ..} -/
theorem cs_setDc (B : Bd P w K mg base n N sc fT W XP) (i : Nat) {nm : Str} {kx vx tg iter : Expr} {ifs : List Expr} {scope : Scope} (own : List (Str × Nat)) {wi : WI} {kt : D → Env → Option Env} {wt : WT} {wk we : WE} {ss : List Nat} (hi : CI C W XP tg iter wi) (hg : CG C (XPb XP scope) tg kt ss) (ht : CTs C W0 (XPb XP scope) ifs wt) (hk : CE C W0 (XPb XP scope) kx wk) (he : CE C W0 (XPb XP scope) vx we)
    (hN : N[i]? = some nm := by rfl) (hl : sc.names.lookup nm = some .local := by rfl) (hw : ∀ env : PySem.Env, env.scope = sc → swapsWith (.DictComp kx vx [⟨tg, iter, ifs, 0⟩] scope p2) (some (.Name nm p)) pos.line env = pure true := by intro env h; cases env; cases h; rfl)
    (ok : blkC N sc scope own = true := by decide +kernel) (hs : (ss.all fun j => (own.map (·.2)).contains j) = true := by rfl) (hf : ∀ (env : PySem.Env) x, foldedSetIterable iter env x = pure x := by intro _ _; rfl) : CS C W XP (.Assign [.Name nm p] (.DictComp kx vx [⟨tg, iter, ifs, 0⟩] scope p2) pos) (sSet i (wDc wi kt wt wk we (own.map (·.2)))) := by
  obtain ⟨ti, i1, i2⟩ := hi
  obtain ⟨g, g1, g2⟩ := hg
  obtain ⟨tt, t1, t2⟩ := ht
  obtain ⟨tk, k1, k2⟩ := hk
  obtain ⟨te, e1, e2⟩ := he
  refine ⟨_, fun X hX => ps_setDc (B.c X hX) (B.ndX hX) (B.lk hN hX) (by rw [B.s X hX]; exact hl) (hw _ (B.s X hX)) (i1 X hX) (blkOk_by (by rw [B.n X hX, B.s X hX]; exact ok)) (fun s H D cl fp => g1 _ ⟨X, s, H, D, cl, fp, hX, rfl⟩) (fun s H D cl fp => t1 _ ⟨X, s, H, D, cl, fp, hX, rfl⟩) (fun s H D cl fp => k1 _ ⟨X, s, H, D, cl, fp, hX, rfl⟩) (fun s H D cl fp => e1 _ ⟨X, s, H, D, cl, fp, hX, rfl⟩) (hf _), fun h c => gs_set i (ge_dc (i2 h c) (g2 h c) (t2 h c) (k2 h c) (e2 h c) fun j hj => ?_)⟩
  have := List.all_eq_true.mp hs j hj
  simpa using this
/-- name = [x for x in d if d[x] == h] -/
theorem cs_keysEq (B : Bd P w K mg base n N sc fT W XP) (l i j v : Nat) {nm x d hh : Str} {scope : Scope} {p3 p4 p5 p6 p7 p8 p9 p1 : Pos}
    (hl' : N[l]? = some nm := by rfl) (hi : N[i]? = some d := by rfl) (hj : N[j]? = some hh := by rfl) (hx : N[v]? = some x := by rfl) (hiv : (i == v) = false := by rfl) (hjv : (j == v) = false := by rfl)
    (hl : sc.names.lookup nm = some .local := by rfl) (vi : visB sc d = true := by rfl) (vi2 : visB (relS scope sc) d = true := by rfl) (vj2 : visB (relS scope sc) hh = true := by rfl) (vx2 : visB (relS scope sc) x = true := by rfl) (lx : locB false (relS scope sc) x = true := by rfl)
    (hw : ∀ env : PySem.Env, env.scope = sc → swapsWith (.ListComp (.Name x p3) [⟨.Name x p4, .Name d p5, [.Compare (.Subscript (.Name d p6) (.Name x p7) p8) [.Eq] [.Name hh p9] p1], 0⟩] scope p2) (some (.Name nm p)) pos.line env = pure true := by intro env h; cases env; cases h; rfl)
    (ok : blkC N sc scope [(x, v)] = true := by decide +kernel) (d1 : (d == ("__debug__" : Str)) = false := by decide) (d2 : (d == ("__classdict__" : Str)) = false := by decide) (d3 : (x == ("__debug__" : Str)) = false := by decide) (d4 : (x == ("__classdict__" : Str)) = false := by decide) (d5 : (hh == ("__debug__" : Str)) = false := by decide) (d6 : (hh == ("__classdict__" : Str)) = false := by decide) :
    CS C W XP (.Assign [.Name nm p] (.ListComp (.Name x p3) [⟨.Name x p4, .Name d p5, [.Compare (.Subscript (.Name d p6) (.Name x p7) p8) [.Eq] [.Name hh p9] p1], 0⟩] scope p2) pos) (sOwn l (wKeysEq i j v)) := by
  have B' := B.blk (W := W) scope
  refine ⟨tLock (tAsg (tLc (iKeys (tVar i)) (gName v) (tTest (tOp (rEqA K) (tOp (rIxU K) (tVar i) (tVar v)) (tVar j))) (tVar v) [v]) (gName l)), fun X hX => ?_, fun h c => ?_⟩
  · refine ps_lock (ps_setLc (own := [(x, v)]) (B.c X hX) (B.ndX hX) (B.lk hl' hX) (by rw [B.s X hX]; exact hl) (hw _ (B.s X hX)) (pi_keys (pe_var (B.lk hi hX) (B.vis vi hX) d1 d2)) (blkOk_by (by rw [B.n X hX, B.s X hX]; exact ok)) (fun s H Dd cl fp => ?_) (fun s H Dd cl fp => pts_one ?_) (fun s H Dd cl fp => ?_) (fun _ => rfl))
    · have hY : XPb XP scope (X.blk s H scope (compEnvC scope cl Dd X.env) fp) := ⟨X, s, H, Dd, cl, fp, hX, rfl⟩
      exact pg_name (B'.ndX hY) (B'.lk hx hY) (B'.loc lx hY).1 (B'.loc lx hY).2
    · have hY : XPb XP scope (X.blk s H scope (compEnvC scope cl Dd X.env) fp) := ⟨X, s, H, Dd, cl, fp, hX, rfl⟩
      exact pt_cmpR (B'.k _ hY ▸ op_eqA (B'.r _ hY)) (pe_ix (r := rIxU K) (B'.k _ hY ▸ ix_u (by have := (B'.r _ hY).units; omega)) (pe_var (B'.lk hi hY) (B'.vis vi2 hY) d1 d2) (pe_var (B'.lk hx hY) (B'.vis vx2 hY) d3 d4) (by exact fun _ _ => rfl)) (pe_var (B'.lk hj hY) (B'.vis vj2 hY) d5 d6) (nomark _)
    · have hY : XPb XP scope (X.blk s H scope (compEnvC scope cl Dd X.env) fp) := ⟨X, s, H, Dd, cl, fp, hX, rfl⟩
      exact pe_var (B'.lk hx hY) (B'.vis vx2 hY) d3 d4
  · exact gs_own l (gf_keysEq (K := K) hiv hjv)
/-- {d[x]: x for x in d} -/
theorem ce_inv (B : Bd P w K mg base n N sc fT W XP) (i v : Nat) {x d : Str} {scope : Scope} {p3 p4 p5 p6 p7 p8 : Pos} (hi : N[i]? = some d := by rfl) (hx : N[v]? = some x := by rfl) (hiv : (i == v) = false := by rfl)
    (vi : visB sc d = true := by rfl) (vi2 : visB (relS scope sc) d = true := by rfl) (vx2 : visB (relS scope sc) x = true := by rfl) (lx : locB false (relS scope sc) x = true := by rfl)
    (ok : blkC N sc scope [(x, v)] = true := by decide +kernel) (d1 : (d == ("__debug__" : Str)) = false := by decide) (d2 : (d == ("__classdict__" : Str)) = false := by decide) (d3 : (x == ("__debug__" : Str)) = false := by decide) (d4 : (x == ("__classdict__" : Str)) = false := by decide) :
    CE C W XP (.DictComp (.Subscript (.Name d p6) (.Name x p7) p8) (.Name x p3) [⟨.Name x p4, .Name d p5, [], 0⟩] scope pos) (wInv i v) := by
  have B' := B.blk (W := W) scope
  refine ⟨tLockE (tDc (iKeys (tVar i)) (gName v) tYes (tOp (rIxU K) (tVar i) (tVar v)) (tVar v) [v]), fun X hX => ?_, fun h c => ge_inv hiv⟩
  refine pe_lock (pe_dc (own := [(x, v)]) (B.c X hX) (B.ndX hX) (pi_keys (pe_var (B.lk hi hX) (B.vis vi hX) d1 d2)) (blkOk_by (by rw [B.n X hX, B.s X hX]; exact ok)) (fun s H Dd cl fp => ?_) (fun s H Dd cl fp => pts_nil) (fun s H Dd cl fp => ?_) (fun s H Dd cl fp => ?_) (fun _ => rfl))
  · have hY : XPb XP scope (X.blk s H scope (compEnvC scope cl Dd X.env) fp) := ⟨X, s, H, Dd, cl, fp, hX, rfl⟩
    exact pg_name (B'.ndX hY) (B'.lk hx hY) (B'.loc lx hY).1 (B'.loc lx hY).2
  · have hY : XPb XP scope (X.blk s H scope (compEnvC scope cl Dd X.env) fp) := ⟨X, s, H, Dd, cl, fp, hX, rfl⟩
    exact pe_ix (r := rIxU K) (B'.k _ hY ▸ ix_u (by have := (B'.r _ hY).units; omega)) (pe_var (B'.lk hi hY) (B'.vis vi2 hY) d1 d2) (pe_var (B'.lk hx hY) (B'.vis vx2 hY) d3 d4) (by exact fun _ _ => rfl)
  · have hY : XPb XP scope (X.blk s H scope (compEnvC scope cl Dd X.env) fp) := ⟨X, s, H, Dd, cl, fp, hX, rfl⟩
    exact pe_var (B'.lk hx hY) (B'.vis vx2 hY) d3 d4
/-! calls that hand objects in -/
def HasR (P : Program) (w : World) (K : PySem.W.Frag) (mg : Str → Option Value) (base : Heap) (C : Cl) (k : Nat) (x : Str) (ps : List Str) (ct : CtR) : Prop :=
  ∃ f fd, mg x = some (.ref f) ∧ PySem.W.keepIn K (.ref f) = true ∧ Binds K fd ps [] ∧ FnOk P w K mg base (L2.CX P w) k f fd ps (promR C ct)
def CAr (C : Cl) (W : WX) (XP : Cx → Prop) (es : List Expr) (ps : List Pa) (wa : WA) : Prop := Pl es ∧ ∃ ta, (∀ X, XP X → PA X es ta) ∧ Q2 C fun G => GAr G W ta ps wa
theorem car_nil : CAr C W XP [] [] wA0 := ⟨trivial, _, fun _ _ => pa_nil, fun _ _ => .nil⟩
theorem car_v {ps : List Pa} (h : CE C W XP e a) (hr : CAr C W XP es ps as) (hs : ∀ env : PySem.Env, starEach (e :: es) env = (false, eval e env) :: starEach es env := by intro _; rfl) : CAr C W XP (e :: es) (.v :: ps) (wA1 a as) :=
  let ⟨_, h1, h2⟩ := h; let ⟨h0, _, h3, h4⟩ := hr; ⟨⟨hs, h0⟩, _, fun X hX => pa_cons (h1 X hX) (h3 X hX) (hs _), fun h c => .v (h2 h c) (h4 h c)⟩
theorem car_r (B : Bd P w K mg base n N sc fT W XP) (i : Nat) {x : Str} {ps : List Pa} (hr : CAr C W XP es ps as) (hN : N[i]? = some x := by rfl) (hv : visB sc x = true := by rfl) (hd : (x == ("__debug__" : Str)) = false := by decide) (hcd : (x == ("__classdict__" : Str)) = false := by decide) : CAr C W XP (.Name x p :: es) (.r i :: ps) as :=
  let ⟨h0, _, h3, h4⟩ := hr; ⟨⟨fun _ => rfl, h0⟩, _, fun X hX => pa_cons (pe_var (B.lk hN hX) (B.vis hv hX) hd hcd) (h3 X hX) rfl, fun h c => .r i (h4 h c)⟩
theorem car_n : CAr C W XP [.Dict [] [] p] [.n] wA0 := ⟨⟨fun _ => rfl, trivial⟩, _, fun X hX => pa_cons pe_dnewK pa_nil rfl, fun _ _ => .n⟩
theorem ce_callR (B : Bd P w K mg base n N sc fT W XP) {k : Nat} {x : Str} {ps : List Str} {qs : List Pa} {ct : CtR} (H : HasR P w K mg base C k x ps ct) (ha : CAr C W XP (e :: es) qs as) (nd : (slotsR qs).Nodup := by decide) (hk : k ≤ n := by decide) (hg : gloB sc x = true := by rfl) (hd : (x == ("__debug__" : Str)) = false := by decide) : CE C W XP (.Call (.Name x p) (e :: es) [] pos) (wCallR ct qs as) := by
  obtain ⟨f, fd, m, kp, b, F⟩ := H
  obtain ⟨pl, ta, h1, h2⟩ := ha
  refine ⟨tCallS (promR C ct) (L2.WE W) ta, fun X hX => ?_, fun h c => ge_callR (h2 h c) nd⟩
  have z1 := B.k X hX
  have z2 := B.m X hX
  have z3 := B.p X hX
  have z4 := B.w X hX
  have z5 := B.b X hX
  subst z1 z2 z3 z4 z5
  exact pe_callS F ((B.r X hX).mono hk) (B.gl hg hX) m kp b (fun σ => passAt (B.t X hX) σ) (h1 X hX) hd (pl.1 _) (Pl.any pl.2)
theorem has_defR {x qual : Str} {params : Arguments} {body : List Stmt} {f : Addr} {fd : FuncData} {ps : List Str} {k : Nat} {wb : WS} {ct : CtR} (hm : mg x = some (.ref f)) (F : FunD K x qual params body sc [] [] f fd) (S : FnScope N ps sc) (bb : Binds K fd ps [])
    (hb : ∀ W, CSs C W (XPd P w K mg base k N sc W) body wb) (hl : ∀ ar q, ct ar q → ar.length = ps.length) (spec : ∀ ar q, ct ar q → fnR (N.length - ps.length) wb ar q) (hn : ps.length ≤ N.length := by decide) : HasR P w K mg base C (k + 1) x ps ct := by
  refine ⟨f, fd, hm, F.kp, bb, def_okR F S hl hn (fun X W h1 h2 h3 h4 h5 h6 h7 h8 h9 h10 h11 h12 h13 h14 => ?_) spec⟩
  obtain ⟨ts, a1, a2⟩ := hb W
  exact ⟨ts, a1 X ⟨h1, h2, h3, h4, h5, h6, h7, h8, h9, h12, h13, h14, h10, h11⟩, a2⟩
end
end LW
end S29_

section S30_
set_option maxRecDepth 100000
set_option maxHeartbeats 1000000
/-! Own layer, part 30: what the head is asked of exceptions without fields. -/
namespace LW
open PySem PySem.Spec PyProof.Rows L2 RZ
section
variable {P : Program} {w : World} {K : PySem.W.Frag} {mg : Str → Option Value} {base : Heap} {C : Cl}
def x0B (K : PySem.W.Frag) (x : Str) : Bool := PySem.W.excIn K (He.ga K x) He.veBase "ValueError.__new__" && (PySem.W.keepIn K (.ref (He.ga K x)) && (decide (PySem.W.subIn K (.ref (He.ga K x)) (.type "BaseException") = some true) && decide (PySem.W.typeIn K (.ref (He.ga K x)) = some (.type "type"))))
theorem x0B_ok {c : Nat} {x : Str} (h : x0B K x = true) (hc : C.ca c = He.ga K x) (hx : mg x = some (.ref (He.ga K x))) : HasX0 K mg C x c := by
  obtain ⟨h1, h⟩ := He.ba h
  obtain ⟨h2, h⟩ := He.ba h
  obtain ⟨h3, h4⟩ := He.ba h
  exact ⟨by rw [hc]; exact hx, by rw [hc]; exact h1, by rw [hc]; exact h2, by rw [hc]; exact of_decide_eq_true h3, by rw [hc]; exact of_decide_eq_true h4⟩
def excCB (K : PySem.W.Frag) (D : Addr) : Bool := He.eqO (PySem.W.findIn K (.ref D) "__getattribute__") (some (some (.builtin "BaseException.__getattribute__"))) && (He.eqO (PySem.W.findIn K (.ref D) "__getattr__") (some none) && (decide (PySem.W.subIn K (.ref D) (.type "BaseException") = some true) && (PySem.W.hasDictIn K D &&
  (He.eqO (PySem.W.findIn K (.ref D) "__class__") (some (some (.builtin "object.__class__"))) && (He.eqO (PySem.W.specialIn K (.builtin "object.__class__") "__get__") (some (some (.builtin "getset_descriptor.__get__"))) && (decide (PySem.W.takesIn K (.builtin "object.__class__") = some true) && decide (PySem.W.mroIn K D (.type "object") = some true)))))))
theorem excCB_ok {D : Addr} (h : excCB K D = true) : ExcC K D := by
  obtain ⟨h1, h⟩ := He.ba h
  obtain ⟨h2, h⟩ := He.ba h
  obtain ⟨h3, h⟩ := He.ba h
  obtain ⟨h4, h⟩ := He.ba h
  obtain ⟨h5, h⟩ := He.ba h
  obtain ⟨h6, h⟩ := He.ba h
  obtain ⟨h7, h8⟩ := He.ba h
  exact ⟨He.eqO_ok h1, He.eqO_ok h2, of_decide_eq_true h3, h4, He.eqO_ok h5, He.eqO_ok h6, of_decide_eq_true h7, of_decide_eq_true h8⟩
/-- the classes that «except x» catches -/
structure TryOk (K : PySem.W.Frag) (mg : Str → Option Value) (C : Cl) (x : Str) (c0 : Nat) (l : List Nat) : Prop where
  g : mg x = some (.ref (C.ca c0))
  ok : ∀ c ∈ l, CaOk K C (C.ca c0) c
theorem TryOk.on {x : Str} {c0 : Nat} {l m : List Nat} (T : TryOk K mg C x c0 l) (h : (m.all fun c => l.contains c) = true := by decide) : ∀ c, isC m c = true → CaOk K C (C.ca c0) c := fun c hc =>
  T.ok c (List.contains_iff_mem.mp (List.all_eq_true.mp h c (List.contains_iff_mem.mp hc)))
def tryB (K : PySem.W.Frag) (C : Cl) (x : Str) (l : List Nat) : Bool := l.all fun c => decide (PySem.W.exmOne K (.ref (C.ca c)) (.ref (He.ga K x)) = some true) && excCB K (C.ca c)
theorem tryB_ok {x : Str} {c0 : Nat} {l : List Nat} (h : tryB K C x l = true) (hc : C.ca c0 = He.ga K x) (hx : mg x = some (.ref (He.ga K x))) : TryOk K mg C x c0 l :=
  ⟨by rw [hc]; exact hx, fun c hm => by
    obtain ⟨h1, h2⟩ := He.ba (List.all_eq_true.mp h c hm)
    exact ⟨by rw [hc]; exact of_decide_eq_true h1, excCB_ok h2⟩⟩
theorem TryOk.ec {x : Str} {c0 : Nat} {l m : List Nat} (T : TryOk K mg C x c0 l) {c : Nat} (hc : isC m c = true) (h : (m.all fun c => l.contains c) = true := by decide) : ExcC K (C.ca c) := (T.on h c hc).e
/-- what isinstance(e, y) tells, e caught of one of the classes l; t: those below y -/
def IsYs (K : PySem.W.Frag) (mg : Str → Option Value) (C : Cl) (y : Str) (l t : List Nat) : Prop := ∀ c ∈ l, IsY K mg y (C.ca c) (isX c t)
theorem IsYs.on {y : Str} {l t m : List Nat} (T : IsYs K mg C y l t) {c : Nat} (hc : isC m c = true) (h : (m.all fun c => l.contains c) = true := by decide) : IsY K mg y (C.ca c) (isX c t) := T c (List.contains_iff_mem.mp (List.all_eq_true.mp h c (List.contains_iff_mem.mp hc)))
def isyB (K : PySem.W.Frag) (C : Cl) (v : Value) (l t : List Nat) : Bool := l.all fun c => decide (PySem.W.kitOne K (.ref (C.ca c)) v = some (isX c t))
theorem isyB_own {y : Str} {l t : List Nat} (h : isyB K C (.ref (He.ga K y)) l t = true) (hy : mg y = some (.ref (He.ga K y))) : IsYs K mg C y l t := fun c hc => ⟨.inl ⟨_, hy, of_decide_eq_true (List.all_eq_true.mp h c hc)⟩⟩
theorem isyB_boot {y : Str} {T : String} {l t : List Nat} (h : isyB K C (.type T) l t = true) (hy : mg y = none) (hb : bootBuiltins y = some (.type T)) (hn : y ≠ "__name__") : IsYs K mg C y l t := fun c hc => ⟨.inr ⟨T, hy, hb, hn, of_decide_eq_true (List.all_eq_true.mp h c hc)⟩⟩
theorem has_zero {sc : Scope} {N : List Str} {x qual : Str} {params : Arguments} {body : List Stmt} {f : Addr} {fd : FuncData} {ps : List Str} {k : Nat} {ct : Ct} (hm : mg x = some (.ref f)) (F : FunD K x qual params body sc [] [] f fd) (S : FnScope N ps sc) (bb : Binds K fd ps []) (hz : ∀ ds q e, ct ds q e → False) :
    Has P w K mg base C (k + 1) x ps ct := by
  refine ⟨f, fd, hm, F.kp, bb, F.ok S (fun vs H Q E h => ?_) (fun cdv A outer s H vs Q E hr h => ?_)⟩
  · obtain ⟨h, cc, Pa, ds, q, e, ph, pc, hd, r, hct, _⟩ := h
    exact (hz _ _ _ hct).elim
  · obtain ⟨h, cc, Pa, ds, q, e, ph, pc, hd, r, hct, _⟩ := h
    exact (hz _ _ _ hct).elim
theorem has_zeroR {sc : Scope} {N : List Str} {x qual : Str} {params : Arguments} {body : List Stmt} {f : Addr} {fd : FuncData} {ps : List Str} {k : Nat} {ct : CtR} (hm : mg x = some (.ref f)) (F : FunD K x qual params body sc [] [] f fd) (S : FnScope N ps sc) (bb : Binds K fd ps []) (hz : ∀ ar q, ct ar q → False) :
    HasR P w K mg base C (k + 1) x ps ct := by
  refine ⟨f, fd, hm, F.kp, bb, F.ok S (fun vs H Q E h => ?_) (fun cdv A outer s H vs Q E hr h => ?_)⟩
  · obtain ⟨_, _, _, _, _, _, _, _, _, _, _, hct, _⟩ := h
    exact (hz _ _ hct).elim
  · obtain ⟨_, _, _, _, _, _, _, _, _, _, _, hct, _⟩ := h
    exact (hz _ _ hct).elim
end
end LW
end S30_

section S31_
set_option maxRecDepth 100000
set_option maxHeartbeats 1000000
/-! Own layer, part 31: a comprehension's own name that an inner comprehension reads. -/
namespace LW
open PySem PySem.Spec PyProof.Rows L2 RZ
section
variable {P : Program} {w : World} {K : PySem.W.Frag} {mg : Str → Option Value} {base : Heap} {n : Nat} {N : List Str} {sc : Scope} {fT : Bool} {W : WX} {XP : Cx → Prop} {C : Cl} {pos : Pos}
def cellB (scope : Scope) (x : Str) : Bool := match scope.names.lookup x with
  | some .cell => true
  | _ => false
theorem cg_cell (B : Bd P w K mg base n N sc fT W XP) {scope : Scope} (i : Nat) {x : Str} (hN : N[i]? = some x := by rfl) (hc : cellB scope x = true := by rfl) (hl : cellB (relS scope sc) x = true := by rfl) : CG C (XPb XP scope) (.Name x pos) (kName i) [i] := by
  have h1 : scope.names.lookup x = some .cell := by
    unfold cellB at hc
    split at hc
    · assumption
    · cases hc
  have h2 : (relS scope sc).names.lookup x = some .cell := by
    unfold cellB at hl
    split at hl
    · assumption
    · cases hl
  have B' := B.blk (W := W) scope
  refine ⟨_, fun Y hY => ?_, fun _ _ => gg_name i⟩
  have es := B'.s Y hY
  refine pg_name (B'.ndX hY) (B'.lk hN hY) (.inr (by rw [es]; exact h2)) (.inl ?_)
  obtain ⟨X, s, H, D, cl, fp, hX, e⟩ := hY
  subst e
  show (scope.names.lookup x == some NameKind.cell) = true
  rw [h1]
  rfl
end
end LW
end S31_

section Mat_
set_option maxRecDepth 100000
/-! Plain law: dicts of integers, matchings, systems of beds, who comes in one behind another. -/
namespace Mt
open LW
/-! ### dicts of integers -/
abbrev AL := List (Int × Int)
def look : AL → Int → Option Int
  | [], _ => none
  | e :: r, i => if e.1 = i then some e.2 else look r i
def repl : AL → Int → Int → AL
  | [], _, _ => []
  | e :: r, i, z => (e.1, if e.1 = i then z else e.2) :: repl r i z
def put (f : AL) (i z : Int) : AL := if (look f i).isSome then repl f i z else f ++ [(i, z)]
def kD (f : AL) : List D := f.map fun p => .int p.1
def yD (f : AL) : List D := f.map fun p => .int p.2
def dD (f : AL) : D := .dct (kD f) (yD f)
def oD (f : AL) : Ob := .d (kD f) (yD f)
theorem look_ck : ∀ (f : AL) (i : Int), lookI (kD f) (yD f) i = (look f i).map D.int
  | [], i => rfl
  | e :: r, i => by
    have ih := look_ck r i
    by_cases h : e.1 = i
    · simp [kD, yD, look, lookI, isKey, h]
    · have hb : (e.1 == i) = false := by simpa using h
      simp only [kD, yD, List.map_cons, look, lookI, isKey, hb, if_neg h]
      exact ih
theorem has_ck : ∀ (f : AL) (i : Int), hasI (kD f) i = (look f i).isSome
  | [], i => rfl
  | e :: r, i => by
    have ih := has_ck r i
    by_cases h : e.1 = i
    · simp [kD, look, hasI, isKey, h]
    · have hb : (e.1 == i) = false := by simpa using h
      simp only [kD, List.map_cons, look, hasI, isKey, hb, if_neg h, Bool.false_or]
      exact ih
theorem repl_k : ∀ (f : AL) (i z : Int), kD (repl f i z) = kD f
  | [], _, _ => rfl
  | e :: r, i, z => by
    have ih := repl_k r i z
    simp only [kD] at ih
    simp only [repl, kD, List.map_cons, ih]
theorem repl_y : ∀ (f : AL) (i z : Int), replI (kD f) (yD f) i (.int z) = yD (repl f i z)
  | [], _, _ => rfl
  | e :: r, i, z => by
    have ih := repl_y r i z
    simp only [kD, yD] at ih
    by_cases h : e.1 = i
    · simp [repl, kD, yD, replI, isKey, h, ih]
    · have hb : (e.1 == i) = false := by simpa using h
      simp [repl, kD, yD, replI, isKey, hb, h, ih]
theorem put_k (f : AL) (i z : Int) : putKs (kD f) i = kD (put f i z) := by
  unfold putKs put
  rw [has_ck]
  cases h : (look f i).isSome with
  | true => simp [repl_k]
  | false => simp [kD]
theorem put_y (f : AL) (i z : Int) : putYs (kD f) (yD f) i (.int z) = yD (put f i z) := by
  unfold putYs put
  rw [has_ck]
  cases h : (look f i).isSome with
  | true => simp [repl_y]
  | false => simp [yD]
theorem look_repl : ∀ (f : AL) (i z j : Int), look (repl f i z) j = if i = j ∧ (look f i).isSome = true then some z else look f j
  | [], i, z, j => by simp [look, repl]
  | e :: r, i, z, j => by
    have ih := look_repl r i z j
    by_cases h : e.1 = i
    · by_cases q : i = j
      · subst q; simp [repl, look, h]
      · have : ¬ e.1 = j := fun y => q (h.symm.trans y)
        simp [repl, look, this, ih, q]
    · by_cases q : i = j
      · subst q
        simp [repl, look, h, ih]
      · by_cases y : e.1 = j
        · simp [repl, look, y, q, h]
          intro hh; exact absurd hh.symm (fun z => q (by rw [← z]))
        · simp [repl, look, y, q, ih]
theorem look_app : ∀ (f g : AL) (j : Int), look (f ++ g) j = match look f j with
    | some v => some v
    | none => look g j
  | [], g, j => rfl
  | e :: r, g, j => by
    have ih := look_app r g j
    by_cases h : e.1 = j
    · simp [look, h]
    · simp only [List.cons_append, look, if_neg h]
      exact ih
theorem look_put (f : AL) (i z j : Int) : look (put f i z) j = if i = j then some z else look f j := by
  unfold put
  cases h : (look f i).isSome with
  | true =>
    simp only [if_true]
    rw [look_repl]
    simp [h]
  | false =>
    have hn : look f i = none := by simpa using h
    simp only [Bool.false_eq_true, if_false]
    rw [look_app]
    by_cases q : i = j
    · subst q
      simp [hn, look]
    · simp only [look, if_neg q]
      cases look f j <;> rfl
def keys (f : AL) : List Int := f.map (·.1)
def vals (f : AL) : List Int := f.map (·.2)
theorem look_key : ∀ {f : AL} {i : Int}, (look f i).isSome = true ↔ i ∈ keys f
  | [], i => by simp [look, keys]
  | e :: r, i => by
    have ih := look_key (f := r) (i := i)
    by_cases h : e.1 = i
    · simp [look, keys, h]
    · have h' : ¬ i = e.1 := fun z => h z.symm
      simp only [look, keys, if_neg h, List.map_cons, List.mem_cons, h', false_or]
      exact ih
theorem look_none_key {f : AL} {i : Int} : look f i = none ↔ i ∉ keys f := by
  rw [← look_key]
  cases look f i <;> simp
theorem look_mem : ∀ {f : AL} {i v : Int}, look f i = some v → (i, v) ∈ f
  | e :: r, i, v, h => by
    by_cases q : e.1 = i
    · simp [look, q] at h
      subst h
      exact List.mem_cons.mpr (.inl (by rw [← q]))
    · simp only [look, if_neg q] at h
      exact List.mem_cons_of_mem _ (look_mem h)
theorem mem_look : ∀ {f : AL} {i v : Int}, (keys f).Nodup → (i, v) ∈ f → look f i = some v
  | e :: r, i, v, nd, h => by
    have nd := List.nodup_cons.mp (show (e.1 :: keys r).Nodup from nd)
    rcases List.mem_cons.mp h with z | z
    · rw [← z]; simp [look]
    · have : ¬ e.1 = i := fun y => nd.1 (by rw [y]; exact List.mem_map.mpr ⟨(i, v), z, rfl⟩)
      simp only [look, if_neg this]
      exact mem_look nd.2 z
theorem val_look {f : AL} (nd : (keys f).Nodup) {v : Int} : v ∈ vals f ↔ ∃ i, look f i = some v := by
  constructor
  · intro h
    obtain ⟨e, h1, h2⟩ := List.mem_map.mp h
    exact ⟨e.1, mem_look nd (by rw [← h2]; exact h1)⟩
  · rintro ⟨i, h⟩
    exact List.mem_map.mpr ⟨(i, v), look_mem h, rfl⟩
theorem repl_keys (f : AL) (i z : Int) : keys (repl f i z) = keys f := by
  induction f with
  | nil => rfl
  | cons e r ih =>
    simp only [keys] at ih
    simp [repl, keys, ih]
theorem put_keys (f : AL) (i z : Int) : keys (put f i z) = if (look f i).isSome = true then keys f else keys f ++ [i] := by
  unfold put
  split
  · exact repl_keys f i z
  · simp [keys]
theorem put_nd {f : AL} {i z : Int} (h : (keys f).Nodup) : (keys (put f i z)).Nodup := by
  rw [put_keys]
  split
  · exact h
  · rename_i q
    rw [List.nodup_append]
    exact ⟨h, by simp, fun a ha b hb => by
      rw [List.mem_singleton.mp hb]
      intro z
      subst z
      exact q (look_key.mpr ha)⟩
theorem keys_len (f : AL) : (keys f).length = f.length := by simp [keys]
theorem put_len (f : AL) (i z : Int) : (put f i z).length = if (look f i).isSome = true then f.length else f.length + 1 := by
  rw [← keys_len, put_keys]
  split <;> simp [keys]
theorem kD_len (f : AL) : (kD f).length = f.length := by simp [kD]
theorem keysEq_ck (f : AL) (h : Int) : ∀ (ks : List Int), (∀ k ∈ ks, k ∈ keys f) → keysEq (kD f) (yD f) h (ks.map D.int) = some ((ks.filter fun k => look f k == some h).map D.int)
  | [], _ => rfl
  | k :: ks, hk => by
    have ih := keysEq_ck f h ks fun x hx => hk x (List.mem_cons_of_mem _ hx)
    obtain ⟨v, hv⟩ := Option.isSome_iff_exists.mp (look_key.mpr (hk k List.mem_cons_self))
    simp only [List.map_cons, keysEq, look_ck, hv, Option.map_some, Option.bind_some, asInt, ih, List.filter_cons]
    by_cases q : v = h
    · simp [q]
    · have : (v == h) = false := by simpa using q
      simp [this, q]
theorem kD_keys (f : AL) : kD f = (keys f).map D.int := by simp [kD, keys]
/-! ### lists without twins -/
theorem nodup_sub {α : Type} [DecidableEq α] : ∀ {l m : List α}, l.Nodup → (∀ x ∈ l, x ∈ m) → l.length ≤ m.length
  | [], m, _, _ => Nat.zero_le _
  | x :: l, m, nd, h => by
    have nd := List.nodup_cons.mp nd
    have hx := h x List.mem_cons_self
    have := nodup_sub (l := l) (m := m.erase x) nd.2 fun y hy => (List.mem_erase_of_ne (fun z => nd.1 (by rw [← z]; exact hy))).mpr (h y (List.mem_cons_of_mem _ hy))
    rw [List.length_erase_of_mem hx] at this
    have : 0 < m.length := List.length_pos_of_mem hx
    simp only [List.length_cons]
    omega
theorem nodup_map {α β : Type} {f : α → β} : ∀ {l : List α}, l.Nodup → (∀ x ∈ l, ∀ y ∈ l, f x = f y → x = y) → (l.map f).Nodup
  | [], _, _ => by simp
  | x :: l, nd, h => by
    have nd := List.nodup_cons.mp nd
    rw [List.map_cons, List.nodup_cons]
    refine ⟨fun z => ?_, nodup_map nd.2 fun a ha b hb => h a (List.mem_cons_of_mem _ ha) b (List.mem_cons_of_mem _ hb)⟩
    obtain ⟨y, hy, e⟩ := List.mem_map.mp z
    have := h y (List.mem_cons_of_mem _ hy) x List.mem_cons_self e
    subst this
    exact nd.1 hy
/-! ### systems of beds -/
def Sdr (opt : Int → List Int) (ps : List Int) : Prop := ∃ a : Int → Int, (∀ p ∈ ps, a p ∈ opt p) ∧ ∀ p ∈ ps, ∀ q ∈ ps, a p = a q → p = q
theorem Sdr.mono {opt : Int → List Int} {ps qs : List Int} (h : Sdr opt ps) (s : ∀ q ∈ qs, q ∈ ps) : Sdr opt qs := by
  obtain ⟨a, h1, h2⟩ := h
  exact ⟨a, fun p hp => h1 p (s p hp), fun p hp q hq => h2 p (s p hp) q (s q hq)⟩
theorem Sdr.mono2 {opt opt' : Int → List Int} {ps : List Int} (h : Sdr opt ps) (s : ∀ p ∈ ps, ∀ b ∈ opt p, b ∈ opt' p) : Sdr opt' ps := by
  obtain ⟨a, h1, h2⟩ := h
  exact ⟨a, fun p hp => s p hp _ (h1 p hp), h2⟩
theorem no_sdr {opt : Int → List Int} {ps S B : List Int} (hS : S.Nodup) (hs : ∀ s ∈ S, s ∈ ps) (hB : ∀ s ∈ S, ∀ b ∈ opt s, b ∈ B) (hl : B.length < S.length) : ¬ Sdr opt ps := by
  rintro ⟨a, h1, h2⟩
  have := nodup_sub (l := S.map a) (m := B) (nodup_map hS fun x hx y hy => h2 x (hs x hx) y (hs y hy)) fun y hy => by
    obtain ⟨s, h3, rfl⟩ := List.mem_map.mp hy
    exact hB s h3 _ (h1 s (hs s h3))
  rw [List.length_map] at this
  omega
/-- a matching: beds to persons -/
structure Mat (opt : Int → List Int) (f : AL) : Prop where
  nd : (keys f).Nodup
  inj : ∀ b c p, look f b = some p → look f c = some p → b = c
  ok : ∀ b p, look f b = some p → b ∈ opt p
theorem Mat.nil {opt : Int → List Int} : Mat opt [] := ⟨by simp [keys], fun b c p h => by simp [look] at h, fun b p h => by simp [look] at h⟩
theorem Mat.vnd {opt : Int → List Int} {f : AL} (m : Mat opt f) : (vals f).Nodup := by
  have nd : f.Nodup := by
    have := m.nd
    unfold keys at this
    exact List.Pairwise.imp (fun h e => h (by rw [e])) (List.pairwise_map.mp this)
  exact nodup_map nd fun x hx y hy e => by
    have h1 := mem_look m.nd (show (x.1, x.2) ∈ f from hx)
    have h2 := mem_look m.nd (show (y.1, y.2) ∈ f from hy)
    have e1 : x.2 = y.2 := e
    rw [← e1] at h2
    exact Prod.ext (m.inj _ _ _ h1 h2) e1
theorem Mat.sdr {opt : Int → List Int} {f : AL} (m : Mat opt f) : Sdr opt (vals f) := by
  have h : ∀ p, p ∈ vals f → ∃ b, look f b = some p := fun p hp => (val_look m.nd).mp hp
  refine ⟨fun p => if hp : p ∈ vals f then Classical.choose (h p hp) else 0, fun p hp => ?_, fun p hp q hq e => ?_⟩
  · simp only [dif_pos hp]
    exact m.ok _ _ (Classical.choose_spec (h p hp))
  · simp only [dif_pos hp, dif_pos hq] at e
    have h1 := Classical.choose_spec (h p hp)
    have h2 := Classical.choose_spec (h q hq)
    rw [e, h2] at h1
    exact (Option.some.inj h1).symm
/-! ### who comes in, one behind another -/
open Classical in
noncomputable def grGo (opt : Int → List Int) : List Int → List Int → List Int
  | acc, [] => acc
  | acc, x :: xs => if Sdr opt (acc ++ [x]) then grGo opt (acc ++ [x]) xs else grGo opt acc xs
noncomputable def greedy (opt : Int → List Int) (ps : List Int) : List Int := grGo opt [] ps
theorem grGo_app (opt : Int → List Int) : ∀ (ps qs acc : List Int), grGo opt acc (ps ++ qs) = grGo opt (grGo opt acc ps) qs
  | [], _, _ => rfl
  | x :: ps, qs, acc => by
    simp only [List.cons_append, grGo]
    split
    · exact grGo_app opt ps qs _
    · exact grGo_app opt ps qs _
theorem greedy_in {opt : Int → List Int} {ps : List Int} {x : Int} (h : Sdr opt (greedy opt ps ++ [x])) : greedy opt (ps ++ [x]) = greedy opt ps ++ [x] := by
  unfold greedy at *
  rw [grGo_app]
  simp only [grGo, if_pos h]
theorem greedy_out {opt : Int → List Int} {ps : List Int} {x : Int} (h : ¬ Sdr opt (greedy opt ps ++ [x])) : greedy opt (ps ++ [x]) = greedy opt ps := by
  unfold greedy at *
  rw [grGo_app]
  simp only [grGo, if_neg h]
theorem grGo_sub {opt : Int → List Int} : ∀ {ps acc : List Int} {x : Int}, x ∈ grGo opt acc ps → x ∈ acc ∨ x ∈ ps
  | [], acc, x, h => .inl h
  | y :: ps, acc, x, h => by
    simp only [grGo] at h
    split at h
    · rcases grGo_sub h with z | z
      · rcases List.mem_append.mp z with w | w
        · exact .inl w
        · exact .inr (by rw [List.mem_singleton.mp w]; exact List.mem_cons_self)
      · exact .inr (List.mem_cons_of_mem _ z)
    · rcases grGo_sub h with z | z
      · exact .inl z
      · exact .inr (List.mem_cons_of_mem _ z)
theorem greedy_sub {opt : Int → List Int} {ps : List Int} {x : Int} (h : x ∈ greedy opt ps) : x ∈ ps := (grGo_sub h).elim (fun z => by cases z) id
theorem grGo_len {opt : Int → List Int} : ∀ {ps acc : List Int}, (grGo opt acc ps).length ≤ acc.length + ps.length
  | [], acc => Nat.le_refl _
  | y :: ps, acc => by
    simp only [grGo]
    split
    · have := grGo_len (opt := opt) (ps := ps) (acc := acc ++ [y])
      simp only [List.length_append, List.length_cons, List.length_nil] at this ⊢
      omega
    · have := grGo_len (opt := opt) (ps := ps) (acc := acc)
      simp only [List.length_cons]
      omega
theorem grGo_full {opt : Int → List Int} : ∀ {ps acc : List Int}, Sdr opt (acc ++ ps) → grGo opt acc ps = acc ++ ps
  | [], acc, _ => by simp [grGo]
  | y :: ps, acc, h => by
    have h1 : Sdr opt (acc ++ [y]) := h.mono fun q hq => by
      rcases List.mem_append.mp hq with z | z
      · exact List.mem_append.mpr (.inl z)
      · exact List.mem_append.mpr (.inr (by rw [List.mem_singleton.mp z]; exact List.mem_cons_self))
    simp only [grGo, if_pos h1]
    rw [grGo_full (by rw [List.append_assoc]; exact h)]
    simp
theorem grGo_all {opt : Int → List Int} : ∀ {ps acc : List Int}, Sdr opt acc → (grGo opt acc ps).length = acc.length + ps.length → Sdr opt (acc ++ ps)
  | [], acc, h, _ => by simpa using h
  | y :: ps, acc, h, e => by
    simp only [grGo] at e
    split at e
    · rename_i h1
      have := grGo_all (ps := ps) h1 (by rw [e]; simp; omega)
      rw [List.append_assoc] at this
      exact this
    · have := grGo_len (opt := opt) (ps := ps) (acc := acc)
      simp only [List.length_cons] at e
      omega
theorem sdr_nil {opt : Int → List Int} : Sdr opt [] := ⟨fun _ => 0, ⟨fun p hp => absurd hp List.not_mem_nil, fun p hp => absurd hp List.not_mem_nil⟩⟩
theorem greedy_iff {opt : Int → List Int} {ps : List Int} : (greedy opt ps).length = ps.length ↔ Sdr opt ps := by
  constructor
  · intro h
    have := grGo_all (opt := opt) (ps := ps) (acc := []) sdr_nil (by unfold greedy at h; rw [h]; simp)
    simpa using this
  · intro h
    unfold greedy
    rw [grGo_full (by simpa using h)]
    simp
open Classical in
noncomputable def sdrB (opt : Int → List Int) (ps : List Int) : Bool := decide (Sdr opt ps)
theorem sdrB_t {opt : Int → List Int} {ps : List Int} : sdrB opt ps = true ↔ Sdr opt ps := by simp [sdrB]
theorem sdrB_f {opt : Int → List Int} {ps : List Int} : sdrB opt ps = false ↔ ¬ Sdr opt ps := by simp [sdrB]
theorem sdrB_len {opt : Int → List Int} {ps : List Int} : decide (((greedy opt ps).length : Int) = (ps.length : Int)) = sdrB opt ps := by
  cases h : sdrB opt ps with
  | true =>
    have := greedy_iff.mpr (sdrB_t.mp h)
    simp [this]
  | false =>
    have : ¬ (greedy opt ps).length = ps.length := fun z => sdrB_f.mp h (greedy_iff.mp z)
    simp only [decide_eq_false_iff_not]
    omega
end Mt
end Mat_

section Mat2_
set_option maxRecDepth 100000
/-! Plain law: one comes in, others moving on: by layers, by depth. -/
namespace Mt
open LW
theorem perm_of {l m : List Int} (h1 : l.Nodup) (h2 : m.Nodup) (h : ∀ a, a ∈ l ↔ a ∈ m) : List.Perm l m := (List.perm_ext_iff_of_nodup h1 h2).mpr h
theorem app1_nd {l : List Int} {x : Int} (h : l.Nodup) (n : x ∉ l) : (l ++ [x]).Nodup := by
  rw [List.nodup_append]
  exact ⟨h, by simp, fun a ha b hb e => n (by rw [List.mem_singleton.mp hb] at e; rw [← e]; exact ha)⟩
/-! ### by layers -/
inductive Bfs (opt : Int → List Int) (f : AL) (p : Int) : AL → List Int → Prop
  | nil : Bfs opt f p [] [p]
  | step {c : AL} {met : List Int} {b q h : Int} (r : Bfs opt f p c met) (n : look c b = none) (m : look f b = some q) (hm : h ∈ met) (ho : b ∈ opt h) : Bfs opt f p (c ++ [(b, h)]) (met ++ [q])
section
variable {opt : Int → List Int} {f : AL} {p : Int} {c : AL} {met : List Int}
theorem Bfs.len (r : Bfs opt f p c met) : c.length + 1 = met.length := by
  induction r with
  | nil => rfl
  | step r n m hm ho ih => simp [ih]
theorem Bfs.key (r : Bfs opt f p c met) : ∀ {b : Int}, (look c b).isSome = true → ∃ q, look f b = some q ∧ q ∈ met := by
  induction r with
  | nil => intro b h; simp [look] at h
  | @step c met b q h r n m hm ho ih =>
    intro x hx
    rw [look_app] at hx
    cases e : look c x with
    | some y =>
      obtain ⟨q', h1, h2⟩ := ih (b := x) (by rw [e]; rfl)
      exact ⟨q', h1, List.mem_append.mpr (.inl h2)⟩
    | none =>
      rw [e] at hx
      by_cases z : b = x
      · subst z
        exact ⟨q, m, List.mem_append.mpr (.inr (List.mem_singleton.mpr rfl))⟩
      · simp [look, z] at hx
theorem Bfs.mem (r : Bfs opt f p c met) : ∀ {x : Int}, x ∈ met → x = p ∨ ∃ b, (look c b).isSome = true ∧ look f b = some x := by
  induction r with
  | nil => exact fun h => .inl (List.mem_singleton.mp h)
  | @step c met b q h r n m hm ho ih =>
    intro x hx
    rcases List.mem_append.mp hx with z | z
    · rcases ih z with y | ⟨b', y1, y2⟩
      · exact .inl y
      · refine .inr ⟨b', ?_, y2⟩
        rw [look_app]
        cases e : look c b' with
        | some _ => rfl
        | none => rw [e] at y1; cases y1
    · rw [List.mem_singleton.mp z]
      refine .inr ⟨b, ?_, m⟩
      rw [look_app, n]
      simp [look]
theorem Bfs.fst (r : Bfs opt f p c met) : p ∈ met := by
  induction r with
  | nil => exact List.mem_singleton.mpr rfl
  | step r n m hm ho ih => exact List.mem_append.mpr (.inl ih)
theorem Bfs.nd (r : Bfs opt f p c met) (M : Mat opt f) (hp : p ∉ vals f) : met.Nodup := by
  induction r with
  | nil => simp
  | @step c met b q h r n m hm ho ih =>
    refine app1_nd ih fun z => ?_
    rcases r.mem z with y | ⟨b', y1, y2⟩
    · exact hp (by rw [← y]; exact (val_look M.nd).mpr ⟨b, m⟩)
    · have := M.inj b b' q m y2
      subst this
      rw [n] at y1
      cases y1
theorem Bfs.back (r : Bfs opt f p c met) : ∀ {h : Int}, h ∈ met → h = p ∨ ∃ c1 met1 b1 h1 rest, Bfs opt f p c1 met1 ∧ look c1 b1 = none ∧ look f b1 = some h ∧ h1 ∈ met1 ∧ b1 ∈ opt h1 ∧ c = c1 ++ (b1, h1) :: rest := by
  induction r with
  | nil => exact fun h => .inl (List.mem_singleton.mp h)
  | @step c met b q h r n m hm ho ih =>
    intro x hx
    rcases List.mem_append.mp hx with z | z
    · rcases ih z with y | ⟨c1, met1, b1, h1, rest, a1, a2, a3, a4, a5, a6⟩
      · exact .inl y
      · exact .inr ⟨c1, met1, b1, h1, rest ++ [(b, h)], a1, a2, a3, a4, a5, by rw [a6]; simp⟩
    · rw [List.mem_singleton.mp z]
      exact .inr ⟨c, met, b, h, [], r, n, m, hm, ho, rfl⟩
/-- all the options of those met are met: these are too many -/
theorem Bfs.vain (r : Bfs opt f p c met) (M : Mat opt f) (hp : p ∉ vals f) (hc : ∀ h ∈ met, ∀ b ∈ opt h, (look c b).isSome = true) : ¬ Sdr opt (vals f ++ [p]) := by
  refine no_sdr (S := met) (B := keys c) (r.nd M hp) (fun s hs => ?_) (fun s hs b hb => look_key.mp (hc s hs b hb)) ?_
  · rcases r.mem hs with y | ⟨b, _, y⟩
    · exact List.mem_append.mpr (.inr (List.mem_singleton.mpr y))
    · exact List.mem_append.mpr (.inl ((val_look M.nd).mpr ⟨b, y⟩))
  · rw [keys_len, ← r.len]
    omega
end
/-- moving on, from the end of the way -/
structure Flip (opt : Int → List Int) (f : AL) (p : Int) (C : AL) (c : AL) (met : List Int) (h b : Int) (g : AL) : Prop where
  bf : Bfs opt f p c met
  hm : h ∈ met
  bo : b ∈ opt h
  bc : look c b = none
  cb : look C b = some h
  cc : ∀ x y, look c x = some y → look C x = some y
  nd : (keys g).Nodup
  ag : ∀ x, (look c x).isSome = true → look g x = look f x
  st : look g b ≠ some h
  inj : ∀ x y v, x ≠ b → y ≠ b → look g x = some v → look g y = some v → x = y
  ok : ∀ x v, x ≠ b → look g x = some v → x ∈ opt v
  vs : ∀ v, (∃ x, x ≠ b ∧ look g x = some v) ↔ v ∈ vals f
  ln : (put g b h).length = f.length + 1
section
variable {opt : Int → List Int} {f : AL} {p : Int} {C c : AL} {met : List Int} {h b : Int} {g : AL}
theorem Flip.start (M : Mat opt f) (r : Bfs opt f p c met) (hm : h ∈ met) (bo : b ∈ opt h) (bc : look c b = none) (bf : look f b = none) : Flip opt f p (c ++ [(b, h)]) c met h b f where
  bf := r
  hm := hm
  bo := bo
  bc := bc
  cb := by
    rw [look_app, bc]
    simp [look]
  cc := fun x y e => by
    rw [look_app, e]
  nd := M.nd
  ag := fun _ _ => rfl
  st := by
    rw [bf]
    exact fun z => nomatch z
  inj := fun x y v _ _ => M.inj x y v
  ok := fun x v _ => M.ok x v
  vs := fun v => by
    rw [val_look M.nd]
    exact ⟨fun ⟨x, _, e⟩ => ⟨x, e⟩, fun ⟨x, e⟩ => ⟨x, (fun z => by rw [z, bf] at e; cases e), e⟩⟩
  ln := by
    rw [put_len, bf]
    rfl
theorem Flip.mat (F : Flip opt f p C c met h b g) (hp : p ∉ vals f) (e : h = p) : Mat opt (put g b p) := by
  subst e
  have nv : ∀ x, x ≠ b → look g x ≠ some h := fun x hx z => hp ((F.vs h).mp ⟨x, hx, z⟩)
  refine ⟨put_nd F.nd, fun x y v h1 h2 => ?_, fun x v h1 => ?_⟩
  · rw [look_put] at h1 h2
    by_cases z1 : b = x <;> by_cases z2 : b = y
    · rw [← z1, z2]
    · rw [if_pos z1] at h1
      rw [if_neg z2] at h2
      cases h1
      exact absurd h2 (nv y fun z => z2 z.symm)
    · rw [if_pos z2] at h2
      rw [if_neg z1] at h1
      cases h2
      exact absurd h1 (nv x fun z => z1 z.symm)
    · rw [if_neg z1] at h1
      rw [if_neg z2] at h2
      exact F.inj x y v (fun z => z1 z.symm) (fun z => z2 z.symm) h1 h2
  · rw [look_put] at h1
    by_cases z : b = x
    · rw [if_pos z] at h1
      cases h1
      rw [← z]
      exact F.bo
    · rw [if_neg z] at h1
      exact F.ok x v (fun y => z y.symm) h1
theorem Flip.perm (F : Flip opt f p C c met h b g) (M : Mat opt f) (hp : p ∉ vals f) (e : h = p) : List.Perm (vals (put g b p)) (vals f ++ [p]) := by
  have M2 := F.mat hp e
  refine perm_of M2.vnd (app1_nd M.vnd hp) fun v => ?_
  rw [val_look M2.nd, List.mem_append, List.mem_singleton, ← F.vs]
  constructor
  · rintro ⟨x, hx⟩
    rw [look_put] at hx
    by_cases z : b = x
    · rw [if_pos z] at hx
      cases hx
      exact .inr rfl
    · rw [if_neg z] at hx
      exact .inl ⟨x, fun y => z y.symm, hx⟩
  · rintro (⟨x, h1, h2⟩ | rfl)
    · exact ⟨x, by rw [look_put, if_neg fun z => h1 z.symm]; exact h2⟩
    · exact ⟨b, by rw [look_put, if_pos rfl]⟩
theorem filter_one : ∀ {l : List Int} {q : Int → Bool} {x : Int}, l.Nodup → x ∈ l → (∀ y ∈ l, q y = true ↔ y = x) → l.filter q = [x]
  | y :: l, q, x, nd, hx, h => by
    have nd := List.nodup_cons.mp nd
    by_cases e : y = x
    · subst e
      have : l.filter q = [] := List.filter_eq_nil_iff.mpr fun z hz hq => nd.1 (by rw [← (h z (List.mem_cons_of_mem _ hz)).mp hq]; exact hz)
      rw [List.filter_cons, if_pos ((h y List.mem_cons_self).mpr rfl), this]
    · have hx' : x ∈ l := (List.mem_cons.mp hx).resolve_left fun z => e z.symm
      have : ¬ q y = true := fun z => e ((h y List.mem_cons_self).mp z)
      rw [List.filter_cons, if_neg this]
      exact filter_one nd.2 hx' fun z hz => h z (List.mem_cons_of_mem _ hz)
theorem Flip.next (F : Flip opt f p C c met h b g) (M : Mat opt f) (hp : p ∉ vals f) (e : h ≠ p) : ∃ b1 c1 met1 h1, (keys g).filter (fun k => look g k == some h) = [b1] ∧ Flip opt f p C c1 met1 h1 b1 (put g b h) ∧ c1.length < c.length := by
  rcases F.bf.back F.hm with z | ⟨c1, met1, b1, h1, rest, a1, a2, a3, a4, a5, a6⟩
  · exact absurd z e
  · have cb1 : look c b1 = some h1 := by
      rw [a6, look_app, a2]
      simp [look]
    have nb : b1 ≠ b := fun z => by
      rw [z, F.bc] at cb1
      cases cb1
    have gb1 : look g b1 = some h := by
      rw [F.ag b1 (by rw [cb1]; rfl)]
      exact a3
    have hn1 : h ∉ met1 := by
      have := (Bfs.step a1 a2 a3 a4 a5).nd M hp
      rw [List.nodup_append] at this
      exact fun z => this.2.2 h z h (List.mem_singleton.mpr rfl) rfl
    have lk : ∀ {x y}, look c1 x = some y → look c x = some y := fun {x y} q => by rw [a6, look_app, q]
    refine ⟨b1, c1, met1, h1, filter_one F.nd (look_key.mp (by rw [gb1]; rfl)) fun y hy => ?_, ?_, by rw [a6]; simp⟩
    · constructor
      · intro q
        have q : look g y = some h := by simpa using q
        by_cases z : y = b
        · subst z
          exact absurd q F.st
        · exact F.inj y b1 h z nb q gb1
      · intro q
        subst q
        simp [gb1]
    · refine ⟨a1, a4, a5, a2, F.cc _ _ cb1, fun x y q => F.cc _ _ (lk q), put_nd F.nd, fun x hx => ?_, ?_, fun x y v hx hy h1' h2' => ?_, fun x v hx h1' => ?_, fun v => ?_, ?_⟩
      · obtain ⟨y, hy⟩ := Option.isSome_iff_exists.mp hx
        have hc := lk hy
        have : ¬ b = x := fun z => by
          rw [← z, F.bc] at hc
          cases hc
        rw [look_put, if_neg this]
        exact F.ag x (by rw [hc]; rfl)
      · rw [look_put, if_neg (fun z => nb z.symm), gb1]
        intro z
        have : h = h1 := Option.some.inj z
        exact hn1 (by rw [this]; exact a4)
      · rw [look_put] at h1' h2'
        by_cases z1 : b = x <;> by_cases z2 : b = y
        · rw [← z1, z2]
        · rw [if_pos z1] at h1'
          rw [if_neg z2] at h2'
          cases h1'
          exact absurd (F.inj y b1 h (fun z => z2 z.symm) nb h2' gb1) hy
        · rw [if_pos z2] at h2'
          rw [if_neg z1] at h1'
          cases h2'
          exact absurd (F.inj x b1 h (fun z => z1 z.symm) nb h1' gb1) hx
        · rw [if_neg z1] at h1'
          rw [if_neg z2] at h2'
          exact F.inj x y v (fun z => z1 z.symm) (fun z => z2 z.symm) h1' h2'
      · rw [look_put] at h1'
        by_cases z : b = x
        · rw [if_pos z] at h1'
          cases h1'
          rw [← z]
          exact F.bo
        · rw [if_neg z] at h1'
          exact F.ok x v (fun y => z y.symm) h1'
      · rw [← F.vs]
        constructor
        · rintro ⟨x, hx, q⟩
          rw [look_put] at q
          by_cases z : b = x
          · rw [if_pos z] at q
            cases q
            exact ⟨b1, nb, gb1⟩
          · rw [if_neg z] at q
            exact ⟨x, fun y => z y.symm, q⟩
        · rintro ⟨x, hx, q⟩
          by_cases z : x = b1
          · subst z
            rw [gb1] at q
            cases q
            exact ⟨b, nb.symm, by rw [look_put, if_pos rfl]⟩
          · exact ⟨x, z, by rw [look_put, if_neg fun y => hx y.symm]; exact q⟩
      · rw [put_len]
        have : (look (put g b h) b1).isSome = true := by
          rw [look_put, if_neg (fun z => nb z.symm), gb1]
          rfl
        rw [if_pos this]
        exact F.ln
end
/-! ### by depth -/
structure Out (opt : Int → List Int) (M : AL) (ms : List Int) (x : Int) : Prop where
  nd : (keys M).Nodup
  inj : ∀ b c v, b ∉ ms → c ∉ ms → look M b = some v → look M c = some v → b = c
  ok : ∀ b v, look M b = some v → b ∈ opt v
  nx : ∀ b, b ∉ ms → look M b ≠ some x
structure Won (opt : Int → List Int) (M : AL) (ms : List Int) (x : Int) (M' : AL) (ms' : List Int) : Prop where
  nd : (keys M').Nodup
  inj : ∀ b c v, b ∉ ms → c ∉ ms → look M' b = some v → look M' c = some v → b = c
  ok : ∀ b v, look M' b = some v → b ∈ opt v
  kp : ∀ b, b ∈ ms → look M' b = look M b
  vs : ∀ v, (∃ b, b ∉ ms ∧ look M' b = some v) ↔ v = x ∨ ∃ b, b ∉ ms ∧ look M b = some v
  ln : M'.length = M.length + 1
/-- on the way: those asked so far, none of whom moved -/
structure Way (opt : Int → List Int) (M : AL) (ms : List Int) (mc : List Int) : Prop where
  sub : ∀ b, b ∈ ms → b ∈ mc
  nb : ∀ b, b ∈ mc → b ∉ ms → ∃ v, look M b = some v ∧ ∀ c ∈ opt v, c ∈ mc
section
variable {opt : Int → List Int} {M M' : AL} {ms mc m2 : List Int} {x y bed : Int}
theorem Way.refl : Way opt M ms ms := ⟨fun _ h => h, fun b h n => absurd h n⟩
theorem won_free (O : Out opt M ms x) (w : Way opt M ms mc) (nb : bed ∉ mc) (ho : bed ∈ opt x) (hf : look M bed = none) (m' : List Int) : Won opt M ms x (put M bed x) m' := by
  have nm : bed ∉ ms := fun z => nb (w.sub _ z)
  refine ⟨put_nd O.nd, fun b c v hb hc h1 h2 => ?_, fun b v h1 => ?_, fun b hb => ?_, fun v => ?_, ?_⟩
  · rw [look_put] at h1 h2
    by_cases z1 : bed = b <;> by_cases z2 : bed = c
    · rw [← z1, z2]
    · rw [if_pos z1] at h1
      rw [if_neg z2] at h2
      cases h1
      exact absurd h2 (O.nx c hc)
    · rw [if_pos z2] at h2
      rw [if_neg z1] at h1
      cases h2
      exact absurd h1 (O.nx b hb)
    · rw [if_neg z1] at h1
      rw [if_neg z2] at h2
      exact O.inj b c v hb hc h1 h2
  · rw [look_put] at h1
    by_cases z : bed = b
    · rw [if_pos z] at h1
      cases h1
      rw [← z]
      exact ho
    · rw [if_neg z] at h1
      exact O.ok b v h1
  · rw [look_put, if_neg fun z => nm (by rw [z]; exact hb)]
  · constructor
    · rintro ⟨b, hb, q⟩
      rw [look_put] at q
      by_cases z : bed = b
      · rw [if_pos z] at q
        cases q
        exact .inl rfl
      · rw [if_neg z] at q
        exact .inr ⟨b, hb, q⟩
    · rintro (rfl | ⟨b, hb, q⟩)
      · exact ⟨bed, nm, by rw [look_put, if_pos rfl]⟩
      · exact ⟨b, hb, by rw [look_put, if_neg fun z => by rw [z, q] at hf; cases hf]; exact q⟩
  · rw [put_len, hf]
    rfl
theorem not_mem1 {l : List Int} {b x : Int} : b ∉ l ++ [x] ↔ b ∉ l ∧ b ≠ x := by simp [List.mem_append, not_or]
theorem out_rec (O : Out opt M ms x) (w : Way opt M ms mc) (nb : bed ∉ mc) (hy : look M bed = some y) : Out opt M (mc ++ [bed]) y := by
  have nm : bed ∉ ms := fun z => nb (w.sub _ z)
  refine ⟨O.nd, fun b c v hb hc => O.inj b c v (fun z => (not_mem1.mp hb).1 (w.sub _ z)) (fun z => (not_mem1.mp hc).1 (w.sub _ z)), O.ok, fun b hb q => ?_⟩
  obtain ⟨h1, h2⟩ := not_mem1.mp hb
  exact h2 (O.inj b bed y (fun z => h1 (w.sub _ z)) nm q hy)
theorem won_rec (O : Out opt M ms x) (w : Way opt M ms mc) (nb : bed ∉ mc) (ho : bed ∈ opt x) (hy : look M bed = some y) (R : Won opt M (mc ++ [bed]) y M' m2) (m' : List Int) : Won opt M ms x (put M' bed x) m' := by
  have nm : bed ∉ ms := fun z => nb (w.sub _ z)
  have bm : bed ∈ mc ++ [bed] := by simp
  have xy : y ≠ x := fun z => O.nx bed nm (by rw [hy, z])
  have lb : look M' bed = some y := by rw [R.kp bed bm, hy]
  -- what stands outside ms, but at bed
  have old : ∀ b v, b ∉ ms → b ≠ bed → look M' b = some v → ∃ c, c ∉ ms ∧ look M c = some v := fun b v hb hne q => by
    by_cases z : b ∈ mc ++ [bed]
    · exact ⟨b, hb, by rw [← R.kp b z]; exact q⟩
    · rcases (R.vs v).mp ⟨b, z, q⟩ with e | ⟨c, hc, e⟩
      · exact ⟨bed, nm, by rw [hy, e]⟩
      · exact ⟨c, fun y => (not_mem1.mp hc).1 (w.sub _ y), e⟩
  have nx : ∀ b, b ∉ ms → b ≠ bed → look M' b ≠ some x := fun b hb hne q => by
    obtain ⟨c, hc, e⟩ := old b x hb hne q
    exact O.nx c hc e
  have mix : ∀ b c v, b ∉ mc ++ [bed] → c ∈ mc ++ [bed] → c ∉ ms → c ≠ bed → look M' b = some v → look M' c = some v → False := fun b c v hb hc hcm hcb h1 h2 => by
    rw [R.kp c hc] at h2
    rcases (R.vs v).mp ⟨b, hb, h1⟩ with e | ⟨d, hd, e⟩
    · subst e
      exact hcb (O.inj c bed v hcm nm h2 hy)
    · have := O.inj d c v (fun y => (not_mem1.mp hd).1 (w.sub _ y)) hcm e h2
      exact hd (by rw [this]; exact hc)
  refine ⟨put_nd R.nd, fun b c v hb hc h1 h2 => ?_, fun b v h1 => ?_, fun b hb => ?_, fun v => ?_, ?_⟩
  · rw [look_put] at h1 h2
    by_cases z1 : bed = b <;> by_cases z2 : bed = c
    · rw [← z1, z2]
    · rw [if_pos z1] at h1
      rw [if_neg z2] at h2
      cases h1
      exact absurd h2 (nx c hc fun z => z2 z.symm)
    · rw [if_pos z2] at h2
      rw [if_neg z1] at h1
      cases h2
      exact absurd h1 (nx b hb fun z => z1 z.symm)
    · rw [if_neg z1] at h1
      rw [if_neg z2] at h2
      by_cases y1 : b ∈ mc ++ [bed] <;> by_cases y2 : c ∈ mc ++ [bed]
      · rw [R.kp b y1] at h1
        rw [R.kp c y2] at h2
        exact O.inj b c v hb hc h1 h2
      · exact (mix c b v y2 y1 hb (fun z => z1 z.symm) h2 h1).elim
      · exact (mix b c v y1 y2 hc (fun z => z2 z.symm) h1 h2).elim
      · exact R.inj b c v y1 y2 h1 h2
  · rw [look_put] at h1
    by_cases z : bed = b
    · rw [if_pos z] at h1
      cases h1
      rw [← z]
      exact ho
    · rw [if_neg z] at h1
      exact R.ok b v h1
  · have : ¬ bed = b := fun z => nm (by rw [z]; exact hb)
    rw [look_put, if_neg this]
    exact R.kp b (List.mem_append.mpr (.inl (w.sub _ hb)))
  · constructor
    · rintro ⟨b, hb, q⟩
      rw [look_put] at q
      by_cases z : bed = b
      · rw [if_pos z] at q
        cases q
        exact .inl rfl
      · rw [if_neg z] at q
        exact .inr (old b v hb (fun y => z y.symm) q)
    · rintro (rfl | ⟨b, hb, q⟩)
      · exact ⟨bed, nm, by rw [look_put, if_pos rfl]⟩
      · have fin : ∀ d, d ∉ mc ++ [bed] → look M' d = some v → ∃ b, b ∉ ms ∧ look (put M' bed x) b = some v := fun d hd e => by
          obtain ⟨h1, h2⟩ := not_mem1.mp hd
          exact ⟨d, fun z => h1 (w.sub _ z), by rw [look_put, if_neg fun z => h2 z.symm]; exact e⟩
        by_cases z : b = bed
        · subst z
          rw [hy] at q
          cases q
          obtain ⟨d, hd, e⟩ := (R.vs y).mpr (.inl rfl)
          exact fin d hd e
        · by_cases y1 : b ∈ mc ++ [bed]
          · exact ⟨b, hb, by rw [look_put, if_neg fun w => z w.symm, R.kp b y1]; exact q⟩
          · obtain ⟨d, hd, e⟩ := (R.vs v).mpr (.inr ⟨b, y1, q⟩)
            exact fin d hd e
  · rw [put_len, lb]
    exact R.ln
/-- nobody moved: all the options of y are met -/
theorem way_rec (w : Way opt M ms mc) (hy : look M bed = some y) (R : Way opt M (mc ++ [bed]) m2) (cl : ∀ c ∈ opt y, c ∈ m2) : Way opt M ms m2 := by
  refine ⟨fun b hb => R.sub b (List.mem_append.mpr (.inl (w.sub b hb))), fun b hb hn => ?_⟩
  by_cases z : b ∈ mc ++ [bed]
  · rcases List.mem_append.mp z with q | q
    · obtain ⟨v, h1, h2⟩ := w.nb b q hn
      exact ⟨v, h1, fun c hc => R.sub c (List.mem_append.mpr (.inl (h2 c hc)))⟩
    · rw [List.mem_singleton.mp q]
      exact ⟨y, hy, cl⟩
  · exact R.nb b hb z
theorem Mat.out (m : Mat opt M) (hx : x ∉ vals M) : Out opt M [] x := ⟨m.nd, fun b c v _ _ => m.inj b c v, m.ok, fun b _ q => hx ((val_look m.nd).mpr ⟨b, q⟩)⟩
theorem Won.mat (w : Won opt M [] x M' m2) : Mat opt M' := ⟨w.nd, fun b c v => w.inj b c v List.not_mem_nil List.not_mem_nil, w.ok⟩
theorem Won.perm (w : Won opt M [] x M' m2) (m : Mat opt M) (hx : x ∉ vals M) : List.Perm (vals M') (vals M ++ [x]) := by
  refine perm_of w.mat.vnd (app1_nd m.vnd hx) fun v => ?_
  rw [val_look w.nd, List.mem_append, List.mem_singleton, val_look m.nd]
  have := w.vs v
  simp only [List.not_mem_nil, not_false_eq_true, true_and] at this
  rw [this]
  exact Or.comm
theorem Way.vain (w : Way opt M [] mc) (m : Mat opt M) (hx : x ∉ vals M) (nd : mc.Nodup) (cl : ∀ c ∈ opt x, c ∈ mc) : ¬ Sdr opt (vals M ++ [x]) := by
  have g : ∀ b ∈ mc, ∃ v, look M b = some v ∧ ∀ c ∈ opt v, c ∈ mc := fun b hb => w.nb b hb List.not_mem_nil
  have hv : ∀ b ∈ mc, look M b = some ((look M b).getD 0) := fun b hb => by
    obtain ⟨v, h1, _⟩ := g b hb
    rw [h1]
    rfl
  have nd2 : (mc.map fun b => (look M b).getD 0).Nodup := nodup_map nd fun b hb c hc e => m.inj b c _ (hv b hb) (by rw [hv c hc, e])
  have vin : ∀ s ∈ mc.map fun b => (look M b).getD 0, s ∈ vals M := fun s hs => by
    obtain ⟨b, hb, rfl⟩ := List.mem_map.mp hs
    exact (val_look m.nd).mpr ⟨b, hv b hb⟩
  refine no_sdr (S := x :: mc.map fun b => (look M b).getD 0) (B := mc) (List.nodup_cons.mpr ⟨fun z => hx (vin x z), nd2⟩) (fun s hs => ?_) (fun s hs b hb => ?_) (by simp)
  · rcases List.mem_cons.mp hs with z | z
    · exact List.mem_append.mpr (.inr (List.mem_singleton.mpr z))
    · exact List.mem_append.mpr (.inl (vin s z))
  · rcases List.mem_cons.mp hs with z | z
    · subst z
      exact cl b hb
    · obtain ⟨c, hc, rfl⟩ := List.mem_map.mp z
      obtain ⟨v, h1, h2⟩ := g c hc
      rw [h1] at hb
      exact h2 b hb
end
end Mt
end Mat2_

section Mtc_
set_option maxRecDepth 100000
namespace Mt
open LW
/-! contracts -/
def isW (x : D) (lo hi : Int) : Bool := match x with
  | .int i => decide (lo ≤ i) && decide (i ≤ hi)
  | _ => false
def noObj : D → Bool
  | .obj c _ => c == 0
  | _ => true
def below (x : D) (m : Int) : Bool := match x with
  | .tup xs => xs.all fun y => isW y 0 (m - 1)
  | _ => false
def incrI : List Int → Bool
  | a :: b :: r => decide (a < b) && incrI (b :: r)
  | _ => true
def intsD' (xs : List D) : List Int := xs.map fun | .int i => i | _ => 0
def isRow (x : D) (m : Int) : Bool := match x with
  | .tup xs => below x m && incrI (intsD' xs)
  | _ => false
def goodRow (x : D) : Bool := noObj x && match x with
  | .tup xs => xs.all noObj && decide (xs.length ≤ 1000)
  | _ => true
def goodF (x : D) : Bool := noObj x && match x with
  | .tup xs => xs.all goodRow && decide (xs.length ≤ 1000)
  | _ => true
def judgeGo (b : Int) : Nat → List D → Option Nat
  | _, [] => none
  | k, r :: rs => if k ≥ 24 ∨ isRow r b = false then some k else judgeGo b (k + 1) rs
abbrev sBeds : List Nat := [98, 101, 100, 115]
abbrev sFits : List Nat := [102, 105, 116, 115]
def judge (beds fits : D) : Option (List Nat × Int) := match beds with
  | .int b => if 0 ≤ b ∧ b ≤ 24 then (match fits with
    | .tup rows => (judgeGo b 0 rows).map fun k => (sFits, (k : Int))
    | _ => some (sFits, -1)) else some (sBeds, -1)
  | _ => some (sBeds, -1)
def lenD : D → D
  | .tup rows => .int rows.length
  | _ => .non
mutual
def sOk : D → Bool
  | .non => true | .int _ => true | .str _ => true | .bl _ => true
  | .tup xs => decide (xs.length ≤ 1000) && sOks xs
  | .lst xs => decide (xs.length ≤ 1000) && sOks xs
  | _ => false
def sOks : List D → Bool
  | [] => true
  | x :: xs => sOk x && sOks xs
end
def ct_is_integer : Ct := fun ds q _ => ∃ x, ds = [x] ∧ noObj x = true ∧ q (.bl (match x with | .int _ => true | _ => false))
def ct_is_within : Ct := fun ds q _ => ∃ x lo hi, ds = [x, .int lo, .int hi] ∧ noObj x = true ∧ q (.bl (isW x lo hi))
def ct_are_below : Ct := fun ds q _ => ∃ x m, ds = [x, .int m] ∧ goodRow x = true ∧ q (.bl (below x m))
def ct_is_row : Ct := fun ds q _ => ∃ x m, ds = [x, .int m] ∧ goodRow x = true ∧ q (.bl (isRow x m))
def ct_House : Ct := fun ds q e => ∃ b f, ds = [b, f] ∧ noObj b = true ∧ goodF f = true ∧ (match judge b f with
  | none => q (.obj 0 [b, f, lenD f])
  | some p => e (.obj 1 [.str p.1, .int p.2]))
def ct__law_draw : Ct := fun ds q _ => ∃ m : Int, ds = [.hand, .int m] ∧ 0 < m ∧ m < 1073741824 ∧ ∀ d : Int, 0 ≤ d → d < m → q (.int d)
def ct__law_any : Ct := fun ds q _ => ∃ x xs, ds = [.hand, x] ∧ seqOf x = some xs ∧ xs ≠ [] ∧ xs.length ≤ 1000 ∧ ∀ y ∈ xs, q y
def ct__law_mixed : Ct := fun ds q _ => ∃ x xs, ds = [.hand, x] ∧ seqOf x = some xs ∧ xs.length ≤ 1000 ∧ ∀ ys, List.Perm ys xs → q (.lst ys)
def ct__law_same (m : Nat) : Ct := fun ds q _ => ∃ x, ds = [x, x] ∧ sOk x = true ∧ dep x < m ∧ q (.bl true)
/-! houses, rows -/
def rowD (r : List Int) : D := .tup (r.map .int)
def rowsD (rows : List (List Int)) : List D := rows.map rowD
def hD (b : Int) (rows : List (List Int)) : D := .obj 0 [.int b, .tup (rowsD rows), .int rows.length]
def hT (b : Int) (rows : List (List Int)) : D := .tup [.int b, .tup (rowsD rows)]
structure HOk (b : Int) (rows : List (List Int)) : Prop where
  b0 : 0 ≤ b
  b1 : b ≤ 24
  n : rows.length ≤ 24
  inc : ∀ r ∈ rows, r.Pairwise (· < ·)
  rng : ∀ r ∈ rows, ∀ x ∈ r, 0 ≤ x ∧ x < b
structure SOk (some : List Int) (n : Nat) : Prop where
  inc : some.Pairwise (· < ·)
  rng : ∀ x ∈ some, 0 ≤ x ∧ x < n
  len : some.length ≤ 24
def optR (rows : List (List Int)) (p : Int) : List Int := (rows[p.toNat]?).getD []
def optX (opt : Int → List Int) (beds : List Int) (p : Int) : List Int := (opt p).filter fun x => !(beds.contains x)
def OptOk (o : D) (opt : Int → List Int) (ps : List Int) : Prop := ∀ p ∈ ps, ∃ x, fIx o (.int p) = some x ∧ seqOf x = some ((opt p).map .int) ∧ (opt p).length ≤ 1000
def swapA (f : AL) : AL := f.map fun e => (e.2, e.1)
def lodgAt (f : AL) (i : Int) : D := match look (swapA f) i with
  | some b => .int b
  | none => .non
def lodgD (n : Nat) (f : AL) : D := .tup ((List.range n).map fun (i : Nat) => lodgAt f i)
def upto (n : Nat) : List Int := (List.range n).map fun (i : Nat) => (i : Int)
noncomputable def need (b : Int) (rows : List (List Int)) (some : List Int) : List Int := (upto b.toNat).filter fun x => !sdrB (optX (optR rows) [x]) some
/-! contracts: the program -/
def ct_check_house : Ct := fun ds q _ => ∃ xs, ds = [.obj 0 xs] ∧ q .non
def ct_check_some : Ct := fun ds q _ => ∃ b rows some, ds = [hD b rows, rowD some] ∧ SOk some rows.length ∧ q .non
def ct_moved_on : CtR := fun ar q => ∃ opt f p C c met h b, ar = [.inl (dD C), .inr (oD f), .inl (.int b), .inl (.int p)] ∧ Mat opt f ∧ p ∉ vals f ∧ Flip opt f p C c met h b f ∧ f.length ≤ 500 ∧ ∀ g, Mat opt g → List.Perm (vals g) (vals f ++ [p]) → g.length = f.length + 1 → q .non [oD g]
def ct_improved : CtR := fun ar q => ∃ o opt f p, ar = [.inl o, .inr (oD f), .inl (.int p)] ∧ Mat opt f ∧ p ∉ vals f ∧ OptOk o opt (vals f ++ [p]) ∧ f.length ≤ 500 ∧
  (∀ g, Mat opt g → List.Perm (vals g) (vals f ++ [p]) → g.length = f.length + 1 → q (.lst []) [oD g]) ∧
  ∀ met : List Int, met ≠ [] → met.length ≤ 1000 → ¬ Sdr opt (vals f ++ [p]) → q (.lst (met.map .int)) [oD f]
def vainD (vs : List (List Int)) : D := .lst (vs.map fun v => .lst (v.map .int))
def ct_let_in_turn : Ct := fun ds q _ => ∃ o od opt ps, ds = [o, od] ∧ seqOf od = some (ps.map .int) ∧ ps.Nodup ∧ ps.length ≤ 100 ∧ OptOk o opt ps ∧
  ∀ f vs, Mat opt f → List.Perm (vals f) (greedy opt ps) → vs.length + f.length = ps.length → q (.tup [dD f, vainD vs])
def ct_beds_by : Ct := fun ds q _ => ∃ f, ds = [dD f] ∧ (keys f).Nodup ∧ (vals f).Nodup ∧ f.length ≤ 1000 ∧ q (dD (swapA f))
def ct_lodging_of : Ct := fun ds q _ => ∃ b rows f, ds = [hD b rows, dD f] ∧ (keys f).Nodup ∧ (vals f).Nodup ∧ f.length ≤ 1000 ∧ rows.length ≤ 24 ∧ q (lodgD rows.length f)
def ct_most_of : Ct := fun ds q _ => ∃ b rows some, ds = [hD b rows, rowD some] ∧ HOk b rows ∧ SOk some rows.length ∧ q (.int (greedy (optR rows) some).length)
def ct_lodged_of : Ct := fun ds q _ => ∃ b rows some, ds = [hD b rows, rowD some] ∧ HOk b rows ∧ SOk some rows.length ∧ ∀ f, Mat (optR rows) f → List.Perm (vals f) (greedy (optR rows) some) → q (lodgD rows.length f)
def ct_all_fit : Ct := fun ds q _ => ∃ b rows some, ds = [hD b rows, rowD some] ∧ HOk b rows ∧ SOk some rows.length ∧ q (.bl (sdrB (optR rows) some))
def ct_can_lodge : Ct := ct_all_fit
def ct_fit_without : Ct := fun ds q _ => ∃ b rows some beds, ds = [hD b rows, rowD some, rowD beds] ∧ HOk b rows ∧ SOk some rows.length ∧ q (.bl (sdrB (optX (optR rows) beds) some))
def ct_needed_beds : Ct := fun ds q _ => ∃ b rows some, ds = [hD b rows, rowD some] ∧ HOk b rows ∧ SOk some rows.length ∧ q (rowD (need b rows some))
def ct_their_beds : Ct := fun ds q e => ∃ b rows some, ds = [hD b rows, rowD some] ∧ HOk b rows ∧ SOk some rows.length ∧
  (Sdr (optR rows) some → ∀ f ms, Mat (optR rows) f → List.Perm (vals f) some → List.Perm ms (keys f) → ms.Pairwise (· < ·) → q (rowD ms)) ∧ (¬ Sdr (optR rows) some → e (.obj 4 []))
/-! contracts: the law -/
def listsD (rows : List (List Int)) : List D := rows.map fun r => .lst (r.map .int)
structure ROk (b : Int) (rows : List (List Int)) : Prop where
  n : rows.length ≤ 24
  len : ∀ r ∈ rows, r.length < 60
  rng : ∀ r ∈ rows, ∀ x ∈ r, 0 ≤ x ∧ x < b
def ct__law_renamed : Ct := fun ds q _ => ∃ beds rows, ds = [.hand, .int beds, .lst (listsD rows)] ∧ 0 ≤ beds ∧ beds ≤ 24 ∧ ROk beds rows ∧ ∀ rows', HOk beds rows' → rows'.length = rows.length → q (hT beds rows')
def ct__law_planted : Ct := fun ds q _ => ∃ size : Int, ds = [.hand, .int size] ∧ 1 ≤ size ∧ size ≤ 5 ∧ ∀ b rows, 0 ≤ b → b ≤ 24 → ROk b rows → q (.tup [.int b, .lst (listsD rows)])
def ct__law_house : Ct := fun ds q _ => ∃ beds persons : Int, ds = [.hand, .int beds, .int persons] ∧ 0 ≤ beds ∧ beds ≤ 24 ∧ 0 ≤ persons ∧ persons ≤ 24 ∧ ∀ b rows, HOk b rows → (beds ≤ 5 → b = beds ∧ rows.length = persons.toNat) → q (hT b rows)
def ct__law_any_r : CtR := fun ar q => ∃ xs, ar = [.inl .hand, .inr (.l xs)] ∧ xs ≠ [] ∧ xs.length ≤ 1000 ∧ ∀ y ∈ xs, q y [.l xs]
def tD (ms : List Int) : Ob := .d (ms.map .int) (ms.map fun _ => .bl true)
def ct__law_seat (m : Nat) : CtR := fun ar q => ∃ (x : Int) (ch : D) (opt : Int → List Int) (M : AL) (ms U : List Int), ar = [.inl (.int x), .inl ch, .inr (oD M), .inr (tD ms)] ∧ OptOk ch opt (x :: vals M) ∧ (∀ p ∈ x :: vals M, ∀ b ∈ opt p, b ∈ U) ∧ ms.Nodup ∧ (U.filter fun b => !(ms.contains b)).length < m ∧ U.length ≤ 100 ∧ ms.length ≤ 100 ∧ (∀ b ∈ ms, b ∈ U) ∧ U.Nodup ∧ M.length ≤ 500 ∧ Out opt M ms x ∧
  (∀ M' m', Won opt M ms x M' m' → q (.bl true) [oD M', tD m']) ∧ ∀ m', Way opt M ms m' → m'.Nodup → (∀ b ∈ m', b ∈ U) → (∀ c ∈ opt x, c ∈ m') → q (.bl false) [oD M, tD m']
def ct__law_seated : Ct := fun ds q _ => ∃ (ch : D) (cs : List D) (opt : Int → List Int) (U : List Int), ds = [ch] ∧ seqOf ch = some cs ∧ cs.length ≤ 100 ∧ OptOk ch opt (upto cs.length) ∧ (∀ p ∈ upto cs.length, ∀ b ∈ opt p, b ∈ U) ∧ U.Nodup ∧ U.length ≤ 24 ∧
  ∀ f, Mat opt f → List.Perm (vals f) (greedy opt (upto cs.length)) → q (dD f)
def ct__law_row : Ct := fun ds q _ => ∃ many : Int, ds = [.hand, .int many] ∧ 0 ≤ many ∧ many ≤ 24 ∧ ∀ ns, SOk ns many.toNat → q (rowD ns)
def ct__law_is_row : Ct := fun ds q _ => ∃ (ms : List Int) (b : Int), ds = [rowD ms, .int b] ∧ ms.length ≤ 1000 ∧ ms.Pairwise (· < ·) ∧ (∀ x ∈ ms, 0 ≤ x ∧ x < b) ∧ q (.bl true)
def ct__law_without : Ct := fun ds q _ => ∃ b rows sh beds some, ds = [hT b rows, sh, rowD some] ∧ seqOf sh = Option.some (beds.map .int) ∧ HOk b rows ∧ SOk some rows.length ∧ q (.bl (sdrB (optX (optR rows) beds) some))
end Mt
end Mtc_

section Mtr_
set_option maxRecDepth 100000
set_option maxHeartbeats 4000000
namespace Mt
open LW

def w__law_any_r : WS := (sRet (wBin fIx (wVar 1) (wCall ct__law_draw (wA1 (wVar 0) (wA1 (wUn fLen (wVar 1)) wA0)))))
def w_is_integer : WS := (sRet (wAndV (wUn (fIs [0] [.int]) (wVar 0)) (wNotV (wUn (fIs [0] [.bool]) (wVar 0)))))
def w_is_within : WS := (sRet (wAndV (wCall ct_is_integer (wA1 (wVar 0) wA0)) (wChain cLe cLe (wVar 1) (wVar 0) (wVar 2))))
def w_are_below : WS := (sRet (wAndV (wUn (fIs [0] [.tuple]) (wVar 0)) (wUn fAll (wFz (wLc (wiSeq (wVar 0)) (kName 2) wTrue (wCall ct_is_within (wA1 (wVar 2) (wA1 (wC (.int 0)) (wA1 (wBin fSub (wVar 1) (wC (.int 1))) wA0)))) [2])))))
def w_is_row : WS := (sRet (wAndV (wCall ct_are_below (wA1 (wVar 0) (wA1 (wVar 1) wA0))) (wUn fAll (wFz (wLc (wiArgs fZip (wA1 (wVar 0) (wA1 (wSl fSlice (wVar 0) (wO1 (wC (.int 1))) wO0) wA0))) (kTup [(kName 2), (kName 3)]) wTrue (wBin (vB cLt) (wVar 2) (wVar 3)) [2, 3])))))
def w_check_house : WS := (sIf (wNotT (wB (wUn (fIs [0] [(.own 0)]) (wVar 0)))) (sRaise0 5) sNext)
def w_check_some : WS := (sSeq (sDrop (wCall ct_check_house (wA1 (wVar 0) wA0)))
  (sIf (wNotT (wB (wCall ct_is_row (wA1 (wVar 1) (wA1 (wUn (fFld 0 2) (wVar 0)) wA0))))) (sRaise0 3) sNext))
@[irreducible] def w_improved_b1_b1_t0_t1_r1 : WS := (sRet (wFz (wLst wA0)))
def w_improved_b1_b1_t0_t1_s0 : WS := (sDrop (wCallR ct_moved_on [.v, .r 1, .v, .v] (wA1 (wVar 3) (wA1 (wVar 7) (wA1 (wVar 2) wA0)))))
@[irreducible] def w_improved_b1_b1_t0_t1_r0 : WS := sSeq (w_improved_b1_b1_t0_t1_s0) (w_improved_b1_b1_t0_t1_r1)
@[irreducible] def w_improved_b1_b1_t0_r3 : WS := (sAppend 5 (wBin fIx (wVar 1) (wVar 7)))
def w_improved_b1_b1_t0_s2 : WS := (sAppend 4 (wBin fIx (wVar 1) (wVar 7)))
@[irreducible] def w_improved_b1_b1_t0_r2 : WS := sSeq (w_improved_b1_b1_t0_s2) (w_improved_b1_b1_t0_r3)
def w_improved_b1_b1_t0_s1 : WS := (sIf (wB (wBin (vB (cNot cIn)) (wVar 7) (wVar 1))) (w_improved_b1_b1_t0_t1_r0) sNext)
@[irreducible] def w_improved_b1_b1_t0_r1 : WS := sSeq (w_improved_b1_b1_t0_s1) (w_improved_b1_b1_t0_r2)
def w_improved_b1_b1_t0_s0 : WS := (sPutD 3 (wVar 7) (wVar 6))
@[irreducible] def w_improved_b1_b1_t0_r0 : WS := sSeq (w_improved_b1_b1_t0_s0) (w_improved_b1_b1_t0_r1)
@[irreducible] def w_improved_b1_b1_r0 : WS := (sIf (wB (wBin (vB (cNot cIn)) (wVar 7) (wVar 3))) (w_improved_b1_b1_t0_r0) sNext)
@[irreducible] def w_improved_b1_r1 : WS := (sFor (wiSeq (wBin fIx (wVar 0) (wVar 6))) (kName 7) (w_improved_b1_b1_r0))
def w_improved_b1_s0 : WS := (sSet 6 (wPopAt 4 (wC (.int 0))))
@[irreducible] def w_improved_b1_r0 : WS := sSeq (w_improved_b1_s0) (w_improved_b1_r1)
@[irreducible] def w_improved_r2 : WS := (sRet (wVar 5))
def w_improved_s1 : WS := (sWhile (wB (wBin (vB cGt) (wUn fLen (wVar 4)) (wC (.int 0)))) (w_improved_b1_r0))
@[irreducible] def w_improved_r1 : WS := sSeq (w_improved_s1) (w_improved_r2)
def w_improved_s0 : WS := (sPar [(3, .d0), (4, .f (wLst (wA1 (wVar 2) wA0))), (5, .f (wLst (wA1 (wVar 2) wA0)))])
@[irreducible] def w_improved_r0 : WS := sSeq (w_improved_s0) (w_improved_r1)
def w_improved : WS := (sSeq (sPar [(3, .d0), (4, .f (wLst (wA1 (wVar 2) wA0))), (5, .f (wLst (wA1 (wVar 2) wA0)))])
  (sSeq (sWhile (wB (wBin (vB cGt) (wUn fLen (wVar 4)) (wC (.int 0)))) (sSeq (sSet 6 (wPopAt 4 (wC (.int 0))))
  (sFor (wiSeq (wBin fIx (wVar 0) (wVar 6))) (kName 7) (sIf (wB (wBin (vB (cNot cIn)) (wVar 7) (wVar 3))) (sSeq (sPutD 3 (wVar 7) (wVar 6))
  (sSeq (sIf (wB (wBin (vB (cNot cIn)) (wVar 7) (wVar 1))) (sSeq (sDrop (wCallR ct_moved_on [.v, .r 1, .v, .v] (wA1 (wVar 3) (wA1 (wVar 7) (wA1 (wVar 2) wA0)))))
  (sRet (wFz (wLst wA0)))) sNext)
  (sSeq (sAppend 4 (wBin fIx (wVar 1) (wVar 7)))
  (sAppend 5 (wBin fIx (wVar 1) (wVar 7)))))) sNext))))
  (sRet (wVar 5))))
theorem wq_improved : w_improved = w_improved_r0 := by with_unfolding_all rfl
@[irreducible] def w_moved_on_b0_r4 : WS := (sSet 2 (wBin fIx (wVar 5) (wC (.int 0))))
def w_moved_on_b0_s3 : WS := (sIf (wB (wBin (vB cEq) (wVar 4) (wVar 3))) sRetN sNext)
@[irreducible] def w_moved_on_b0_r3 : WS := sSeq (w_moved_on_b0_s3) (w_moved_on_b0_r4)
def w_moved_on_b0_s2 : WS := (sPutD 1 (wVar 2) (wVar 4))
@[irreducible] def w_moved_on_b0_r2 : WS := sSeq (w_moved_on_b0_s2) (w_moved_on_b0_r3)
def w_moved_on_b0_s1 : WS := (sOwn 5 (wKeysEq 1 4 6))
@[irreducible] def w_moved_on_b0_r1 : WS := sSeq (w_moved_on_b0_s1) (w_moved_on_b0_r2)
def w_moved_on_b0_s0 : WS := (sSet 4 (wBin fIx (wVar 0) (wVar 2)))
@[irreducible] def w_moved_on_b0_r0 : WS := sSeq (w_moved_on_b0_s0) (w_moved_on_b0_r1)
@[irreducible] def w_moved_on_r0 : WS := (sWhile (wB (wC (.bl true))) (w_moved_on_b0_r0))
def w_moved_on : WS := (sWhile (wB (wC (.bl true))) (sSeq (sSet 4 (wBin fIx (wVar 0) (wVar 2)))
  (sSeq (sOwn 5 (wKeysEq 1 4 6))
  (sSeq (sPutD 1 (wVar 2) (wVar 4))
  (sSeq (sIf (wB (wBin (vB cEq) (wVar 4) (wVar 3))) sRetN sNext)
  (sSet 2 (wBin fIx (wVar 5) (wC (.int 0)))))))))
theorem wq_moved_on : w_moved_on = w_moved_on_r0 := by with_unfolding_all rfl
@[irreducible] def w_let_in_turn_b1_r1 : WS := (sIf (wB (wBin (vB (cNot cEq)) (wVar 5) (wFz (wLst wA0)))) (sAppend 3 (wVar 5)) sNext)
def w_let_in_turn_b1_s0 : WS := (sSet 5 (wCallR ct_improved [.v, .r 2, .v] (wA1 (wVar 0) (wA1 (wVar 4) wA0))))
@[irreducible] def w_let_in_turn_b1_r0 : WS := sSeq (w_let_in_turn_b1_s0) (w_let_in_turn_b1_r1)
@[irreducible] def w_let_in_turn_r2 : WS := (sRet (wTup (wA1 (wVar 2) (wA1 (wVar 3) wA0))))
def w_let_in_turn_s1 : WS := (sFor (wiSeq (wVar 1)) (kName 4) (w_let_in_turn_b1_r0))
@[irreducible] def w_let_in_turn_r1 : WS := sSeq (w_let_in_turn_s1) (w_let_in_turn_r2)
def w_let_in_turn_s0 : WS := (sPar [(2, .d0), (3, .f (wLst wA0))])
@[irreducible] def w_let_in_turn_r0 : WS := sSeq (w_let_in_turn_s0) (w_let_in_turn_r1)
def w_let_in_turn : WS := (sSeq (sPar [(2, .d0), (3, .f (wLst wA0))])
  (sSeq (sFor (wiSeq (wVar 1)) (kName 4) (sSeq (sSet 5 (wCallR ct_improved [.v, .r 2, .v] (wA1 (wVar 0) (wA1 (wVar 4) wA0))))
  (sIf (wB (wBin (vB (cNot cEq)) (wVar 5) (wFz (wLst wA0)))) (sAppend 3 (wVar 5)) sNext)))
  (sRet (wTup (wA1 (wVar 2) (wA1 (wVar 3) wA0))))))
theorem wq_let_in_turn : w_let_in_turn = w_let_in_turn_r0 := by with_unfolding_all rfl
def w_beds_by : WS := (sRet (wInv 0 1))
@[irreducible] def w_lodging_of_r1 : WS := (sRet (wUn fTuple (wFz (wLc (wiArgs fRange1 (wA1 (wUn (fFld 0 2) (wVar 0)) wA0)) (kName 3) wTrue (wGetV 2 (wVar 3)) [3]))))
def w_lodging_of_s0 : WS := (sSet 2 (wCall ct_beds_by (wA1 (wVar 1) wA0)))
@[irreducible] def w_lodging_of_r0 : WS := sSeq (w_lodging_of_s0) (w_lodging_of_r1)
def w_lodging_of : WS := (sSeq (sSet 2 (wCall ct_beds_by (wA1 (wVar 1) wA0)))
  (sRet (wUn fTuple (wFz (wLc (wiArgs fRange1 (wA1 (wUn (fFld 0 2) (wVar 0)) wA0)) (kName 3) wTrue (wGetV 2 (wVar 3)) [3])))))
theorem wq_lodging_of : w_lodging_of = w_lodging_of_r0 := by with_unfolding_all rfl
def w_most_of : WS := (sRet (wUn fLen (wBin fIx (wCall ct_let_in_turn (wA1 (wUn (fFld 0 1) (wVar 0)) (wA1 (wVar 1) wA0))) (wC (.int 0)))))
def w_lodged_of : WS := (sRet (wCall ct_lodging_of (wA1 (wVar 0) (wA1 (wBin fIx (wCall ct_let_in_turn (wA1 (wUn (fFld 0 1) (wVar 0)) (wA1 (wVar 1) wA0))) (wC (.int 0))) wA0))))
def w_all_fit : WS := (sRet (wBin (vB cEq) (wCall ct_most_of (wA1 (wVar 0) (wA1 (wVar 1) wA0))) (wUn fLen (wVar 1))))
def w_can_lodge : WS := (sSeq (sDrop (wCall ct_check_some (wA1 (wVar 0) (wA1 (wVar 1) wA0))))
  (sRet (wCall ct_all_fit (wA1 (wVar 0) (wA1 (wVar 1) wA0)))))
@[irreducible] def w_fit_without_r1 : WS := (sRet (wBin (vB cEq) (wBin fIx (wCall ct_let_in_turn (wA1 (wVar 3) (wA1 (wVar 1) wA0))) (wC (.int 1))) (wFz (wLst wA0))))
def w_fit_without_s0 : WS := (sSet 3 (wDc (wiSeq (wVar 1)) (kName 4) wTrue (wVar 4) (wFz (wLc (wiSeq (wBin fIx (wUn (fFld 0 1) (wVar 0)) (wVar 4))) (kName 5) (wB (wBin (vB (cNot cIn)) (wVar 5) (wVar 2))) (wVar 5) [5])) [4]))
@[irreducible] def w_fit_without_r0 : WS := sSeq (w_fit_without_s0) (w_fit_without_r1)
def w_fit_without : WS := (sSeq (sSet 3 (wDc (wiSeq (wVar 1)) (kName 4) wTrue (wVar 4) (wFz (wLc (wiSeq (wBin fIx (wUn (fFld 0 1) (wVar 0)) (wVar 4))) (kName 5) (wB (wBin (vB (cNot cIn)) (wVar 5) (wVar 2))) (wVar 5) [5])) [4]))
  (sRet (wBin (vB cEq) (wBin fIx (wCall ct_let_in_turn (wA1 (wVar 3) (wA1 (wVar 1) wA0))) (wC (.int 1))) (wFz (wLst wA0)))))
theorem wq_fit_without : w_fit_without = w_fit_without_r0 := by with_unfolding_all rfl
@[irreducible] def w_needed_beds_r1 : WS := (sRet (wUn fTuple (wFz (wLc (wiArgs fRange1 (wA1 (wUn (fFld 0 0) (wVar 0)) wA0)) (kName 2) (wNotT (wB (wCall ct_fit_without (wA1 (wVar 0) (wA1 (wVar 1) (wA1 (wTup (wA1 (wVar 2) wA0)) wA0)))))) (wVar 2) [2]))))
def w_needed_beds_s0 : WS := (sDrop (wCall ct_check_some (wA1 (wVar 0) (wA1 (wVar 1) wA0))))
@[irreducible] def w_needed_beds_r0 : WS := sSeq (w_needed_beds_s0) (w_needed_beds_r1)
def w_needed_beds : WS := (sSeq (sDrop (wCall ct_check_some (wA1 (wVar 0) (wA1 (wVar 1) wA0))))
  (sRet (wUn fTuple (wFz (wLc (wiArgs fRange1 (wA1 (wUn (fFld 0 0) (wVar 0)) wA0)) (kName 2) (wNotT (wB (wCall ct_fit_without (wA1 (wVar 0) (wA1 (wVar 1) (wA1 (wTup (wA1 (wVar 2) wA0)) wA0)))))) (wVar 2) [2])))))
theorem wq_needed_beds : w_needed_beds = w_needed_beds_r0 := by with_unfolding_all rfl
@[irreducible] def w_their_beds_r2 : WS := (sRet (wUn fTuple (wFz (wSortI (wFz (wLc (wiSeq (wCall ct_lodged_of (wA1 (wVar 0) (wA1 (wVar 1) wA0)))) (kName 2) (wB (wBin (vB (cNot cIsN)) (wVar 2) (wC .non))) (wVar 2) [2]))))))
def w_their_beds_s1 : WS := (sIf (wNotT (wB (wCall ct_all_fit (wA1 (wVar 0) (wA1 (wVar 1) wA0))))) (sRaise0 4) sNext)
@[irreducible] def w_their_beds_r1 : WS := sSeq (w_their_beds_s1) (w_their_beds_r2)
def w_their_beds_s0 : WS := (sDrop (wCall ct_check_some (wA1 (wVar 0) (wA1 (wVar 1) wA0))))
@[irreducible] def w_their_beds_r0 : WS := sSeq (w_their_beds_s0) (w_their_beds_r1)
def w_their_beds : WS := (sSeq (sDrop (wCall ct_check_some (wA1 (wVar 0) (wA1 (wVar 1) wA0))))
  (sSeq (sIf (wNotT (wB (wCall ct_all_fit (wA1 (wVar 0) (wA1 (wVar 1) wA0))))) (sRaise0 4) sNext)
  (sRet (wUn fTuple (wFz (wSortI (wFz (wLc (wiSeq (wCall ct_lodged_of (wA1 (wVar 0) (wA1 (wVar 1) wA0)))) (kName 2) (wB (wBin (vB (cNot cIsN)) (wVar 2) (wC .non))) (wVar 2) [2]))))))))
theorem wq_their_beds : w_their_beds = w_their_beds_r0 := by with_unfolding_all rfl
def w__law_any : WS := (sRet (wBin fIx (wVar 1) (wCall ct__law_draw (wA1 (wVar 0) (wA1 (wUn fLen (wVar 1)) wA0)))))
def w__law_mixed : WS := (sSeq (sPar [(2, .f (wUnF fList (wVar 1))), (3, .f (wLst wA0))])
  (sSeq (sWhile (wB (wBin (vB cGt) (wUn fLen (wVar 2)) (wC (.int 0)))) (sAppend 3 (wPopAt 2 (wCall ct__law_draw (wA1 (wVar 0) (wA1 (wUn fLen (wVar 2)) wA0))))))
  (sRet (wVar 3))))
def w__law_same (m : Nat) : WS := (sSeq (sIf (wB (wUn (fIs [0] [.tuple, .list]) (wVar 1))) (sSeq (sIf (wOrT (wB (wBin (vB (cNot cEq)) (wUn (fIs [0] [.tuple]) (wVar 0)) (wUn (fIs [0] [.tuple]) (wVar 1)))) (wNotT (wB (wUn (fIs [0] [.tuple, .list]) (wVar 0))))) (sRet (wC (.bl false))) sNext)
  (sRet (wAndV (wBin (vB cEq) (wUn fLen (wVar 0)) (wUn fLen (wVar 1))) (wUn fAll (wFz (wLc (wiArgs fZip (wA1 (wVar 0) (wA1 (wVar 1) wA0))) (kTup [(kName 2), (kName 3)]) wTrue (wCall (ct__law_same m) (wA1 (wVar 2) (wA1 (wVar 3) wA0))) [2, 3])))))) sNext)
  (sSeq (sIf (wOrT (wB (wUn (fIs [0] [.bool]) (wVar 1))) (wOrT (wB (wUn (fIs [0] [.bool]) (wVar 0))) (wOrT (wB (wBin (vB cIsN) (wVar 1) (wC .non))) (wB (wBin (vB cIsN) (wVar 0) (wC .non)))))) (sRet (wAndV (wBin (vB cEq) (wUn (fIs [0] [.bool]) (wVar 0)) (wUn (fIs [0] [.bool]) (wVar 1))) (wAndV (wBin (vB cEq) (wBin (vB cIsN) (wVar 0) (wC .non)) (wBin (vB cIsN) (wVar 1) (wC .non))) (wBin (vB cEq) (wVar 0) (wVar 1))))) sNext)
  (sRet (wAndV (wBin (vB cEq) (wUn (fIs [0] [.str]) (wVar 0)) (wUn (fIs [0] [.str]) (wVar 1))) (wAndV (wUn (fIs [0] [.int, .str]) (wVar 0)) (wBin (vB cEq) (wVar 0) (wVar 1)))))))
@[irreducible] def w__law_renamed_b1_r0 : WS := (sAppend 4 (wUn fTuple (wFz (wSortSet (wFz (wLc (wiSeq (wVar 5)) (kName 6) wTrue (wBin fIx (wVar 3) (wVar 6)) [6]))))))
@[irreducible] def w__law_renamed_r2 : WS := (sRet (wTup (wA1 (wVar 1) (wA1 (wUn fTuple (wVar 4)) wA0))))
def w__law_renamed_s1 : WS := (sFor (wiSeq (wCall ct__law_mixed (wA1 (wVar 0) (wA1 (wVar 2) wA0)))) (kName 5) (w__law_renamed_b1_r0))
@[irreducible] def w__law_renamed_r1 : WS := sSeq (w__law_renamed_s1) (w__law_renamed_r2)
def w__law_renamed_s0 : WS := (sPar [(3, .v (wCall ct__law_mixed (wA1 (wVar 0) (wA1 (wFz (wUnF fRgL (wVar 1))) wA0)))), (4, .f (wLst wA0))])
@[irreducible] def w__law_renamed_r0 : WS := sSeq (w__law_renamed_s0) (w__law_renamed_r1)
def w__law_renamed : WS := (sSeq (sPar [(3, .v (wCall ct__law_mixed (wA1 (wVar 0) (wA1 (wFz (wUnF fRgL (wVar 1))) wA0)))), (4, .f (wLst wA0))])
  (sSeq (sFor (wiSeq (wCall ct__law_mixed (wA1 (wVar 0) (wA1 (wVar 2) wA0)))) (kName 5) (sAppend 4 (wUn fTuple (wFz (wSortSet (wFz (wLc (wiSeq (wVar 5)) (kName 6) wTrue (wBin fIx (wVar 3) (wVar 6)) [6])))))))
  (sRet (wTup (wA1 (wVar 1) (wA1 (wUn fTuple (wVar 4)) wA0))))))
theorem wq__law_renamed : w__law_renamed = w__law_renamed_r0 := by with_unfolding_all rfl
@[irreducible] def w__law_planted_b2_r0 : WS := (sAppend 6 (wFz (wLc (wiArgs fRange1 (wA1 (wVar 2) wA0)) (kName 10) (wB (wBin (vB cGt) (wCall ct__law_draw (wA1 (wVar 0) (wA1 (wC (.int 3)) wA0))) (wC (.int 0)))) (wVar 10) [10])))
@[irreducible] def w__law_planted_b3_r1 : WS := (sAppend 6 (wBin fAdd (wBin fAdd (wVar 9) (wFz (wLst (wA1 (wBin fAdd (wVar 2) (wVar 8)) wA0)))) (wFz (wLc (wiArgs fRange2 (wA1 (wVar 8) (wA1 (wVar 4) wA0))) (kName 10) (wB (wBin (vB cEq) (wCall ct__law_draw (wA1 (wVar 0) (wA1 (wC (.int 4)) wA0))) (wC (.int 0)))) (wBin fAdd (wVar 2) (wVar 10)) [10]))))
def w__law_planted_b3_s0 : WS := (sSet 9 (wFz (wLc (wiArgs fRange1 (wA1 (wBin fAdd (wVar 2) (wVar 8)) wA0)) (kName 10) (wB (wBin (vB cEq) (wCall ct__law_draw (wA1 (wVar 0) (wA1 (wC (.int 5)) wA0))) (wC (.int 0)))) (wVar 10) [10])))
@[irreducible] def w__law_planted_b3_r0 : WS := sSeq (w__law_planted_b3_s0) (w__law_planted_b3_r1)
@[irreducible] def w__law_planted_b4_r1 : WS := (sAppend 6 (wBin fAdd (wVar 9) (wFz (wLc (wiArgs fRange1 (wA1 (wBin fAdd (wVar 3) (wVar 5)) wA0)) (kName 10) (wOrT (wB (wBin (vB cEq) (wVar 10) (wVar 8))) (wB (wBin (vB cGt) (wCall ct__law_draw (wA1 (wVar 0) (wA1 (wC (.int 3)) wA0))) (wC (.int 0))))) (wBin fAdd (wBin fAdd (wVar 2) (wVar 4)) (wVar 10)) [10]))))
def w__law_planted_b4_s0 : WS := (sSet 9 (wFz (wLc (wiArgs fRange1 (wA1 (wBin fAdd (wVar 2) (wVar 4)) wA0)) (kName 10) (wB (wBin (vB cEq) (wCall ct__law_draw (wA1 (wVar 0) (wA1 (wC (.int 5)) wA0))) (wC (.int 0)))) (wVar 10) [10])))
@[irreducible] def w__law_planted_b4_r0 : WS := sSeq (w__law_planted_b4_s0) (w__law_planted_b4_r1)
@[irreducible] def w__law_planted_r5 : WS := (sRet (wTup (wA1 (wBin fAdd (wBin fAdd (wBin fAdd (wVar 2) (wVar 3)) (wVar 4)) (wVar 5)) (wA1 (wVar 6) wA0))))
def w__law_planted_s4 : WS := (sFor (wiArgs fRange1 (wA1 (wVar 3) wA0)) (kName 8) (w__law_planted_b4_r0))
@[irreducible] def w__law_planted_r4 : WS := sSeq (w__law_planted_s4) (w__law_planted_r5)
def w__law_planted_s3 : WS := (sFor (wiArgs fRange1 (wA1 (wVar 4) wA0)) (kName 8) (w__law_planted_b3_r0))
@[irreducible] def w__law_planted_r3 : WS := sSeq (w__law_planted_s3) (w__law_planted_r4)
def w__law_planted_s2 : WS := (sFor (wiArgs fRange1 (wA1 (wBin fAdd (wVar 2) (wVar 5)) wA0)) (kName 7) (w__law_planted_b2_r0))
@[irreducible] def w__law_planted_r2 : WS := sSeq (w__law_planted_s2) (w__law_planted_r3)
def w__law_planted_s1 : WS := (sPar [(5, .v (wBin fAdd (wC (.int 1)) (wCall ct__law_draw (wA1 (wVar 0) (wA1 (wC (.int 2)) wA0))))), (6, .f (wLst wA0))])
@[irreducible] def w__law_planted_r1 : WS := sSeq (w__law_planted_s1) (w__law_planted_r2)
def w__law_planted_s0 : WS := (sPar [(2, .v (wBin fAdd (wC (.int 1)) (wCall ct__law_draw (wA1 (wVar 0) (wA1 (wVar 1) wA0))))), (3, .v (wCall ct__law_draw (wA1 (wVar 0) (wA1 (wVar 1) wA0)))), (4, .v (wCall ct__law_draw (wA1 (wVar 0) (wA1 (wBin fAdd (wVar 1) (wC (.int 1))) wA0))))])
@[irreducible] def w__law_planted_r0 : WS := sSeq (w__law_planted_s0) (w__law_planted_r1)
def w__law_planted : WS := (sSeq (sPar [(2, .v (wBin fAdd (wC (.int 1)) (wCall ct__law_draw (wA1 (wVar 0) (wA1 (wVar 1) wA0))))), (3, .v (wCall ct__law_draw (wA1 (wVar 0) (wA1 (wVar 1) wA0)))), (4, .v (wCall ct__law_draw (wA1 (wVar 0) (wA1 (wBin fAdd (wVar 1) (wC (.int 1))) wA0))))])
  (sSeq (sPar [(5, .v (wBin fAdd (wC (.int 1)) (wCall ct__law_draw (wA1 (wVar 0) (wA1 (wC (.int 2)) wA0))))), (6, .f (wLst wA0))])
  (sSeq (sFor (wiArgs fRange1 (wA1 (wBin fAdd (wVar 2) (wVar 5)) wA0)) (kName 7) (sAppend 6 (wFz (wLc (wiArgs fRange1 (wA1 (wVar 2) wA0)) (kName 10) (wB (wBin (vB cGt) (wCall ct__law_draw (wA1 (wVar 0) (wA1 (wC (.int 3)) wA0))) (wC (.int 0)))) (wVar 10) [10]))))
  (sSeq (sFor (wiArgs fRange1 (wA1 (wVar 4) wA0)) (kName 8) (sSeq (sSet 9 (wFz (wLc (wiArgs fRange1 (wA1 (wBin fAdd (wVar 2) (wVar 8)) wA0)) (kName 10) (wB (wBin (vB cEq) (wCall ct__law_draw (wA1 (wVar 0) (wA1 (wC (.int 5)) wA0))) (wC (.int 0)))) (wVar 10) [10])))
  (sAppend 6 (wBin fAdd (wBin fAdd (wVar 9) (wFz (wLst (wA1 (wBin fAdd (wVar 2) (wVar 8)) wA0)))) (wFz (wLc (wiArgs fRange2 (wA1 (wVar 8) (wA1 (wVar 4) wA0))) (kName 10) (wB (wBin (vB cEq) (wCall ct__law_draw (wA1 (wVar 0) (wA1 (wC (.int 4)) wA0))) (wC (.int 0)))) (wBin fAdd (wVar 2) (wVar 10)) [10]))))))
  (sSeq (sFor (wiArgs fRange1 (wA1 (wVar 3) wA0)) (kName 8) (sSeq (sSet 9 (wFz (wLc (wiArgs fRange1 (wA1 (wBin fAdd (wVar 2) (wVar 4)) wA0)) (kName 10) (wB (wBin (vB cEq) (wCall ct__law_draw (wA1 (wVar 0) (wA1 (wC (.int 5)) wA0))) (wC (.int 0)))) (wVar 10) [10])))
  (sAppend 6 (wBin fAdd (wVar 9) (wFz (wLc (wiArgs fRange1 (wA1 (wBin fAdd (wVar 3) (wVar 5)) wA0)) (kName 10) (wOrT (wB (wBin (vB cEq) (wVar 10) (wVar 8))) (wB (wBin (vB cGt) (wCall ct__law_draw (wA1 (wVar 0) (wA1 (wC (.int 3)) wA0))) (wC (.int 0))))) (wBin fAdd (wBin fAdd (wVar 2) (wVar 4)) (wVar 10)) [10]))))))
  (sRet (wTup (wA1 (wBin fAdd (wBin fAdd (wBin fAdd (wVar 2) (wVar 3)) (wVar 4)) (wVar 5)) (wA1 (wVar 6) wA0)))))))))
theorem wq__law_planted : w__law_planted = w__law_planted_r0 := by with_unfolding_all rfl
@[irreducible] def w__law_house_t1_r1 : WS := (sRet (wCall ct__law_renamed (wA1 (wVar 0) (wA1 (wBin fIx (wVar 5) (wC (.int 0))) (wA1 (wBin fIx (wVar 5) (wC (.int 1))) wA0)))))
def w__law_house_t1_s0 : WS := (sSet 5 (wCall ct__law_planted (wA1 (wVar 0) (wA1 (wArgF fMax2 (wA1 (wC (.int 1)) (wA1 (wBin fDiv (wArgF fMin3 (wA1 (wVar 1) (wA1 (wVar 2) (wA1 (wC (.int 20)) wA0)))) (wC (.int 4))) wA0))) wA0))))
@[irreducible] def w__law_house_t1_r0 : WS := sSeq (w__law_house_t1_s0) (w__law_house_t1_r1)
@[irreducible] def w__law_house_b3_r2 : WS := (sAppend 4 (wVar 9))
def w__law_house_b3_s1 : WS := (sIf (wAndT (wB (wBin (vB cEq) (wVar 3) (wC (.int 5)))) (wAndT (wB (wBin (vB cGt) (wUn fLen (wVar 4)) (wC (.int 0)))) (wB (wBin (vB cEq) (wCall ct__law_draw (wA1 (wVar 0) (wA1 (wC (.int 3)) wA0))) (wC (.int 0)))))) (sSet 9 (wCallR ct__law_any_r [.v, .r 4] (wA1 (wVar 0) wA0))) sNext)
@[irreducible] def w__law_house_b3_r1 : WS := sSeq (w__law_house_b3_s1) (w__law_house_b3_r2)
def w__law_house_b3_s0 : WS := (sIf (wB (wBin (vB cEq) (wVar 3) (wC (.int 1)))) (sSet 9 (wFz (wLc (wiArgs fRange2 (wA1 (wVar 8) (wA1 (wArgF fMin2 (wA1 (wVar 1) (wA1 (wBin fAdd (wBin fAdd (wVar 8) (wVar 7)) (wC (.int 1))) wA0))) wA0))) (kName 10) wTrue (wVar 10) [10]))) (sIf (wB (wBin (vB cEq) (wVar 3) (wC (.int 2)))) (sSet 9 (wFz (wLc (wiArgs fRange1 (wA1 (wArgF fMin2 (wA1 (wC (.int 2)) (wA1 (wVar 1) wA0))) wA0)) (kName 11) wTrue (wBin fMod (wUn fInt (wBin fAdd (wVar 8) (wVar 11))) (wArgF fMax2 (wA1 (wC (.int 1)) (wA1 (wVar 1) wA0)))) [11]))) (sIf (wB (wBin (vB cEq) (wVar 3) (wC (.int 3)))) (sSet 9 (wFz (wUnF fRgL (wCall ct__law_draw (wA1 (wVar 0) (wA1 (wBin fAdd (wVar 1) (wC (.int 1))) wA0)))))) (sSet 9 (wFz (wLc (wiArgs fRange1 (wA1 (wVar 1) wA0)) (kName 10) (wB (wBin (vB cEq) (wCall ct__law_draw (wA1 (wVar 0) (wA1 (wVar 6) wA0))) (wC (.int 0)))) (wVar 10) [10]))))))
@[irreducible] def w__law_house_b3_r0 : WS := sSeq (w__law_house_b3_s0) (w__law_house_b3_r1)
@[irreducible] def w__law_house_r4 : WS := (sRet (wCall ct__law_renamed (wA1 (wVar 0) (wA1 (wVar 1) (wA1 (wVar 4) wA0)))))
def w__law_house_s3 : WS := (sFor (wiArgs fRange1 (wA1 (wVar 2) wA0)) (kName 8) (w__law_house_b3_r0))
@[irreducible] def w__law_house_r3 : WS := sSeq (w__law_house_s3) (w__law_house_r4)
def w__law_house_s2 : WS := (sPar [(6, .v (wCall ct__law_any (wA1 (wVar 0) (wA1 (wFz (wLst (wA1 (wC (.int 2)) (wA1 (wC (.int 3)) (wA1 (wC (.int 5)) (wA1 (wC (.int 9)) wA0)))))) wA0)))), (7, .v (wBin fAdd (wC (.int 1)) (wCall ct__law_draw (wA1 (wVar 0) (wA1 (wC (.int 3)) wA0)))))])
@[irreducible] def w__law_house_r2 : WS := sSeq (w__law_house_s2) (w__law_house_r3)
def w__law_house_s1 : WS := (sIf (wAndT (wB (wBin (vB cEq) (wVar 3) (wC (.int 6)))) (wB (wBin (vB cGt) (wVar 1) (wC (.int 5))))) (w__law_house_t1_r0) sNext)
@[irreducible] def w__law_house_r1 : WS := sSeq (w__law_house_s1) (w__law_house_r2)
def w__law_house_s0 : WS := (sPar [(3, .v (wCall ct__law_draw (wA1 (wVar 0) (wA1 (wC (.int 7)) wA0)))), (4, .f (wLst wA0))])
@[irreducible] def w__law_house_r0 : WS := sSeq (w__law_house_s0) (w__law_house_r1)
def w__law_house : WS := (sSeq (sPar [(3, .v (wCall ct__law_draw (wA1 (wVar 0) (wA1 (wC (.int 7)) wA0)))), (4, .f (wLst wA0))])
  (sSeq (sIf (wAndT (wB (wBin (vB cEq) (wVar 3) (wC (.int 6)))) (wB (wBin (vB cGt) (wVar 1) (wC (.int 5))))) (sSeq (sSet 5 (wCall ct__law_planted (wA1 (wVar 0) (wA1 (wArgF fMax2 (wA1 (wC (.int 1)) (wA1 (wBin fDiv (wArgF fMin3 (wA1 (wVar 1) (wA1 (wVar 2) (wA1 (wC (.int 20)) wA0)))) (wC (.int 4))) wA0))) wA0))))
  (sRet (wCall ct__law_renamed (wA1 (wVar 0) (wA1 (wBin fIx (wVar 5) (wC (.int 0))) (wA1 (wBin fIx (wVar 5) (wC (.int 1))) wA0)))))) sNext)
  (sSeq (sPar [(6, .v (wCall ct__law_any (wA1 (wVar 0) (wA1 (wFz (wLst (wA1 (wC (.int 2)) (wA1 (wC (.int 3)) (wA1 (wC (.int 5)) (wA1 (wC (.int 9)) wA0)))))) wA0)))), (7, .v (wBin fAdd (wC (.int 1)) (wCall ct__law_draw (wA1 (wVar 0) (wA1 (wC (.int 3)) wA0)))))])
  (sSeq (sFor (wiArgs fRange1 (wA1 (wVar 2) wA0)) (kName 8) (sSeq (sIf (wB (wBin (vB cEq) (wVar 3) (wC (.int 1)))) (sSet 9 (wFz (wLc (wiArgs fRange2 (wA1 (wVar 8) (wA1 (wArgF fMin2 (wA1 (wVar 1) (wA1 (wBin fAdd (wBin fAdd (wVar 8) (wVar 7)) (wC (.int 1))) wA0))) wA0))) (kName 10) wTrue (wVar 10) [10]))) (sIf (wB (wBin (vB cEq) (wVar 3) (wC (.int 2)))) (sSet 9 (wFz (wLc (wiArgs fRange1 (wA1 (wArgF fMin2 (wA1 (wC (.int 2)) (wA1 (wVar 1) wA0))) wA0)) (kName 11) wTrue (wBin fMod (wUn fInt (wBin fAdd (wVar 8) (wVar 11))) (wArgF fMax2 (wA1 (wC (.int 1)) (wA1 (wVar 1) wA0)))) [11]))) (sIf (wB (wBin (vB cEq) (wVar 3) (wC (.int 3)))) (sSet 9 (wFz (wUnF fRgL (wCall ct__law_draw (wA1 (wVar 0) (wA1 (wBin fAdd (wVar 1) (wC (.int 1))) wA0)))))) (sSet 9 (wFz (wLc (wiArgs fRange1 (wA1 (wVar 1) wA0)) (kName 10) (wB (wBin (vB cEq) (wCall ct__law_draw (wA1 (wVar 0) (wA1 (wVar 6) wA0))) (wC (.int 0)))) (wVar 10) [10]))))))
  (sSeq (sIf (wAndT (wB (wBin (vB cEq) (wVar 3) (wC (.int 5)))) (wAndT (wB (wBin (vB cGt) (wUn fLen (wVar 4)) (wC (.int 0)))) (wB (wBin (vB cEq) (wCall ct__law_draw (wA1 (wVar 0) (wA1 (wC (.int 3)) wA0))) (wC (.int 0)))))) (sSet 9 (wCallR ct__law_any_r [.v, .r 4] (wA1 (wVar 0) wA0))) sNext)
  (sAppend 4 (wVar 9)))))
  (sRet (wCall ct__law_renamed (wA1 (wVar 0) (wA1 (wVar 1) (wA1 (wVar 4) wA0)))))))))
theorem wq__law_house : w__law_house = w__law_house_r0 := by with_unfolding_all rfl
@[irreducible] def w__law_seat_b0_t0_t1_r1 (m : Nat) : WS := (sRet (wC (.bl true)))
def w__law_seat_b0_t0_t1_s0 (m : Nat) : WS := (sPutD 2 (wVar 4) (wVar 0))
@[irreducible] def w__law_seat_b0_t0_t1_r0 (m : Nat) : WS := sSeq (w__law_seat_b0_t0_t1_s0 m) (w__law_seat_b0_t0_t1_r1 m)
@[irreducible] def w__law_seat_b0_t0_r1 (m : Nat) : WS := (sIf (wOrT (wB (wBin (vB (cNot cIn)) (wVar 4) (wVar 2))) (wB (wCallR (ct__law_seat m) [.v, .v, .r 2, .r 3] (wA1 (wBin fIx (wVar 2) (wVar 4)) (wA1 (wVar 1) wA0))))) (w__law_seat_b0_t0_t1_r0 m) sNext)
def w__law_seat_b0_t0_s0 (m : Nat) : WS := (sPutD 3 (wVar 4) (wC (.bl true)))
@[irreducible] def w__law_seat_b0_t0_r0 (m : Nat) : WS := sSeq (w__law_seat_b0_t0_s0 m) (w__law_seat_b0_t0_r1 m)
@[irreducible] def w__law_seat_b0_r0 (m : Nat) : WS := (sIf (wB (wBin (vB (cNot cIn)) (wVar 4) (wVar 3))) (w__law_seat_b0_t0_r0 m) sNext)
@[irreducible] def w__law_seat_r1 (m : Nat) : WS := (sRet (wC (.bl false)))
def w__law_seat_s0 (m : Nat) : WS := (sFor (wiSeq (wBin fIx (wVar 1) (wVar 0))) (kName 4) (w__law_seat_b0_r0 m))
@[irreducible] def w__law_seat_r0 (m : Nat) : WS := sSeq (w__law_seat_s0 m) (w__law_seat_r1 m)
def w__law_seat (m : Nat) : WS := (sSeq (sFor (wiSeq (wBin fIx (wVar 1) (wVar 0))) (kName 4) (sIf (wB (wBin (vB (cNot cIn)) (wVar 4) (wVar 3))) (sSeq (sPutD 3 (wVar 4) (wC (.bl true)))
  (sIf (wOrT (wB (wBin (vB (cNot cIn)) (wVar 4) (wVar 2))) (wB (wCallR (ct__law_seat m) [.v, .v, .r 2, .r 3] (wA1 (wBin fIx (wVar 2) (wVar 4)) (wA1 (wVar 1) wA0))))) (sSeq (sPutD 2 (wVar 4) (wVar 0))
  (sRet (wC (.bl true)))) sNext)) sNext))
  (sRet (wC (.bl false))))
theorem wq__law_seat (m : Nat) : w__law_seat m = w__law_seat_r0 m := by with_unfolding_all rfl
@[irreducible] def w__law_seated_b1_r0 : WS := (sDrop (wCallR (ct__law_seat 25) [.v, .v, .r 1, .n] (wA1 (wVar 2) (wA1 (wVar 0) wA0))))
@[irreducible] def w__law_seated_r2 : WS := (sRet (wVar 1))
def w__law_seated_s1 : WS := (sFor (wiArgs fRange1 (wA1 (wUn fLen (wVar 0)) wA0)) (kName 2) (w__law_seated_b1_r0))
@[irreducible] def w__law_seated_r1 : WS := sSeq (w__law_seated_s1) (w__law_seated_r2)
def w__law_seated_s0 : WS := (sNewD 1)
@[irreducible] def w__law_seated_r0 : WS := sSeq (w__law_seated_s0) (w__law_seated_r1)
def w__law_seated : WS := (sSeq (sNewD 1)
  (sSeq (sFor (wiArgs fRange1 (wA1 (wUn fLen (wVar 0)) wA0)) (kName 2) (sDrop (wCallR (ct__law_seat 25) [.v, .v, .r 1, .n] (wA1 (wVar 2) (wA1 (wVar 0) wA0)))))
  (sRet (wVar 1))))
theorem wq__law_seated : w__law_seated = w__law_seated_r0 := by with_unfolding_all rfl
@[irreducible] def w__law_row_r2 : WS := (sRet (wUn fTuple (wFz (wLc (wiArgs fRange1 (wA1 (wVar 1) wA0)) (kName 3) (wOrT (wB (wBin (vB cEq) (wVar 2) (wC (.int 0)))) (wB (wBin (vB cGt) (wCall ct__law_draw (wA1 (wVar 0) (wA1 (wVar 2) wA0))) (wC (.int 0))))) (wVar 3) [3]))))
def w__law_row_s1 : WS := (sIf (wB (wBin (vB cEq) (wVar 2) (wC (.int 1)))) (sRet (wUn fTuple (wFz (wSortI (wSl fSlice (wCall ct__law_mixed (wA1 (wVar 0) (wA1 (wFz (wUnF fRgL (wVar 1))) wA0))) wO0 (wO1 (wCall ct__law_draw (wA1 (wVar 0) (wA1 (wC (.int 4)) wA0))))))))) sNext)
@[irreducible] def w__law_row_r1 : WS := sSeq (w__law_row_s1) (w__law_row_r2)
def w__law_row_s0 : WS := (sSet 2 (wCall ct__law_any (wA1 (wVar 0) (wA1 (wFz (wLst (wA1 (wC (.int 0)) (wA1 (wC (.int 0)) (wA1 (wC (.int 9)) (wA1 (wC (.int 2)) (wA1 (wC (.int 2)) (wA1 (wC (.int 1)) wA0)))))))) wA0))))
@[irreducible] def w__law_row_r0 : WS := sSeq (w__law_row_s0) (w__law_row_r1)
def w__law_row : WS := (sSeq (sSet 2 (wCall ct__law_any (wA1 (wVar 0) (wA1 (wFz (wLst (wA1 (wC (.int 0)) (wA1 (wC (.int 0)) (wA1 (wC (.int 9)) (wA1 (wC (.int 2)) (wA1 (wC (.int 2)) (wA1 (wC (.int 1)) wA0)))))))) wA0))))
  (sSeq (sIf (wB (wBin (vB cEq) (wVar 2) (wC (.int 1)))) (sRet (wUn fTuple (wFz (wSortI (wSl fSlice (wCall ct__law_mixed (wA1 (wVar 0) (wA1 (wFz (wUnF fRgL (wVar 1))) wA0))) wO0 (wO1 (wCall ct__law_draw (wA1 (wVar 0) (wA1 (wC (.int 4)) wA0))))))))) sNext)
  (sRet (wUn fTuple (wFz (wLc (wiArgs fRange1 (wA1 (wVar 1) wA0)) (kName 3) (wOrT (wB (wBin (vB cEq) (wVar 2) (wC (.int 0)))) (wB (wBin (vB cGt) (wCall ct__law_draw (wA1 (wVar 0) (wA1 (wVar 2) wA0))) (wC (.int 0))))) (wVar 3) [3]))))))
theorem wq__law_row : w__law_row = w__law_row_r0 := by with_unfolding_all rfl
@[irreducible] def w__law_is_row_r1 : WS := (sRet (wAndV (wUn fAll (wFz (wLc (wiSeq (wVar 0)) (kName 2) wTrue (wChain cLe cLt (wC (.int 0)) (wVar 2) (wVar 1)) [2]))) (wUn fAll (wFz (wLc (wiArgs fZip (wA1 (wVar 0) (wA1 (wSl fSlice (wVar 0) (wO1 (wC (.int 1))) wO0) wA0))) (kTup [(kName 2), (kName 3)]) wTrue (wBin (vB cLt) (wVar 2) (wVar 3)) [2, 3])))))
def w__law_is_row_s0 : WS := (sIf (wOrT (wNotT (wB (wUn (fIs [0] [.tuple]) (wVar 0)))) (wNotT (wB (wUn fAll (wFz (wLc (wiSeq (wVar 0)) (kName 2) wTrue (wAndV (wUn (fIs [0] [.int]) (wVar 2)) (wNotV (wUn (fIs [0] [.bool]) (wVar 2)))) [2])))))) (sRet (wC (.bl false))) sNext)
@[irreducible] def w__law_is_row_r0 : WS := sSeq (w__law_is_row_s0) (w__law_is_row_r1)
def w__law_is_row : WS := (sSeq (sIf (wOrT (wNotT (wB (wUn (fIs [0] [.tuple]) (wVar 0)))) (wNotT (wB (wUn fAll (wFz (wLc (wiSeq (wVar 0)) (kName 2) wTrue (wAndV (wUn (fIs [0] [.int]) (wVar 2)) (wNotV (wUn (fIs [0] [.bool]) (wVar 2)))) [2])))))) (sRet (wC (.bl false))) sNext)
  (sRet (wAndV (wUn fAll (wFz (wLc (wiSeq (wVar 0)) (kName 2) wTrue (wChain cLe cLt (wC (.int 0)) (wVar 2) (wVar 1)) [2]))) (wUn fAll (wFz (wLc (wiArgs fZip (wA1 (wVar 0) (wA1 (wSl fSlice (wVar 0) (wO1 (wC (.int 1))) wO0) wA0))) (kTup [(kName 2), (kName 3)]) wTrue (wBin (vB cLt) (wVar 2) (wVar 3)) [2, 3]))))))
theorem wq__law_is_row : w__law_is_row = w__law_is_row_r0 := by with_unfolding_all rfl
def w__law_without : WS := (sRet (wBin (vB cEq) (wUn fLen (wCall ct__law_seated (wA1 (wFz (wLc (wiSeq (wVar 2)) (kName 3) wTrue (wFz (wLc (wiSeq (wBin fIx (wBin fIx (wVar 0) (wC (.int 1))) (wVar 3))) (kName 4) (wB (wBin (vB (cNot cIn)) (wVar 4) (wVar 1))) (wVar 4) [4])) [3])) wA0))) (wUn fLen (wVar 2))))
def i_House : List IS := [.st (sIf (wNotT (wB (wCall ct_is_within (wA1 (wVar 1) (wA1 (wC (.int 0)) (wA1 (wC (.int 24)) wA0)))))) (sRaise 1 (wA1 (wC (.str [98, 101, 100, 115])) (wA1 (wUn fNeg (wC (.int 1))) wA0))) sNext),
  .st (sIf (wNotT (wB (wUn (fIs [0] [.tuple]) (wVar 2)))) (sRaise 1 (wA1 (wC (.str [102, 105, 116, 115])) (wA1 (wUn fNeg (wC (.int 1))) wA0))) sNext),
  .st (sFor (wiArgs fEnum (wA1 (wVar 2) wA0)) (kTup [(kName 3), (kName 4)]) (sIf (wOrT (wB (wBin (vB cGe) (wVar 3) (wC (.int 24)))) (wNotT (wB (wCall ct_is_row (wA1 (wVar 4) (wA1 (wVar 1) wA0)))))) (sRaise 1 (wA1 (wC (.str [102, 105, 116, 115])) (wA1 (wVar 3) wA0))) sNext)),
  .fld (wVar 1),
  .fld (wVar 2),
  .fld (wUn fLen (wVar 2))]
end Mt
end Mtr_

section Mts_
set_option maxRecDepth 100000
set_option maxHeartbeats 1000000
namespace Mt
open LW
theorem fIs0 {x : D} (us : List Ty) (h : noObj x = true) : fIs [0] us x = some (.bl (us.any (sub (tyOf x)))) := by
  cases x <;> first | rfl | (rename_i c xs; simp [noObj] at h; subst h; rfl)
theorem sp_is_integer (ds q e) (h : ct_is_integer ds q e) : fnW 0 w_is_integer ds q e := by
  obtain ⟨x, rfl, hx, hq⟩ := h
  simp only [w_is_integer, fnW, sRet, sRetN, sSeq, sDrop, sIf, sSet, sOwn, sNext, wVar, wC, wUn, wBin, wAndV, wOrV, wNotV, wChain, wB, wAndT, wOrT, wNotT, wIf, wA0, wA1, wTup, wLst, wFz, wUnF, wBinF, wCall, wO0, wO1, wSl, gt, st, rs, fz, mob, lob, withO, isOwn, Ob.D, fzP_some, optP_some, Option.bind_some, asBl, asInt, List.map_cons, List.map_nil, List.cons_append, List.nil_append, List.replicate, List.length_cons, List.length_nil, Nat.reduceAdd, Nat.reduceSub, Nat.reduceLeDiff, hold, br_t, br_f, if_true, if_false, Bool.false_eq_true, Bool.not_true, Bool.not_false, true_and, and_true, vB, Option.map_some, SZ, fIs0 _ hx]
  cases x <;> simp_all [tyOf, sub, fnW, sRet, sRetN, sSeq, sDrop, sIf, sSet, sOwn, sNext, wVar, wC, wUn, wBin, wAndV, wOrV, wNotV, wChain, wB, wAndT, wOrT, wNotT, wIf, wA0, wA1, wTup, wLst, wFz, wUnF, wBinF, wCall, wO0, wO1, wSl, gt, st, rs, fz, mob, lob, withO, isOwn, Ob.D, fzP_some, optP_some, Option.bind_some, asBl, asInt, List.map_cons, List.map_nil, List.cons_append, List.nil_append, List.replicate, List.length_cons, List.length_nil, Nat.reduceAdd, Nat.reduceSub, Nat.reduceLeDiff, hold, br_t, br_f, if_true, if_false, Bool.false_eq_true, Bool.not_true, Bool.not_false, true_and, and_true, vB, Option.map_some, SZ]
theorem sp_is_within (ds q e) (h : ct_is_within ds q e) : fnW 0 w_is_within ds q e := by
  obtain ⟨x, lo, hi, rfl, hx, hq⟩ := h
  simp only [w_is_within, fnW, sRet, sRetN, sSeq, sDrop, sIf, sSet, sOwn, sNext, wVar, wC, wUn, wBin, wAndV, wOrV, wNotV, wChain, wB, wAndT, wOrT, wNotT, wIf, wA0, wA1, wTup, wLst, wFz, wUnF, wBinF, wCall, wO0, wO1, wSl, gt, st, rs, fz, mob, lob, withO, isOwn, Ob.D, fzP_some, optP_some, Option.bind_some, asBl, asInt, List.map_cons, List.map_nil, List.cons_append, List.nil_append, List.replicate, List.length_cons, List.length_nil, Nat.reduceAdd, Nat.reduceSub, Nat.reduceLeDiff, hold, br_t, br_f, if_true, if_false, Bool.false_eq_true, Bool.not_true, Bool.not_false, true_and, and_true, vB, Option.map_some, SZ, ct_is_integer]
  refine ⟨x, rfl, hx, ?_⟩
  cases x <;> simp_all [isW, fnW, sRet, sRetN, sSeq, sDrop, sIf, sSet, sOwn, sNext, wVar, wC, wUn, wBin, wAndV, wOrV, wNotV, wChain, wB, wAndT, wOrT, wNotT, wIf, wA0, wA1, wTup, wLst, wFz, wUnF, wBinF, wCall, wO0, wO1, wSl, gt, st, rs, fz, mob, lob, withO, isOwn, Ob.D, fzP_some, optP_some, Option.bind_some, asBl, asInt, List.map_cons, List.map_nil, List.cons_append, List.nil_append, List.replicate, List.length_cons, List.length_nil, Nat.reduceAdd, Nat.reduceSub, Nat.reduceLeDiff, hold, br_t, br_f, if_true, if_false, Bool.false_eq_true, Bool.not_true, Bool.not_false, true_and, and_true, vB, Option.map_some, SZ, cLe]
  refine br_by (fun h => ?_) fun h => ?_ <;> simp_all
theorem bls_map {α : Type} (f : α → Bool) : ∀ xs : List α, blsOf (xs.map fun x => D.bl (f x)) = some (xs.map f)
  | [] => rfl
  | x :: xs => by simp [blsOf, bls_map f xs]
theorem all_map {α : Type} (f : α → Bool) (xs : List α) : fAll (.lst (xs.map fun x => D.bl (f x))) = some (.bl (xs.all f)) := by
  simp [fAll, bls_map, List.all_map, Function.comp_def]
theorem sp_are_below (ds q e) (h : ct_are_below ds q e) : fnW 1 w_are_below ds q e := by
  obtain ⟨x, m, rfl, hx, hq⟩ := h
  have hn : noObj x = true := by simp [goodRow] at hx; exact hx.1
  simp only [w_are_below, fnW, sRet, sRetN, sSeq, sDrop, sIf, sSet, sOwn, sNext, wVar, wC, wUn, wBin, wAndV, wOrV, wNotV, wChain, wB, wAndT, wOrT, wNotT, wIf, wA0, wA1, wTup, wLst, wFz, wUnF, wBinF, wCall, wO0, wO1, wSl, gt, st, rs, fz, mob, lob, withO, isOwn, Ob.D, fzP_some, optP_some, Option.bind_some, asBl, asInt, List.map_cons, List.map_nil, List.cons_append, List.nil_append, List.replicate, List.length_cons, List.length_nil, Nat.reduceAdd, Nat.reduceSub, Nat.reduceLeDiff, hold, br_t, br_f, if_true, if_false, Bool.false_eq_true, Bool.not_true, Bool.not_false, true_and, and_true, vB, Option.map_some, SZ, fIs0 _ hn]
  cases x <;> simp_all [below, fnW, sRet, sRetN, sSeq, sDrop, sIf, sSet, sOwn, sNext, wVar, wC, wUn, wBin, wAndV, wOrV, wNotV, wChain, wB, wAndT, wOrT, wNotT, wIf, wA0, wA1, wTup, wLst, wFz, wUnF, wBinF, wCall, wO0, wO1, wSl, gt, st, rs, fz, mob, lob, withO, isOwn, Ob.D, fzP_some, optP_some, Option.bind_some, asBl, asInt, List.map_cons, List.map_nil, List.cons_append, List.nil_append, List.replicate, List.length_cons, List.length_nil, Nat.reduceAdd, Nat.reduceSub, Nat.reduceLeDiff, hold, br_t, br_f, if_true, if_false, Bool.false_eq_true, Bool.not_true, Bool.not_false, true_and, and_true, vB, Option.map_some, SZ, tyOf, sub]
  rename_i xs
  simp only [goodRow, Bool.and_eq_true, decide_eq_true_eq, List.all_eq_true] at hx
  unfold wLc
  simp only [wiSeq, fnW, sRet, sRetN, sSeq, sDrop, sIf, sSet, sOwn, sNext, wVar, wC, wUn, wBin, wAndV, wOrV, wNotV, wChain, wB, wAndT, wOrT, wNotT, wIf, wA0, wA1, wTup, wLst, wFz, wUnF, wBinF, wCall, wO0, wO1, wSl, gt, st, rs, fz, mob, lob, withO, isOwn, Ob.D, fzP_some, optP_some, Option.bind_some, asBl, asInt, List.map_cons, List.map_nil, List.cons_append, List.nil_append, List.replicate, List.length_cons, List.length_nil, Nat.reduceAdd, Nat.reduceSub, Nat.reduceLeDiff, hold, br_t, br_f, if_true, if_false, Bool.false_eq_true, Bool.not_true, Bool.not_false, true_and, and_true, vB, Option.map_some, SZ, seqOf, noOwn, wipeE]
  refine lc_map (fun y => .bl (isW y 0 (m - 1))) (fun y hy => ⟨_, rfl, by simp [noOwn, fnW, sRet, sRetN, sSeq, sDrop, sIf, sSet, sOwn, sNext, wVar, wC, wUn, wBin, wAndV, wOrV, wNotV, wChain, wB, wAndT, wOrT, wNotT, wIf, wA0, wA1, wTup, wLst, wFz, wUnF, wBinF, wCall, wO0, wO1, wSl, gt, st, rs, fz, mob, lob, withO, isOwn, Ob.D, fzP_some, optP_some, Option.bind_some, asBl, asInt, List.map_cons, List.map_nil, List.cons_append, List.nil_append, List.replicate, List.length_cons, List.length_nil, Nat.reduceAdd, Nat.reduceSub, Nat.reduceLeDiff, hold, br_t, br_f, if_true, if_false, Bool.false_eq_true, Bool.not_true, Bool.not_false, true_and, and_true, vB, Option.map_some, SZ, kName], by simp [wipeE, kName, fnW, sRet, sRetN, sSeq, sDrop, sIf, sSet, sOwn, sNext, wVar, wC, wUn, wBin, wAndV, wOrV, wNotV, wChain, wB, wAndT, wOrT, wNotT, wIf, wA0, wA1, wTup, wLst, wFz, wUnF, wBinF, wCall, wO0, wO1, wSl, gt, st, rs, fz, mob, lob, withO, isOwn, Ob.D, fzP_some, optP_some, Option.bind_some, asBl, asInt, List.map_cons, List.map_nil, List.cons_append, List.nil_append, List.replicate, List.length_cons, List.length_nil, Nat.reduceAdd, Nat.reduceSub, Nat.reduceLeDiff, hold, br_t, br_f, if_true, if_false, Bool.false_eq_true, Bool.not_true, Bool.not_false, true_and, and_true, vB, Option.map_some, SZ], fun Qk hq => ?_⟩) (by simp [SZ]; omega) ?_
  · simp only [fnW, sRet, sRetN, sSeq, sDrop, sIf, sSet, sOwn, sNext, wVar, wC, wUn, wBin, wAndV, wOrV, wNotV, wChain, wB, wAndT, wOrT, wNotT, wIf, wA0, wA1, wTup, wLst, wFz, wUnF, wBinF, wCall, wO0, wO1, wSl, gt, st, rs, fz, mob, lob, withO, isOwn, Ob.D, fzP_some, optP_some, Option.bind_some, asBl, asInt, List.map_cons, List.map_nil, List.cons_append, List.nil_append, List.replicate, List.length_cons, List.length_nil, Nat.reduceAdd, Nat.reduceSub, Nat.reduceLeDiff, hold, br_t, br_f, if_true, if_false, Bool.false_eq_true, Bool.not_true, Bool.not_false, true_and, and_true, vB, Option.map_some, SZ, ct_is_within, fSub]
    exact ⟨y, 0, m - 1, rfl, hx.2.1 y hy, hq⟩
  · simp only [backE, fnW, sRet, sRetN, sSeq, sDrop, sIf, sSet, sOwn, sNext, wVar, wC, wUn, wBin, wAndV, wOrV, wNotV, wChain, wB, wAndT, wOrT, wNotT, wIf, wA0, wA1, wTup, wLst, wFz, wUnF, wBinF, wCall, wO0, wO1, wSl, gt, st, rs, fz, mob, lob, withO, isOwn, Ob.D, fzP_some, optP_some, Option.bind_some, asBl, asInt, List.map_cons, List.map_nil, List.cons_append, List.nil_append, List.replicate, List.length_cons, List.length_nil, Nat.reduceAdd, Nat.reduceSub, Nat.reduceLeDiff, hold, br_t, br_f, if_true, if_false, Bool.false_eq_true, Bool.not_true, Bool.not_false, true_and, and_true, vB, Option.map_some, SZ, List.nil_append, all_map]
    exact hq
theorem cut1 {α : Type} (xs : List α) : cut xs (some 1) none = xs.drop 1 := by
  cases xs with
  | nil => rfl
  | cons x xs => simp [cut, sIx]
theorem incr_zip : ∀ ns : List Int, (ns.zip (ns.drop 1)).all (fun p => decide (p.1 < p.2)) = incrI ns
  | [] => rfl
  | [_] => rfl
  | a :: b :: r => by
    have := incr_zip (b :: r)
    simp only [List.drop_succ_cons, List.drop_zero] at this
    simp only [List.drop_succ_cons, List.drop_zero, List.zip_cons_cons, List.all_cons, incrI, this]
theorem zipD_ints : ∀ ns ms : List Int, zipD (ns.map D.int) (ms.map D.int) = (ns.zip ms).map fun p => D.tup [.int p.1, .int p.2]
  | [], _ => rfl
  | _ :: _, [] => rfl
  | n :: ns, m :: ms => by simp [zipD, zipD_ints ns ms]
theorem ints_of_below {xs : List D} {m : Int} (h : below (.tup xs) m = true) : ∃ ns : List Int, xs = ns.map D.int ∧ ∀ n ∈ ns, 0 ≤ n ∧ n ≤ m - 1 := by
  induction xs with
  | nil => exact ⟨[], rfl, by simp⟩
  | cons x xs ih =>
    simp only [below, List.all_cons, Bool.and_eq_true] at h
    obtain ⟨ns, e, hn⟩ := ih (by simpa [below] using h.2)
    cases x <;> simp [isW] at h
    rename_i i
    refine ⟨i :: ns, by simp [e], fun n hn' => ?_⟩
    rcases List.mem_cons.mp hn' with z | z
    · subst z
      exact h.1
    · exact hn n z
theorem intsD'_map (ns : List Int) : intsD' (ns.map D.int) = ns := by simp [intsD', Function.comp_def]
def gLt : D → D
  | .tup [.int a, .int b] => .bl (decide (a < b))
  | _ => .non
theorem sp_is_row (ds q e) (h : ct_is_row ds q e) : fnW 2 w_is_row ds q e := by
  obtain ⟨x, m, rfl, hx, hq⟩ := h
  simp only [w_is_row, fnW, sRet, sRetN, sSeq, sDrop, sIf, sSet, sOwn, sNext, wVar, wC, wUn, wBin, wAndV, wOrV, wNotV, wChain, wB, wAndT, wOrT, wNotT, wIf, wA0, wA1, wTup, wLst, wFz, wUnF, wBinF, wCall, wO0, wO1, wSl, gt, st, rs, fz, mob, lob, withO, isOwn, Ob.D, fzP_some, optP_some, Option.bind_some, asBl, asInt, List.map_cons, List.map_nil, List.cons_append, List.nil_append, List.replicate, List.length_cons, List.length_nil, Nat.reduceAdd, Nat.reduceSub, Nat.reduceLeDiff, hold, br_t, br_f, if_true, if_false, Bool.false_eq_true, Bool.not_true, Bool.not_false, true_and, and_true, vB, Option.map_some, SZ, ct_are_below]
  refine ⟨x, m, rfl, hx, ?_⟩
  cases hb : below x m with
  | false =>
    have : isRow x m = false := by cases x <;> simp_all [isRow]
    rw [this] at hq
    simpa using hq
  | true =>
    cases x with
    | tup xs =>
      obtain ⟨ns, rfl, hn⟩ := ints_of_below hb
      have hl : ns.length ≤ 1000 := by
        simp only [goodRow, Bool.and_eq_true, decide_eq_true_eq, List.length_map] at hx
        exact hx.2.2
      have hr : isRow (.tup (ns.map .int)) m = incrI ns := by simp [isRow, hb, intsD'_map]
      rw [hr] at hq
      simp only [fnW, sRet, sRetN, sSeq, sDrop, sIf, sSet, sOwn, sNext, wVar, wC, wUn, wBin, wAndV, wOrV, wNotV, wChain, wB, wAndT, wOrT, wNotT, wIf, wA0, wA1, wTup, wLst, wFz, wUnF, wBinF, wCall, wO0, wO1, wSl, gt, st, rs, fz, mob, lob, withO, isOwn, Ob.D, fzP_some, optP_some, Option.bind_some, asBl, asInt, List.map_cons, List.map_nil, List.cons_append, List.nil_append, List.replicate, List.length_cons, List.length_nil, Nat.reduceAdd, Nat.reduceSub, Nat.reduceLeDiff, hold, br_t, br_f, if_true, if_false, Bool.false_eq_true, Bool.not_true, Bool.not_false, true_and, and_true, vB, Option.map_some, SZ, if_true]
      unfold wLc
      simp only [wiArgs, fnW, sRet, sRetN, sSeq, sDrop, sIf, sSet, sOwn, sNext, wVar, wC, wUn, wBin, wAndV, wOrV, wNotV, wChain, wB, wAndT, wOrT, wNotT, wIf, wA0, wA1, wTup, wLst, wFz, wUnF, wBinF, wCall, wO0, wO1, wSl, gt, st, rs, fz, mob, lob, withO, isOwn, Ob.D, fzP_some, optP_some, Option.bind_some, asBl, asInt, List.map_cons, List.map_nil, List.cons_append, List.nil_append, List.replicate, List.length_cons, List.length_nil, Nat.reduceAdd, Nat.reduceSub, Nat.reduceLeDiff, hold, br_t, br_f, if_true, if_false, Bool.false_eq_true, Bool.not_true, Bool.not_false, true_and, and_true, vB, Option.map_some, SZ, fSlice, fZip, cut1, noOwn, wipeE, ← List.map_drop, zipD_ints]
      refine lc_map gLt (fun y hy => ?_) (by simp [SZ]; omega) ?_
      · obtain ⟨p, _, rfl⟩ := List.mem_map.mp hy
        exact ⟨_, rfl, by simp [noOwn, fnW, sRet, sRetN, sSeq, sDrop, sIf, sSet, sOwn, sNext, wVar, wC, wUn, wBin, wAndV, wOrV, wNotV, wChain, wB, wAndT, wOrT, wNotT, wIf, wA0, wA1, wTup, wLst, wFz, wUnF, wBinF, wCall, wO0, wO1, wSl, gt, st, rs, fz, mob, lob, withO, isOwn, Ob.D, fzP_some, optP_some, Option.bind_some, asBl, asInt, List.map_cons, List.map_nil, List.cons_append, List.nil_append, List.replicate, List.length_cons, List.length_nil, Nat.reduceAdd, Nat.reduceSub, Nat.reduceLeDiff, hold, br_t, br_f, if_true, if_false, Bool.false_eq_true, Bool.not_true, Bool.not_false, true_and, and_true, vB, Option.map_some, SZ], by simp [wipeE, fnW, sRet, sRetN, sSeq, sDrop, sIf, sSet, sOwn, sNext, wVar, wC, wUn, wBin, wAndV, wOrV, wNotV, wChain, wB, wAndT, wOrT, wNotT, wIf, wA0, wA1, wTup, wLst, wFz, wUnF, wBinF, wCall, wO0, wO1, wSl, gt, st, rs, fz, mob, lob, withO, isOwn, Ob.D, fzP_some, optP_some, Option.bind_some, asBl, asInt, List.map_cons, List.map_nil, List.cons_append, List.nil_append, List.replicate, List.length_cons, List.length_nil, Nat.reduceAdd, Nat.reduceSub, Nat.reduceLeDiff, hold, br_t, br_f, if_true, if_false, Bool.false_eq_true, Bool.not_true, Bool.not_false, true_and, and_true, vB, Option.map_some, SZ], fun Qk hq => by simpa [fnW, sRet, sRetN, sSeq, sDrop, sIf, sSet, sOwn, sNext, wVar, wC, wUn, wBin, wAndV, wOrV, wNotV, wChain, wB, wAndT, wOrT, wNotT, wIf, wA0, wA1, wTup, wLst, wFz, wUnF, wBinF, wCall, wO0, wO1, wSl, gt, st, rs, fz, mob, lob, withO, isOwn, Ob.D, fzP_some, optP_some, Option.bind_some, asBl, asInt, List.map_cons, List.map_nil, List.cons_append, List.nil_append, List.replicate, List.length_cons, List.length_nil, Nat.reduceAdd, Nat.reduceSub, Nat.reduceLeDiff, hold, br_t, br_f, if_true, if_false, Bool.false_eq_true, Bool.not_true, Bool.not_false, true_and, and_true, vB, Option.map_some, SZ, cLt, gLt] using hq⟩
      · simp only [backE, fnW, sRet, sRetN, sSeq, sDrop, sIf, sSet, sOwn, sNext, wVar, wC, wUn, wBin, wAndV, wOrV, wNotV, wChain, wB, wAndT, wOrT, wNotT, wIf, wA0, wA1, wTup, wLst, wFz, wUnF, wBinF, wCall, wO0, wO1, wSl, gt, st, rs, fz, mob, lob, withO, isOwn, Ob.D, fzP_some, optP_some, Option.bind_some, asBl, asInt, List.map_cons, List.map_nil, List.cons_append, List.nil_append, List.replicate, List.length_cons, List.length_nil, Nat.reduceAdd, Nat.reduceSub, Nat.reduceLeDiff, hold, br_t, br_f, if_true, if_false, Bool.false_eq_true, Bool.not_true, Bool.not_false, true_and, and_true, vB, Option.map_some, SZ, List.map_map]
        have : (gLt ∘ fun (p : Int × Int) => D.tup [.int p.1, .int p.2]) = fun p => .bl (decide (p.1 < p.2)) := rfl
        rw [this, all_map, incr_zip]
        exact hq
    | _ => simp [below] at hb
theorem seq_len {x : D} {xs : List D} (h : seqOf x = some xs) : fLen x = some (.int xs.length) := by
  cases x <;> simp [seqOf] at h <;> subst h <;> rfl
theorem seq_ix {x : D} {xs : List D} (h : seqOf x = some xs) (i : Int) : fIx x (.int i) = atD xs i := by
  cases x <;> simp [seqOf] at h <;> subst h <;> rfl
theorem sp__law_any (ds q e) (h : ct__law_any ds q e) : fnW 0 w__law_any ds q e := by
  obtain ⟨x, xs, rfl, hs, hne, hl, hq⟩ := h
  have hp : 0 < xs.length := List.length_pos_iff.mpr hne
  simp only [w__law_any, fnW, sRet, sRetN, sSeq, sDrop, sIf, sSet, sOwn, sNext, wVar, wC, wUn, wBin, wAndV, wOrV, wNotV, wChain, wB, wAndT, wOrT, wNotT, wIf, wA0, wA1, wTup, wLst, wFz, wUnF, wBinF, wCall, wO0, wO1, wSl, gt, st, rs, fz, mob, lob, withO, isOwn, Ob.D, fzP_some, optP_some, Option.bind_some, asBl, asInt, List.map_cons, List.map_nil, List.cons_append, List.nil_append, List.replicate, List.length_cons, List.length_nil, Nat.reduceAdd, Nat.reduceSub, Nat.reduceLeDiff, hold, br_t, br_f, if_true, if_false, Bool.false_eq_true, Bool.not_true, Bool.not_false, true_and, and_true, vB, Option.map_some, SZ, seq_len hs, ct__law_draw]
  refine ⟨xs.length, rfl, by omega, by omega, fun d h0 h1 => ?_⟩
  have hlt : d.toNat < xs.length := by omega
  simp only [seq_ix hs, atD, h0, if_true, List.getElem?_eq_getElem hlt, fnW, sRet, sRetN, sSeq, sDrop, sIf, sSet, sOwn, sNext, wVar, wC, wUn, wBin, wAndV, wOrV, wNotV, wChain, wB, wAndT, wOrT, wNotT, wIf, wA0, wA1, wTup, wLst, wFz, wUnF, wBinF, wCall, wO0, wO1, wSl, gt, st, rs, fz, mob, lob, withO, isOwn, Ob.D, fzP_some, optP_some, Option.bind_some, asBl, asInt, List.map_cons, List.map_nil, List.cons_append, List.nil_append, List.replicate, List.length_cons, List.length_nil, Nat.reduceAdd, Nat.reduceSub, Nat.reduceLeDiff, hold, br_t, br_f, if_true, if_false, Bool.false_eq_true, Bool.not_true, Bool.not_false, true_and, and_true, vB, Option.map_some, SZ]
  exact hq _ (List.getElem_mem hlt)
theorem perm_erase : ∀ (L : List D) (i : Nat) (h : i < L.length), List.Perm (L[i] :: L.eraseIdx i) L
  | x :: L, 0, _ => List.Perm.refl _
  | x :: L, i + 1, h => by
    have := perm_erase L i (by simpa using h)
    simp only [List.getElem_cons_succ, List.eraseIdx_cons_succ]
    exact (List.Perm.swap _ _ _).trans (List.Perm.cons x this)
theorem sp__law_mixed (ds q e) (h : ct__law_mixed ds q e) : fnW 2 w__law_mixed ds q e := by
  obtain ⟨x, xs, rfl, hs, hl, hq⟩ := h
  have hL : fList x = some xs := hs
  simp only [w__law_mixed, fnW, sRet, sRetN, sSeq, sDrop, sIf, sSet, sOwn, sNext, wVar, wC, wUn, wBin, wAndV, wOrV, wNotV, wChain, wB, wAndT, wOrT, wNotT, wIf, wA0, wA1, wTup, wLst, wFz, wUnF, wBinF, wCall, wO0, wO1, wSl, gt, st, rs, fz, mob, lob, withO, isOwn, Ob.D, fzP_some, optP_some, Option.bind_some, asBl, asInt, List.map_cons, List.map_nil, List.cons_append, List.nil_append, List.replicate, List.length_cons, List.length_nil, Nat.reduceAdd, Nat.reduceSub, Nat.reduceLeDiff, hold, br_t, br_f, if_true, if_false, Bool.false_eq_true, Bool.not_true, Bool.not_false, true_and, and_true, vB, Option.map_some, SZ, sPar, srcGo, hL, List.foldl]
  refine ⟨fun (m : Nat) (en : Env) => ∃ L F : List D, en = [.val .hand, .val x, .own (.l L), .own (.l F)] ∧ List.Perm (F ++ L) xs ∧ m = L.length, ⟨xs.length, xs, [], rfl, by simp, rfl⟩, ?_⟩
  rintro m en ⟨L, F, rfl, hp, rfl⟩
  have hle := hp.length_eq
  simp only [List.length_append] at hle
  simp only [fnW, sRet, sRetN, sSeq, sDrop, sIf, sSet, sOwn, sNext, wVar, wC, wUn, wBin, wAndV, wOrV, wNotV, wChain, wB, wAndT, wOrT, wNotT, wIf, wA0, wA1, wTup, wLst, wFz, wUnF, wBinF, wCall, wO0, wO1, wSl, gt, st, rs, fz, mob, lob, withO, isOwn, Ob.D, fzP_some, optP_some, Option.bind_some, asBl, asInt, List.map_cons, List.map_nil, List.cons_append, List.nil_append, List.replicate, List.length_cons, List.length_nil, Nat.reduceAdd, Nat.reduceSub, Nat.reduceLeDiff, hold, br_t, br_f, if_true, if_false, Bool.false_eq_true, Bool.not_true, Bool.not_false, true_and, and_true, vB, Option.map_some, SZ, fLen, cGt, cLt]
  by_cases h0 : (0 : Int) < L.length
  · simp only [h0, decide_true, if_true]
    simp only [sAppend, wPopAt, fnW, sRet, sRetN, sSeq, sDrop, sIf, sSet, sOwn, sNext, wVar, wC, wUn, wBin, wAndV, wOrV, wNotV, wChain, wB, wAndT, wOrT, wNotT, wIf, wA0, wA1, wTup, wLst, wFz, wUnF, wBinF, wCall, wO0, wO1, wSl, gt, st, rs, fz, mob, lob, withO, isOwn, Ob.D, fzP_some, optP_some, Option.bind_some, asBl, asInt, List.map_cons, List.map_nil, List.cons_append, List.nil_append, List.replicate, List.length_cons, List.length_nil, Nat.reduceAdd, Nat.reduceSub, Nat.reduceLeDiff, hold, br_t, br_f, if_true, if_false, Bool.false_eq_true, Bool.not_true, Bool.not_false, true_and, and_true, vB, Option.map_some, SZ, isOwn, fLen, ct__law_draw]
    refine ⟨L.length, rfl, h0, by omega, fun d d0 d1 => ?_⟩
    have hlt : d.toNat < L.length := by omega
    simp only [fnW, sRet, sRetN, sSeq, sDrop, sIf, sSet, sOwn, sNext, wVar, wC, wUn, wBin, wAndV, wOrV, wNotV, wChain, wB, wAndT, wOrT, wNotT, wIf, wA0, wA1, wTup, wLst, wFz, wUnF, wBinF, wCall, wO0, wO1, wSl, gt, st, rs, fz, mob, lob, withO, isOwn, Ob.D, fzP_some, optP_some, Option.bind_some, asBl, asInt, List.map_cons, List.map_nil, List.cons_append, List.nil_append, List.replicate, List.length_cons, List.length_nil, Nat.reduceAdd, Nat.reduceSub, Nat.reduceLeDiff, hold, br_t, br_f, if_true, if_false, Bool.false_eq_true, Bool.not_true, Bool.not_false, true_and, and_true, vB, Option.map_some, SZ, d0, List.getElem?_eq_getElem hlt]
    refine ⟨by omega, by omega, _, ?_, L.eraseIdx d.toNat, F ++ [L[d.toNat]], rfl, ?_, rfl⟩
    · rw [List.length_eraseIdx]
      simp only [hlt, if_true]
      omega
    · have e1 : List.Perm L (L[d.toNat] :: L.eraseIdx d.toNat) := (perm_erase L d.toNat hlt).symm
      refine List.Perm.trans ?_ hp
      rw [List.append_assoc]
      exact List.Perm.append_left F e1.symm
  · simp only [h0, decide_false, if_false]
    have : L = [] := List.length_eq_zero_iff.mp (by omega)
    subst this
    simp only [fnW, sRet, sRetN, sSeq, sDrop, sIf, sSet, sOwn, sNext, wVar, wC, wUn, wBin, wAndV, wOrV, wNotV, wChain, wB, wAndT, wOrT, wNotT, wIf, wA0, wA1, wTup, wLst, wFz, wUnF, wBinF, wCall, wO0, wO1, wSl, gt, st, rs, fz, mob, lob, withO, isOwn, Ob.D, fzP_some, optP_some, Option.bind_some, asBl, asInt, List.map_cons, List.map_nil, List.cons_append, List.nil_append, List.replicate, List.length_cons, List.length_nil, Nat.reduceAdd, Nat.reduceSub, Nat.reduceLeDiff, hold, br_t, br_f, if_true, if_false, Bool.false_eq_true, Bool.not_true, Bool.not_false, true_and, and_true, vB, Option.map_some, SZ]
    exact hq F (by simpa using hp)
theorem sOks_mem : ∀ {xs : List D} {y : D}, sOks xs = true → y ∈ xs → sOk y = true
  | x :: xs, y, h, hy => by
    simp only [sOks, Bool.and_eq_true] at h
    rcases List.mem_cons.mp hy with z | z
    · rw [z]; exact h.1
    · exact sOks_mem h.2 z
theorem deps_mem : ∀ {xs : List D} {y : D}, y ∈ xs → dep y ≤ deps xs
  | x :: xs, y, hy => by
    simp only [deps]
    rcases List.mem_cons.mp hy with z | z
    · rw [z]; omega
    · have := deps_mem z; omega
theorem zipD_self : ∀ {xs : List D} {z : D}, z ∈ zipD xs xs → ∃ y ∈ xs, z = .tup [y, y]
  | x :: xs, z, h => by
    simp only [zipD] at h
    rcases List.mem_cons.mp h with e | e
    · exact ⟨x, List.mem_cons_self, e⟩
    · obtain ⟨y, h1, h2⟩ := zipD_self e
      exact ⟨y, List.mem_cons_of_mem _ h1, h2⟩
theorem zipD_len : ∀ {xs ys : List D}, (zipD xs ys).length ≤ xs.length
  | [], ys => by cases ys <;> simp [zipD]
  | _ :: _, [] => by simp [zipD]
  | x :: xs, y :: ys => by
    have := zipD_len (xs := xs) (ys := ys)
    simp [zipD]
    exact this
theorem bls_true : ∀ {xs : List D}, blsOf (xs.map fun _ => D.bl true) = some (xs.map fun _ => true) := bls_map (fun _ => true) _
theorem sp__law_same (m : Nat) (ds q e) (h : ct__law_same (m + 1) ds q e) : fnW 2 (w__law_same m) ds q e := by
  obtain ⟨x, rfl, hs, hd, hq⟩ := h
  have hn : noObj x = true := by cases x <;> simp_all [sOk, noObj]
  simp only [w__law_same, fnW, sRet, sRetN, sSeq, sDrop, sIf, sSet, sOwn, sNext, wVar, wC, wUn, wBin, wAndV, wOrV, wNotV, wChain, wB, wAndT, wOrT, wNotT, wIf, wA0, wA1, wTup, wLst, wFz, wUnF, wBinF, wCall, wO0, wO1, wSl, gt, st, rs, fz, mob, lob, withO, isOwn, Ob.D, fzP_some, optP_some, Option.bind_some, asBl, asInt, List.map_cons, List.map_nil, List.cons_append, List.nil_append, List.replicate, List.length_cons, List.length_nil, Nat.reduceAdd, Nat.reduceSub, Nat.reduceLeDiff, hold, br_t, br_f, if_true, if_false, Bool.false_eq_true, Bool.not_true, Bool.not_false, true_and, and_true, vB, Option.map_some, SZ, fIs0 _ hn]
  have zs : ∀ xs : List D, sOks xs = true → deps xs + 1 < m + 1 → xs.length ≤ SZ → ∀ env : Env, env.length = 4 → (∃ a b, env = [a, b, .un, .un]) →
      ∀ Q : KA, Q ((zipD xs xs).map fun _ => .bl true) env → lcGo (kTup [kName 2, kName 3]) wTrue (wCall (ct__law_same m) (wA1 (wVar 2) (wA1 (wVar 3) wA0))) [2, 3] Q (zipD xs xs) [] env := by
    rintro xs h1 h2 h3 env _ ⟨a, b, rfl⟩ Q hQ
    refine lc_map (fun _ => .bl true) (fun y hy => ?_) (by have := zipD_len (xs := xs) (ys := xs); simp; omega) hQ
    obtain ⟨z, hz, rfl⟩ := zipD_self hy
    refine ⟨_, rfl, by simp [noOwn, fnW, sRet, sRetN, sSeq, sDrop, sIf, sSet, sOwn, sNext, wVar, wC, wUn, wBin, wAndV, wOrV, wNotV, wChain, wB, wAndT, wOrT, wNotT, wIf, wA0, wA1, wTup, wLst, wFz, wUnF, wBinF, wCall, wO0, wO1, wSl, gt, st, rs, fz, mob, lob, withO, isOwn, Ob.D, fzP_some, optP_some, Option.bind_some, asBl, asInt, List.map_cons, List.map_nil, List.cons_append, List.nil_append, List.replicate, List.length_cons, List.length_nil, Nat.reduceAdd, Nat.reduceSub, Nat.reduceLeDiff, hold, br_t, br_f, if_true, if_false, Bool.false_eq_true, Bool.not_true, Bool.not_false, true_and, and_true, vB, Option.map_some, SZ], by simp [wipeE, fnW, sRet, sRetN, sSeq, sDrop, sIf, sSet, sOwn, sNext, wVar, wC, wUn, wBin, wAndV, wOrV, wNotV, wChain, wB, wAndT, wOrT, wNotT, wIf, wA0, wA1, wTup, wLst, wFz, wUnF, wBinF, wCall, wO0, wO1, wSl, gt, st, rs, fz, mob, lob, withO, isOwn, Ob.D, fzP_some, optP_some, Option.bind_some, asBl, asInt, List.map_cons, List.map_nil, List.cons_append, List.nil_append, List.replicate, List.length_cons, List.length_nil, Nat.reduceAdd, Nat.reduceSub, Nat.reduceLeDiff, hold, br_t, br_f, if_true, if_false, Bool.false_eq_true, Bool.not_true, Bool.not_false, true_and, and_true, vB, Option.map_some, SZ], fun Qk hq => ?_⟩
    simp only [fnW, sRet, sRetN, sSeq, sDrop, sIf, sSet, sOwn, sNext, wVar, wC, wUn, wBin, wAndV, wOrV, wNotV, wChain, wB, wAndT, wOrT, wNotT, wIf, wA0, wA1, wTup, wLst, wFz, wUnF, wBinF, wCall, wO0, wO1, wSl, gt, st, rs, fz, mob, lob, withO, isOwn, Ob.D, fzP_some, optP_some, Option.bind_some, asBl, asInt, List.map_cons, List.map_nil, List.cons_append, List.nil_append, List.replicate, List.length_cons, List.length_nil, Nat.reduceAdd, Nat.reduceSub, Nat.reduceLeDiff, hold, br_t, br_f, if_true, if_false, Bool.false_eq_true, Bool.not_true, Bool.not_false, true_and, and_true, vB, Option.map_some, SZ, ct__law_same]
    exact ⟨z, rfl, sOks_mem h1 hz, by have := deps_mem hz; omega, hq⟩
  cases x with
  | non => simpa [fnW, sRet, sRetN, sSeq, sDrop, sIf, sSet, sOwn, sNext, wVar, wC, wUn, wBin, wAndV, wOrV, wNotV, wChain, wB, wAndT, wOrT, wNotT, wIf, wA0, wA1, wTup, wLst, wFz, wUnF, wBinF, wCall, wO0, wO1, wSl, gt, st, rs, fz, mob, lob, withO, isOwn, Ob.D, fzP_some, optP_some, Option.bind_some, asBl, asInt, List.map_cons, List.map_nil, List.cons_append, List.nil_append, List.replicate, List.length_cons, List.length_nil, Nat.reduceAdd, Nat.reduceSub, Nat.reduceLeDiff, hold, br_t, br_f, if_true, if_false, Bool.false_eq_true, Bool.not_true, Bool.not_false, true_and, and_true, vB, Option.map_some, SZ, tyOf, sub, cEq, scalD, eqS, cIsN, isNon, cNot, sIf, sRet] using hq
  | int i => simpa [fnW, sRet, sRetN, sSeq, sDrop, sIf, sSet, sOwn, sNext, wVar, wC, wUn, wBin, wAndV, wOrV, wNotV, wChain, wB, wAndT, wOrT, wNotT, wIf, wA0, wA1, wTup, wLst, wFz, wUnF, wBinF, wCall, wO0, wO1, wSl, gt, st, rs, fz, mob, lob, withO, isOwn, Ob.D, fzP_some, optP_some, Option.bind_some, asBl, asInt, List.map_cons, List.map_nil, List.cons_append, List.nil_append, List.replicate, List.length_cons, List.length_nil, Nat.reduceAdd, Nat.reduceSub, Nat.reduceLeDiff, hold, br_t, br_f, if_true, if_false, Bool.false_eq_true, Bool.not_true, Bool.not_false, true_and, and_true, vB, Option.map_some, SZ, tyOf, sub, cEq, scalD, eqS, cIsN, isNon, cNot] using hq
  | str i => simpa [fnW, sRet, sRetN, sSeq, sDrop, sIf, sSet, sOwn, sNext, wVar, wC, wUn, wBin, wAndV, wOrV, wNotV, wChain, wB, wAndT, wOrT, wNotT, wIf, wA0, wA1, wTup, wLst, wFz, wUnF, wBinF, wCall, wO0, wO1, wSl, gt, st, rs, fz, mob, lob, withO, isOwn, Ob.D, fzP_some, optP_some, Option.bind_some, asBl, asInt, List.map_cons, List.map_nil, List.cons_append, List.nil_append, List.replicate, List.length_cons, List.length_nil, Nat.reduceAdd, Nat.reduceSub, Nat.reduceLeDiff, hold, br_t, br_f, if_true, if_false, Bool.false_eq_true, Bool.not_true, Bool.not_false, true_and, and_true, vB, Option.map_some, SZ, tyOf, sub, cEq, scalD, eqS, cIsN, isNon, cNot] using hq
  | bl i => simpa [fnW, sRet, sRetN, sSeq, sDrop, sIf, sSet, sOwn, sNext, wVar, wC, wUn, wBin, wAndV, wOrV, wNotV, wChain, wB, wAndT, wOrT, wNotT, wIf, wA0, wA1, wTup, wLst, wFz, wUnF, wBinF, wCall, wO0, wO1, wSl, gt, st, rs, fz, mob, lob, withO, isOwn, Ob.D, fzP_some, optP_some, Option.bind_some, asBl, asInt, List.map_cons, List.map_nil, List.cons_append, List.nil_append, List.replicate, List.length_cons, List.length_nil, Nat.reduceAdd, Nat.reduceSub, Nat.reduceLeDiff, hold, br_t, br_f, if_true, if_false, Bool.false_eq_true, Bool.not_true, Bool.not_false, true_and, and_true, vB, Option.map_some, SZ, tyOf, sub, cEq, scalD, eqS, cIsN, isNon, cNot] using hq
  | tup xs =>
    simp only [sOk, Bool.and_eq_true, decide_eq_true_eq] at hs
    simp only [dep] at hd
    simp [fnW, sRet, sRetN, sSeq, sDrop, sIf, sSet, sOwn, sNext, wVar, wC, wUn, wBin, wAndV, wOrV, wNotV, wChain, wB, wAndT, wOrT, wNotT, wIf, wA0, wA1, wTup, wLst, wFz, wUnF, wBinF, wCall, wO0, wO1, wSl, gt, st, rs, fz, mob, lob, withO, isOwn, Ob.D, fzP_some, optP_some, Option.bind_some, asBl, asInt, List.map_cons, List.map_nil, List.cons_append, List.nil_append, List.replicate, List.length_cons, List.length_nil, Nat.reduceAdd, Nat.reduceSub, Nat.reduceLeDiff, hold, br_t, br_f, if_true, if_false, Bool.false_eq_true, Bool.not_true, Bool.not_false, true_and, and_true, vB, Option.map_some, SZ, tyOf, sub, cEq, scalD, eqS, cNot, fLen]
    unfold wLc
    simp only [wiArgs, fnW, sRet, sRetN, sSeq, sDrop, sIf, sSet, sOwn, sNext, wVar, wC, wUn, wBin, wAndV, wOrV, wNotV, wChain, wB, wAndT, wOrT, wNotT, wIf, wA0, wA1, wTup, wLst, wFz, wUnF, wBinF, wCall, wO0, wO1, wSl, gt, st, rs, fz, mob, lob, withO, isOwn, Ob.D, fzP_some, optP_some, Option.bind_some, asBl, asInt, List.map_cons, List.map_nil, List.cons_append, List.nil_append, List.replicate, List.length_cons, List.length_nil, Nat.reduceAdd, Nat.reduceSub, Nat.reduceLeDiff, hold, br_t, br_f, if_true, if_false, Bool.false_eq_true, Bool.not_true, Bool.not_false, true_and, and_true, vB, Option.map_some, SZ, fZip, noOwn, wipeE]
    refine zs xs hs.2 hd (by simp [SZ]; omega) _ rfl ⟨_, _, rfl⟩ _ ?_
    have e2 : fAll (.lst ((zipD xs xs).map fun _ => D.bl true)) = some (.bl true) := by
      rw [all_map (fun _ => true)]
      simp
    simp only [backE, fnW, sRet, sRetN, sSeq, sDrop, sIf, sSet, sOwn, sNext, wVar, wC, wUn, wBin, wAndV, wOrV, wNotV, wChain, wB, wAndT, wOrT, wNotT, wIf, wA0, wA1, wTup, wLst, wFz, wUnF, wBinF, wCall, wO0, wO1, wSl, gt, st, rs, fz, mob, lob, withO, isOwn, Ob.D, fzP_some, optP_some, Option.bind_some, asBl, asInt, List.map_cons, List.map_nil, List.cons_append, List.nil_append, List.replicate, List.length_cons, List.length_nil, Nat.reduceAdd, Nat.reduceSub, Nat.reduceLeDiff, hold, br_t, br_f, if_true, if_false, Bool.false_eq_true, Bool.not_true, Bool.not_false, true_and, and_true, vB, Option.map_some, SZ, e2]
    exact hq
  | lst xs =>
    simp only [sOk, Bool.and_eq_true, decide_eq_true_eq] at hs
    simp only [dep] at hd
    simp [fnW, sRet, sRetN, sSeq, sDrop, sIf, sSet, sOwn, sNext, wVar, wC, wUn, wBin, wAndV, wOrV, wNotV, wChain, wB, wAndT, wOrT, wNotT, wIf, wA0, wA1, wTup, wLst, wFz, wUnF, wBinF, wCall, wO0, wO1, wSl, gt, st, rs, fz, mob, lob, withO, isOwn, Ob.D, fzP_some, optP_some, Option.bind_some, asBl, asInt, List.map_cons, List.map_nil, List.cons_append, List.nil_append, List.replicate, List.length_cons, List.length_nil, Nat.reduceAdd, Nat.reduceSub, Nat.reduceLeDiff, hold, br_t, br_f, if_true, if_false, Bool.false_eq_true, Bool.not_true, Bool.not_false, true_and, and_true, vB, Option.map_some, SZ, tyOf, sub, cEq, scalD, eqS, cNot, fLen]
    unfold wLc
    simp only [wiArgs, fnW, sRet, sRetN, sSeq, sDrop, sIf, sSet, sOwn, sNext, wVar, wC, wUn, wBin, wAndV, wOrV, wNotV, wChain, wB, wAndT, wOrT, wNotT, wIf, wA0, wA1, wTup, wLst, wFz, wUnF, wBinF, wCall, wO0, wO1, wSl, gt, st, rs, fz, mob, lob, withO, isOwn, Ob.D, fzP_some, optP_some, Option.bind_some, asBl, asInt, List.map_cons, List.map_nil, List.cons_append, List.nil_append, List.replicate, List.length_cons, List.length_nil, Nat.reduceAdd, Nat.reduceSub, Nat.reduceLeDiff, hold, br_t, br_f, if_true, if_false, Bool.false_eq_true, Bool.not_true, Bool.not_false, true_and, and_true, vB, Option.map_some, SZ, fZip, noOwn, wipeE]
    refine zs xs hs.2 hd (by simp [SZ]; omega) _ rfl ⟨_, _, rfl⟩ _ ?_
    have e2 : fAll (.lst ((zipD xs xs).map fun _ => D.bl true)) = some (.bl true) := by
      rw [all_map (fun _ => true)]
      simp
    simp only [backE, fnW, sRet, sRetN, sSeq, sDrop, sIf, sSet, sOwn, sNext, wVar, wC, wUn, wBin, wAndV, wOrV, wNotV, wChain, wB, wAndT, wOrT, wNotT, wIf, wA0, wA1, wTup, wLst, wFz, wUnF, wBinF, wCall, wO0, wO1, wSl, gt, st, rs, fz, mob, lob, withO, isOwn, Ob.D, fzP_some, optP_some, Option.bind_some, asBl, asInt, List.map_cons, List.map_nil, List.cons_append, List.nil_append, List.replicate, List.length_cons, List.length_nil, Nat.reduceAdd, Nat.reduceSub, Nat.reduceLeDiff, hold, br_t, br_f, if_true, if_false, Bool.false_eq_true, Bool.not_true, Bool.not_false, true_and, and_true, vB, Option.map_some, SZ, e2]
    exact hq
  | _ => simp [sOk] at hs
end Mt
end Mts_

section Mtt_
set_option maxRecDepth 100000
set_option maxHeartbeats 1000000
namespace Mt
open LW
abbrev bodyH : WS := (sIf (wOrT (wB (wBin (vB cGe) (wVar 3) (wC (.int 24)))) (wNotT (wB (wCall ct_is_row (wA1 (wVar 4) (wA1 (wVar 1) wA0)))))) (sRaise 1 (wA1 (wC (.str [102, 105, 116, 115])) (wA1 (wVar 3) wA0))) sNext)
theorem house_loop {a : Nat} {b : Int} {f : D} {Z : Ds} {e : D → Prop} : ∀ (rows : List D) (k : Nat) (s3 s4 : Slot), (∀ r ∈ rows, goodRow r = true) → (match judgeGo b k rows with | none => ∀ s3 s4, Z.nx [.fix a, .val (.int b), .val f, s3, s4] | some j => e (.obj 1 [.str sFits, .int (j : Int)])) →
    forGo (kTup [kName 3, kName 4]) bodyH Z (fun x _ => e x) (enumD k rows) [.fix a, .val (.int b), .val f, s3, s4]
  | [], k, s3, s4, _, h => by
    simp only [judgeGo] at h
    simp only [enumD, forGo]
    exact h s3 s4
  | r :: tl, k, s3, s4, hg, h => by
    simp only [enumD, forGo, kTup, kTups, kName, fnW, sRet, sRetN, sSeq, sDrop, sIf, sSet, sOwn, sNext, wVar, wC, wUn, wBin, wAndV, wOrV, wNotV, wChain, wB, wAndT, wOrT, wNotT, wIf, wA0, wA1, wTup, wLst, wFz, wUnF, wBinF, wCall, wO0, wO1, wSl, gt, st, rs, fz, mob, lob, withO, isOwn, Ob.D, fzP_some, optP_some, Option.bind_some, asBl, asInt, List.map_cons, List.map_nil, List.cons_append, List.nil_append, List.replicate, List.length_cons, List.length_nil, Nat.reduceAdd, Nat.reduceSub, Nat.reduceLeDiff, hold, br_t, br_f, if_true, if_false, Bool.false_eq_true, Bool.not_true, Bool.not_false, true_and, and_true, vB, Option.map_some, SZ, bodyH, cGe, cLe]
    simp only [judgeGo] at h
    by_cases hk : k ≥ 24
    · have hk' : (24 : Int) ≤ k := by omega
      simp only [hk', decide_true, fnW, sRet, sRetN, sSeq, sDrop, sIf, sSet, sOwn, sNext, wVar, wC, wUn, wBin, wAndV, wOrV, wNotV, wChain, wB, wAndT, wOrT, wNotT, wIf, wA0, wA1, wTup, wLst, wFz, wUnF, wBinF, wCall, wO0, wO1, wSl, gt, st, rs, fz, mob, lob, withO, isOwn, Ob.D, fzP_some, optP_some, Option.bind_some, asBl, asInt, List.map_cons, List.map_nil, List.cons_append, List.nil_append, List.replicate, List.length_cons, List.length_nil, Nat.reduceAdd, Nat.reduceSub, Nat.reduceLeDiff, hold, br_t, br_f, if_true, if_false, Bool.false_eq_true, Bool.not_true, Bool.not_false, true_and, and_true, vB, Option.map_some, SZ, sRaise]
      simp only [hk, true_or, if_true] at h
      exact h
    · have hk' : ¬ (24 : Int) ≤ k := by omega
      simp only [hk', decide_false, fnW, sRet, sRetN, sSeq, sDrop, sIf, sSet, sOwn, sNext, wVar, wC, wUn, wBin, wAndV, wOrV, wNotV, wChain, wB, wAndT, wOrT, wNotT, wIf, wA0, wA1, wTup, wLst, wFz, wUnF, wBinF, wCall, wO0, wO1, wSl, gt, st, rs, fz, mob, lob, withO, isOwn, Ob.D, fzP_some, optP_some, Option.bind_some, asBl, asInt, List.map_cons, List.map_nil, List.cons_append, List.nil_append, List.replicate, List.length_cons, List.length_nil, Nat.reduceAdd, Nat.reduceSub, Nat.reduceLeDiff, hold, br_t, br_f, if_true, if_false, Bool.false_eq_true, Bool.not_true, Bool.not_false, true_and, and_true, vB, Option.map_some, SZ, ct_is_row]
      refine ⟨r, b, rfl, hg r List.mem_cons_self, ?_⟩
      cases hr : isRow r b with
      | false =>
        simp only [hr, or_true, if_true] at h
        simp only [fnW, sRet, sRetN, sSeq, sDrop, sIf, sSet, sOwn, sNext, wVar, wC, wUn, wBin, wAndV, wOrV, wNotV, wChain, wB, wAndT, wOrT, wNotT, wIf, wA0, wA1, wTup, wLst, wFz, wUnF, wBinF, wCall, wO0, wO1, wSl, gt, st, rs, fz, mob, lob, withO, isOwn, Ob.D, fzP_some, optP_some, Option.bind_some, asBl, asInt, List.map_cons, List.map_nil, List.cons_append, List.nil_append, List.replicate, List.length_cons, List.length_nil, Nat.reduceAdd, Nat.reduceSub, Nat.reduceLeDiff, hold, br_t, br_f, if_true, if_false, Bool.false_eq_true, Bool.not_true, Bool.not_false, true_and, and_true, vB, Option.map_some, SZ, sRaise]
        exact h
      | true =>
        simp only [hr, hk, false_or, Bool.true_eq_false, if_false] at h
        simp only [fnW, sRet, sRetN, sSeq, sDrop, sIf, sSet, sOwn, sNext, wVar, wC, wUn, wBin, wAndV, wOrV, wNotV, wChain, wB, wAndT, wOrT, wNotT, wIf, wA0, wA1, wTup, wLst, wFz, wUnF, wBinF, wCall, wO0, wO1, wSl, gt, st, rs, fz, mob, lob, withO, isOwn, Ob.D, fzP_some, optP_some, Option.bind_some, asBl, asInt, List.map_cons, List.map_nil, List.cons_append, List.nil_append, List.replicate, List.length_cons, List.length_nil, Nat.reduceAdd, Nat.reduceSub, Nat.reduceLeDiff, hold, br_t, br_f, if_true, if_false, Bool.false_eq_true, Bool.not_true, Bool.not_false, true_and, and_true, vB, Option.map_some, SZ]
        exact house_loop tl (k + 1) _ _ (fun x hx => hg x (List.mem_cons_of_mem _ hx)) h
theorem sp_House (ds q e) (h : ct_House ds q e) : fnI 2 0 i_House ds q e := by
  obtain ⟨b, f, rfl, hb, hf, hq⟩ := h
  intro a
  have hfn : noObj f = true := by simp only [goodF, Bool.and_eq_true] at hf; exact hf.1
  simp only [i_House, initGo, fnW, sRet, sRetN, sSeq, sDrop, sIf, sSet, sOwn, sNext, wVar, wC, wUn, wBin, wAndV, wOrV, wNotV, wChain, wB, wAndT, wOrT, wNotT, wIf, wA0, wA1, wTup, wLst, wFz, wUnF, wBinF, wCall, wO0, wO1, wSl, gt, st, rs, fz, mob, lob, withO, isOwn, Ob.D, fzP_some, optP_some, Option.bind_some, asBl, asInt, List.map_cons, List.map_nil, List.cons_append, List.nil_append, List.replicate, List.length_cons, List.length_nil, Nat.reduceAdd, Nat.reduceSub, Nat.reduceLeDiff, hold, br_t, br_f, if_true, if_false, Bool.false_eq_true, Bool.not_true, Bool.not_false, true_and, and_true, vB, Option.map_some, SZ, ct_is_within]
  refine ⟨b, 0, 24, rfl, hb, ?_⟩
  cases hw : isW b 0 24 with
  | false =>
    have hj : judge b f = some (sBeds, -1) := by
      cases b <;> simp [isW] at hw <;> simp [judge]
      rename_i i
      by_cases h0 : 0 ≤ i
      · simp [h0] at hw; omega
      · simp [h0]
    rw [hj] at hq
    simp only [fnW, sRet, sRetN, sSeq, sDrop, sIf, sSet, sOwn, sNext, wVar, wC, wUn, wBin, wAndV, wOrV, wNotV, wChain, wB, wAndT, wOrT, wNotT, wIf, wA0, wA1, wTup, wLst, wFz, wUnF, wBinF, wCall, wO0, wO1, wSl, gt, st, rs, fz, mob, lob, withO, isOwn, Ob.D, fzP_some, optP_some, Option.bind_some, asBl, asInt, List.map_cons, List.map_nil, List.cons_append, List.nil_append, List.replicate, List.length_cons, List.length_nil, Nat.reduceAdd, Nat.reduceSub, Nat.reduceLeDiff, hold, br_t, br_f, if_true, if_false, Bool.false_eq_true, Bool.not_true, Bool.not_false, true_and, and_true, vB, Option.map_some, SZ, sRaise, fNeg]
    exact hq
  | true =>
    cases b <;> simp [isW] at hw
    rename_i i
    simp only [judge, hw, and_self, if_true] at hq
    simp only [fnW, sRet, sRetN, sSeq, sDrop, sIf, sSet, sOwn, sNext, wVar, wC, wUn, wBin, wAndV, wOrV, wNotV, wChain, wB, wAndT, wOrT, wNotT, wIf, wA0, wA1, wTup, wLst, wFz, wUnF, wBinF, wCall, wO0, wO1, wSl, gt, st, rs, fz, mob, lob, withO, isOwn, Ob.D, fzP_some, optP_some, Option.bind_some, asBl, asInt, List.map_cons, List.map_nil, List.cons_append, List.nil_append, List.replicate, List.length_cons, List.length_nil, Nat.reduceAdd, Nat.reduceSub, Nat.reduceLeDiff, hold, br_t, br_f, if_true, if_false, Bool.false_eq_true, Bool.not_true, Bool.not_false, true_and, and_true, vB, Option.map_some, SZ]
    refine ⟨⟨a, rfl, rfl⟩, ?_⟩
    simp only [fIs0 _ hfn, fnW, sRet, sRetN, sSeq, sDrop, sIf, sSet, sOwn, sNext, wVar, wC, wUn, wBin, wAndV, wOrV, wNotV, wChain, wB, wAndT, wOrT, wNotT, wIf, wA0, wA1, wTup, wLst, wFz, wUnF, wBinF, wCall, wO0, wO1, wSl, gt, st, rs, fz, mob, lob, withO, isOwn, Ob.D, fzP_some, optP_some, Option.bind_some, asBl, asInt, List.map_cons, List.map_nil, List.cons_append, List.nil_append, List.replicate, List.length_cons, List.length_nil, Nat.reduceAdd, Nat.reduceSub, Nat.reduceLeDiff, hold, br_t, br_f, if_true, if_false, Bool.false_eq_true, Bool.not_true, Bool.not_false, true_and, and_true, vB, Option.map_some, SZ]
    cases f with
    | tup rows =>
      simp only [goodF, Bool.and_eq_true, decide_eq_true_eq, List.all_eq_true] at hf
      simp only [tyOf, sub, fnW, sRet, sRetN, sSeq, sDrop, sIf, sSet, sOwn, sNext, wVar, wC, wUn, wBin, wAndV, wOrV, wNotV, wChain, wB, wAndT, wOrT, wNotT, wIf, wA0, wA1, wTup, wLst, wFz, wUnF, wBinF, wCall, wO0, wO1, wSl, gt, st, rs, fz, mob, lob, withO, isOwn, Ob.D, fzP_some, optP_some, Option.bind_some, asBl, asInt, List.map_cons, List.map_nil, List.cons_append, List.nil_append, List.replicate, List.length_cons, List.length_nil, Nat.reduceAdd, Nat.reduceSub, Nat.reduceLeDiff, hold, br_t, br_f, if_true, if_false, Bool.false_eq_true, Bool.not_true, Bool.not_false, true_and, and_true, vB, Option.map_some, SZ, List.any_cons, List.any_nil]
      refine ⟨⟨a, rfl, rfl⟩, ?_⟩
      simp only [sFor, wiArgs, fnW, sRet, sRetN, sSeq, sDrop, sIf, sSet, sOwn, sNext, wVar, wC, wUn, wBin, wAndV, wOrV, wNotV, wChain, wB, wAndT, wOrT, wNotT, wIf, wA0, wA1, wTup, wLst, wFz, wUnF, wBinF, wCall, wO0, wO1, wSl, gt, st, rs, fz, mob, lob, withO, isOwn, Ob.D, fzP_some, optP_some, Option.bind_some, asBl, asInt, List.map_cons, List.map_nil, List.cons_append, List.nil_append, List.replicate, List.length_cons, List.length_nil, Nat.reduceAdd, Nat.reduceSub, Nat.reduceLeDiff, hold, br_t, br_f, if_true, if_false, Bool.false_eq_true, Bool.not_true, Bool.not_false, true_and, and_true, vB, Option.map_some, SZ, fEnum, seqOf]
      refine house_loop rows 0 _ _ hf.2.1 ?_
      cases hj : judgeGo i 0 rows with
      | none =>
        intro s3 s4
        simp only [hj, Option.map_none] at hq
        simp only [fnW, sRet, sRetN, sSeq, sDrop, sIf, sSet, sOwn, sNext, wVar, wC, wUn, wBin, wAndV, wOrV, wNotV, wChain, wB, wAndT, wOrT, wNotT, wIf, wA0, wA1, wTup, wLst, wFz, wUnF, wBinF, wCall, wO0, wO1, wSl, gt, st, rs, fz, mob, lob, withO, isOwn, Ob.D, fzP_some, optP_some, Option.bind_some, asBl, asInt, List.map_cons, List.map_nil, List.cons_append, List.nil_append, List.replicate, List.length_cons, List.length_nil, Nat.reduceAdd, Nat.reduceSub, Nat.reduceLeDiff, hold, br_t, br_f, if_true, if_false, Bool.false_eq_true, Bool.not_true, Bool.not_false, true_and, and_true, vB, Option.map_some, SZ, fLen, List.nil_append, List.cons_append]
        exact ⟨⟨a, rfl, rfl⟩, ⟨a, rfl, rfl⟩, ⟨a, rfl, rfl⟩, ⟨a, rfl, rfl⟩, hq⟩
      | some j =>
        simp only [hj, Option.map_some] at hq
        exact hq
    | _ =>
      simp [tyOf, sub, fnW, sRet, sRetN, sSeq, sDrop, sIf, sSet, sOwn, sNext, wVar, wC, wUn, wBin, wAndV, wOrV, wNotV, wChain, wB, wAndT, wOrT, wNotT, wIf, wA0, wA1, wTup, wLst, wFz, wUnF, wBinF, wCall, wO0, wO1, wSl, gt, st, rs, fz, mob, lob, withO, isOwn, Ob.D, fzP_some, optP_some, Option.bind_some, asBl, asInt, List.map_cons, List.map_nil, List.cons_append, List.nil_append, List.replicate, List.length_cons, List.length_nil, Nat.reduceAdd, Nat.reduceSub, Nat.reduceLeDiff, hold, br_t, br_f, if_true, if_false, Bool.false_eq_true, Bool.not_true, Bool.not_false, true_and, and_true, vB, Option.map_some, SZ, sRaise, fNeg]
      first
        | exact hq
        | skip
end Mt
end Mtt_

section Mtu_
set_option maxRecDepth 100000
set_option maxHeartbeats 1000000
namespace Mt
open LW
theorem ix_dD {C : AL} {b h : Int} (e : look C b = some h) : fIx (dD C) (.int b) = some (.int h) := by
  show lookI (kD C) (yD C) b = _
  rw [look_ck, e]
  rfl
theorem keysEq_dD (g : AL) (h : Int) (hl : g.length ≤ 1000) : fKeysEq (dD g) (.int h) = some (((keys g).filter fun k => look g k == some h).map D.int) := by
  show (if (kD g).length ≤ SZ then keysEq (kD g) (yD g) h (kD g) else none) = _
  rw [if_pos (by rw [kD_len]; exact Nat.le_trans hl (by decide)), ← keysEq_ck g h (keys g) fun _ z => z, ← kD_keys]
theorem put_dD (g : AL) (i z : Int) : Ob.d (putKs (kD g) i) (putYs (kD g) (yD g) i (.int z)) = oD (put g i z) := by rw [put_k, put_y]; rfl
theorem sp_check_house (ds q e) (h : ct_check_house ds q e) : fnW 0 w_check_house ds q e := by
  obtain ⟨xs, rfl, hq⟩ := h
  (conv => whnf)
  exact hq
theorem sp_moved_on (ar q) (h : ct_moved_on ar q) : fnR 3 w_moved_on ar q := by
  obtain ⟨opt, f, p, C, c, met, h, b, rfl, M, hp, F, hl, k⟩ := h
  intro as ha nd
  obtain ⟨a, rfl⟩ : ∃ a, as = [a] := match as, ha with | [a], _ => ⟨a, rfl⟩
  rw [wq_moved_on]
  unfold w_moved_on_r0
  (conv => whnf)
  refine ⟨fun m e => ∃ c met h b g s4 s5, e = [.val (dD C), .ref a (oD g), .val (.int b), .val (.int p), s4, s5, .un] ∧ Flip opt f p C c met h b g ∧ c.length = m ∧ g.length ≤ 501, ⟨c.length, c, met, h, b, f, .un, .un, rfl, F, rfl, by omega⟩, ?_⟩
  rintro m e ⟨c, met, h, b, g, s4, s5, rfl, F, rfl, gl⟩
  (conv => whnf)
  unfold w_moved_on_b0_r0
  (conv => whnf)
  refine on_some (ix_dD F.cb) ?_
  (conv => whnf)
  unfold w_moved_on_b0_r1
  (conv => whnf)
  refine ⟨Nat.le_refl 7, on_some (keysEq_dD g h (by omega)) ?_⟩
  (conv => whnf)
  unfold w_moved_on_b0_r2
  (conv => whnf)
  refine ⟨rfl, ?_⟩
  (conv => whnf)
  refine ⟨by rw [kD_len]; exact Nat.lt_of_le_of_lt gl (by decide), ?_⟩
  show w_moved_on_b0_r3 _ [.val (dD C), .ref a (.d (putKs (kD g) b) (putYs (kD g) (yD g) b (.int h))), .val (.int b), .val (.int p), .val (.int h), .own (.l (((keys g).filter fun k => look g k == some h).map D.int)), .un] _
  rw [put_dD]
  unfold w_moved_on_b0_r3
  (conv => whnf)
  refine br_by (fun e => ?_) fun e => ?_
  · have e : h = p := by simpa [eqS] using e
    subst e
    (conv => whnf)
    exact on_some (by simp [outR]) (k _ (F.mat hp rfl) (F.perm M hp rfl) F.ln)
  · have e : h ≠ p := by simpa [eqS] using e
    obtain ⟨b1, c1, met1, h1, e1, F1, l1⟩ := F.next M hp e
    rw [e1]
    (conv => whnf)
    unfold w_moved_on_b0_r4
    (conv => whnf)
    exact ⟨c1.length, l1, c1, met1, h1, b1, put g b h, _, _, rfl, F1, rfl, by rw [F.ln]; omega⟩
theorem outR_one {x y : D} {z w : Ob} {a : Nat} {s0 s2 : Slot} {e : Env} : outR [.inl x, .inr w, .inl y] [a] (s0 :: .ref a z :: s2 :: e) = some [z] := by simp [outR]
theorem put_new {c : AL} {b h : Int} (n : look c b = none) : put c b h = c ++ [(b, h)] := by
  unfold put
  rw [n]
  rfl
theorem in_dD (f : AL) (b : Int) : hasI (kD f) b = (look f b).isSome := has_ck f b
theorem imp_body {Z : Ds} {E : KE} {o : D} {opt : Int → List Int} {f c : AL} {p hd bed : Int} {met qs : List Int} {a : Nat} (M : Mat opt f) (hp : p ∉ vals f) (hl : f.length ≤ 500) (B : Bfs opt f p c met) (hm : hd ∈ met) (ho : bed ∈ opt hd) (ql : qs.length ≤ 1000) (ml : met.length ≤ 501)
    (rt : ∀ g s3 s4 s5 s6 s7, Mat opt g → List.Perm (vals g) (vals f ++ [p]) → g.length = f.length + 1 → Z.rt (.lst []) [.val o, .ref a (oD g), .val (.int p), s3, s4, s5, s6, s7])
    (nx1 : (look c bed).isSome = true → Z.nx [.val o, .ref a (oD f), .val (.int p), .own (oD c), .own (.l (qs.map .int)), .own (.l (met.map .int)), .val (.int hd), .val (.int bed)])
    (nx2 : ∀ q, look f bed = some q → look c bed = none → Z.nx [.val o, .ref a (oD f), .val (.int p), .own (oD (c ++ [(bed, hd)])), .own (.l ((qs ++ [q]).map .int)), .own (.l ((met ++ [q]).map .int)), .val (.int hd), .val (.int bed)]) :
    w_improved_b1_b1_r0 Z [.val o, .ref a (oD f), .val (.int p), .own (oD c), .own (.l (qs.map .int)), .own (.l (met.map .int)), .val (.int hd), .val (.int bed)] E := by
  unfold w_improved_b1_b1_r0
  (conv => whnf)
  refine br_by (fun hb => ?_) fun hb => ?_
  · rw [in_dD] at hb
    have hb : look c bed = none := by simpa using hb
    unfold w_improved_b1_b1_t0_r0
    (conv => whnf)
    refine ⟨rfl, ?_⟩
    (conv => whnf)
    have cl : c.length ≤ 500 := by have := B.len; omega
    refine ⟨by rw [kD_len]; exact Nat.lt_of_le_of_lt cl (by decide), ?_⟩
    show w_improved_b1_b1_t0_r1 _ [.val o, .ref a (oD f), .val (.int p), .own (.d (putKs (kD c) bed) (putYs (kD c) (yD c) bed (.int hd))), .own (.l (qs.map .int)), .own (.l (met.map .int)), .val (.int hd), .val (.int bed)] _
    rw [put_dD, put_new hb]
    unfold w_improved_b1_b1_t0_r1
    (conv => whnf)
    refine br_by (fun hf => ?_) fun hf => ?_
    · rw [in_dD] at hf
      have hf : look f bed = none := by simpa using hf
      unfold w_improved_b1_b1_t0_t1_r0
      (conv => whnf)
      refine ⟨rfl, ?_⟩
      (conv => whnf)
      refine ⟨opt, f, p, c ++ [(bed, hd)], c, met, hd, bed, rfl, M, hp, Flip.start M B hm ho hb hf, hl, fun g G1 G2 G3 => ?_⟩
      (conv => whnf)
      unfold w_improved_b1_b1_t0_t1_r1
      ((conv => whnf); (repeat (refine ⟨le_sz rfl, ?_⟩; conv => whnf)))
      exact rt g _ _ _ _ _ G1 G2 G3
    · rw [in_dD] at hf
      obtain ⟨q, hq⟩ := Option.isSome_iff_exists.mp (show (look f bed).isSome = true by simpa using hf)
      (conv => whnf)
      unfold w_improved_b1_b1_t0_r2
      (conv => whnf)
      refine ⟨rfl, ?_⟩
      (conv => whnf)
      refine on_some (show fIx (dD f) (.int bed) = _ from ix_dD hq) ?_
      (conv => whnf)
      refine ⟨by rw [List.length_map]; exact Nat.lt_of_le_of_lt ql (by decide), ?_⟩
      (conv => whnf)
      unfold w_improved_b1_b1_t0_r3
      (conv => whnf)
      refine ⟨rfl, ?_⟩
      (conv => whnf)
      refine on_some (show fIx (dD f) (.int bed) = _ from ix_dD hq) ?_
      (conv => whnf)
      refine ⟨by rw [List.length_map]; exact Nat.lt_of_le_of_lt ml (by decide), ?_⟩
      have := nx2 q hq hb
      rw [List.map_append, List.map_append] at this
      exact this
  · rw [in_dD] at hb
    exact nx1 (by simpa using hb)
theorem sp_improved (ar q) (h : ct_improved ar q) : fnR 5 w_improved ar q := by
  obtain ⟨o, opt, f, p, rfl, M, hp, ok, hl, k1, k2⟩ := h
  intro as ha nd
  obtain ⟨a, rfl⟩ : ∃ a, as = [a] := match as, ha with | [a], _ => ⟨a, rfl⟩
  rw [wq_improved]
  unfold w_improved_r0
  ((conv => whnf); (repeat (refine ⟨le_sz rfl, ?_⟩; conv => whnf)))
  unfold w_improved_r1
  ((conv => whnf); (repeat (refine ⟨le_sz rfl, ?_⟩; conv => whnf)))
  refine ⟨fun m e => ∃ c met done queue s6 s7, e = [.val o, .ref a (oD f), .val (.int p), .own (oD c), .own (.l (queue.map .int)), .own (.l (met.map .int)), s6, s7] ∧ Bfs opt f p c met ∧ met = done ++ queue ∧ (∀ h ∈ done, ∀ b ∈ opt h, (look c b).isSome = true) ∧ m = queue.length + (f.length + 1 - met.length),
    ⟨_, [], [p], [], [p], .un, .un, rfl, .nil, rfl, fun h hh => absurd hh List.not_mem_nil, rfl⟩, ?_⟩
  rintro m e ⟨c, met, done, queue, s6, s7, rfl, B, hq, cl, rfl⟩
  have inV : ∀ {c met}, Bfs opt f p c met → ∀ x ∈ met, x ∈ vals f ++ [p] := fun B x hx => by
    rcases B.mem hx with y | ⟨b, _, y⟩
    · exact List.mem_append.mpr (.inr (List.mem_singleton.mpr y))
    · exact List.mem_append.mpr (.inl ((val_look M.nd).mpr ⟨b, y⟩))
  have ml : ∀ {c met}, Bfs opt f p c met → met.length ≤ f.length + 1 := fun B => by
    have := nodup_sub (B.nd M hp) (inV B)
    simpa [vals] using this
  (conv => whnf)
  refine br_by (fun h0 => ?_) fun h0 => ?_
  · cases queue with
    | nil => simp at h0
    | cons hd tl =>
      have hm : hd ∈ met := by rw [hq]; simp
      obtain ⟨x, x1, x2, x3⟩ := ok hd (inV B hd hm)
      have m1 := ml B
      have tq : (hd :: tl).length ≤ met.length := by rw [hq, List.length_append]; omega
      unfold w_improved_b1_r0
      (conv => whnf)
      refine ⟨rfl, ?_⟩
      (conv => whnf)
      refine ⟨by decide, by rw [List.length_map]; exact Nat.le_trans (Nat.le_trans tq m1) (by show f.length + 1 ≤ 16777216; omega), ?_⟩
      (conv => whnf)
      unfold w_improved_b1_r1
      (conv => whnf)
      refine on_some (show fIx o (.int hd) = _ from x1) ?_
      (conv => whnf)
      refine on_some x2 ?_
      refine for_pre (fun ds e => ∃ c' new s7, e = [.val o, .ref a (oD f), .val (.int p), .own (oD c'), .own (.l ((tl ++ new).map .int)), .own (.l ((met ++ new).map .int)), .val (.int hd), s7] ∧ Bfs opt f p c' (met ++ new) ∧ (∀ b, (look c b).isSome = true → (look c' b).isSome = true) ∧ ∀ b, D.int b ∈ ds → (look c' b).isSome = true)
        ⟨c, [], s7, by rw [List.append_nil, List.append_nil] <;> rfl, by simpa using B, fun _ z => z, fun b z => absurd z List.not_mem_nil⟩ ?_ ?_
      · rintro ds x rest e hi ⟨c', new, s7, rfl, B', sub, dn⟩ Zk hk
        have hx : x ∈ (opt hd).map D.int := by rw [hi]; simp
        obtain ⟨bed, hb, rfl⟩ := List.mem_map.mp hx
        refine ⟨_, rfl, ?_⟩
        have mm := ml B'
        rw [List.length_append] at mm
        refine imp_body M hp hl B' (List.mem_append.mpr (.inl hm)) hb (by rw [List.length_append]; simp at tq; omega) (by rw [List.length_append]; omega) (fun g s3 s4 s5 s6 s7 G1 G2 G3 => ?_) (fun hs => hk _ ⟨c', new, _, rfl, B', sub, fun b z => ?_⟩) fun q hq1 hq2 => hk _ ⟨c' ++ [(bed, hd)], new ++ [q], .val (.int bed), ?_, ?_, fun b z => ?_, fun b z => ?_⟩
        · exact on_some (by simp [outR]) (k1 g G1 G2 G3)
        · rcases List.mem_append.mp z with y | y
          · exact dn b y
          · cases List.mem_singleton.mp y
            exact hs
        · simp
        · rw [← List.append_assoc]
          exact .step B' hq2 hq1 (List.mem_append.mpr (.inl hm)) hb
        · rw [look_app]
          have := sub b z
          cases e : look c' b with
          | some _ => rfl
          | none => rw [e] at this; cases this
        · rw [look_app]
          rcases List.mem_append.mp z with y | y
          · have := dn b y
            cases e : look c' b with
            | some _ => rfl
            | none => rw [e] at this; cases this
          · cases List.mem_singleton.mp y
            rw [hq2]
            simp [look]
      · rintro e ⟨c', new, s7, rfl, B', sub, dn⟩
        have mm := ml B'
        rw [List.length_append] at mm
        refine ⟨_, ?_, c', met ++ new, done ++ [hd], tl ++ new, _, s7, rfl, B', by rw [hq]; simp, fun h hh b hb => ?_, rfl⟩
        · simp only [List.length_append, List.length_cons]
          omega
        · rcases List.mem_append.mp hh with y | y
          · exact sub b (cl h y b hb)
          · cases List.mem_singleton.mp y
            exact dn b (List.mem_map.mpr ⟨b, hb, rfl⟩)
  · have : queue = [] := by
      cases queue with
      | nil => rfl
      | cons x xs => simp at h0
    subst this
    (conv => whnf)
    unfold w_improved_r2
    (conv => whnf)
    refine on_some (outR_one (s0 := .val o) (s2 := .val (.int p))) (k2 met (fun z => by have := B.fst; rw [z] at this; cases this) (by have := ml B; omega) (B.vain M hp fun h hh => cl h (by rw [hq] at hh; simpa using hh)))
end Mt
end Mtu_

section Mtv_
set_option maxRecDepth 100000
set_option maxHeartbeats 1000000
namespace Mt
open LW
theorem split_map {α β : Type} {f : α → β} {ps : List α} {ds rest : List β} {x : β} (h : ps.map f = ds ++ x :: rest) : ∃ l1 y l3, ps = l1 ++ y :: l3 ∧ ds = l1.map f ∧ x = f y := by
  obtain ⟨l1, l2, e, h1, h2⟩ := List.map_eq_append_iff.mp h
  cases l2 with
  | nil => simp at h2
  | cons y l3 =>
    simp only [List.map_cons, List.cons.injEq] at h2
    exact ⟨l1, y, l3, e, h1.symm, h2.1.symm⟩
theorem plains_ints : ∀ ns : List Int, plains (ns.map D.int) = true
  | [] => rfl
  | n :: ns => by
    have := plains_ints ns
    simp only [List.map_cons, plains, this, plain, Bool.and_self]
theorem deps_ints : ∀ ns : List Int, deps (ns.map D.int) = 0
  | [] => rfl
  | n :: ns => by
    have := deps_ints ns
    simp [deps, dep, this]
theorem eqDs_nil : ∀ xs : List D, eqDs xs [] = xs.isEmpty
  | [] => rfl
  | x :: xs => rfl
theorem cEq_nil (xs : List D) (h1 : plains xs = true) (h2 : deps xs ≤ 50) : cEq (.lst xs) (.lst []) = some xs.isEmpty := by
  have : (plain (.lst xs) && plain (.lst []) && decide (dep (.lst xs) ≤ 60) && decide (dep (.lst []) ≤ 60)) = true := by
    simp [plain, plains, h1, dep, deps]
    omega
  unfold cEq
  rw [if_neg (by simp [scalD])]
  rw [if_pos this]
  simp [eqD, eqDs_nil]
theorem sp_let_in_turn (ds q e) (h : ct_let_in_turn ds q e) : fnW 4 w_let_in_turn ds q e := by
  obtain ⟨o, od, opt, ps, rfl, hs, nd, hl, ok, k⟩ := h
  rw [wq_let_in_turn]
  unfold w_let_in_turn_r0
  ((conv => whnf); (repeat (refine ⟨le_sz rfl, ?_⟩; conv => whnf)))
  unfold w_let_in_turn_r1
  ((conv => whnf); (repeat (refine ⟨le_sz rfl, ?_⟩; conv => whnf)))
  refine on_some hs ?_
  refine for_pre (fun ds e => ∃ (done : List Int) (f : AL) (vs : List (List Int)) (s4 s5 : Slot), ds = done.map D.int ∧ e = [.val o, .val od, .own (oD f), .own (.l (vs.map fun v => D.lst (v.map D.int))), s4, s5] ∧ Mat opt f ∧ List.Perm (vals f) (greedy opt done) ∧ vs.length + f.length = done.length)
    ⟨[], [], [], .un, .un, rfl, rfl, .nil, .refl _, rfl⟩ ?_ ?_
  · rintro ds x rest e hi ⟨done, f, vs, s4, s5, rfl, rfl, M, pm, ln⟩ Zk hk
    obtain ⟨l1, y, l3, hps, hd, rfl⟩ := split_map hi
    have : done = l1 := by
      have := congrArg (List.map fun | D.int i => i | _ => 0) hd
      simpa [Function.comp_def] using this
    subst this
    refine ⟨_, rfl, ?_⟩
    have hyd : y ∉ done := fun z => by
      rw [hps, List.nodup_append] at nd
      exact nd.2.2 y z y List.mem_cons_self rfl
    have hy : y ∉ vals f := fun z => hyd (greedy_sub (pm.mem_iff.mp z))
    have dl : done.length ≤ ps.length := by rw [hps, List.length_append]; omega
    unfold w_let_in_turn_b1_r0
    (conv => whnf)
    refine ⟨rfl, ?_⟩
    (conv => whnf)
    refine ⟨o, opt, f, y, rfl, M, hy, fun p hp => ok p ?_, by omega, fun g G1 G2 G3 => ?_, fun met m0 m1 ns => ?_⟩
    · rw [hps]
      rcases List.mem_append.mp hp with z | z
      · exact List.mem_append.mpr (.inl (greedy_sub (pm.mem_iff.mp z)))
      · rw [List.mem_singleton.mp z]; simp
    · (conv => whnf)
      unfold w_let_in_turn_b1_r1
      ((conv => whnf); (repeat (refine ⟨le_sz rfl, ?_⟩; conv => whnf)))
      have sd : Sdr opt (greedy opt done ++ [y]) := G1.sdr.mono fun q hq => G2.mem_iff.mpr (by
        rcases List.mem_append.mp hq with z | z
        · exact List.mem_append.mpr (.inl (pm.mem_iff.mpr z))
        · exact List.mem_append.mpr (.inr z))
      refine hk _ ⟨done ++ [y], g, vs, _, _, by simp, rfl, G1, ?_, ?_⟩
      · rw [greedy_in sd]
        exact G2.trans (pm.append_right _)
      · rw [G3, List.length_append, List.length_singleton]
        omega
    · (conv => whnf)
      unfold w_let_in_turn_b1_r1
      have ce : vB (cNot cEq) (.lst (met.map D.int)) (.lst []) = some (.bl true) := by
        have : cEq (.lst (met.map D.int)) (.lst []) = some false := by
          rw [cEq_nil _ (plains_ints met) (by rw [deps_ints]; omega)]
          cases met with
          | nil => exact absurd rfl m0
          | cons x xs => rfl
        simp [vB, cNot, this]
      refine ⟨le_sz rfl, ?_⟩
      refine on_some ce ?_
      (conv => whnf)
      refine ⟨rfl, ?_⟩
      (conv => whnf)
      refine ⟨by rw [List.length_map]; exact Nat.lt_of_le_of_lt (show vs.length ≤ 100 by omega) (by decide), ?_⟩
      have sd : ¬ Sdr opt (greedy opt done ++ [y]) := fun z => ns (z.mono fun q hq => by
        rcases List.mem_append.mp hq with w | w
        · exact List.mem_append.mpr (.inl (pm.mem_iff.mp w))
        · exact List.mem_append.mpr (.inr w))
      refine hk _ ⟨done ++ [y], f, vs ++ [met], _, _, by simp, by rw [List.map_append] <;> rfl, M, ?_, ?_⟩
      · rw [greedy_out sd]
        exact pm
      · rw [List.length_append, List.length_append, List.length_singleton, List.length_singleton]
        omega
  · rintro e ⟨done, f, vs, s4, s5, hd, rfl, M, pm, ln⟩
    have : done = ps := by
      have := congrArg (List.map fun | D.int i => i | _ => 0) hd
      simpa [Function.comp_def] using this.symm
    subst this
    unfold w_let_in_turn_r2
    ((conv => whnf); (repeat (refine ⟨le_sz rfl, ?_⟩; conv => whnf)))
    exact k f vs M pm ln
end Mt
end Mtv_

section Mtw_
set_option maxRecDepth 100000
set_option maxHeartbeats 1000000
namespace Mt
open LW
theorem below_ints {ns : List Int} {m : Int} (h : ∀ x ∈ ns, 0 ≤ x ∧ x < m) : below (.tup (ns.map D.int)) m = true := by
  simp only [below, List.all_map, List.all_eq_true]
  intro x hx
  have := h x hx
  simp [isW]
  omega
theorem incr_ok : ∀ {ns : List Int}, ns.Pairwise (· < ·) → incrI ns = true
  | [], _ => rfl
  | [_], _ => rfl
  | a :: b :: r, h => by
    have h := List.pairwise_cons.mp h
    simp only [incrI, Bool.and_eq_true, decide_eq_true_eq]
    exact ⟨h.1 b List.mem_cons_self, incr_ok h.2⟩
theorem row_is {ns : List Int} {m : Int} (h1 : ns.Pairwise (· < ·)) (h : ∀ x ∈ ns, 0 ≤ x ∧ x < m) : isRow (rowD ns) m = true := by
  show (below (.tup (ns.map D.int)) m && incrI (intsD' (ns.map D.int))) = true
  rw [below_ints h, intsD'_map, incr_ok h1]
  rfl
theorem noObj_ints (ns : List Int) : (ns.map D.int).all noObj = true := by
  simp [List.all_map, Function.comp_def, noObj]
theorem row_good {ns : List Int} (h : ns.length ≤ 1000) : goodRow (rowD ns) = true := by
  show (true && ((ns.map D.int).all noObj && decide ((ns.map D.int).length ≤ 1000))) = true
  rw [noObj_ints, List.length_map]
  simp [h]
theorem sp_check_some (ds q e) (h : ct_check_some ds q e) : fnW 0 w_check_some ds q e := by
  obtain ⟨b, rows, some, rfl, ok, hq⟩ := h
  (conv => whnf)
  refine ⟨_, rfl, ?_⟩
  (conv => whnf)
  refine ⟨rowD some, _, rfl, row_good (by have := ok.len; omega), ?_⟩
  have := row_is ok.inc ok.rng
  rw [this]
  exact hq
theorem fz_i {x : D} {e : Env} {K : D → Env → Prop} (h : K x e) : fzP (fz e (.d x)) K := h
theorem swap_keys (f : AL) : keys (swapA f) = vals f := by simp [keys, vals, swapA]
theorem inv_go (f : AL) (nd : (keys f).Nodup) (nv : (vals f).Nodup) : ∀ (f2 f1 : AL), f = f1 ++ f2 → invD (kD f) (yD f) (kD f2) (kD (swapA f1), yD (swapA f1)) = some (kD (swapA f), yD (swapA f))
  | [], f1, h => by
    rw [List.append_nil] at h
    rw [h]
    rfl
  | e :: r, f1, h => by
    have hm : e ∈ f := by rw [h]; simp
    have lk : look f e.1 = some e.2 := mem_look nd (show (e.1, e.2) ∈ f from hm)
    have nn : look (swapA f1) e.2 = none := look_none_key.mpr fun z => by
      rw [swap_keys] at z
      have : vals f = vals f1 ++ e.2 :: vals r := by rw [h]; simp [vals]
      rw [this, List.nodup_append] at nv
      exact nv.2.2 _ z _ List.mem_cons_self rfl
    have ih := inv_go f nd nv r (f1 ++ [e]) (by rw [h]; simp)
    have ep : put (swapA f1) e.2 e.1 = swapA (f1 ++ [e]) := by
      rw [put_new nn]
      simp [swapA]
    show invD (kD f) (yD f) (.int e.1 :: kD r) _ = _
    unfold invD
    rw [look_ck, lk]
    show invD (kD f) (yD f) (kD r) (putKs (kD (swapA f1)) e.2, putYs (kD (swapA f1)) (yD (swapA f1)) e.2 (.int e.1)) = _
    rw [put_k (swapA f1) e.2 e.1, put_y, ep]
    exact ih
theorem inv_dD {f : AL} (nd : (keys f).Nodup) (nv : (vals f).Nodup) (hl : f.length ≤ 1000) : fInv (dD f) = some (dD (swapA f)) := by
  show (if (kD f).length ≤ SZ then (invD (kD f) (yD f) (kD f) ([], [])).map fun p => D.dct p.1 p.2 else none) = _
  rw [if_pos (by rw [kD_len]; exact Nat.le_trans hl (by decide))]
  have := inv_go f nd nv f [] rfl
  rw [show invD (kD f) (yD f) (kD f) ([], []) = some (kD (swapA f), yD (swapA f)) from this]
  rfl
theorem sp_beds_by (ds q e) (h : ct_beds_by ds q e) : fnW 1 w_beds_by ds q e := by
  obtain ⟨f, rfl, nd, nv, hl, hq⟩ := h
  (conv => whnf)
  refine ⟨Nat.le_refl 2, on_some (inv_dD nd nv hl) ?_⟩
  exact hq
theorem range1 {n : Int} (h0 : 0 ≤ n) (h : n ≤ 1000) : fRange1 [.int n] = some (rangeD n.toNat 0) := by
  simp only [fRange1]
  rw [if_pos (by omega)]
theorem range_len (n : Nat) (lo : Int) : (rangeD n lo).length = n := by simp [rangeD]
theorem range_mem {n : Nat} {lo : Int} {x : D} (h : x ∈ rangeD n lo) : ∃ k : Nat, k < n ∧ x = .int (lo + k) := by
  obtain ⟨k, h1, rfl⟩ := List.mem_map.mp h
  exact ⟨k, List.mem_range.mp h1, rfl⟩
def lodgG (f : AL) : D → D
  | .int i => lodgAt f i
  | _ => .non
theorem getV_dD (f : AL) (i : Int) : fGet1 (dD (swapA f)) (.int i) = some (lodgAt f i) := by
  show some ((lookI (kD (swapA f)) (yD (swapA f)) i).getD .non) = _
  rw [look_ck]
  unfold lodgAt
  cases look (swapA f) i <;> rfl
theorem lodging_go {q e : D → Prop} {b n : Int} {rows : List (List Int)} {f : AL} (nd : (keys f).Nodup) (nv : (vals f).Nodup) (hl : f.length ≤ 1000) (h0 : 0 ≤ n) (h1 : n ≤ 24) (hq : q (lodgD n.toNat f)) : fnW 2 w_lodging_of_r0 [.obj 0 [.int b, .tup (rowsD rows), .int n], dD f] q e := by
  unfold w_lodging_of_r0
  (conv => whnf)
  refine ⟨f, rfl, nd, nv, hl, ?_⟩
  (conv => whnf)
  unfold w_lodging_of_r1
  (conv => whnf)
  refine on_some (range1 (by omega) (by omega)) ?_
  refine ⟨⟨trivial, trivial⟩, lc_mapH (lodgG f) (fun x hx => ?_) (by rw [range_len]; exact Nat.le_trans (show n.toNat ≤ 24 by omega) (by decide)) ?_⟩
  · obtain ⟨k, hk, rfl⟩ := range_mem hx
    refine ⟨_, rfl, ⟨trivial, trivial⟩, rfl, fun Qk hq => ?_⟩
    (conv => whnf)
    refine on_some rfl ?_
    (conv => whnf)
    refine ⟨rfl, ?_⟩
    (conv => whnf)
    have : (lookI (kD (swapA f)) (yD (swapA f)) (0 + (k : Int))).getD .non = lodgAt f (0 + (k : Int)) := Option.some.inj (getV_dD f (0 + (k : Int)))
    rw [this]
    exact hq
  · have : (rangeD n.toNat 0).map (lodgG f) = (List.range n.toNat).map fun (i : Nat) => lodgAt f i := by
      simp [rangeD, lodgG, Function.comp_def]
    rw [this]
    (conv => whnf)
    exact hq
theorem sp_lodging_of (ds q e) (h : ct_lodging_of ds q e) : fnW 2 w_lodging_of ds q e := by
  obtain ⟨b, rows, f, rfl, nd, nv, hl, hr, hq⟩ := h
  rw [wq_lodging_of]
  exact lodging_go nd nv hl (by omega) (by omega) (by rw [Int.toNat_natCast]; exact hq)
end Mt
end Mtw_

section Mtx_
set_option maxRecDepth 100000
set_option maxHeartbeats 1000000
namespace Mt
open LW
theorem inc_nd {l : List Int} (h : l.Pairwise (· < ·)) : l.Nodup := h.imp fun h e => by omega
theorem mem_upto {n : Nat} {x : Int} : x ∈ upto n ↔ 0 ≤ x ∧ x < n := by
  unfold upto
  rw [List.mem_map]
  constructor
  · rintro ⟨i, hi, rfl⟩
    have := List.mem_range.mp hi
    omega
  · rintro ⟨h1, h2⟩
    exact ⟨x.toNat, List.mem_range.mpr (by omega), by omega⟩
theorem upto_len (n : Nat) : (upto n).length = n := by simp [upto]
theorem row_len {r : List Int} {b : Int} (h1 : r.Pairwise (· < ·)) (h2 : ∀ x ∈ r, 0 ≤ x ∧ x < b) : r.length ≤ b.toNat := by
  have := nodup_sub (inc_nd h1) (m := upto b.toNat) fun x hx => mem_upto.mpr (by have := h2 x hx; omega)
  rwa [upto_len] at this
theorem optR_at {rows : List (List Int)} {p : Int} (h0 : 0 ≤ p) (h1 : p < rows.length) : ∃ r, rows[p.toNat]? = some r ∧ optR rows p = r ∧ r ∈ rows := by
  have hl : p.toNat < rows.length := by omega
  refine ⟨rows[p.toNat], List.getElem?_eq_getElem hl, ?_, List.getElem_mem hl⟩
  unfold optR
  rw [List.getElem?_eq_getElem hl]
  rfl
theorem ix_tup {xs : List D} {p : Int} {x : D} (h0 : 0 ≤ p) (h : xs[p.toNat]? = some x) : fIx (.tup xs) (.int p) = some x := by
  show atD xs p = _
  unfold atD
  rw [if_pos h0]
  exact h
theorem ix_rows {rows : List (List Int)} {p : Int} (h0 : 0 ≤ p) (h1 : p < rows.length) : fIx (.tup (rowsD rows)) (.int p) = some (rowD (optR rows p)) := by
  obtain ⟨r, e1, e2, _⟩ := optR_at h0 h1
  refine ix_tup h0 ?_
  unfold rowsD
  rw [List.getElem?_map, e1, e2]
  rfl
theorem optOk_R {b : Int} {rows : List (List Int)} {some : List Int} (H : HOk b rows) (S : SOk some rows.length) : OptOk (.tup (rowsD rows)) (optR rows) some := fun p hp => by
  obtain ⟨h0, h1⟩ := S.rng p hp
  obtain ⟨r, e1, e2, hm⟩ := optR_at h0 h1
  refine ⟨_, ix_rows h0 h1, rfl, ?_⟩
  rw [e2]
  have := row_len (H.inc r hm) (H.rng r hm)
  have := H.b1
  have := H.b0
  omega
theorem most_go {q e : D → Prop} {b n : Int} {rows : List (List Int)} {some : List Int} (H : HOk b rows) (S : SOk some rows.length) (hq : q (.int (greedy (optR rows) some).length)) : fnW 0 w_most_of [.obj 0 [.int b, .tup (rowsD rows), .int n], rowD some] q e := by
  (conv => whnf)
  refine ⟨_, _, optR rows, some, rfl, rfl, inc_nd S.inc, by have := S.len; omega, optOk_R H S, fun f vs M pm ln => ?_⟩
  (conv => whnf)
  have : ((kD f).length : Int) = ((greedy (optR rows) some).length : Int) := by
    rw [kD_len, ← pm.length_eq]
    simp [vals]
  rw [this]
  exact hq
theorem sp_most_of (ds q e) (h : ct_most_of ds q e) : fnW 0 w_most_of ds q e := by
  obtain ⟨b, rows, some, rfl, H, S, hq⟩ := h
  exact most_go H S hq
theorem lodged_go {q e : D → Prop} {b : Int} {rows : List (List Int)} {some : List Int} (H : HOk b rows) (S : SOk some rows.length) (hq : ∀ f, Mat (optR rows) f → List.Perm (vals f) (greedy (optR rows) some) → q (lodgD rows.length f)) : fnW 0 w_lodged_of [hD b rows, rowD some] q e := by
  (conv => whnf)
  refine ⟨_, _, optR rows, some, rfl, rfl, inc_nd S.inc, by have := S.len; omega, optOk_R H S, fun f vs M pm ln => ?_⟩
  (conv => whnf)
  have := S.len
  exact ⟨b, rows, f, rfl, M.nd, M.vnd, by omega, H.n, hq f M pm⟩
theorem sp_lodged_of (ds q e) (h : ct_lodged_of ds q e) : fnW 0 w_lodged_of ds q e := by
  obtain ⟨b, rows, some, rfl, H, S, hq⟩ := h
  exact lodged_go H S hq
theorem allfit_go {q e : D → Prop} {b : Int} {rows : List (List Int)} {some : List Int} (H : HOk b rows) (S : SOk some rows.length) (hq : q (.bl (sdrB (optR rows) some))) : fnW 0 w_all_fit [hD b rows, rowD some] q e := by
  (conv => whnf)
  refine ⟨b, rows, some, rfl, H, S, ?_⟩
  have : vB cEq (.int (greedy (optR rows) some).length) (.int (some.map D.int).length) = Option.some (.bl (sdrB (optR rows) some)) := by
    have e1 : cEq (.int (greedy (optR rows) some).length) (.int (some.map D.int).length) = Option.some (decide (((greedy (optR rows) some).length : Int) = ((some.map D.int).length : Int))) := by
      simp [cEq, scalD, eqS] <;> rfl
    unfold vB
    rw [e1, List.length_map, sdrB_len]
    rfl
  refine on_some this ?_
  exact hq
theorem sp_all_fit (ds q e) (h : ct_all_fit ds q e) : fnW 0 w_all_fit ds q e := by
  obtain ⟨b, rows, some, rfl, H, S, hq⟩ := h
  exact allfit_go H S hq
theorem can_go {q e : D → Prop} {b : Int} {rows : List (List Int)} {some : List Int} (H : HOk b rows) (S : SOk some rows.length) (hq : q (.bl (sdrB (optR rows) some))) : fnW 0 w_can_lodge [hD b rows, rowD some] q e := by
  (conv => whnf)
  refine ⟨b, rows, some, rfl, S, ?_⟩
  (conv => whnf)
  refine ⟨b, rows, some, rfl, H, S, ?_⟩
  exact hq
theorem sp_can_lodge (ds q e) (h : ct_can_lodge ds q e) : fnW 0 w_can_lodge ds q e := by
  obtain ⟨b, rows, some, rfl, H, S, hq⟩ := h
  exact can_go H S hq
end Mt
end Mtx_

section Mty_
set_option maxRecDepth 100000
set_option maxHeartbeats 1000000
namespace Mt
open LW
theorem in_seq {y : D} {ns : List Int} (h : seqOf y = some (ns.map D.int)) (x : Int) : cIn (.int x) y = some (ns.contains x) := by
  have h2 : cInS (.int x) y = some (ns.contains x) := by
    unfold cInS
    rw [h]
    have h1 : (flatD (.int x) && (ns.map D.int).all flatD) = true := by simp [flatD, List.all_map, Function.comp_def]
    simp only [h1, if_true, List.any_map]
    congr 1
    induction ns with
    | nil => rfl
    | cons n ns ih =>
      clear ih h1 h
      simp only [List.any_cons, Function.comp, eqF]
      rw [Bool.eq_iff_iff]
      simp [List.any_eq_true, eqF]
      constructor
      · rintro (h | h)
        · exact .inl h.symm
        · exact .inr h
      · rintro (h | h)
        · exact .inl h.symm
        · exact .inr h
  cases y <;> first | (cases h; done) | exact h2
/-- a dict whose keys are told by the items -/
theorem has_app (ks : List D) (j i : Int) : hasI (ks ++ [.int j]) i = (hasI ks i || j == i) := by
  induction ks with
  | nil => simp [hasI, isKey]
  | cons k ks ih => simp [hasI, ih, Bool.or_assoc]
theorem dc_map {kt : D → Env → Option Env} {ke ve : WE} {vs : List Nat} {Q : List D → List D → Env → Prop} {env : Env} (kf : D → Int) (g : D → D) : ∀ {items ks ys : List D}, (∀ x ∈ items, ∃ e1, kt x env = some e1 ∧ noOwn e1 vs ∧ wipeE e1 vs = env ∧ (∀ Qk : KR, Qk (.d (.int (kf x))) e1 → ke e1 Qk noX) ∧ ∀ Qk : KR, Qk (.d (g x)) e1 → ve e1 Qk noX) →
    (items.map kf).Nodup → (∀ x ∈ items, hasI ks (kf x) = false) → ks.length + items.length ≤ SZ → Q (ks ++ items.map fun x => D.int (kf x)) (ys ++ items.map g) env → dcGo kt wTrue ke ve vs Q items ks ys env
  | [], ks, ys, _, _, _, _, q => by
    unfold dcGo
    simpa using q
  | x :: xs, ks, ys, h, nd, hf, hl, q => by
    obtain ⟨e1, h1, h2, h3, h4, h5⟩ := h x List.mem_cons_self
    have hl' : ks.length + (xs.length + 1) ≤ SZ := by simpa using hl
    have nd' := List.nodup_cons.mp (show (kf x :: xs.map kf).Nodup from nd)
    unfold dcGo
    rw [h1]
    simp only [optP_some, wTrue, br_t]
    refine h4 _ ?_
    simp only [rs, Option.bind_some, asInt, optP_some]
    refine h5 _ ?_
    simp only [fz, fzP_some]
    refine ⟨by omega, h2, ?_⟩
    have f0 := hf x List.mem_cons_self
    rw [h3, show putKs ks (kf x) = ks ++ [.int (kf x)] from by unfold putKs; rw [f0], show putYs ks ys (kf x) (g x) = ys ++ [g x] from by unfold putYs; rw [f0]]
    refine dc_map kf g (fun y hy => h y (List.mem_cons_of_mem _ hy)) nd'.2 (fun y hy => ?_) (by simp; omega) (by simpa using q)
    rw [has_app, hf y (List.mem_cons_of_mem _ hy)]
    have : ¬ kf x = kf y := fun z => nd'.1 (by rw [z]; exact List.mem_map.mpr ⟨y, hy, rfl⟩)
    simpa using this
theorem dc_mapH {kt : D → Env → Option Env} {ke ve : WE} {vs : List Nat} {Q : List D → List D → Env → Prop} {env : Env} (kf : D → Int) (g : D → D) {items : List D} (h : ∀ x ∈ items, ∃ e1, kt x env = some e1 ∧ noOwn e1 vs ∧ wipeE e1 vs = env ∧ (∀ Qk : KR, Qk (.d (.int (kf x))) e1 → ke e1 Qk noX) ∧ ∀ Qk : KR, Qk (.d (g x)) e1 → ve e1 Qk noX)
    (nd : (items.map kf).Nodup) (hl : items.length ≤ SZ) (q : Q (items.map fun x => D.int (kf x)) (items.map g) env) : hold (dcGo kt wTrue ke ve vs Q items [] [] env) :=
  hold_i (dc_map kf g h nd (fun _ _ => rfl) (by simpa using hl) (by simpa using q))
theorem look_dc (g : Int → D) : ∀ {ps : List Int} {p : Int}, p ∈ ps → lookI (ps.map D.int) (ps.map g) p = some (g p)
  | q :: ps, p, h => by
    by_cases e : q = p
    · subst e
      simp [lookI, isKey]
    · have hb : (q == p) = false := by simpa using e
      simp only [List.map_cons, lookI, isKey, hb]
      exact look_dc g ((List.mem_cons.mp h).resolve_left fun z => e z.symm)
theorem plains_lists : ∀ vs : List (List Int), plains (vs.map fun v => D.lst (v.map D.int)) = true
  | [] => rfl
  | v :: vs => by
    have := plains_lists vs
    simp only [List.map_cons, plains, this, plain, plains_ints, Bool.and_self]
theorem deps_lists : ∀ vs : List (List Int), deps (vs.map fun v => D.lst (v.map D.int)) ≤ 1
  | [] => by simp [deps]
  | v :: vs => by
    have := deps_lists vs
    simp only [List.map_cons, deps, dep, deps_ints]
    omega
theorem vain_eq {opt : Int → List Int} {ps : List Int} {f : AL} {vs : List (List Int)} (pm : List.Perm (vals f) (greedy opt ps)) (ln : vs.length + f.length = ps.length) : vB cEq (vainD vs) (.lst []) = some (.bl (sdrB opt ps)) := by
  have h1 : cEq (vainD vs) (.lst []) = some (vs.map fun v => D.lst (v.map D.int)).isEmpty := cEq_nil _ (plains_lists vs) (by have := deps_lists vs; omega)
  unfold vB
  rw [h1, ← sdrB_len, ← pm.length_eq]
  have h2 : (vals f).length = f.length := by simp [vals]
  rw [h2]
  cases vs with
  | nil =>
    have : f.length = ps.length := by simpa using ln
    simp [this]
  | cons v vs =>
    have : ¬ f.length = ps.length := by simp at ln; omega
    simp
    omega
theorem fit_go {q e : D → Prop} {b n : Int} {rows : List (List Int)} {some beds : List Int} (H : HOk b rows) (S : SOk some rows.length) (hq : q (.bl (sdrB (optX (optR rows) beds) some))) : fnW 3 w_fit_without_r0 [.obj 0 [.int b, .tup (rowsD rows), .int n], rowD some, rowD beds] q e := by
  unfold w_fit_without_r0
  (conv => whnf)
  refine ⟨⟨trivial, trivial⟩, dc_mapH (fun | .int p => p | _ => 0) (fun | .int p => .lst ((optX (optR rows) beds p).map D.int) | _ => .non) (fun x hx => ?_) ?_ ?_ ?_⟩
  · obtain ⟨p, hp, rfl⟩ := List.mem_map.mp hx
    obtain ⟨h0, h1⟩ := S.rng p hp
    obtain ⟨r, e1, e2, hm⟩ := optR_at h0 h1
    refine ⟨_, rfl, ⟨trivial, trivial⟩, rfl, fun Qk hk => ?_, fun Qk hk => ?_⟩
    · (conv => whnf)
      exact hk
    · (conv => whnf)
      refine on_some (ix_rows h0 h1) ?_
      (conv => whnf)
      refine ⟨⟨trivial, trivial⟩, lc_filtH (fun | .int x => !(beds.contains x) | _ => false) (fun x => x) (fun x hx => ?_) ?_ ?_⟩
      · obtain ⟨c, hc, rfl⟩ := List.mem_map.mp hx
        refine ⟨_, rfl, ⟨trivial, trivial⟩, rfl, fun Qt hk => ?_, fun Qk _ hk => ?_⟩
        · (conv => whnf)
          have : vB (cNot cIn) (.int c) (rowD beds) = Option.some (.bl (!(beds.contains c))) := by
            have := in_seq (y := rowD beds) (ns := beds) rfl c
            simp [vB, cNot, this]
          refine on_some this ?_
          (conv => whnf)
          exact hk
        · (conv => whnf)
          exact hk
      · rw [List.length_map, e2]
        have := row_len (H.inc r hm) (H.rng r hm)
        have := H.b1
        exact Nat.le_trans (show r.length ≤ 24 by omega) (by decide)
      · (conv => whnf)
        have : ((((optR rows p).map D.int).filter (fun | .int x => !(beds.contains x) | _ => false)).map fun x => x) = (optX (optR rows) beds p).map D.int := by
          unfold optX
          rw [List.map_id', List.filter_map]
          rfl
        rw [this]
        exact hk
  · rw [List.map_map]
    have : ((fun | D.int p => p | _ => (0:Int)) ∘ D.int) = id := by funext p; rfl
    rw [this, List.map_id]
    exact inc_nd S.inc
  · rw [List.length_map]
    exact Nat.le_trans S.len (by decide)
  · (conv => whnf)
    unfold w_fit_without_r1
    (conv => whnf)
    refine ⟨_, _, optX (optR rows) beds, some, rfl, rfl, inc_nd S.inc, by have := S.len; omega, fun p hp => ?_, fun f vs M pm ln => ?_⟩
    · refine ⟨.lst ((optX (optR rows) beds p).map D.int), ?_, rfl, ?_⟩
      · show lookI (List.map _ (List.map D.int some)) (List.map _ (List.map D.int some)) p = _
        rw [List.map_map, List.map_map]
        exact look_dc (fun p => .lst ((optX (optR rows) beds p).map D.int)) hp
      · obtain ⟨h0, h1⟩ := S.rng p hp
        obtain ⟨r, e1, e2, hm⟩ := optR_at h0 h1
        have h3 : (optX (optR rows) beds p).length ≤ (optR rows p).length := List.length_filter_le _ _
        rw [e2] at h3
        have := row_len (H.inc r hm) (H.rng r hm)
        have := H.b1
        omega
    · (conv => whnf)
      refine ⟨le_sz rfl, on_some (vain_eq (f := f) (opt := optX (optR rows) beds) pm ln) ?_⟩
      exact hq
theorem sp_fit_without (ds q e) (h : ct_fit_without ds q e) : fnW 3 w_fit_without ds q e := by
  obtain ⟨b, rows, some, beds, rfl, H, S, hq⟩ := h
  rw [wq_fit_without]
  exact fit_go H S hq
end Mt
end Mty_

section Mua_
set_option maxRecDepth 100000
set_option maxHeartbeats 1000000
namespace Mt
open LW
theorem range_upto (n : Nat) : rangeD n 0 = (upto n).map D.int := by simp [rangeD, upto, Function.comp_def]
theorem needed_go {q e : D → Prop} {b : Int} {rows : List (List Int)} {some : List Int} (H : HOk b rows) (S : SOk some rows.length) (hq : q (rowD (need b rows some))) : fnW 1 w_needed_beds_r0 [hD b rows, rowD some] q e := by
  unfold w_needed_beds_r0
  (conv => whnf)
  refine ⟨b, rows, some, rfl, S, ?_⟩
  (conv => whnf)
  unfold w_needed_beds_r1
  (conv => whnf)
  have := H.b0
  have := H.b1
  refine on_some (range1 H.b0 (by omega)) ?_
  refine ⟨⟨trivial, trivial⟩, lc_filtH (fun | .int x => !sdrB (optX (optR rows) [x]) some | _ => false) (fun x => x) (fun x hx => ?_) (by rw [range_len]; exact Nat.le_trans (show b.toNat ≤ 24 by omega) (by decide)) ?_⟩
  · rw [range_upto] at hx
    obtain ⟨c, hc, rfl⟩ := List.mem_map.mp hx
    refine ⟨_, rfl, ⟨trivial, trivial⟩, rfl, fun Qt hk => ?_, fun Qk _ hk => ?_⟩
    · ((conv => whnf); (repeat (refine ⟨le_sz rfl, ?_⟩; conv => whnf)))
      refine ⟨b, rows, some, [c], rfl, H, S, ?_⟩
      (conv => whnf)
      exact hk
    · (conv => whnf)
      exact hk
  · (conv => whnf)
    have : (((rangeD b.toNat 0).filter (fun | .int x => !sdrB (optX (optR rows) [x]) some | _ => false)).map fun x => x) = (need b rows some).map D.int := by
      rw [range_upto, List.map_id', List.filter_map]
      rfl
    rw [this]
    exact hq
theorem sp_needed_beds (ds q e) (h : ct_needed_beds ds q e) : fnW 1 w_needed_beds ds q e := by
  obtain ⟨b, rows, some, rfl, H, S, hq⟩ := h
  rw [wq_needed_beds]
  exact needed_go H S hq
theorem intsOf_map (ns : List Int) : intsOf (ns.map D.int) = some ns := by
  induction ns with
  | nil => rfl
  | cons n ns ih => simp [intsOf, ih]
/-- the beds of a lodging -/
theorem lodg_beds {opt : Int → List Int} {f : AL} {n : Nat} (M : Mat opt f) (hv : ∀ p ∈ vals f, 0 ≤ p ∧ p < n) : ∃ ns : List Int, ((((List.range n).map fun (i : Nat) => lodgAt f i).filter fun | .non => false | _ => true).map fun x => x) = ns.map D.int ∧ List.Perm ns (keys f) := by
  refine ⟨(upto n).filterMap (look (swapA f)), ?_, ?_⟩
  · rw [List.map_id']
    have : ((List.range n).map fun (i : Nat) => lodgAt f i) = (upto n).map (lodgAt f) := by simp [upto, Function.comp_def]
    rw [this]
    induction upto n with
    | nil => rfl
    | cons x xs ih =>
      cases h : look (swapA f) x with
      | none =>
        have hx : lodgAt f x = .non := by unfold lodgAt; rw [h]
        simp only [List.map_cons, List.filter_cons, List.filterMap_cons, hx, h]
        exact ih
      | some c =>
        have hx : lodgAt f x = .int c := by unfold lodgAt; rw [h]
        simp only [List.map_cons, List.filter_cons, List.filterMap_cons, hx, h]
        simp [ih]
  · have swn : (keys (swapA f)).Nodup := by rw [swap_keys]; exact M.vnd
    have ls : ∀ p c, look (swapA f) p = some c ↔ look f c = some p := fun p c => by
      constructor
      · intro h
        have := look_mem h
        obtain ⟨e, h1, h2⟩ := List.mem_map.mp this
        cases h2
        exact mem_look M.nd (show (e.1, e.2) ∈ f from h1)
      · intro h
        exact mem_look swn (List.mem_map.mpr ⟨(c, p), look_mem h, rfl⟩)
    have nd1 : ((upto n).filterMap (look (swapA f))).Nodup := by
      have un : (upto n).Nodup := nodup_map List.nodup_range fun x _ y _ e => by omega
      refine List.Pairwise.filterMap _ (fun a a' h c hc c' hc' e => ?_) un
      subst e
      have h1 := (ls a c).mp hc
      have h2 := (ls a' c).mp hc'
      rw [h1] at h2
      exact h (Option.some.inj h2)
    refine perm_of nd1 M.nd fun c => ?_
    rw [List.mem_filterMap]
    constructor
    · rintro ⟨p, _, h⟩
      exact look_key.mp (by rw [(ls p c).mp h]; rfl)
    · intro h
      obtain ⟨p, hp⟩ := Option.isSome_iff_exists.mp (look_key.mpr h)
      exact ⟨p, mem_upto.mpr (hv p ((val_look M.nd).mpr ⟨c, hp⟩)), (ls p c).mpr hp⟩
theorem their_tail {Z : Ds} {E : KE} {b : Int} {rows : List (List Int)} {some : List Int} (H : HOk b rows) (S : SOk some rows.length) (sd : Sdr (optR rows) some) (hq : ∀ f ms, Mat (optR rows) f → List.Perm (vals f) some → List.Perm ms (keys f) → ms.Pairwise (· < ·) → ∀ e, Z.rt (rowD ms) e) : w_their_beds_r2 Z [.val (hD b rows), .val (rowD some), .un] E := by
  unfold w_their_beds_r2
  (conv => whnf)
  refine ⟨b, rows, some, rfl, H, S, fun f M pm => ?_⟩
  have ge : greedy (optR rows) some = some := by
    unfold greedy
    rw [grGo_full (by simpa using sd)]
    rfl
  rw [ge] at pm
  have hv : ∀ p ∈ vals f, 0 ≤ p ∧ p < rows.length := fun p hp => S.rng p (pm.mem_iff.mp hp)
  obtain ⟨ns, e1, e2⟩ := lodg_beds M hv
  (conv => whnf)
  refine ⟨⟨trivial, trivial⟩, lc_filtH (fun | .non => false | _ => true) (fun x => x) (fun x hx => ?_) (by rw [List.length_map, List.length_range]; exact Nat.le_trans H.n (by decide)) ?_⟩
  · obtain ⟨i, _, rfl⟩ := List.mem_map.mp hx
    have hz : lodgAt f i = .non ∨ ∃ c, lodgAt f i = .int c := by
      unfold lodgAt
      cases look (swapA f) i with
      | none => exact .inl rfl
      | some c => exact .inr ⟨c, rfl⟩
    rcases hz with hz | ⟨c, hz⟩
    · rw [hz]
      refine ⟨_, rfl, ⟨trivial, trivial⟩, rfl, fun Qt hk => ?_, fun Qk z hk => by cases z⟩
      (conv => whnf)
      exact hk
    · rw [hz]
      refine ⟨_, rfl, ⟨trivial, trivial⟩, rfl, fun Qt hk => ?_, fun Qk _ hk => ?_⟩
      · (conv => whnf)
        exact hk
      · (conv => whnf)
        exact hk
  · rw [e1]
    (conv => whnf)
    refine on_some (show intsD (.lst (ns.map D.int)) = Option.some ns from intsOf_map ns) fun ms pm2 srt => ?_
    (conv => whnf)
    have nd : ms.Nodup := (pm2.trans e2).nodup_iff.mpr M.nd
    exact hq f ms M pm (pm2.trans e2) (List.Pairwise.imp₂ (fun a b h1 h2 => by omega) srt nd) _
theorem their_go {q e : D → Prop} {b : Int} {rows : List (List Int)} {some : List Int} (H : HOk b rows) (S : SOk some rows.length) (hq : Sdr (optR rows) some → ∀ f ms, Mat (optR rows) f → List.Perm (vals f) some → List.Perm ms (keys f) → ms.Pairwise (· < ·) → q (rowD ms)) (he : ¬ Sdr (optR rows) some → e (.obj 4 [])) : fnW 1 w_their_beds_r0 [hD b rows, rowD some] q e := by
  unfold w_their_beds_r0
  (conv => whnf)
  refine ⟨b, rows, some, rfl, S, ?_⟩
  (conv => whnf)
  unfold w_their_beds_r1
  (conv => whnf)
  refine ⟨b, rows, some, rfl, H, S, ?_⟩
  cases hs : sdrB (optR rows) some with
  | false =>
    (conv => whnf)
    exact he (sdrB_f.mp hs)
  | true =>
    (conv => whnf)
    exact their_tail H S (sdrB_t.mp hs) fun f ms M pm pk srt _ => hq (sdrB_t.mp hs) f ms M pm pk srt
theorem sp_their_beds (ds q e) (h : ct_their_beds ds q e) : fnW 1 w_their_beds ds q e := by
  obtain ⟨b, rows, some, rfl, H, S, hq, he⟩ := h
  rw [wq_their_beds]
  exact their_go H S hq he
end Mt
end Mua_

section Mub_
set_option maxRecDepth 100000
set_option maxHeartbeats 1000000
namespace Mt
open LW
theorem any_go {q : D → List Ob → Prop} {xs : List D} {a : Nat} (h0 : xs ≠ []) (hl : xs.length ≤ 1000) (hq : ∀ y ∈ xs, q y [.l xs]) : w__law_any_r { nx := fun e => optP (outR [.inl .hand, .inr (.l xs)] [a] e) (q .non), rt := fun d e => optP (outR [.inl .hand, .inr (.l xs)] [a] e) (q d), bk := fun _ => False, ct := fun _ => False } [.val .hand, .ref a (.l xs)] fun _ _ => False := by
  have hp : 0 < xs.length := List.length_pos_iff.mpr h0
  (conv => whnf)
  refine ⟨xs.length, rfl, by omega, by omega, fun d h0 h1 => ?_⟩
  have hlt : d.toNat < xs.length := by omega
  refine on_some (show atD xs d = some (xs[d.toNat]) from by unfold atD; rw [if_pos h0]; exact List.getElem?_eq_getElem hlt) ?_
  (conv => whnf)
  exact on_some (by simp [outR]) (hq _ (List.getElem_mem hlt))
theorem sp__law_any_r (ar q) (h : ct__law_any_r ar q) : fnR 0 w__law_any_r ar q := by
  obtain ⟨xs, rfl, h0, hl, hq⟩ := h
  intro as ha nd
  obtain ⟨a, rfl⟩ : ∃ a, as = [a] := match as, ha with | [a], _ => ⟨a, rfl⟩
  exact any_go h0 hl hq
theorem has_ints (ms : List Int) (b : Int) : hasI (ms.map D.int) b = ms.contains b := by
  induction ms with
  | nil => rfl
  | cons m ms ih =>
    simp only [List.map_cons, hasI, isKey, ih, List.contains_cons]
    by_cases h : m = b
    · simp [h]
    · have e1 : (m == b) = false := by simpa using h
      have e2 : (b == m) = false := by simpa using fun z => h z.symm
      simp only [e1, e2]
theorem put_tD {ms : List Int} {b : Int} (h : b ∉ ms) : Ob.d (putKs (ms.map D.int) b) (putYs (ms.map D.int) (ms.map fun _ => D.bl true) b (.bl true)) = tD (ms ++ [b]) := by
  have : hasI (ms.map D.int) b = false := by rw [has_ints]; simpa using h
  unfold putKs putYs tD
  rw [this]
  simp
theorem count_lt {U mc : List Int} {b : Int} (un : U.Nodup) (hb : b ∈ U) (hn : b ∉ mc) : (U.filter fun x => !((mc ++ [b]).contains x)).length < (U.filter fun x => !(mc.contains x)).length := by
  have h : (b :: U.filter fun x => !((mc ++ [b]).contains x)).length ≤ (U.filter fun x => !(mc.contains x)).length := nodup_sub (List.nodup_cons.mpr ⟨fun z => by simp at z, List.Pairwise.filter _ un⟩) fun x hx => by
    rcases List.mem_cons.mp hx with z | z
    · rw [z]
      exact List.mem_filter.mpr ⟨hb, by simpa using hn⟩
    · obtain ⟨h1, h2⟩ := List.mem_filter.mp z
      refine List.mem_filter.mpr ⟨h1, ?_⟩
      simp at h2 ⊢
      exact h2.1
  exact h
theorem seat_body {m : Nat} {Z : Ds} {E : KE} {x bed : Int} {ch : D} {opt : Int → List Int} {M : AL} {ms mc U : List Int} {a b : Nat} (ok : OptOk ch opt (x :: vals M)) (hu : ∀ p ∈ x :: vals M, ∀ c ∈ opt p, c ∈ U) (nd : mc.Nodup) (ct : (U.filter fun b => !(mc.contains b)).length < m + 1) (ul : U.length ≤ 100) (su : ∀ c ∈ mc, c ∈ U) (un : U.Nodup) (ml : M.length ≤ 500) (O : Out opt M ms x) (W : Way opt M ms mc) (ho : bed ∈ opt x)
    (rt : ∀ M' m' s4, Won opt M ms x M' m' → Z.rt (.bl true) [.val (.int x), .val ch, .ref a (oD M'), .ref b (tD m'), s4])
    (nx : ∀ m2, Way opt M ms m2 → (∀ c ∈ mc, c ∈ m2) → bed ∈ m2 → m2.Nodup → (∀ c ∈ m2, c ∈ U) → Z.nx [.val (.int x), .val ch, .ref a (oD M), .ref b (tD m2), .val (.int bed)]) :
    w__law_seat_b0_r0 m Z [.val (.int x), .val ch, .ref a (oD M), .ref b (tD mc), .val (.int bed)] E := by
  have mcl : mc.length ≤ 100 := Nat.le_trans (nodup_sub nd su) ul
  unfold w__law_seat_b0_r0
  (conv => whnf)
  refine br_by (fun hb => ?_) fun hb => ?_
  · rw [has_ints] at hb
    have hb : bed ∉ mc := by simpa using hb
    have hbu := hu x List.mem_cons_self bed ho
    unfold w__law_seat_b0_t0_r0
    (conv => whnf)
    refine ⟨rfl, ?_⟩
    (conv => whnf)
    refine ⟨by rw [List.length_map]; exact Nat.lt_of_le_of_lt mcl (by decide), ?_⟩
    show w__law_seat_b0_t0_r1 m _ [.val (.int x), .val ch, .ref a (oD M), .ref b (.d (putKs (mc.map D.int) bed) (putYs (mc.map D.int) (mc.map fun _ => D.bl true) bed (.bl true))), .val (.int bed)] _
    rw [put_tD hb]
    have nd1 : (mc ++ [bed]).Nodup := app1_nd nd hb
    have su1 : ∀ c ∈ mc ++ [bed], c ∈ U := fun c hc => by
      rcases List.mem_append.mp hc with z | z
      · exact su c z
      · rw [List.mem_singleton.mp z]; exact hbu
    unfold w__law_seat_b0_t0_r1
    (conv => whnf)
    refine br_by (fun hf => ?_) fun hf => ?_
    · rw [has_ck] at hf
      have hf : look M bed = none := by simpa using hf
      unfold w__law_seat_b0_t0_t1_r0
      (conv => whnf)
      refine ⟨rfl, ?_⟩
      (conv => whnf)
      refine ⟨by rw [kD_len]; exact Nat.lt_of_le_of_lt ml (by decide), ?_⟩
      show w__law_seat_b0_t0_t1_r1 m _ [.val (.int x), .val ch, .ref a (.d (putKs (kD M) bed) (putYs (kD M) (yD M) bed (.int x))), .ref b (tD (mc ++ [bed])), .val (.int bed)] _
      rw [put_dD]
      unfold w__law_seat_b0_t0_t1_r1
      (conv => whnf)
      exact rt _ _ _ (won_free O W hb ho hf _)
    · rw [has_ck] at hf
      obtain ⟨y, hy⟩ := Option.isSome_iff_exists.mp (show (look M bed).isSome = true by simpa using hf)
      have yv : y ∈ vals M := (val_look O.nd).mpr ⟨bed, hy⟩
      (conv => whnf)
      refine ⟨rfl, ?_⟩
      (conv => whnf)
      refine on_some (show fIx (dD M) (.int bed) = _ from ix_dD hy) ?_
      (conv => whnf)
      refine ⟨y, ch, opt, M, mc ++ [bed], U, rfl, fun p hp => ok p ?_, fun p hp => hu p ?_, nd1, ?_, ul, Nat.le_trans (nodup_sub nd1 su1) ul, su1, un, ml, out_rec O W hb hy, fun M' m' R => ?_, fun m' W' nd' su' cl => ?_⟩
      · rcases List.mem_cons.mp hp with z | z
        · rw [z]; exact List.mem_cons_of_mem _ yv
        · exact List.mem_cons_of_mem _ z
      · rcases List.mem_cons.mp hp with z | z
        · rw [z]; exact List.mem_cons_of_mem _ yv
        · exact List.mem_cons_of_mem _ z
      · have := count_lt un hbu hb
        omega
      · (conv => whnf)
        unfold w__law_seat_b0_t0_t1_r0
        (conv => whnf)
        refine ⟨rfl, ?_⟩
        (conv => whnf)
        refine ⟨by rw [kD_len, R.ln]; exact Nat.lt_of_le_of_lt (show M.length + 1 ≤ 501 by omega) (by decide), ?_⟩
        show w__law_seat_b0_t0_t1_r1 m _ [.val (.int x), .val ch, .ref a (.d (putKs (kD M') bed) (putYs (kD M') (yD M') bed (.int x))), .ref b (tD m'), .val (.int bed)] _
        rw [put_dD]
        unfold w__law_seat_b0_t0_t1_r1
        (conv => whnf)
        exact rt _ _ _ (won_rec O W hb ho hy R _)
      · (conv => whnf)
        exact nx m' (way_rec W hy W' cl) (fun c hc => W'.sub c (List.mem_append.mpr (.inl hc))) (W'.sub bed (by simp)) nd' su'
  · rw [has_ints] at hb
    have hb : bed ∈ mc := by simpa using hb
    exact nx mc W (fun _ h => h) hb nd su
theorem outR_seat {x ch : D} {M0 T0 M T : Ob} {a b : Nat} {s0 s1 s4 : Slot} : outR [.inl x, .inl ch, .inr M0, .inr T0] [a, b] [s0, s1, .ref a M, .ref b T, s4] = some [M, T] := by simp [outR]
theorem seat_go {m : Nat} {q : D → List Ob → Prop} {x : Int} {ch : D} {opt : Int → List Int} {M : AL} {ms U : List Int} {a b : Nat} (ok : OptOk ch opt (x :: vals M)) (hu : ∀ p ∈ x :: vals M, ∀ c ∈ opt p, c ∈ U) (nd : ms.Nodup) (ct : (U.filter fun b => !(ms.contains b)).length < m + 1) (ul : U.length ≤ 100) (su : ∀ c ∈ ms, c ∈ U) (un : U.Nodup) (ml : M.length ≤ 500) (O : Out opt M ms x)
    (k1 : ∀ M' m', Won opt M ms x M' m' → q (.bl true) [oD M', tD m']) (k2 : ∀ m', Way opt M ms m' → m'.Nodup → (∀ b ∈ m', b ∈ U) → (∀ c ∈ opt x, c ∈ m') → q (.bl false) [oD M, tD m']) :
    w__law_seat_r0 m { nx := fun e => optP (outR [.inl (.int x), .inl ch, .inr (oD M), .inr (tD ms)] [a, b] e) (q .non), rt := fun d e => optP (outR [.inl (.int x), .inl ch, .inr (oD M), .inr (tD ms)] [a, b] e) (q d), bk := fun _ => False, ct := fun _ => False } [.val (.int x), .val ch, .ref a (oD M), .ref b (tD ms), .un] fun _ _ => False := by
  obtain ⟨y, y1, y2, y3⟩ := ok x List.mem_cons_self
  unfold w__law_seat_r0
  (conv => whnf)
  refine on_some y1 ?_
  (conv => whnf)
  refine on_some y2 ?_
  refine for_pre (fun ds e => ∃ (mc : List Int) (s4 : Slot), e = [.val (.int x), .val ch, .ref a (oD M), .ref b (tD mc), s4] ∧ Way opt M ms mc ∧ mc.Nodup ∧ (∀ c ∈ mc, c ∈ U) ∧ ∀ c, D.int c ∈ ds → c ∈ mc) ⟨ms, .un, rfl, .refl, nd, su, fun c z => absurd z List.not_mem_nil⟩ ?_ ?_
  · rintro ds z rest e hi ⟨mc, s4, rfl, W, nd', su', dn⟩ Zk hk
    have hx : z ∈ (opt x).map D.int := by rw [hi]; simp
    obtain ⟨bed, hb, rfl⟩ := List.mem_map.mp hx
    have cl : (U.filter fun b => !(mc.contains b)).length ≤ (U.filter fun b => !(ms.contains b)).length := nodup_sub (List.Pairwise.filter _ un) fun c hc => by
      obtain ⟨h1, h2⟩ := List.mem_filter.mp hc
      refine List.mem_filter.mpr ⟨h1, ?_⟩
      simp at h2 ⊢
      exact fun z => h2 (W.sub c z)
    refine ⟨_, rfl, ?_⟩
    refine seat_body ok hu nd' (by omega) ul su' un ml O W hb (fun M' m' s4 R => on_some outR_seat (k1 M' m' R)) fun m2 W2 s2 b2 n2 u2 => hk _ ⟨m2, _, rfl, W2, n2, u2, fun c hc => ?_⟩
    rcases List.mem_append.mp hc with w | w
    · exact s2 c (dn c w)
    · cases List.mem_singleton.mp w
      exact b2
  · rintro e ⟨mc, s4, rfl, W, nd', su', dn⟩
    unfold w__law_seat_r1
    (conv => whnf)
    exact on_some outR_seat (k2 mc W nd' su' fun c hc => dn c (List.mem_map.mpr ⟨c, hc, rfl⟩))
theorem sp__law_seat (m : Nat) (ar q) (h : ct__law_seat (m + 1) ar q) : fnR 1 (w__law_seat m) ar q := by
  obtain ⟨x, ch, opt, M, ms, U, rfl, ok, hu, nd, ct, ul, msl, su, un, ml, O, k1, k2⟩ := h
  intro as ha hn
  obtain ⟨a, b, rfl⟩ : ∃ a b, as = [a, b] := match as, ha with | [a, b], _ => ⟨a, b, rfl⟩
  rw [wq__law_seat]
  exact seat_go ok hu nd ct ul su un ml O k1 k2
end Mt
end Mub_

section Muc_
set_option maxRecDepth 100000
set_option maxHeartbeats 1000000
namespace Mt
open LW
theorem int_map_inj {a b : List Int} (h : a.map D.int = b.map D.int) : a = b := by
  have := congrArg (List.map fun | D.int i => i | _ => 0) h
  simpa [Function.comp_def] using this
theorem upto_nd (n : Nat) : (upto n).Nodup := nodup_map List.nodup_range fun x _ y _ e => by omega
theorem seated_go {q e : D → Prop} {ch : D} {n : Int} {opt : Int → List Int} {U : List Int} (hf : fLen ch = some (.int n)) (h0 : 0 ≤ n) (h1 : n ≤ 100) (ok : OptOk ch opt (upto n.toNat)) (hu : ∀ p ∈ upto n.toNat, ∀ b ∈ opt p, b ∈ U) (un : U.Nodup) (ul : U.length ≤ 24)
    (hq : ∀ f, Mat opt f → List.Perm (vals f) (greedy opt (upto n.toNat)) → q (dD f)) : fnW 2 w__law_seated_r0 [ch] q e := by
  unfold w__law_seated_r0
  (conv => whnf)
  unfold w__law_seated_r1
  (conv => whnf)
  refine on_some hf ?_
  (conv => whnf)
  refine on_some (range1 h0 (by omega)) ?_
  rw [range_upto]
  refine for_pre (fun ds e => ∃ (done : List Int) (f : AL) (s2 : Slot), ds = done.map D.int ∧ e = [.val ch, .own (oD f), s2] ∧ Mat opt f ∧ List.Perm (vals f) (greedy opt done)) ⟨[], [], .un, rfl, rfl, .nil, .refl _⟩ ?_ ?_
  · rintro ds x rest e hi ⟨done, f, s2, rfl, rfl, M, pm⟩ Zk hk
    obtain ⟨l1, y, l3, hps, hd, rfl⟩ := split_map hi
    cases int_map_inj hd
    have nd := upto_nd n.toNat
    have hyd : y ∉ done := fun z => by
      rw [hps, List.nodup_append] at nd
      exact nd.2.2 y z y List.mem_cons_self rfl
    have hy : y ∉ vals f := fun z => hyd (greedy_sub (pm.mem_iff.mp z))
    have inU : ∀ p ∈ y :: vals f, p ∈ upto n.toNat := fun p hp => by
      rw [hps]
      rcases List.mem_cons.mp hp with z | z
      · rw [z]; simp
      · exact List.mem_append.mpr (.inl (greedy_sub (pm.mem_iff.mp z)))
    have fl : f.length ≤ 100 := by
      have := nodup_sub M.vnd fun p hp => inU p (List.mem_cons_of_mem _ hp)
      rw [upto_len] at this
      simp [vals] at this
      omega
    refine ⟨_, rfl, ?_⟩
    unfold w__law_seated_b1_r0
    (conv => whnf)
    refine ⟨rfl, ?_⟩
    (conv => whnf)
    refine ⟨y, ch, opt, f, [], U, rfl, fun p hp => ok p (inU p hp), fun p hp => hu p (inU p hp), .nil, ?_, by omega, by simp, fun b hb => absurd hb List.not_mem_nil, un, by omega, M.out hy, fun M' m' R => ?_, fun m' W nd su cl => ?_⟩
    · exact Nat.lt_of_le_of_lt (List.length_filter_le _ _) (by omega)
    · (conv => whnf)
      have sd : Sdr opt (greedy opt done ++ [y]) := R.mat.sdr.mono fun q hq => (R.perm M hy).mem_iff.mpr (by
        rcases List.mem_append.mp hq with z | z
        · exact List.mem_append.mpr (.inl (pm.mem_iff.mpr z))
        · exact List.mem_append.mpr (.inr z))
      refine hk _ ⟨done ++ [y], M', _, by simp, rfl, R.mat, ?_⟩
      rw [greedy_in sd]
      exact (R.perm M hy).trans (pm.append_right _)
    · (conv => whnf)
      have sd : ¬ Sdr opt (greedy opt done ++ [y]) := fun z => W.vain M hy nd cl (z.mono fun q hq => by
        rcases List.mem_append.mp hq with w | w
        · exact List.mem_append.mpr (.inl (pm.mem_iff.mp w))
        · exact List.mem_append.mpr (.inr w))
      refine hk _ ⟨done ++ [y], f, _, by simp, rfl, M, ?_⟩
      rw [greedy_out sd]
      exact pm
  · rintro e ⟨done, f, s2, hd, rfl, M, pm⟩
    cases int_map_inj hd
    unfold w__law_seated_r2
    (conv => whnf)
    exact hq f M pm
theorem sp__law_seated (ds q e) (h : ct__law_seated ds q e) : fnW 2 w__law_seated ds q e := by
  obtain ⟨ch, cs, opt, U, rfl, hs, hl, ok, hu, un, ul, hq⟩ := h
  rw [wq__law_seated]
  exact seated_go (n := cs.length) (seq_len hs) (by omega) (by omega) (by rw [Int.toNat_natCast]; exact ok) (by rw [Int.toNat_natCast]; exact hu) un ul (by rw [Int.toNat_natCast]; exact hq)
end Mt
end Muc_

section Mud_
set_option maxRecDepth 100000
set_option maxHeartbeats 1000000
namespace Mt
open LW
def byAt (some : List Int) (i : Int) : Int := (some[i.toNat]?).getD 0
theorem byAt_mem {some : List Int} {i : Int} (h : i ∈ upto some.length) : byAt some i ∈ some ∧ ∃ hl : i.toNat < some.length, byAt some i = some[i.toNat] := by
  obtain ⟨h0, h1⟩ := mem_upto.mp h
  have hl : i.toNat < some.length := by omega
  have : byAt some i = some[i.toNat] := by
    unfold byAt
    rw [List.getElem?_eq_getElem hl]
    rfl
  exact ⟨by rw [this]; exact List.getElem_mem hl, hl, this⟩
theorem nd_inj {l : List Int} (nd : l.Nodup) {i j : Nat} (hi : i < l.length) (hj : j < l.length) (e : l[i] = l[j]) : i = j := by
  have h := List.pairwise_iff_getElem.mp nd
  rcases Nat.lt_trichotomy i j with z | z | z
  · exact absurd e (h i j hi hj z)
  · exact z
  · exact absurd e.symm (h j i hj hi z)
theorem sdr_re {opt : Int → List Int} {some : List Int} (nd : some.Nodup) : Sdr (fun i => opt (byAt some i)) (upto some.length) ↔ Sdr opt some := by
  constructor
  · rintro ⟨a, h1, h2⟩
    have ix : ∀ p ∈ some, ((some.idxOf p : Nat) : Int) ∈ upto some.length ∧ byAt some (some.idxOf p : Nat) = p := fun p hp => by
      have hl := List.idxOf_lt_length_of_mem hp
      refine ⟨mem_upto.mpr (by omega), ?_⟩
      unfold byAt
      rw [Int.toNat_natCast, List.getElem?_eq_getElem hl]
      exact List.getElem_idxOf hl
    refine ⟨fun p => a (some.idxOf p : Nat), fun p hp => ?_, fun p hp q hq e => ?_⟩
    · obtain ⟨h3, h4⟩ := ix p hp
      have : a (some.idxOf p : Nat) ∈ opt (byAt some (some.idxOf p : Nat)) := h1 _ h3
      rw [h4] at this
      exact this
    · obtain ⟨h3, h4⟩ := ix p hp
      obtain ⟨h5, h6⟩ := ix q hq
      have := h2 _ h3 _ h5 e
      rw [← h4, ← h6, this]
  · rintro ⟨a, h1, h2⟩
    refine ⟨fun i => a (byAt some i), fun i hi => h1 _ (byAt_mem hi).1, fun i hi j hj e => ?_⟩
    obtain ⟨m1, l1, e1⟩ := byAt_mem hi
    obtain ⟨m2, l2, e2⟩ := byAt_mem hj
    have := h2 _ m1 _ m2 e
    rw [e1, e2] at this
    have := nd_inj nd l1 l2 this
    have := (mem_upto.mp hi).1
    have := (mem_upto.mp hj).1
    omega
theorem upto_at {n : Nat} {i : Int} (h : i ∈ upto n) : (upto n)[i.toNat]? = some i := by
  obtain ⟨h0, h1⟩ := mem_upto.mp h
  unfold upto
  rw [List.getElem?_map, List.getElem?_range (by omega)]
  simp
  omega
theorem without_go {q e : D → Prop} {b : Int} {rows : List (List Int)} {sh : D} {beds some : List Int} (hs : seqOf sh = Option.some (beds.map D.int)) (H : HOk b rows) (S : SOk some rows.length) (hq : q (.bl (sdrB (optX (optR rows) beds) some))) : fnW 2 w__law_without [.tup [.int b, .tup (rowsD rows)], sh, rowD some] q e := by
  have e1 : ∀ p ∈ some, ∃ r, optR rows p = r ∧ r ∈ rows ∧ 0 ≤ p ∧ p < rows.length := fun p hp => by
    obtain ⟨h0, h1⟩ := S.rng p hp
    obtain ⟨r, _, e2, hm⟩ := optR_at h0 h1
    exact ⟨r, e2, hm, h0, h1⟩
  have rl : ∀ p ∈ some, (optR rows p).length ≤ 24 := fun p hp => by
    obtain ⟨r, e2, hm, _⟩ := e1 p hp
    rw [e2]
    have := row_len (H.inc r hm) (H.rng r hm)
    have := H.b1
    omega
  (conv => whnf)
  refine ⟨⟨trivial, trivial⟩, lc_mapH (fun | .int p => .lst ((optX (optR rows) beds p).map D.int) | _ => .non) (fun x hx => ?_) (by rw [List.length_map]; exact Nat.le_trans S.len (by decide)) ?_⟩
  · obtain ⟨p, hp, rfl⟩ := List.mem_map.mp hx
    obtain ⟨r, e2, hm, h0, h1⟩ := e1 p hp
    refine ⟨_, rfl, ⟨trivial, trivial⟩, rfl, fun Qk hk => ?_⟩
    (conv => whnf)
    refine on_some (ix_rows h0 h1) ?_
    (conv => whnf)
    refine ⟨⟨trivial, trivial⟩, lc_filtH (fun | .int x => !(beds.contains x) | _ => false) (fun x => x) (fun x hx => ?_) (by rw [List.length_map]; exact Nat.le_trans (rl p hp) (by decide)) ?_⟩
    · obtain ⟨c, hc, rfl⟩ := List.mem_map.mp hx
      refine ⟨_, rfl, ⟨trivial, trivial⟩, rfl, fun Qt hk => ?_, fun Qk _ hk => ?_⟩
      · (conv => whnf)
        have : vB (cNot cIn) (.int c) sh = Option.some (.bl (!(beds.contains c))) := by
          have := in_seq hs c
          simp [vB, cNot, this]
        refine on_some this ?_
        (conv => whnf)
        exact hk
      · (conv => whnf)
        exact hk
    · (conv => whnf)
      have : ((((optR rows p).map D.int).filter (fun | .int x => !(beds.contains x) | _ => false)).map fun x => x) = (optX (optR rows) beds p).map D.int := by
        unfold optX
        rw [List.map_id', List.filter_map]
        rfl
      rw [this]
      exact hk
  · rw [List.map_map]
    (conv => whnf)
    have nd := inc_nd S.inc
    have lc : (some.map ((fun | D.int p => D.lst ((optX (optR rows) beds p).map D.int) | _ => D.non) ∘ D.int)).length = some.length := List.length_map _
    refine ⟨_, _, fun i => optX (optR rows) beds (byAt some i), upto b.toNat, rfl, rfl, by rw [lc]; have := S.len; omega, fun i hi => ?_, fun i hi c hc => ?_, upto_nd _, by rw [upto_len]; have := H.b1; omega, fun f M pm => ?_⟩
    · rw [lc] at hi
      obtain ⟨m1, l1, e3⟩ := byAt_mem hi
      have h0 := (mem_upto.mp hi).1
      refine ⟨.lst ((optX (optR rows) beds (byAt some i)).map D.int), ?_, rfl, ?_⟩
      · show atD _ i = _
        unfold atD
        rw [if_pos h0, List.getElem?_map, List.getElem?_eq_getElem l1, e3]
        rfl
      · have h3 : (optX (optR rows) beds (byAt some i)).length ≤ (optR rows (byAt some i)).length := List.length_filter_le _ _
        have := rl _ m1
        show (optX (optR rows) beds (byAt some i)).length ≤ 1000
        omega
    · rw [lc] at hi
      obtain ⟨m1, l1, e3⟩ := byAt_mem hi
      obtain ⟨r, e2, hm, _⟩ := e1 _ m1
      have hc2 := (List.mem_filter.mp hc).1
      rw [e2] at hc2
      have := H.rng r hm c hc2
      exact mem_upto.mpr (by omega)
    · rw [lc] at pm
      (conv => whnf)
      have : vB cEq (.int (kD f).length) (.int (some.map D.int).length) = Option.some (.bl (sdrB (optX (optR rows) beds) some)) := by
        have e4 : cEq (.int (kD f).length) (.int (some.map D.int).length) = Option.some (decide (((kD f).length : Int) = ((some.map D.int).length : Int))) := by
          simp [cEq, scalD, eqS] <;> rfl
        have e5 : (kD f).length = (greedy (fun i => optX (optR rows) beds (byAt some i)) (upto some.length)).length := by
          rw [kD_len, ← pm.length_eq]
          simp [vals]
        have e6 : decide (((greedy (fun i => optX (optR rows) beds (byAt some i)) (upto some.length)).length : Int) = (some.length : Int)) = sdrB (optX (optR rows) beds) some := by
          have := sdrB_len (opt := fun i => optX (optR rows) beds (byAt some i)) (ps := upto some.length)
          rw [upto_len] at this
          rw [this]
          rw [Bool.eq_iff_iff, sdrB_t, sdrB_t]
          exact sdr_re nd
        unfold vB
        rw [e4, e5, List.length_map, e6]
        rfl
      refine on_some this ?_
      exact hq
theorem sp__law_without (ds q e) (h : ct__law_without ds q e) : fnW 2 w__law_without ds q e := by
  obtain ⟨b, rows, sh, beds, some, rfl, hs, H, S, hq⟩ := h
  exact without_go hs H S hq
end Mt
end Mud_

section Mue_
set_option maxRecDepth 100000
set_option maxHeartbeats 1000000
namespace Mt
open LW
theorem all_true {α : Type} (xs : List α) : fAll (.lst (xs.map fun _ => D.bl true)) = some (.bl true) := by
  rw [all_map (fun _ => true)]
  simp
theorem zip_self {ms : List Int} : zipD (ms.map D.int) ((ms.map D.int).drop 1) = (ms.zip (ms.drop 1)).map fun p => D.tup [.int p.1, .int p.2] := by
  rw [← List.map_drop, zipD_ints]
theorem zip_lt : ∀ {ms : List Int}, ms.Pairwise (· < ·) → ∀ p ∈ ms.zip (ms.drop 1), p.1 < p.2
  | [], _, p, h => by cases h
  | [_], _, p, h => by simp at h
  | a :: b :: r, h, p, hp => by
    have h := List.pairwise_cons.mp h
    simp only [List.drop_succ_cons, List.drop_zero, List.zip_cons_cons] at hp
    rcases List.mem_cons.mp hp with z | z
    · rw [z]; exact h.1 b List.mem_cons_self
    · exact zip_lt h.2 p (by simpa using z)
theorem isrow_go {q e : D → Prop} {ms : List Int} {b : Int} (hl : ms.length ≤ 1000) (hi : ms.Pairwise (· < ·)) (hr : ∀ x ∈ ms, 0 ≤ x ∧ x < b) (hq : q (.bl true)) : fnW 2 w__law_is_row_r0 [rowD ms, .int b] q e := by
  have sz : (ms.map D.int).length ≤ SZ := by rw [List.length_map]; exact Nat.le_trans hl (by decide)
  unfold w__law_is_row_r0
  (conv => whnf)
  refine ⟨⟨trivial, trivial⟩, lc_mapH (fun _ => .bl true) (fun x hx => ?_) sz ?_⟩
  · obtain ⟨c, hc, rfl⟩ := List.mem_map.mp hx
    refine ⟨_, rfl, ⟨trivial, trivial⟩, rfl, fun Qk hk => ?_⟩
    (conv => whnf)
    exact hk
  · (conv => whnf)
    refine on_some (all_true _) ?_
    (conv => whnf)
    unfold w__law_is_row_r1
    (conv => whnf)
    refine ⟨⟨trivial, trivial⟩, lc_mapH (fun _ => .bl true) (fun x hx => ?_) sz ?_⟩
    · obtain ⟨c, hc, rfl⟩ := List.mem_map.mp hx
      obtain ⟨h0, h1⟩ := hr c hc
      refine ⟨_, rfl, ⟨trivial, trivial⟩, rfl, fun Qk hk => ?_⟩
      (conv => whnf)
      refine br_by (fun _ => ?_) fun z => absurd z (by simpa using h0)
      (conv => whnf)
      have : (D.bl (decide (c < b))) = .bl true := by simp [h1]
      rw [this]
      exact hk
    · (conv => whnf)
      refine on_some (all_true _) ?_
      (conv => whnf)
      have cz : cut (ms.map D.int) (some 1) none = (ms.map D.int).drop 1 := cut1 _
      refine ⟨⟨trivial, trivial, trivial⟩, ?_⟩
      rw [show zipD (ms.map D.int) (cut (ms.map D.int) (some 1) none) = (ms.zip (ms.drop 1)).map (fun p => D.tup [.int p.1, .int p.2]) from by rw [cz]; exact zip_self]
      refine lc_mapH (fun _ => .bl true) (fun x hx => ?_) ?_ ?_
      · obtain ⟨p, hp, rfl⟩ := List.mem_map.mp hx
        have := zip_lt hi p hp
        refine ⟨_, rfl, ⟨trivial, trivial, trivial⟩, rfl, fun Qk hk => ?_⟩
        (conv => whnf)
        have : (D.bl (decide (p.1 < p.2))) = .bl true := by simp [this]
        rw [this]
        exact hk
      · rw [List.length_map]
        exact Nat.le_trans (show (ms.zip (ms.drop 1)).length ≤ 1000 by rw [List.length_zip]; omega) (by decide)
      · (conv => whnf)
        refine on_some (all_true _) ?_
        exact hq
theorem sp__law_is_row (ds q e) (h : ct__law_is_row ds q e) : fnW 2 w__law_is_row ds q e := by
  obtain ⟨ms, b, rfl, hl, hi, hr, hq⟩ := h
  rw [wq__law_is_row]
  exact isrow_go hl hi hr hq
end Mt
end Mue_

section Muf_
set_option maxRecDepth 100000
set_option maxHeartbeats 1000000
namespace Mt
open LW
/-- some of the items, in their order -/
theorem lc_sub {kt : D → Env → Option Env} {tt : WT} {el : WE} {vs : List Nat} {Q : KA} {env : Env} (g : D → D) : ∀ {items acc : List D}, (∀ x ∈ items, ∃ e1, kt x env = some e1 ∧ noOwn e1 vs ∧ wipeE e1 vs = env ∧ (∀ Qt : Bool → Env → Prop, (∀ b, Qt b e1) → tt e1 Qt noX) ∧ ∀ Qk : KR, Qk (.d (g x)) e1 → el e1 Qk noX) →
    acc.length + items.length ≤ SZ → (∀ ys, List.Sublist ys (items.map g) → Q (acc ++ ys) env) → lcGo kt tt el vs Q items acc env
  | [], acc, _, _, q => by
    unfold lcGo
    have := q [] (.slnil)
    rwa [List.append_nil] at this
  | x :: xs, acc, h, hl, q => by
    obtain ⟨e1, h1, h2, h3, h4, h5⟩ := h x List.mem_cons_self
    have hl' : acc.length + (xs.length + 1) ≤ SZ := by simpa using hl
    unfold lcGo
    rw [h1]
    simp only [optP_some]
    refine h4 _ fun b => ?_
    cases b with
    | false =>
      rw [br_f]
      refine ⟨h2, ?_⟩
      rw [h3]
      exact lc_sub g (fun y hy => h y (List.mem_cons_of_mem _ hy)) (by omega) fun ys s => q ys (.cons _ s)
    | true =>
      rw [br_t]
      refine h5 _ ?_
      simp only [fz, fzP_some]
      refine ⟨by omega, h2, ?_⟩
      rw [h3]
      refine lc_sub g (fun y hy => h y (List.mem_cons_of_mem _ hy)) (by simp; omega) fun ys s => ?_
      have := q (g x :: ys) (.cons_cons _ s)
      rwa [List.append_assoc]
theorem lc_subH {kt : D → Env → Option Env} {tt : WT} {el : WE} {vs : List Nat} {Q : KA} {env : Env} (g : D → D) {items : List D} (h : ∀ x ∈ items, ∃ e1, kt x env = some e1 ∧ noOwn e1 vs ∧ wipeE e1 vs = env ∧ (∀ Qt : Bool → Env → Prop, (∀ b, Qt b e1) → tt e1 Qt noX) ∧ ∀ Qk : KR, Qk (.d (g x)) e1 → el e1 Qk noX)
    (hl : items.length ≤ SZ) (q : ∀ ys, List.Sublist ys (items.map g) → Q ys env) : hold (lcGo kt tt el vs Q items [] env) := hold_i (lc_sub g h (by simpa using hl) (fun ys s => by simpa using q ys s))
theorem sub_map : ∀ {ns : List Int} {ys : List D}, List.Sublist ys (ns.map D.int) → ∃ ms : List Int, ys = ms.map D.int ∧ List.Sublist ms ns
  | [], ys, h => ⟨[], by simpa using h, .slnil⟩
  | n :: ns, ys, h => by
    cases h with
    | cons _ h =>
      obtain ⟨ms, e, s⟩ := sub_map h
      exact ⟨ms, e, .cons _ s⟩
    | cons_cons _ h =>
      obtain ⟨ms, e, s⟩ := sub_map h
      exact ⟨n :: ms, by rw [e]; rfl, .cons_cons _ s⟩
theorem upto_inc (n : Nat) : (upto n).Pairwise (· < ·) := by
  unfold upto
  rw [List.pairwise_map]
  exact List.pairwise_lt_range.imp fun h => by omega
theorem sok_sub {ns : List Int} {n : Nat} (h : List.Sublist ns (upto n)) (hn : n ≤ 24) : SOk ns n := ⟨List.Pairwise.sublist h (upto_inc n), fun x hx => mem_upto.mp (h.subset hx), by have := h.length_le; rw [upto_len] at this; omega⟩
theorem perm_ints {zs : List Int} {ys : List D} (h : List.Perm ys (zs.map D.int)) : ∃ ms : List Int, ys = ms.map D.int ∧ List.Perm ms zs := by
  have all : ∀ y ∈ ys, ∃ i, y = D.int i := fun y hy => by
    obtain ⟨i, _, e⟩ := List.mem_map.mp (h.mem_iff.mp hy)
    exact ⟨i, e.symm⟩
  have g : ∀ ys : List D, (∀ y ∈ ys, ∃ i, y = D.int i) → ∃ ms : List Int, ys = ms.map D.int := by
    intro ys
    induction ys with
    | nil => exact fun _ => ⟨[], rfl⟩
    | cons y ys ih =>
      intro h
      obtain ⟨i, e⟩ := h y List.mem_cons_self
      obtain ⟨ms, e2⟩ := ih fun z hz => h z (List.mem_cons_of_mem _ hz)
      exact ⟨i :: ms, by rw [e, e2]; rfl⟩
  obtain ⟨ms, e⟩ := g ys all
  refine ⟨ms, e, ?_⟩
  rw [e] at h
  have := h.map fun | D.int i => i | _ => 0
  simpa [Function.comp_def] using this
theorem cut_sub {α : Type} (xs : List α) (l h : Option Int) : List.Sublist (cut xs l h) xs := by
  unfold cut
  first | exact (List.drop_sublist _ _).trans (List.take_sublist _ _) | exact (List.take_sublist _ _).trans (List.drop_sublist _ _)
theorem rgL {n : Int} (h0 : 0 ≤ n) (h1 : n ≤ 1000) : fRgL (.int n) = some (rangeD n.toNat 0) := by
  show (if 0 ≤ n ∧ n ≤ 1000 then some (rangeD n.toNat 0) else none) = _
  rw [if_pos ⟨h0, h1⟩]
theorem row1 {Z : Ds} {E : KE} {many sh : Int} (h0 : 0 ≤ many) (h1 : many ≤ 24) (hs : sh = 0 ∨ sh = 9 ∨ sh = 2 ∨ sh = 1) (hq : ∀ ns, SOk ns many.toNat → ∀ e, Z.rt (rowD ns) e) : w__law_row_r1 Z [.val .hand, .val (.int many), .val (.int sh), .un] E := by
  have mz : many.toNat ≤ SZ := Nat.le_trans (show many.toNat ≤ 24 by omega) (by decide)
  unfold w__law_row_r1
  (conv => whnf)
  refine br_by (fun h => ?_) fun h => ?_
  · (conv => whnf)
    refine on_some (rgL h0 (by omega)) ?_
    (conv => whnf)
    refine ⟨_, _, rfl, rfl, by rw [range_len]; omega, fun ys pm => ?_⟩
    (conv => whnf)
    refine ⟨4, rfl, by decide, by decide, fun d d0 d1 => ?_⟩
    (conv => whnf)
    rw [range_upto] at pm
    obtain ⟨zs, rfl, pz⟩ := perm_ints pm
    obtain ⟨ns, e1, s1⟩ := sub_map (cut_sub (zs.map D.int) none (some d))
    have nd : ns.Nodup := (pz.nodup_iff.mpr (upto_nd _)).sublist s1
    refine on_some (show intsD (.lst (cut (zs.map D.int) none (some d))) = some ns from by rw [e1]; exact intsOf_map ns) fun ms pm2 srt => ?_
    (conv => whnf)
    have md : ms.Nodup := pm2.nodup_iff.mpr nd
    have mu : ∀ x ∈ ms, x ∈ upto many.toNat := fun x hx => pz.mem_iff.mp (s1.subset (pm2.mem_iff.mp hx))
    refine hq ms ⟨List.Pairwise.imp₂ (fun a b h1 h2 => by omega) srt md, fun x hx => mem_upto.mp (mu x hx), ?_⟩ _
    have := nodup_sub md mu
    rw [upto_len] at this
    omega
  · have h : sh ≠ 1 := by simpa [eqS] using h
    (conv => whnf)
    unfold w__law_row_r2
    (conv => whnf)
    refine on_some (range1 h0 (by omega)) ?_
    refine ⟨⟨trivial, trivial⟩, ?_⟩
    rw [range_upto]
    refine lc_subH (fun x => x) (fun x hx => ?_) (by rw [List.length_map, upto_len]; exact mz) fun ys sy => ?_
    · obtain ⟨c, hc, rfl⟩ := List.mem_map.mp hx
      refine ⟨_, rfl, ⟨trivial, trivial⟩, rfl, fun Qt hk => ?_, fun Qk hk => ?_⟩
      · (conv => whnf)
        refine br_by (fun z => ?_) fun z => ?_
        · exact hk _
        · have z : sh ≠ 0 := by simpa [eqS] using z
          (conv => whnf)
          refine ⟨sh, rfl, by omega, by omega, fun d d0 d1 => ?_⟩
          (conv => whnf)
          exact hk _
      · (conv => whnf)
        exact hk
    · rw [List.map_id'] at sy
      obtain ⟨ns, rfl, s2⟩ := sub_map sy
      (conv => whnf)
      exact hq ns (sok_sub s2 (by omega)) _
theorem row0 {q e : D → Prop} {many : Int} (h0 : 0 ≤ many) (h1 : many ≤ 24) (hq : ∀ ns, SOk ns many.toNat → q (rowD ns)) : fnW 2 w__law_row_r0 [.hand, .int many] q e := by
  unfold w__law_row_r0
  ((conv => whnf); (repeat (refine ⟨le_sz rfl, ?_⟩; conv => whnf)))
  refine ⟨_, _, rfl, rfl, by simp, by decide, fun y hy => ?_⟩
  obtain ⟨sh, rfl, hs⟩ : ∃ sh : Int, y = .int sh ∧ (sh = 0 ∨ sh = 9 ∨ sh = 2 ∨ sh = 1) := by
    simp only [List.mem_cons, List.not_mem_nil, or_false] at hy
    rcases hy with rfl | rfl | rfl | rfl | rfl | rfl
    · exact ⟨0, rfl, .inl rfl⟩
    · exact ⟨0, rfl, .inl rfl⟩
    · exact ⟨9, rfl, .inr (.inl rfl)⟩
    · exact ⟨2, rfl, .inr (.inr (.inl rfl))⟩
    · exact ⟨2, rfl, .inr (.inr (.inl rfl))⟩
    · exact ⟨1, rfl, .inr (.inr (.inr rfl))⟩
  (conv => whnf)
  exact row1 h0 h1 hs fun ns h _ => hq ns h
theorem sp__law_row (ds q e) (h : ct__law_row ds q e) : fnW 2 w__law_row ds q e := by
  obtain ⟨many, rfl, h0, h1, hq⟩ := h
  rw [wq__law_row]
  exact row0 h0 h1 hq
end Mt
end Muf_

section Mug_
set_option maxRecDepth 100000
set_option maxHeartbeats 1000000
namespace Mt
open LW
theorem intsD_lst (ns : List Int) : intsD (.lst (ns.map D.int)) = some ns := intsOf_map ns
theorem perm_lists {rows : List (List Int)} {ys : List D} (h : List.Perm ys (listsD rows)) : ∃ rs : List (List Int), ys = listsD rs ∧ List.Perm rs rows := by
  have g : ∀ ys : List D, (∀ y ∈ ys, ∃ r : List Int, y = .lst (r.map D.int)) → ∃ rs : List (List Int), ys = listsD rs := by
    intro ys
    induction ys with
    | nil => exact fun _ => ⟨[], rfl⟩
    | cons y ys ih =>
      intro h
      obtain ⟨r, e⟩ := h y List.mem_cons_self
      obtain ⟨rs, e2⟩ := ih fun z hz => h z (List.mem_cons_of_mem _ hz)
      exact ⟨r :: rs, by rw [e, e2]; rfl⟩
  obtain ⟨rs, e⟩ := g ys fun y hy => by
    obtain ⟨r, _, e⟩ := List.mem_map.mp (h.mem_iff.mp hy)
    exact ⟨r, e.symm⟩
  refine ⟨rs, e, ?_⟩
  have un : ∀ l : List (List Int), (listsD l).map (fun | .lst xs => xs.map (fun | D.int i => i | _ => 0) | _ => []) = l := fun l => by
    unfold listsD
    rw [List.map_map]
    have : ((fun | D.lst xs => xs.map (fun | D.int i => i | _ => (0:Int)) | _ => []) ∘ fun (r : List Int) => D.lst (r.map D.int)) = id := by
      funext r
      simp [Function.comp_def]
    rw [this, List.map_id]
  rw [e] at h
  have := h.map (fun | .lst xs => xs.map (fun | D.int i => i | _ => (0:Int)) | _ => [])
  rwa [un, un] at this
theorem ren_body {Z : Ds} {E : KE} {b : Int} {names r : List Int} {f : List (List Int)} {s1 s2 : Slot} (hn : ∀ x ∈ names, 0 ≤ x ∧ x < b) (nl : (names.length : Int) = b) (hb : b ≤ 24) (hr : ∀ x ∈ r, 0 ≤ x ∧ x < b) (rl : r.length < 60) (fl : f.length ≤ 24)
    (nx : ∀ ms : List Int, ms.Pairwise (· < ·) → (∀ x ∈ ms, 0 ≤ x ∧ x < b) → Z.nx [.val .hand, s1, s2, .val (.lst (names.map D.int)), .own (.l (rowsD (f ++ [ms]))), .val (.lst (r.map D.int)), .un]) :
    w__law_renamed_b1_r0 Z [.val .hand, s1, s2, .val (.lst (names.map D.int)), .own (.l (rowsD f)), .val (.lst (r.map D.int)), .un] E := by
  unfold w__law_renamed_b1_r0
  (conv => whnf)
  refine ⟨rfl, ?_⟩
  (conv => whnf)
  refine ⟨⟨trivial, trivial⟩, lc_mapH (fun | .int i => .int (byAt names i) | _ => .non) (fun x hx => ?_) (by rw [List.length_map]; exact Nat.le_trans (Nat.le_of_lt rl) (by decide)) ?_⟩
  · obtain ⟨i, hi, rfl⟩ := List.mem_map.mp hx
    obtain ⟨h0, h1⟩ := hr i hi
    have hl : i.toNat < names.length := by omega
    refine ⟨_, rfl, ⟨trivial, trivial⟩, rfl, fun Qk hk => ?_⟩
    (conv => whnf)
    refine on_some (show atD (names.map D.int) i = some (.int (byAt names i)) from ?_) ?_
    · unfold atD byAt
      rw [if_pos h0, List.getElem?_map, List.getElem?_eq_getElem hl]
      rfl
    · (conv => whnf)
      exact hk
  · rw [List.map_map]
    (conv => whnf)
    have e1 : r.map ((fun | D.int i => D.int (byAt names i) | _ => D.non) ∘ D.int) = (r.map (byAt names)).map D.int := by rw [List.map_map]; rfl
    rw [e1]
    refine on_some (intsD_lst _) ⟨by rw [List.length_map]; omega, fun ms m64 minc mem => ?_⟩
    (conv => whnf)
    refine ⟨by rw [show (rowsD f).length = f.length from List.length_map _]; exact Nat.lt_of_le_of_lt fl (by decide), ?_⟩
    have := nx ms minc fun x hx => by
      obtain ⟨i, hi, e⟩ := List.mem_map.mp ((mem x).mp hx)
      obtain ⟨h0, h1⟩ := hr i hi
      have hl : i.toNat < names.length := by omega
      refine hn x ?_
      rw [← e]
      unfold byAt
      rw [List.getElem?_eq_getElem hl]
      exact List.getElem_mem hl
    unfold rowsD at this ⊢
    rw [List.map_append] at this
    exact this
theorem ren_go {q e : D → Prop} {b : Int} {rows : List (List Int)} (h0 : 0 ≤ b) (h1 : b ≤ 24) (R : ROk b rows) (hq : ∀ rows', HOk b rows' → rows'.length = rows.length → q (hT b rows')) : fnW 4 w__law_renamed_r0 [.hand, .int b, .lst (listsD rows)] q e := by
  unfold w__law_renamed_r0
  (conv => whnf)
  refine on_some (rgL h0 (by omega)) ?_
  (conv => whnf)
  refine ⟨_, _, rfl, rfl, by rw [range_len]; omega, fun ys pm => ?_⟩
  rw [range_upto] at pm
  obtain ⟨names, rfl, pn⟩ := perm_ints pm
  ((conv => whnf); (repeat (refine ⟨le_sz rfl, ?_⟩; conv => whnf)))
  unfold w__law_renamed_r1
  (conv => whnf)
  refine ⟨_, _, rfl, rfl, by rw [show (listsD rows).length = rows.length from List.length_map _]; have := R.n; omega, fun ys pm2 => ?_⟩
  obtain ⟨rs, rfl, pr⟩ := perm_lists pm2
  (conv => whnf)
  have nl : (names.length : Int) = b := by
    have := pn.length_eq
    rw [upto_len] at this
    omega
  have rl := pr.length_eq
  refine for_pre (fun ds e => ∃ (f : List (List Int)) (s5 : Slot), f.length = ds.length ∧ (∀ r ∈ f, r.Pairwise (· < ·)) ∧ (∀ r ∈ f, ∀ x ∈ r, 0 ≤ x ∧ x < b) ∧ e = [.val .hand, .val (.int b), .val (.lst (listsD rows)), .val (.lst (names.map D.int)), .own (.l (rowsD f)), s5, .un]) ⟨[], .un, rfl, fun r hr => absurd hr List.not_mem_nil, fun r hr => absurd hr List.not_mem_nil, rfl⟩ ?_ ?_
  · rintro ds x rest e hi ⟨f, s5, fl, f1, f2, rfl⟩ Zk hk
    have hx : x ∈ listsD rs := by rw [hi]; simp
    obtain ⟨r, hr, rfl⟩ := List.mem_map.mp hx
    have hr' := pr.mem_iff.mp hr
    have dl : ds.length ≤ rs.length := by
      have := congrArg List.length hi
      rw [show (listsD rs).length = rs.length from List.length_map _, List.length_append] at this
      omega
    have := R.n
    refine ⟨_, rfl, ?_⟩
    refine ren_body (fun x hx => ?_) nl h1 (R.rng r hr') (R.len r hr') (by omega) fun ms m1 m2 => hk _ ⟨f ++ [ms], _, by simp [fl], fun r hr => ?_, fun r hr => ?_, rfl⟩
    · have := mem_upto.mp (pn.mem_iff.mp hx)
      omega
    · rcases List.mem_append.mp hr with z | z
      · exact f1 r z
      · rw [List.mem_singleton.mp z]; exact m1
    · rcases List.mem_append.mp hr with z | z
      · exact f2 r z
      · rw [List.mem_singleton.mp z]; exact m2
  · rintro e ⟨f, s5, fl, f1, f2, rfl⟩
    unfold w__law_renamed_r2
    ((conv => whnf); (repeat (refine ⟨le_sz rfl, ?_⟩; conv => whnf)))
    have fe : f.length = rows.length := by rw [fl, show (listsD rs).length = rs.length from List.length_map _, rl]
    exact hq f ⟨h0, h1, by rw [fe]; exact R.n, f1, f2⟩ fe
theorem sp__law_renamed (ds q e) (h : ct__law_renamed ds q e) : fnW 4 w__law_renamed ds q e := by
  obtain ⟨b, rows, rfl, h0, h1, R, hq⟩ := h
  rw [wq__law_renamed]
  exact ren_go h0 h1 R hq
end Mt
end Mug_

section Muh_
set_option maxRecDepth 100000
set_option maxHeartbeats 1000000
namespace Mt
open LW
theorem lists_app (rows : List (List Int)) (r : List Int) : listsD rows ++ [.lst (r.map D.int)] = listsD (rows ++ [r]) := by simp [listsD]
theorem lists_len (rows : List (List Int)) : (listsD rows).length = rows.length := List.length_map _
theorem sub_upto {r : List Int} {n : Nat} (h : List.Sublist r (upto n)) : r.length ≤ n ∧ ∀ x ∈ r, 0 ≤ x ∧ x < n := ⟨by have := h.length_le; rwa [upto_len] at this, fun x hx => mem_upto.mp (h.subset hx)⟩
theorem add_lst {xs ys : List D} (h : xs.length + ys.length ≤ 1000) : fAdd (.lst xs) (.lst ys) = some (.lst (xs ++ ys)) := by
  show (if xs.length + ys.length ≤ SZ then some (D.lst (xs ++ ys)) else none) = _
  rw [if_pos (Nat.le_trans h (by decide))]
theorem range2 {i j : Int} (h0 : 0 ≤ i) (h1 : i ≤ 1000) (h2 : 0 ≤ j) (h3 : j ≤ 1000) : fRange2 [.int i, .int j] = some (rangeD (j - i).toNat i) := by
  simp only [fRange2]
  rw [if_pos (by omega)]
theorem pl2 {Z : Ds} {E : KE} {sz a b c mo : Int} {rows : List (List Int)} {s7 s8 s9 : Slot} (a0 : 0 ≤ a) (a1 : a ≤ 20) (rl : rows.length ≤ 100) (nx : ∀ r : List Int, List.Sublist r (upto a.toNat) → Z.nx [.val .hand, .val (.int sz), .val (.int a), .val (.int b), .val (.int c), .val (.int mo), .own (.l (listsD (rows ++ [r]))), s7, s8, s9, .un]) :
    w__law_planted_b2_r0 Z [.val .hand, .val (.int sz), .val (.int a), .val (.int b), .val (.int c), .val (.int mo), .own (.l (listsD rows)), s7, s8, s9, .un] E := by
  unfold w__law_planted_b2_r0
  (conv => whnf)
  refine ⟨rfl, ?_⟩
  (conv => whnf)
  refine on_some (range1 a0 (by omega)) ?_
  refine ⟨⟨trivial, trivial⟩, ?_⟩
  rw [range_upto]
  refine lc_subH (fun x => x) (fun x hx => ?_) (by rw [List.length_map, upto_len]; exact Nat.le_trans (show a.toNat ≤ 20 by omega) (by decide)) fun ys sy => ?_
  · obtain ⟨k, hk, rfl⟩ := List.mem_map.mp hx
    refine ⟨_, rfl, ⟨trivial, trivial⟩, rfl, fun Qt hk => ?_, fun Qk hk => ?_⟩
    · (conv => whnf)
      refine ⟨3, rfl, by decide, by decide, fun d d0 d1 => ?_⟩
      (conv => whnf)
      exact hk _
    · (conv => whnf)
      exact hk
  · rw [List.map_id'] at sy
    obtain ⟨r, rfl, s2⟩ := sub_map sy
    (conv => whnf)
    refine ⟨by rw [lists_len]; exact Nat.lt_of_le_of_lt rl (by decide), ?_⟩
    have := nx r s2
    rw [← lists_app] at this
    exact this
theorem pl3 {Z : Ds} {E : KE} {sz a b c mo p : Int} {rows : List (List Int)} {s7 s9 : Slot} (a0 : 0 ≤ a) (a1 : a ≤ 10) (c0 : 0 ≤ c) (c1 : c ≤ 10) (p0 : 0 ≤ p) (p1 : p < c) (rl : rows.length ≤ 100) (nx : ∀ (r : List Int) s9, r.length < 60 → (∀ x ∈ r, 0 ≤ x ∧ x < a + c) → Z.nx [.val .hand, .val (.int sz), .val (.int a), .val (.int b), .val (.int c), .val (.int mo), .own (.l (listsD (rows ++ [r]))), s7, .val (.int p), s9, .un]) :
    w__law_planted_b3_r0 Z [.val .hand, .val (.int sz), .val (.int a), .val (.int b), .val (.int c), .val (.int mo), .own (.l (listsD rows)), s7, .val (.int p), s9, .un] E := by
  unfold w__law_planted_b3_r0
  (conv => whnf)
  refine on_some (range1 (show 0 ≤ a + p by omega) (by omega)) ?_
  refine ⟨⟨trivial, trivial⟩, ?_⟩
  rw [range_upto]
  refine lc_subH (fun x => x) (fun x hx => ?_) (by rw [List.length_map, upto_len]; exact Nat.le_trans (show (a + p).toNat ≤ 40 by omega) (by decide)) fun ys sy => ?_
  · obtain ⟨k, hk, rfl⟩ := List.mem_map.mp hx
    refine ⟨_, rfl, ⟨trivial, trivial⟩, rfl, fun Qt hk => ?_, fun Qk hk => ?_⟩
    · (conv => whnf)
      refine ⟨5, rfl, by decide, by decide, fun d d0 d1 => ?_⟩
      (conv => whnf)
      exact hk _
    · (conv => whnf)
      exact hk
  · rw [List.map_id'] at sy
    obtain ⟨ex, rfl, s2⟩ := sub_map sy
    (conv => whnf)
    obtain ⟨xl, xr⟩ := sub_upto s2
    unfold w__law_planted_b3_r1
    (conv => whnf)
    refine ⟨rfl, ?_⟩
    ((conv => whnf); (repeat (refine ⟨le_sz rfl, ?_⟩; conv => whnf)))
    refine on_some (add_lst (xs := ex.map D.int) (ys := [.int (a + p)]) (by simp; omega)) ?_
    (conv => whnf)
    refine on_some (range2 (show 0 ≤ p by omega) (by omega) (show 0 ≤ c by omega) (by omega)) ?_
    refine ⟨⟨trivial, trivial⟩, ?_⟩
    refine lc_subH (fun | .int k => .int (a + k) | _ => .non) (fun x hx => ?_) (by rw [range_len]; exact Nat.le_trans (show (c - p).toNat ≤ 40 by omega) (by decide)) fun ys sy => ?_
    · obtain ⟨k, hk, rfl⟩ := range_mem hx
      refine ⟨_, rfl, ⟨trivial, trivial⟩, rfl, fun Qt hk => ?_, fun Qk hk => ?_⟩
      · (conv => whnf)
        refine ⟨4, rfl, by decide, by decide, fun d d0 d1 => ?_⟩
        (conv => whnf)
        exact hk _
      · (conv => whnf)
        exact hk
    · have e1 : (rangeD (c - p).toNat p).map (fun | .int k => D.int (a + k) | _ => .non) = ((upto (c - p).toNat).map fun k => a + (p + k)).map D.int := by
        simp [rangeD, upto, Function.comp_def]
      rw [e1] at sy
      obtain ⟨r2, rfl, s3⟩ := sub_map sy
      (conv => whnf)
      have r2l : r2.length ≤ 20 := by
        have := s3.length_le
        rw [List.length_map, upto_len] at this
        omega
      have r2r : ∀ x ∈ r2, 0 ≤ x ∧ x < a + c := fun x hx => by
        obtain ⟨k, hk, rfl⟩ := List.mem_map.mp (s3.subset hx)
        have := mem_upto.mp hk
        omega
      refine on_some (show fAdd (.lst (ex.map D.int ++ [D.int (a + p)])) (.lst (r2.map D.int)) = _ from add_lst (by simp; omega)) ?_
      (conv => whnf)
      refine ⟨by rw [lists_len]; exact Nat.lt_of_le_of_lt rl (by decide), ?_⟩
      have := nx (ex ++ [a + p] ++ r2) (.val (.lst (ex.map D.int))) (by simp; omega) (fun x hx => by
        rcases List.mem_append.mp hx with z | z
        · rcases List.mem_append.mp z with w | w
          · have := xr x w; omega
          · rw [List.mem_singleton.mp w]; omega
        · exact r2r x z)
      rw [← lists_app, List.map_append, List.map_append] at this
      exact this
theorem pl4 {Z : Ds} {E : KE} {sz a b c mo p : Int} {rows : List (List Int)} {s7 s9 : Slot} (a0 : 0 ≤ a) (a1 : a ≤ 10) (b0 : 0 ≤ b) (b1 : b ≤ 10) (c0 : 0 ≤ c) (c1 : c ≤ 10) (m0 : 0 ≤ mo) (m1 : mo ≤ 2) (p0 : 0 ≤ p) (rl : rows.length ≤ 100) (nx : ∀ (r : List Int) s9, r.length < 60 → (∀ x ∈ r, 0 ≤ x ∧ x < a + b + c + mo) → Z.nx [.val .hand, .val (.int sz), .val (.int a), .val (.int b), .val (.int c), .val (.int mo), .own (.l (listsD (rows ++ [r]))), s7, .val (.int p), s9, .un]) :
    w__law_planted_b4_r0 Z [.val .hand, .val (.int sz), .val (.int a), .val (.int b), .val (.int c), .val (.int mo), .own (.l (listsD rows)), s7, .val (.int p), s9, .un] E := by
  unfold w__law_planted_b4_r0
  (conv => whnf)
  refine on_some (range1 (show 0 ≤ a + c by omega) (by omega)) ?_
  refine ⟨⟨trivial, trivial⟩, ?_⟩
  rw [range_upto]
  refine lc_subH (fun x => x) (fun x hx => ?_) (by rw [List.length_map, upto_len]; exact Nat.le_trans (show (a + c).toNat ≤ 40 by omega) (by decide)) fun ys sy => ?_
  · obtain ⟨k, hk, rfl⟩ := List.mem_map.mp hx
    refine ⟨_, rfl, ⟨trivial, trivial⟩, rfl, fun Qt hk => ?_, fun Qk hk => ?_⟩
    · (conv => whnf)
      refine ⟨5, rfl, by decide, by decide, fun d d0 d1 => ?_⟩
      (conv => whnf)
      exact hk _
    · (conv => whnf)
      exact hk
  · rw [List.map_id'] at sy
    obtain ⟨ex, rfl, s2⟩ := sub_map sy
    (conv => whnf)
    obtain ⟨xl, xr⟩ := sub_upto s2
    unfold w__law_planted_b4_r1
    (conv => whnf)
    refine ⟨rfl, ?_⟩
    ((conv => whnf); (repeat (refine ⟨le_sz rfl, ?_⟩; conv => whnf)))
    refine on_some (range1 (show 0 ≤ b + mo by omega) (by omega)) ?_
    refine ⟨⟨trivial, trivial⟩, ?_⟩
    rw [range_upto]
    refine lc_subH (fun | .int k => .int (a + c + k) | _ => .non) (fun x hx => ?_) (by rw [List.length_map, upto_len]; exact Nat.le_trans (show (b + mo).toNat ≤ 40 by omega) (by decide)) fun ys sy => ?_
    · obtain ⟨k, hk, rfl⟩ := List.mem_map.mp hx
      refine ⟨_, rfl, ⟨trivial, trivial⟩, rfl, fun Qt hk => ?_, fun Qk hk => ?_⟩
      · (conv => whnf)
        refine br_by (fun _ => ?_) fun _ => ?_
        · exact hk _
        · (conv => whnf)
          refine ⟨3, rfl, by decide, by decide, fun d d0 d1 => ?_⟩
          (conv => whnf)
          exact hk _
      · (conv => whnf)
        exact hk
    · have e1 : ((upto (b + mo).toNat).map D.int).map (fun | .int k => D.int (a + c + k) | _ => .non) = ((upto (b + mo).toNat).map fun k => a + c + k).map D.int := by
        simp [Function.comp_def]
      rw [e1] at sy
      obtain ⟨r2, rfl, s3⟩ := sub_map sy
      (conv => whnf)
      have r2l : r2.length ≤ 20 := by
        have := s3.length_le
        rw [List.length_map, upto_len] at this
        omega
      have r2r : ∀ x ∈ r2, 0 ≤ x ∧ x < a + b + c + mo := fun x hx => by
        obtain ⟨k, hk, rfl⟩ := List.mem_map.mp (s3.subset hx)
        have := mem_upto.mp hk
        omega
      refine on_some (show fAdd (.lst (ex.map D.int)) (.lst (r2.map D.int)) = _ from add_lst (by simp; omega)) ?_
      (conv => whnf)
      refine ⟨by rw [lists_len]; exact Nat.lt_of_le_of_lt rl (by decide), ?_⟩
      have := nx (ex ++ r2) (.val (.lst (ex.map D.int))) (by simp; omega) (fun x hx => by
        rcases List.mem_append.mp hx with z | z
        · have := xr x z; omega
        · exact r2r x z)
      rw [← lists_app, List.map_append] at this
      exact this
end Mt
end Muh_

section Mui_
set_option maxRecDepth 100000
set_option maxHeartbeats 1000000
namespace Mt
open LW
abbrev eP (sz a b c mo : Int) (rows : List (List Int)) (s7 s8 s9 : Slot) : Env := [.val .hand, .val (.int sz), .val (.int a), .val (.int b), .val (.int c), .val (.int mo), .own (.l (listsD rows)), s7, s8, s9, .un]
structure PB (a b c mo : Int) : Prop where
  a0 : 0 ≤ a
  a1 : a ≤ 5
  b0 : 0 ≤ b
  b1 : b ≤ 4
  c0 : 0 ≤ c
  c1 : c ≤ 5
  m0 : 0 ≤ mo
  m1 : mo ≤ 2
def RB (t : Int) (rows : List (List Int)) : Prop := ∀ r ∈ rows, r.length < 60 ∧ ∀ x ∈ r, 0 ≤ x ∧ x < t
theorem RB.snoc {t : Int} {rows : List (List Int)} {r : List Int} (h : RB t rows) (h1 : r.length < 60) (h2 : ∀ x ∈ r, 0 ≤ x ∧ x < t) : RB t (rows ++ [r]) := fun s hs => by
  rcases List.mem_append.mp hs with z | z
  · exact h s z
  · rw [List.mem_singleton.mp z]; exact ⟨h1, h2⟩
theorem snoc_len {ds rest : List D} {x : D} {n : Nat} (h : (upto n).map D.int = ds ++ x :: rest) : ds.length < n ∧ ∃ k : Int, x = .int k ∧ 0 ≤ k ∧ k < n := by
  have h1 := congrArg List.length h
  rw [List.length_map, upto_len, List.length_append, List.length_cons] at h1
  refine ⟨by omega, ?_⟩
  have hx : x ∈ (upto n).map D.int := by rw [h]; simp
  obtain ⟨k, hk, rfl⟩ := List.mem_map.mp hx
  exact ⟨k, rfl, mem_upto.mp hk⟩
section
variable {Z : Ds} {E : KE} {sz a b c mo : Int}
theorem pr4 {rows : List (List Int)} {s7 s8 s9 : Slot} (B : PB a b c mo) (rl : rows.length ≤ 20) (R : RB (a + b + c + mo) rows) (k : ∀ rows', RB (a + b + c + mo) rows' → rows'.length ≤ rows.length + b.toNat → ∀ e, Z.rt (.tup [.int (a + b + c + mo), .lst (listsD rows')]) e) : w__law_planted_r4 Z (eP sz a b c mo rows s7 s8 s9) E := by
  obtain ⟨a0, a1, b0, b1, c0, c1, m0, m1⟩ := B
  unfold w__law_planted_r4
  (conv => whnf)
  refine on_some (range1 b0 (by omega)) ?_
  rw [range_upto]
  refine for_pre (fun ds e => ∃ rows' s8 s9, e = eP sz a b c mo rows' s7 s8 s9 ∧ RB (a + b + c + mo) rows' ∧ rows'.length = rows.length + ds.length) ⟨rows, s8, s9, rfl, R, rfl⟩ ?_ ?_
  · rintro ds x rest e hi ⟨rows', s8, s9, rfl, R', ln⟩ Zk hk
    obtain ⟨dl, p, rfl, p0, p1⟩ := snoc_len hi
    refine ⟨_, rfl, ?_⟩
    exact pl4 a0 (by omega) b0 (by omega) c0 (by omega) m0 m1 p0 (by omega) fun r s9 r1 r2 => hk _ ⟨rows' ++ [r], _, _, rfl, R'.snoc r1 r2, by simp [ln]; omega⟩
  · rintro e ⟨rows', s8, s9, rfl, R', ln⟩
    unfold w__law_planted_r5
    ((conv => whnf); (repeat (refine ⟨le_sz rfl, ?_⟩; conv => whnf)))
    exact k rows' R' (by rw [ln, List.length_map, upto_len]; omega) _
theorem pr3 {rows : List (List Int)} {s7 s8 s9 : Slot} (B : PB a b c mo) (rl : rows.length ≤ 10) (R : RB (a + b + c + mo) rows) (k : ∀ rows', RB (a + b + c + mo) rows' → rows'.length ≤ rows.length + c.toNat + b.toNat → ∀ e, Z.rt (.tup [.int (a + b + c + mo), .lst (listsD rows')]) e) : w__law_planted_r3 Z (eP sz a b c mo rows s7 s8 s9) E := by
  have B' := B
  obtain ⟨a0, a1, b0, b1, c0, c1, m0, m1⟩ := B
  unfold w__law_planted_r3
  (conv => whnf)
  refine on_some (range1 c0 (by omega)) ?_
  rw [range_upto]
  refine for_pre (fun ds e => ∃ rows' s8 s9, e = eP sz a b c mo rows' s7 s8 s9 ∧ RB (a + b + c + mo) rows' ∧ rows'.length = rows.length + ds.length) ⟨rows, s8, s9, rfl, R, rfl⟩ ?_ ?_
  · rintro ds x rest e hi ⟨rows', s8, s9, rfl, R', ln⟩ Zk hk
    obtain ⟨dl, p, rfl, p0, p1⟩ := snoc_len hi
    refine ⟨_, rfl, ?_⟩
    exact pl3 a0 (by omega) c0 (by omega) p0 (by omega) (by omega) fun r s9 r1 r2 => hk _ ⟨rows' ++ [r], _, _, rfl, R'.snoc r1 fun x hx => by have := r2 x hx; omega, by simp [ln]; omega⟩
  · rintro e ⟨rows', s8, s9, rfl, R', ln⟩
    rw [List.length_map, upto_len] at ln
    exact pr4 B' (by omega) R' fun r' h1 h2 => k r' h1 (by omega)
theorem pr2 {s7 s8 s9 : Slot} (B : PB a b c mo) (k : ∀ rows', RB (a + b + c + mo) rows' → rows'.length ≤ 20 → ∀ e, Z.rt (.tup [.int (a + b + c + mo), .lst (listsD rows')]) e) : w__law_planted_r2 Z (eP sz a b c mo [] s7 s8 s9) E := by
  have B' := B
  obtain ⟨a0, a1, b0, b1, c0, c1, m0, m1⟩ := B
  unfold w__law_planted_r2
  (conv => whnf)
  refine on_some (range1 (show 0 ≤ a + mo by omega) (by omega)) ?_
  rw [range_upto]
  refine for_pre (fun ds e => ∃ rows' s7, e = eP sz a b c mo rows' s7 s8 s9 ∧ RB (a + b + c + mo) rows' ∧ rows'.length = ds.length) ⟨[], s7, rfl, fun r hr => absurd hr List.not_mem_nil, rfl⟩ ?_ ?_
  · rintro ds x rest e hi ⟨rows', s7, rfl, R', ln⟩ Zk hk
    obtain ⟨dl, p, rfl, p0, p1⟩ := snoc_len hi
    refine ⟨_, rfl, ?_⟩
    exact pl2 a0 (by omega) (by omega) fun r s => hk _ ⟨rows' ++ [r], _, rfl, R'.snoc (by have := (sub_upto s).1; omega) fun x hx => by have := (sub_upto s).2 x hx; omega, by simp [ln]⟩
  · rintro e ⟨rows', s7, rfl, R', ln⟩
    rw [List.length_map, upto_len] at ln
    exact pr3 B' (by omega) R' fun r' h1 h2 => k r' h1 (by omega)
end
theorem planted_go {q e : D → Prop} {sz : Int} (h0 : 1 ≤ sz) (h1 : sz ≤ 5) (hq : ∀ b rows, 0 ≤ b → b ≤ 24 → ROk b rows → q (.tup [.int b, .lst (listsD rows)])) : fnW 9 w__law_planted_r0 [.hand, .int sz] q e := by
  unfold w__law_planted_r0
  (conv => whnf)
  refine ⟨sz, rfl, by omega, by omega, fun a a0 a1 => ?_⟩
  (conv => whnf)
  refine ⟨sz, rfl, by omega, by omega, fun b b0 b1 => ?_⟩
  (conv => whnf)
  refine ⟨sz + 1, rfl, by omega, by omega, fun c c0 c1 => ?_⟩
  (conv => whnf)
  unfold w__law_planted_r1
  (conv => whnf)
  refine ⟨2, rfl, by decide, by decide, fun m m0 m1 => ?_⟩
  ((conv => whnf); (repeat (refine ⟨le_sz rfl, ?_⟩; conv => whnf)))
  exact pr2 (sz := sz) (a := 1 + a) (b := b) (c := c) (mo := 1 + m) (s7 := .un) (s8 := .un) (s9 := .un) ⟨by omega, by omega, by omega, by omega, by omega, by omega, by omega, by omega⟩ fun rows' R ln _ => hq _ rows' (by omega) (by omega) ⟨by omega, fun r hr => (R r hr).1, fun r hr => (R r hr).2⟩
theorem sp__law_planted (ds q e) (h : ct__law_planted ds q e) : fnW 9 w__law_planted ds q e := by
  obtain ⟨sz, rfl, h0, h1, hq⟩ := h
  rw [wq__law_planted]
  exact planted_go h0 h1 hq
end Mt
end Mui_

section Muj_
set_option maxRecDepth 100000
set_option maxHeartbeats 1000000
namespace Mt
open LW
abbrev eH (b n w : Int) (rows : List (List Int)) (s5 : Slot) (sh wd : Int) (s8 s9 : Slot) : Env := [.val .hand, .val (.int b), .val (.int n), .val (.int w), .own (.l (listsD rows)), s5, .val (.int sh), .val (.int wd), s8, s9, .un, .un]
section
variable {Z : Ds} {E : KE} {b n w sh wd p : Int} {rows : List (List Int)} {s5 s9 : Slot}
theorem ho2 {r : List Int} (rl : rows.length ≤ 100) (nx : Z.nx (eH b n w (rows ++ [r]) s5 sh wd (.val (.int p)) (.val (.lst (r.map D.int))))) : w__law_house_b3_r2 Z (eH b n w rows s5 sh wd (.val (.int p)) (.val (.lst (r.map D.int)))) E := by
  unfold w__law_house_b3_r2
  (conv => whnf)
  refine ⟨rfl, ?_⟩
  (conv => whnf)
  refine ⟨by rw [lists_len]; exact Nat.lt_of_le_of_lt rl (by decide), ?_⟩
  have := nx
  unfold eH at this
  rw [← lists_app] at this
  exact this
theorem ho1 {r : List Int} (rl : rows.length ≤ 100) (R : RB b rows) (r1 : r.length < 60) (r2 : ∀ x ∈ r, 0 ≤ x ∧ x < b) (nx : ∀ r : List Int, r.length < 60 → (∀ x ∈ r, 0 ≤ x ∧ x < b) → Z.nx (eH b n w (rows ++ [r]) s5 sh wd (.val (.int p)) (.val (.lst (r.map D.int))))) : w__law_house_b3_r1 Z (eH b n w rows s5 sh wd (.val (.int p)) (.val (.lst (r.map D.int)))) E := by
  have same : w__law_house_b3_r2 Z (eH b n w rows s5 sh wd (.val (.int p)) (.val (.lst (r.map D.int)))) E := ho2 rl (nx r r1 r2)
  unfold w__law_house_b3_r1
  (conv => whnf)
  refine br_by (fun h => ?_) fun h => ?_
  · (conv => whnf)
    refine br_by (fun h2 => ?_) fun h2 => ?_
    · (conv => whnf)
      refine ⟨3, rfl, by decide, by decide, fun d d0 d1 => ?_⟩
      (conv => whnf)
      refine br_by (fun h3 => ?_) fun h3 => ?_
      · (conv => whnf)
        refine ⟨rfl, ?_⟩
        (conv => whnf)
        refine ⟨listsD rows, rfl, fun z => ?_, by rw [lists_len]; omega, fun y hy => ?_⟩
        · rw [z] at h2
          simp at h2
        · obtain ⟨r', hr, rfl⟩ := List.mem_map.mp hy
          (conv => whnf)
          exact ho2 rl (nx r' (R r' hr).1 (R r' hr).2)
      · exact same
    · exact same
  · exact same
theorem ho0 (b0 : 0 ≤ b) (b1 : b ≤ 24) (p0 : 0 ≤ p) (p1 : p ≤ 24) (w0 : 0 ≤ wd) (w1 : wd ≤ 10) (s0 : 0 < sh) (s1 : sh ≤ 1000) (rl : rows.length ≤ 100) (R : RB b rows) (nx : ∀ r : List Int, r.length < 60 → (∀ x ∈ r, 0 ≤ x ∧ x < b) → Z.nx (eH b n w (rows ++ [r]) s5 sh wd (.val (.int p)) (.val (.lst (r.map D.int))))) : w__law_house_b3_r0 Z (eH b n w rows s5 sh wd (.val (.int p)) s9) E := by
  have fin : ∀ r : List Int, r.length < 60 → (∀ x ∈ r, 0 ≤ x ∧ x < b) → w__law_house_b3_r1 Z (eH b n w rows s5 sh wd (.val (.int p)) (.val (.lst (r.map D.int)))) E := fun r r1 r2 => ho1 rl R r1 r2 nx
  have bz : b.toNat ≤ SZ := Nat.le_trans (show b.toNat ≤ 24 by omega) (by decide)
  unfold w__law_house_b3_r0
  (conv => whnf)
  refine br_by (fun h => ?_) fun h => ?_
  · (conv => whnf)
    have mn : min2 b (p + wd + 1) ≤ b ∧ 0 ≤ min2 b (p + wd + 1) := by unfold min2; split <;> omega
    generalize hm : min2 b (p + wd + 1) = mm at mn
    refine on_some (range2 p0 (by omega) mn.2 (by omega)) ?_
    refine ⟨⟨trivial, trivial⟩, ?_⟩
    refine lc_mapH (fun x => x) (fun x hx => ?_) (by rw [range_len]; exact Nat.le_trans (show (mm - p).toNat ≤ 24 by omega) (by decide)) ?_
    · obtain ⟨k, hk, rfl⟩ := range_mem hx
      refine ⟨_, rfl, ⟨trivial, trivial⟩, rfl, fun Qk hk => ?_⟩
      (conv => whnf)
      exact hk
    · have e1 : (rangeD (mm - p).toNat p).map (fun x => x) = ((upto (mm - p).toNat).map fun k => p + k).map D.int := by simp [rangeD, upto, Function.comp_def]
      rw [e1]
      (conv => whnf)
      refine fin _ (by rw [List.length_map, upto_len]; omega) fun x hx => ?_
      obtain ⟨k, hk, rfl⟩ := List.mem_map.mp hx
      have := mem_upto.mp hk
      omega
  · (conv => whnf)
    refine br_by (fun h => ?_) fun h => ?_
    · (conv => whnf)
      have mn : min2 2 b ≤ 2 ∧ 0 ≤ min2 2 b ∧ min2 2 b ≤ b := by unfold min2; split <;> omega
      have mx : 1 ≤ max2 1 b ∧ (1 ≤ b → max2 1 b = b) := by unfold max2; split <;> omega
      generalize hm : min2 2 b = mm at mn
      refine on_some (range1 mn.2.1 (by omega)) ?_
      refine ⟨⟨trivial, trivial⟩, ?_⟩
      rw [range_upto]
      refine lc_mapH (fun | .int k => .int ((p + k) % max2 1 b) | _ => .non) (fun x hx => ?_) (by rw [List.length_map, upto_len]; exact Nat.le_trans (show mm.toNat ≤ 24 by omega) (by decide)) ?_
      · obtain ⟨k, hk, rfl⟩ := List.mem_map.mp hx
        refine ⟨_, rfl, ⟨trivial, trivial⟩, rfl, fun Qk hk => ?_⟩
        (conv => whnf)
        refine on_some (show fMod (.int (p + k)) (.int (max2 1 b)) = some (.int ((p + k) % max2 1 b)) from by show (if 0 < max2 1 b then _ else none) = _; rw [if_pos (by omega)]) ?_
        exact hk
      · have e1 : ((upto mm.toNat).map D.int).map (fun | .int k => D.int ((p + k) % max2 1 b) | _ => .non) = ((upto mm.toNat).map fun k => (p + k) % max2 1 b).map D.int := by simp [Function.comp_def]
        rw [e1]
        (conv => whnf)
        refine fin _ (by rw [List.length_map, upto_len]; omega) fun x hx => ?_
        obtain ⟨k, hk, rfl⟩ := List.mem_map.mp hx
        have := mem_upto.mp hk
        have e2 := mx.2 (by omega)
        rw [e2]
        exact ⟨Int.emod_nonneg _ (by omega), Int.emod_lt_of_pos _ (by omega)⟩
    · (conv => whnf)
      refine br_by (fun h => ?_) fun h => ?_
      · (conv => whnf)
        refine ⟨b + 1, rfl, by omega, by omega, fun d d0 d1 => ?_⟩
        (conv => whnf)
        refine on_some (rgL d0 (by omega)) ?_
        rw [range_upto]
        (conv => whnf)
        refine fin _ (by rw [upto_len]; omega) fun x hx => ?_
        have := mem_upto.mp hx
        omega
      · (conv => whnf)
        refine on_some (range1 b0 (by omega)) ?_
        refine ⟨⟨trivial, trivial⟩, ?_⟩
        rw [range_upto]
        refine lc_subH (fun x => x) (fun x hx => ?_) (by rw [List.length_map, upto_len]; exact bz) fun ys sy => ?_
        · obtain ⟨k, hk, rfl⟩ := List.mem_map.mp hx
          refine ⟨_, rfl, ⟨trivial, trivial⟩, rfl, fun Qt hk => ?_, fun Qk hk => ?_⟩
          · (conv => whnf)
            refine ⟨sh, rfl, s0, by omega, fun d d0 d1 => ?_⟩
            (conv => whnf)
            exact hk _
          · (conv => whnf)
            exact hk
        · rw [List.map_id'] at sy
          obtain ⟨r, rfl, s2⟩ := sub_map sy
          obtain ⟨l1, l2⟩ := sub_upto s2
          (conv => whnf)
          refine fin _ (by omega) fun x hx => ?_
          have := l2 x hx
          omega
end
end Mt
end Muj_

section Muk_
set_option maxRecDepth 100000
set_option maxHeartbeats 1000000
namespace Mt
open LW
theorem ho3 {Z : Ds} {E : KE} {b n w sh wd : Int} {s5 s8 s9 : Slot} (b0 : 0 ≤ b) (b1 : b ≤ 24) (n0 : 0 ≤ n) (n1 : n ≤ 24) (w0 : 0 ≤ wd) (w1 : wd ≤ 10) (s0 : 0 < sh) (s1 : sh ≤ 1000) (k : ∀ rows, HOk b rows → rows.length = n.toNat → ∀ e, Z.rt (hT b rows) e) : w__law_house_r3 Z (eH b n w [] s5 sh wd s8 s9) E := by
  unfold w__law_house_r3
  (conv => whnf)
  refine on_some (range1 n0 (by omega)) ?_
  rw [range_upto]
  refine for_pre (fun ds e => ∃ rows s8 s9, e = eH b n w rows s5 sh wd s8 s9 ∧ RB b rows ∧ rows.length = ds.length) ⟨[], s8, s9, rfl, fun r hr => absurd hr List.not_mem_nil, rfl⟩ ?_ ?_
  · rintro ds x rest e hi ⟨rows, s8, s9, rfl, R, ln⟩ Zk hk
    obtain ⟨dl, p, rfl, p0, p1⟩ := snoc_len hi
    refine ⟨_, rfl, ?_⟩
    exact ho0 b0 b1 p0 (by omega) w0 w1 s0 s1 (by omega) R fun r r1 r2 => hk _ ⟨rows ++ [r], _, _, rfl, R.snoc r1 r2, by simp [ln]⟩
  · rintro e ⟨rows, s8, s9, rfl, R, ln⟩
    rw [List.length_map, upto_len] at ln
    unfold w__law_house_r4
    (conv => whnf)
    refine ⟨b, rows, rfl, b0, b1, ⟨by omega, fun r hr => (R r hr).1, fun r hr => (R r hr).2⟩, fun rows' H el => ?_⟩
    (conv => whnf)
    exact k rows' H (by rw [el, ln]) _
theorem ho2x {Z : Ds} {E : KE} {b n w : Int} {s5 s6 s7 s8 s9 : Slot} (b0 : 0 ≤ b) (b1 : b ≤ 24) (n0 : 0 ≤ n) (n1 : n ≤ 24) (k : ∀ rows, HOk b rows → rows.length = n.toNat → ∀ e, Z.rt (hT b rows) e) : w__law_house_r2 Z [.val .hand, .val (.int b), .val (.int n), .val (.int w), .own (.l (listsD [])), s5, s6, s7, s8, s9, .un, .un] E := by
  unfold w__law_house_r2
  ((conv => whnf); (repeat (refine ⟨le_sz rfl, ?_⟩; conv => whnf)))
  refine ⟨_, _, rfl, rfl, by simp, by decide, fun y hy => ?_⟩
  obtain ⟨sh, rfl, h0, h1⟩ : ∃ sh : Int, y = .int sh ∧ 0 < sh ∧ sh ≤ 1000 := by
    simp only [List.mem_cons, List.not_mem_nil, or_false] at hy
    rcases hy with rfl | rfl | rfl | rfl
    · exact ⟨2, rfl, by decide, by decide⟩
    · exact ⟨3, rfl, by decide, by decide⟩
    · exact ⟨5, rfl, by decide, by decide⟩
    · exact ⟨9, rfl, by decide, by decide⟩
  (conv => whnf)
  refine ⟨3, rfl, by decide, by decide, fun d d0 d1 => ?_⟩
  (conv => whnf)
  exact ho3 b0 b1 n0 n1 (by omega) (by omega) h0 h1 k
theorem hot {Z : Ds} {E : KE} {b n w : Int} {s4 s5 s6 s7 s8 s9 : Slot} (b0 : 0 ≤ b) (b1 : b ≤ 24) (n0 : 0 ≤ n) (n1 : n ≤ 24) (k : ∀ b' rows, HOk b' rows → ∀ e, Z.rt (hT b' rows) e) : w__law_house_t1_r0 Z [.val .hand, .val (.int b), .val (.int n), .val (.int w), s4, s5, s6, s7, s8, s9, .un, .un] E := by
  unfold w__law_house_t1_r0
  (conv => whnf)
  have h3 : fMin3 [.int b, .int n, .int 20] = some (.int (min2 (min2 b n) 20)) := rfl
  have m0 : 0 ≤ min2 (min2 b n) 20 ∧ min2 (min2 b n) 20 ≤ 20 := by unfold min2; split <;> split <;> omega
  generalize min2 (min2 b n) 20 = mm at m0
  have h4 : fDiv (.int mm) (.int 4) = some (.int (mm / 4)) := rfl
  have mx : 1 ≤ max2 1 (mm / 4) ∧ max2 1 (mm / 4) ≤ 5 := by unfold max2; split <;> omega
  generalize max2 1 (mm / 4) = mz at mx
  refine ⟨mz, rfl, mx.1, mx.2, fun b' rows b0' b1' R => ?_⟩
  (conv => whnf)
  unfold w__law_house_t1_r1
  (conv => whnf)
  refine ⟨b', rows, rfl, b0', b1', R, fun rows' H _ => ?_⟩
  (conv => whnf)
  exact k b' rows' H _
theorem house_go {q e : D → Prop} {b n : Int} (b0 : 0 ≤ b) (b1 : b ≤ 24) (n0 : 0 ≤ n) (n1 : n ≤ 24) (hq : ∀ b' rows, HOk b' rows → (b ≤ 5 → b' = b ∧ rows.length = n.toNat) → q (hT b' rows)) : fnW 9 w__law_house_r0 [.hand, .int b, .int n] q e := by
  unfold w__law_house_r0
  (conv => whnf)
  refine ⟨7, rfl, by decide, by decide, fun d d0 d1 => ?_⟩
  ((conv => whnf); (repeat (refine ⟨le_sz rfl, ?_⟩; conv => whnf)))
  unfold w__law_house_r1
  have rest : ∀ {Z : Ds} {E : KE}, (∀ rows, HOk b rows → rows.length = n.toNat → ∀ e, Z.rt (hT b rows) e) → w__law_house_r2 Z [.val .hand, .val (.int b), .val (.int n), .val (.int d), .own (.l (listsD [])), .un, .un, .un, .un, .un, .un, .un] E := fun k => ho2x b0 b1 n0 n1 k
  (conv => whnf)
  refine br_by (fun h => ?_) fun h => ?_
  · (conv => whnf)
    refine br_by (fun h2 => ?_) fun h2 => ?_
    · (conv => whnf)
      have h2 : 5 < b := by simpa using h2
      exact hot b0 b1 n0 n1 fun b' rows H _ => hq b' rows H fun z => absurd z (by omega)
    · exact rest fun rows H el _ => hq b rows H fun _ => ⟨rfl, el⟩
  · exact rest fun rows H el _ => hq b rows H fun _ => ⟨rfl, el⟩
theorem sp__law_house (ds q e) (h : ct__law_house ds q e) : fnW 9 w__law_house ds q e := by
  obtain ⟨b, n, rfl, b0, b1, n0, n1, hq⟩ := h
  rw [wq__law_house]
  exact house_go b0 b1 n0 n1 hq
end Mt
end Muk_

section Muz_
namespace Mt
open LW
theorem ct__law_same_zero {ds : List D} {q e : D → Prop} (h : ct__law_same 0 ds q e) : False := by
  obtain ⟨_, _, _, z, _⟩ := h
  exact absurd z (Nat.not_lt_zero _)
theorem ct__law_seat_zero {ar : List (D ⊕ Ob)} {q : D → List Ob → Prop} (h : ct__law_seat 0 ar q) : False := by
  obtain ⟨_, _, _, _, _, _, _, _, _, _, z, _⟩ := h
  exact absurd z (Nat.not_lt_zero _)
end Mt
end Muz_

section Nam_
set_option maxRecDepth 100000
/-! Plain law: rows that can be lodged exchange; greedy is greatest. -/
namespace Mt
open LW
theorem filt_lt {α : Type} {p q : α → Bool} {x : α} : ∀ {l : List α}, (∀ y ∈ l, q y = true → p y = true) → x ∈ l → p x = true → q x = false → (l.filter q).length < (l.filter p).length
  | y :: l, h, hx, px, qx => by
    have le : ∀ m : List α, (∀ y ∈ m, q y = true → p y = true) → (m.filter q).length ≤ (m.filter p).length := by
      intro m
      induction m with
      | nil => exact fun _ => Nat.le_refl _
      | cons z m ih =>
        intro h
        have ih := ih fun w hw => h w (List.mem_cons_of_mem _ hw)
        have hz := h z List.mem_cons_self
        cases hq : q z with
        | true => rw [List.filter_cons, List.filter_cons, if_pos hq, if_pos (hz hq)]; simp only [List.length_cons]; omega
        | false =>
          rw [List.filter_cons, if_neg (by rw [hq]; simp)]
          cases hp : p z with
          | true => rw [List.filter_cons, if_pos hp]; simp only [List.length_cons]; omega
          | false => rw [List.filter_cons, if_neg (by rw [hp]; simp)]; exact ih
    have h' : ∀ z ∈ l, q z = true → p z = true := fun z hz => h z (List.mem_cons_of_mem _ hz)
    rcases List.mem_cons.mp hx with rfl | hx
    · rw [List.filter_cons, List.filter_cons, if_neg (by rw [qx]; simp), if_pos px]
      have := le l h'
      simp only [List.length_cons]
      omega
    · have ih := filt_lt h' hx px qx
      have hy := h y List.mem_cons_self
      cases hq : q y with
      | true => rw [List.filter_cons, List.filter_cons, if_pos hq, if_pos (hy hq)]; simp only [List.length_cons]; omega
      | false =>
        rw [List.filter_cons, if_neg (by rw [hq]; simp)]
        cases hp : p y with
        | true => rw [List.filter_cons, if_pos hp]; simp only [List.length_cons]; omega
        | false => rw [List.filter_cons, if_neg (by rw [hp]; simp)]; exact ih
def upA (a : Int → Int) (x v p : Int) : Int := if p = x then v else a p
theorem upA_same {a : Int → Int} {x v : Int} : upA a x v x = v := if_pos rfl
theorem upA_ne {a : Int → Int} {x v p : Int} (h : p ≠ x) : upA a x v p = a p := if_neg h
theorem sdr_aug {opt : Int → List Int} {A B : List Int} (hA : Sdr opt A) (hB : Sdr opt B) (nB : B.Nodup) (hl : A.length < B.length) : ∃ x ∈ B, x ∉ A ∧ Sdr opt (A ++ [x]) := by
  obtain ⟨b, b1, b2⟩ := hB
  have main : ∀ (n : Nat) (a : Int → Int), (∀ p ∈ A, a p ∈ opt p) → (∀ p ∈ A, ∀ q ∈ A, a p = a q → p = q) → (A.filter fun p => decide (a p ≠ b p)).length ≤ n → ∃ x ∈ B, x ∉ A ∧ Sdr opt (A ++ [x]) := by
    intro n
    induction n with
    | zero =>
      intro a a1 a2 hn
      obtain ⟨x, hx, nx⟩ : ∃ x ∈ B, b x ∉ A.map a := by
        refine Classical.byContradiction fun h => ?_
        have := nodup_sub (l := B.map b) (m := A.map a) (nodup_map nB fun x hx y hy => b2 x hx y hy) fun y hy => by
          obtain ⟨x, hx, rfl⟩ := List.mem_map.mp hy
          exact Classical.byContradiction fun z => h ⟨x, hx, z⟩
        rw [List.length_map, List.length_map] at this
        omega
      have xA : x ∉ A := fun hm => by
        have ne : a x ≠ b x := fun e => nx (List.mem_map.mpr ⟨x, hm, e⟩)
        have : x ∈ A.filter fun p => decide (a p ≠ b p) := List.mem_filter.mpr ⟨hm, by simpa using ne⟩
        have := List.length_pos_of_mem this
        omega
      refine ⟨x, hx, xA, upA a x (b x), fun p hp => ?_, fun p hp q hq e => ?_⟩
      · by_cases z : p = x
        · subst z; rw [upA_same]; exact b1 p hx
        · rw [upA_ne z]
          rcases List.mem_append.mp hp with w | w
          · exact a1 p w
          · exact absurd (List.mem_singleton.mp w) z
      · have inA : ∀ r, r ∈ A ++ [x] → r ≠ x → r ∈ A := fun r hr ne => (List.mem_append.mp hr).elim id fun w => absurd (List.mem_singleton.mp w) ne
        by_cases z1 : p = x <;> by_cases z2 : q = x
        · rw [z1, z2]
        · rw [z1, upA_same, upA_ne z2] at e
          exact absurd (List.mem_map.mpr ⟨q, inA q hq z2, e.symm⟩) nx
        · rw [z2, upA_ne z1, upA_same] at e
          exact absurd (List.mem_map.mpr ⟨p, inA p hp z1, e⟩) nx
        · rw [upA_ne z1, upA_ne z2] at e
          exact a2 p (inA p hp z1) q (inA q hq z2) e
    | succ n ih =>
      intro a a1 a2 hn
      obtain ⟨x, hx, nx⟩ : ∃ x ∈ B, b x ∉ A.map a := by
        refine Classical.byContradiction fun h => ?_
        have := nodup_sub (l := B.map b) (m := A.map a) (nodup_map nB fun x hx y hy => b2 x hx y hy) fun y hy => by
          obtain ⟨x, hx, rfl⟩ := List.mem_map.mp hy
          exact Classical.byContradiction fun z => h ⟨x, hx, z⟩
        rw [List.length_map, List.length_map] at this
        omega
      have out : ∀ p ∈ A, p ≠ x → a p ≠ b x := fun p hp _ e => nx (List.mem_map.mpr ⟨p, hp, e⟩)
      by_cases hm : x ∈ A
      · have ne : a x ≠ b x := fun e => nx (List.mem_map.mpr ⟨x, hm, e⟩)
        refine ih (upA a x (b x)) (fun p hp => ?_) (fun p hp q hq e => ?_) ?_
        · by_cases z : p = x
          · subst z; rw [upA_same]; exact b1 p hx
          · rw [upA_ne z]; exact a1 p hp
        · by_cases z1 : p = x <;> by_cases z2 : q = x
          · rw [z1, z2]
          · rw [z1, upA_same, upA_ne z2] at e
            exact absurd e.symm (out q hq z2)
          · rw [z2, upA_ne z1, upA_same] at e
            exact absurd e (out p hp z1)
          · rw [upA_ne z1, upA_ne z2] at e
            exact a2 p hp q hq e
        · have := filt_lt (l := A) (p := fun p => decide (a p ≠ b p)) (q := fun p => decide (upA a x (b x) p ≠ b p)) (x := x) (fun y _ hy => by
            by_cases z : y = x
            · subst z; simp [upA_same] at hy
            · simpa [upA_ne z] using hy) hm (by simpa using ne) (by simp [upA_same])
          omega
      · refine ⟨x, hx, hm, upA a x (b x), fun p hp => ?_, fun p hp q hq e => ?_⟩
        · by_cases z : p = x
          · subst z; rw [upA_same]; exact b1 p hx
          · rw [upA_ne z]
            rcases List.mem_append.mp hp with w | w
            · exact a1 p w
            · exact absurd (List.mem_singleton.mp w) z
        · have inA : ∀ r, r ∈ A ++ [x] → r ≠ x → r ∈ A := fun r hr ne => (List.mem_append.mp hr).elim id fun w => absurd (List.mem_singleton.mp w) ne
          by_cases z1 : p = x <;> by_cases z2 : q = x
          · rw [z1, z2]
          · rw [z1, upA_same, upA_ne z2] at e
            exact absurd e.symm (out q (inA q hq z2) z2)
          · rw [z2, upA_ne z1, upA_same] at e
            exact absurd e (out p (inA p hp z1) z1)
          · rw [upA_ne z1, upA_ne z2] at e
            exact a2 p (inA p hp z1) q (inA q hq z2) e
  obtain ⟨a, a1, a2⟩ := hA
  exact main _ a a1 a2 (Nat.le_refl _)
theorem grGo_sdr {opt : Int → List Int} : ∀ {ps acc : List Int}, Sdr opt acc → Sdr opt (grGo opt acc ps)
  | [], acc, h => h
  | y :: ps, acc, h => by
    simp only [grGo]
    split
    · rename_i h1
      exact grGo_sdr h1
    · exact grGo_sdr h
theorem greedy_sdr {opt : Int → List Int} {ps : List Int} : Sdr opt (greedy opt ps) := grGo_sdr sdr_nil
theorem grGo_pre {opt : Int → List Int} : ∀ {ps acc : List Int}, ∃ t, grGo opt acc ps = acc ++ t ∧ List.Sublist t ps
  | [], acc => ⟨[], by simp [grGo], .slnil⟩
  | y :: ps, acc => by
    simp only [grGo]
    split
    · obtain ⟨t, e, s⟩ := grGo_pre (opt := opt) (ps := ps) (acc := acc ++ [y])
      exact ⟨y :: t, by rw [e]; simp, .cons_cons _ s⟩
    · obtain ⟨t, e, s⟩ := grGo_pre (opt := opt) (ps := ps) (acc := acc)
      exact ⟨t, e, .cons _ s⟩
theorem greedy_sl {opt : Int → List Int} {ps : List Int} : List.Sublist (greedy opt ps) ps := by
  obtain ⟨t, e, s⟩ := grGo_pre (opt := opt) (ps := ps) (acc := [])
  unfold greedy
  rw [e]
  exact s
theorem greedy_nd {opt : Int → List Int} {ps : List Int} (h : ps.Nodup) : (greedy opt ps).Nodup := h.sublist greedy_sl
theorem grGo_rej {opt : Int → List Int} {x : Int} : ∀ {ps acc : List Int}, x ∈ ps → x ∉ grGo opt acc ps → ¬ Sdr opt (grGo opt acc ps ++ [x])
  | y :: ps, acc, hx, hn, hs => by
    simp only [grGo] at hn hs
    rcases List.mem_cons.mp hx with rfl | hx
    · split at hn
      · obtain ⟨t, e, _⟩ := grGo_pre (opt := opt) (ps := ps) (acc := acc ++ [x])
        rw [e] at hn
        exact hn (by simp)
      · rename_i h1
        obtain ⟨t, e, _⟩ := grGo_pre (opt := opt) (ps := ps) (acc := acc)
        rw [if_neg h1, e] at hs
        exact h1 (hs.mono fun q hq => by
          rcases List.mem_append.mp hq with z | z
          · simp [z]
          · simp [List.mem_singleton.mp z])
    · split at hn
      · rename_i h1
        rw [if_pos h1] at hs
        exact grGo_rej hx hn hs
      · rename_i h1
        rw [if_neg h1] at hs
        exact grGo_rej hx hn hs
theorem greedy_rej {opt : Int → List Int} {ps : List Int} {x : Int} (hx : x ∈ ps) (hn : x ∉ greedy opt ps) : ¬ Sdr opt (greedy opt ps ++ [x]) := grGo_rej hx hn
theorem greedy_max {opt : Int → List Int} {ps B : List Int} (hB : Sdr opt B) (nB : B.Nodup) (s : ∀ x ∈ B, x ∈ ps) : B.length ≤ (greedy opt ps).length := by
  refine Classical.byContradiction fun h => ?_
  obtain ⟨x, hx, nx, hs⟩ := sdr_aug greedy_sdr hB nB (Nat.lt_of_not_le h)
  exact greedy_rej (s x hx) nx hs
theorem greedy_len {opt : Int → List Int} {ps qs : List Int} (np : ps.Nodup) (nq : qs.Nodup) (h : ∀ x, x ∈ ps ↔ x ∈ qs) : (greedy opt ps).length = (greedy opt qs).length :=
  Nat.le_antisymm (greedy_max greedy_sdr (greedy_nd np) fun x hx => (h x).mp (greedy_sub hx)) (greedy_max greedy_sdr (greedy_nd nq) fun x hx => (h x).mpr (greedy_sub hx))
theorem filter_sl : ∀ {s l : List Int}, List.Sublist s l → l.Nodup → l.filter (fun x => s.contains x) = s
  | _, _, .slnil, _ => rfl
  | s, y :: l, .cons _ h, nd => by
    have nd := List.nodup_cons.mp nd
    have ny : y ∉ s := fun z => nd.1 (h.subset z)
    have : ¬ s.contains y = true := fun z => ny (List.contains_iff_mem.mp z)
    rw [List.filter_cons, if_neg this]
    exact filter_sl h nd.2
  | y :: s, _ :: l, .cons_cons _ h, nd => by
    have nd := List.nodup_cons.mp nd
    have hy : (y :: s).contains y = true := List.contains_iff_mem.mpr List.mem_cons_self
    rw [List.filter_cons, if_pos hy]
    have : l.filter (fun x => (y :: s).contains x) = l.filter (fun x => s.contains x) := List.filter_congr fun z hz => by
      have : z ≠ y := fun e => nd.1 (e ▸ hz)
      simp [this]
    rw [this, filter_sl h nd.2]
theorem greedy_filter {opt : Int → List Int} {ps : List Int} (h : ps.Nodup) : ps.filter (fun x => (greedy opt ps).contains x) = greedy opt ps := filter_sl greedy_sl h
theorem grGo_none {opt : Int → List Int} : ∀ {ps acc : List Int}, (∀ x ∈ ps, ¬ Sdr opt (acc ++ [x])) → grGo opt acc ps = acc
  | [], acc, _ => rfl
  | y :: ps, acc, h => by
    simp only [grGo]
    rw [if_neg (h y List.mem_cons_self)]
    exact grGo_none fun x hx => h x (List.mem_cons_of_mem _ hx)
theorem greedy_again {opt : Int → List Int} {ps rest : List Int} (h : ∀ x ∈ rest, x ∈ ps ∧ x ∉ greedy opt ps) : greedy opt (greedy opt ps ++ rest) = greedy opt ps := by
  have e : greedy opt (greedy opt ps ++ rest) = grGo opt (grGo opt [] (greedy opt ps)) rest := grGo_app opt _ _ _
  have e2 : grGo opt [] (greedy opt ps) = greedy opt ps := by
    have := grGo_full (opt := opt) (ps := greedy opt ps) (acc := []) (by simpa using (greedy_sdr (opt := opt) (ps := ps)))
    rwa [List.nil_append] at this
  rw [e, e2]
  exact grGo_none fun x hx => greedy_rej (h x hx).1 (h x hx).2
theorem sdr_map {opt : Int → List Int} {g : Int → Int} {l : List Int} (inj : ∀ x ∈ l, ∀ y ∈ l, g x = g y → x = y) : Sdr opt (l.map g) ↔ Sdr (fun i => opt (g i)) l := by
  constructor
  · rintro ⟨a, h1, h2⟩
    exact ⟨fun i => a (g i), fun p hp => h1 _ (List.mem_map.mpr ⟨p, hp, rfl⟩), fun p hp q hq e => inj p hp q hq (h2 _ (List.mem_map.mpr ⟨p, hp, rfl⟩) _ (List.mem_map.mpr ⟨q, hq, rfl⟩) e)⟩
  · rintro ⟨a, h1, h2⟩
    have key : ∀ p ∈ l.map g, ∃ i, i ∈ l ∧ g i = p := fun p hp => List.mem_map.mp hp
    refine ⟨fun p => if hp : p ∈ l.map g then a (Classical.choose (key p hp)) else 0, fun p hp => ?_, fun p hp q hq e => ?_⟩
    · obtain ⟨k1, k2⟩ := Classical.choose_spec (key p hp)
      have := h1 _ k1
      simp only [k2] at this
      simp only [dif_pos hp]
      exact this
    · simp only [dif_pos hp, dif_pos hq] at e
      obtain ⟨k1, k2⟩ := Classical.choose_spec (key p hp)
      obtain ⟨k3, k4⟩ := Classical.choose_spec (key q hq)
      rw [← k2, ← k4, h2 _ k1 _ k3 e]
theorem grGo_map {opt : Int → List Int} {g : Int → Int} : ∀ {l acc : List Int}, (∀ x ∈ acc ++ l, ∀ y ∈ acc ++ l, g x = g y → x = y) → grGo opt (acc.map g) (l.map g) = (grGo (fun i => opt (g i)) acc l).map g
  | [], acc, _ => rfl
  | y :: l, acc, h => by
    have sub1 : ∀ x, x ∈ acc ++ [y] → x ∈ acc ++ y :: l := fun x hx => by
      rcases List.mem_append.mp hx with z | z
      · simp [z]
      · simp [List.mem_singleton.mp z]
    have e := sdr_map (opt := opt) (g := g) (l := acc ++ [y]) fun x hx z hz => h x (sub1 x hx) z (sub1 z hz)
    rw [List.map_append, List.map_singleton] at e
    simp only [List.map_cons, grGo]
    by_cases q : Sdr (fun i => opt (g i)) (acc ++ [y])
    · rw [if_pos q, if_pos (e.mpr q)]
      have := grGo_map (opt := opt) (g := g) (l := l) (acc := acc ++ [y]) (by rw [List.append_assoc]; exact h)
      rwa [List.map_append, List.map_singleton] at this
    · rw [if_neg q, if_neg fun z => q (e.mp z)]
      exact grGo_map fun x hx z hz => h x (by rcases List.mem_append.mp hx with w | w <;> simp [w]) z (by rcases List.mem_append.mp hz with w | w <;> simp [w])
theorem byAt_map (some : List Int) : (upto some.length).map (byAt some) = some := by
  refine List.ext_getElem (by rw [List.length_map, upto_len]) fun i h1 h2 => ?_
  rw [List.getElem_map]
  have : (upto some.length)[i]'(by rw [upto_len]; exact h2) = (i : Int) := by simp [upto]
  rw [this]
  unfold byAt
  rw [Int.toNat_natCast, List.getElem?_eq_getElem h2]
  rfl
theorem greedy_at {opt : Int → List Int} {some : List Int} (nd : some.Nodup) : (greedy (fun i => opt (byAt some i)) (upto some.length)).length = (greedy opt some).length := by
  have inj : ∀ x ∈ upto some.length, ∀ y ∈ upto some.length, byAt some x = byAt some y → x = y := fun x hx y hy e => by
    obtain ⟨_, h1, e1⟩ := byAt_mem hx
    obtain ⟨_, h2, e2⟩ := byAt_mem hy
    rw [e1, e2] at e
    have := nd_inj nd h1 h2 e
    have := mem_upto.mp hx
    have := mem_upto.mp hy
    omega
  have := grGo_map (opt := opt) (g := byAt some) (l := upto some.length) (acc := []) (by simpa using inj)
  rw [byAt_map] at this
  have e : (greedy opt some).length = ((grGo (fun i => opt (byAt some i)) [] (upto some.length)).map (byAt some)).length := congrArg List.length this
  rw [e, List.length_map]
  rfl
theorem cnt_le : ∀ ns : List Int, cnt ns ≤ ns.length
  | [] => Nat.le_refl _
  | x :: ns => by
    have := cnt_le ns
    simp only [cnt, List.length_cons]
    split <;> omega
theorem cnt_nd : ∀ {ns : List Int}, cnt ns = ns.length ↔ ns.Nodup
  | [] => by simp [cnt]
  | x :: ns => by
    have ih := cnt_nd (ns := ns)
    have le := cnt_le ns
    rw [List.nodup_cons]
    simp only [cnt, List.length_cons]
    cases h : ns.contains x with
    | true =>
      have : x ∈ ns := List.contains_iff_mem.mp h
      simp only [this, not_true_eq_false, false_and, iff_false]
      omega
    | false =>
      have : x ∉ ns := fun z => by rw [List.contains_iff_mem.mpr z] at h; cases h
      simp only [this, not_false_eq_true, true_and]
      rw [← ih]
      omega
end Mt
end Nam_

section Nac_
set_option maxRecDepth 100000
namespace Mt
open LW
/-! contracts: orders of persons -/
structure POk (ord : List Int) (n : Nat) : Prop where
  nd : ord.Nodup
  rng : ∀ x ∈ ord, 0 ≤ x ∧ x < n
def unlike (x : D) (m : Int) : Bool := below x m && match x with
  | .tup xs => decide (cnt (intsD' xs) = xs.length)
  | _ => false
def ct_are_unlike : Ct := fun ds q _ => ∃ x m, ds = [x, .int m] ∧ goodRow x = true ∧ q (.bl (unlike x m))
def ct_check_order : Ct := fun ds q _ => ∃ b rows ord, ds = [hD b rows, rowD ord] ∧ POk ord rows.length ∧ rows.length ≤ 24 ∧ q .non
def ct_most_lodged : Ct := fun ds q _ => ∃ b rows some, ds = [hD b rows, rowD some] ∧ HOk b rows ∧ SOk some rows.length ∧ q (.int (greedy (optR rows) some).length)
def ct_first_lodged : Ct := fun ds q _ => ∃ b rows ord, ds = [hD b rows, rowD ord] ∧ HOk b rows ∧ POk ord rows.length ∧ q (rowD (greedy (optR rows) ord))
def ct__law_most : Ct := fun ds q _ => ∃ b rows x some, ds = [.tup (rowsD rows), x] ∧ seqOf x = Option.some (some.map .int) ∧ HOk b rows ∧ POk some rows.length ∧ q (.int (greedy (optR rows) some).length)
theorem POk.len {ord : List Int} {n : Nat} (h : POk ord n) : ord.length ≤ n := by
  have := nodup_sub h.nd fun x hx => mem_upto.mpr (h.rng x hx)
  rwa [upto_len] at this
theorem SOk.pok {some : List Int} {n : Nat} (h : SOk some n) : POk some n := ⟨inc_nd h.inc, h.rng⟩
theorem POk.sok {ord ms : List Int} {n : Nat} (h : POk ord n) (hn : n ≤ 24) (pm : List.Perm ms ord) (srt : ms.Pairwise (· ≤ ·)) : SOk ms n := by
  have nd : ms.Nodup := pm.nodup_iff.mpr h.nd
  refine ⟨List.Pairwise.imp₂ (fun a b h1 h2 => by omega) srt nd, fun x hx => h.rng x (pm.mem_iff.mp hx), ?_⟩
  have := h.len
  rw [pm.length_eq]
  omega
theorem POk.greedy {opt : Int → List Int} {ord : List Int} {n : Nat} (h : POk ord n) : POk (greedy opt ord) n := ⟨greedy_nd h.nd, fun x hx => h.rng x (greedy_sub hx)⟩
theorem optOk_P {b : Int} {rows : List (List Int)} {ord : List Int} (H : HOk b rows) (S : POk ord rows.length) : OptOk (.tup (rowsD rows)) (optR rows) ord := fun p hp => by
  obtain ⟨r, h1, h2, h3⟩ := optR_at (S.rng p hp).1 (S.rng p hp).2
  refine ⟨_, ix_rows (S.rng p hp).1 (S.rng p hp).2, rfl, ?_⟩
  rw [h2]
  have := row_len (H.inc r h3) (H.rng r h3)
  have := H.b1
  omega
end Mt
end Nac_

section Nar_
set_option maxRecDepth 100000
set_option maxHeartbeats 4000000
namespace Mt
open LW

def w_are_unlike : WS := (sRet (wAndV (wCall ct_are_below (wA1 (wVar 0) (wA1 (wVar 1) wA0))) (wBin (vB cEq) (wUn fLenSet (wVar 0)) (wUn fLen (wVar 0)))))
def w_check_order : WS := (sSeq (sDrop (wCall ct_check_house (wA1 (wVar 0) wA0)))
  (sIf (wNotT (wB (wCall ct_are_unlike (wA1 (wVar 1) (wA1 (wUn (fFld 0 2) (wVar 0)) wA0))))) (sRaise0 17) sNext))
def w_most_lodged : WS := (sSeq (sDrop (wCall ct_check_some (wA1 (wVar 0) (wA1 (wVar 1) wA0))))
  (sRet (wCall ct_most_of (wA1 (wVar 0) (wA1 (wVar 1) wA0)))))
@[irreducible] def w_first_lodged_r3 : WS := (sRet (wUn fTuple (wFz (wLc (wiSeq (wVar 1)) (kName 4) (wB (wBin (vB cIn) (wVar 4) (wVar 3))) (wVar 4) [4]))))
def w_first_lodged_s2 : WS := (sSet 3 (wCall ct_beds_by (wA1 (wVar 2) wA0)))
@[irreducible] def w_first_lodged_r2 : WS := sSeq (w_first_lodged_s2) (w_first_lodged_r3)
def w_first_lodged_s1 : WS := (sSet 2 (wBin fIx (wCall ct_let_in_turn (wA1 (wUn (fFld 0 1) (wVar 0)) (wA1 (wVar 1) wA0))) (wC (.int 0))))
@[irreducible] def w_first_lodged_r1 : WS := sSeq (w_first_lodged_s1) (w_first_lodged_r2)
def w_first_lodged_s0 : WS := (sDrop (wCall ct_check_order (wA1 (wVar 0) (wA1 (wVar 1) wA0))))
@[irreducible] def w_first_lodged_r0 : WS := sSeq (w_first_lodged_s0) (w_first_lodged_r1)
def w_first_lodged : WS := (sSeq (sDrop (wCall ct_check_order (wA1 (wVar 0) (wA1 (wVar 1) wA0))))
  (sSeq (sSet 2 (wBin fIx (wCall ct_let_in_turn (wA1 (wUn (fFld 0 1) (wVar 0)) (wA1 (wVar 1) wA0))) (wC (.int 0))))
  (sSeq (sSet 3 (wCall ct_beds_by (wA1 (wVar 2) wA0)))
  (sRet (wUn fTuple (wFz (wLc (wiSeq (wVar 1)) (kName 4) (wB (wBin (vB cIn) (wVar 4) (wVar 3))) (wVar 4) [4])))))))
theorem wq_first_lodged : w_first_lodged = w_first_lodged_r0 := by with_unfolding_all rfl
def w__law_most : WS := (sRet (wUn fLen (wCall ct__law_seated (wA1 (wFz (wLc (wiSeq (wVar 1)) (kName 2) wTrue (wBin fIx (wVar 0) (wVar 2)) [2])) wA0))))
end Mt
end Nar_

section Nas_
set_option maxRecDepth 100000
set_option maxHeartbeats 1000000
namespace Mt
open LW
theorem ints_below {xs : List D} {m : Int} (h : below (.tup xs) m = true) : ∃ ns : List Int, xs = ns.map D.int ∧ ∀ x ∈ ns, 0 ≤ x ∧ x < m := by
  obtain ⟨ns, e, hn⟩ := ints_of_below h
  exact ⟨ns, e, fun x hx => by have := hn x hx; omega⟩
theorem sp_are_unlike (ds q e) (h : ct_are_unlike ds q e) : fnW 0 w_are_unlike ds q e := by
  obtain ⟨x, m, rfl, hx, hq⟩ := h
  (conv => whnf)
  refine ⟨x, m, rfl, hx, ?_⟩
  cases hb : below x m with
  | false =>
    have : unlike x m = false := by unfold unlike; rw [hb]; rfl
    rw [this] at hq
    (conv => whnf)
    exact hq
  | true =>
    cases x with
    | tup xs =>
      obtain ⟨ns, rfl, hn⟩ := ints_below hb
      have hl : ns.length ≤ 1000 := by
        simp only [goodRow, Bool.and_eq_true, decide_eq_true_eq, List.length_map] at hx
        exact hx.2.2
      have e1 : fLenSet (.tup (ns.map D.int)) = some (.int (cnt ns)) := by
        show ((intsOf (ns.map D.int)).bind fun ns => if ns.length ≤ 1000 then some (D.int (cnt ns)) else none) = _
        rw [intsOf_map]
        show (if ns.length ≤ 1000 then some (D.int (cnt ns)) else none) = _
        rw [if_pos hl]
      have e2 : unlike (.tup (ns.map D.int)) m = decide (cnt ns = ns.length) := by
        unfold unlike
        rw [hb]
        simp only [intsD'_map, List.length_map, Bool.true_and]
      rw [e2] at hq
      (conv => whnf)
      refine on_some e1 ?_
      (conv => whnf)
      have e3 : ((D.int (cnt ns) : D) |> fun a => eqS a (.int (ns.map D.int).length)) = decide (cnt ns = ns.length) := by
        show ((cnt ns : Int) == ((ns.map D.int).length : Int)) = _
        rw [List.length_map, Bool.eq_iff_iff, beq_iff_eq, decide_eq_true_eq]
        omega
      show q (.bl (eqS (.int (cnt ns)) (.int (ns.map D.int).length)))
      rw [show eqS (.int (cnt ns)) (.int (ns.map D.int).length) = decide (cnt ns = ns.length) from e3]
      exact hq
    | _ => cases hb
theorem unlike_ok {ord : List Int} {n : Nat} (h : POk ord n) : unlike (rowD ord) n = true := by
  have hb : below (rowD ord) n = true := by
    show ((ord.map D.int).all fun y => isW y 0 ((n : Int) - 1)) = true
    rw [List.all_eq_true]
    intro y hy
    obtain ⟨i, hi, rfl⟩ := List.mem_map.mp hy
    have := h.rng i hi
    simp only [isW, Bool.and_eq_true, decide_eq_true_eq]
    omega
  unfold unlike
  rw [hb]
  show (true && decide (cnt (intsD' (ord.map D.int)) = (ord.map D.int).length)) = true
  rw [intsD'_map, List.length_map, decide_eq_true (cnt_nd.mpr h.nd)]
  rfl
theorem sp_check_order (ds q e) (h : ct_check_order ds q e) : fnW 0 w_check_order ds q e := by
  obtain ⟨b, rows, ord, rfl, S, hn, hq⟩ := h
  (conv => whnf)
  refine ⟨_, rfl, ?_⟩
  (conv => whnf)
  have := S.len
  refine ⟨rowD ord, _, rfl, row_good (by omega), ?_⟩
  rw [unlike_ok S]
  (conv => whnf)
  exact hq
theorem sp_most_lodged (ds q e) (h : ct_most_lodged ds q e) : fnW 0 w_most_lodged ds q e := by
  obtain ⟨b, rows, some, rfl, H, S, hq⟩ := h
  (conv => whnf)
  refine ⟨b, rows, some, rfl, S, ?_⟩
  (conv => whnf)
  refine ⟨b, rows, some, rfl, H, S, ?_⟩
  (conv => whnf)
  exact hq
theorem first_go {q e : D → Prop} {b : Int} {rows : List (List Int)} {ord : List Int} (H : HOk b rows) (S : POk ord rows.length) (hq : q (rowD (greedy (optR rows) ord))) : fnW 3 w_first_lodged_r0 [hD b rows, rowD ord] q e := by
  have ol := S.len
  have hn := H.n
  unfold w_first_lodged_r0
  (conv => whnf)
  refine ⟨b, rows, ord, rfl, S, hn, ?_⟩
  (conv => whnf)
  unfold w_first_lodged_r1
  (conv => whnf)
  refine ⟨_, _, optR rows, ord, rfl, rfl, S.nd, by omega, optOk_P H S, fun f vs M pm ln => ?_⟩
  (conv => whnf)
  unfold w_first_lodged_r2
  (conv => whnf)
  refine ⟨f, rfl, M.nd, M.vnd, by omega, ?_⟩
  (conv => whnf)
  unfold w_first_lodged_r3
  (conv => whnf)
  refine ⟨⟨trivial, trivial⟩, lc_filtH (fun | .int x => (greedy (optR rows) ord).contains x | _ => false) (fun x => x) (fun x hx => ?_) (by rw [List.length_map]; exact Nat.le_trans (show ord.length ≤ 24 by omega) (by decide)) ?_⟩
  · obtain ⟨p, hp, rfl⟩ := List.mem_map.mp hx
    refine ⟨_, rfl, ⟨trivial, trivial⟩, rfl, fun Qt hk => ?_, fun Qk _ hk => ?_⟩
    · (conv => whnf)
      have e1 : hasI (kD (swapA f)) p = (greedy (optR rows) ord).contains p := by
        rw [in_dD, Bool.eq_iff_iff, look_key, swap_keys, List.contains_iff_mem]
        exact pm.mem_iff
      show Qt (hasI (kD (swapA f)) p) _
      rw [e1]
      exact hk
    · (conv => whnf)
      exact hk
  · have e2 : (((ord.map D.int).filter (fun | .int x => (greedy (optR rows) ord).contains x | _ => false)).map fun x => x) = (greedy (optR rows) ord).map D.int := by
      rw [List.map_id', List.filter_map]
      show ((ord.filter fun x => (greedy (optR rows) ord).contains x).map D.int) = _
      rw [greedy_filter S.nd]
    rw [e2]
    (conv => whnf)
    exact hq
theorem sp_first_lodged (ds q e) (h : ct_first_lodged ds q e) : fnW 3 w_first_lodged ds q e := by
  obtain ⟨b, rows, ord, rfl, H, S, hq⟩ := h
  rw [wq_first_lodged]
  exact first_go H S hq
theorem lmost_go {q e : D → Prop} {b : Int} {rows : List (List Int)} {x : D} {some : List Int} (hx : seqOf x = Option.some (some.map D.int)) (H : HOk b rows) (S : POk some rows.length) (hq : q (.int (greedy (optR rows) some).length)) : fnW 1 w__law_most [.tup (rowsD rows), x] q e := by
  have ol := S.len
  have hn := H.n
  (conv => whnf)
  refine on_some (show seqOf x = _ from hx) ?_
  refine ⟨⟨trivial, trivial⟩, lc_mapH (fun | .int p => rowD (optR rows p) | _ => .non) (fun y hy => ?_) (by rw [List.length_map]; exact Nat.le_trans (show some.length ≤ 24 by omega) (by decide)) ?_⟩
  · obtain ⟨p, hp, rfl⟩ := List.mem_map.mp hy
    refine ⟨_, rfl, ⟨trivial, trivial⟩, rfl, fun Qk hk => ?_⟩
    (conv => whnf)
    refine on_some (ix_rows (S.rng p hp).1 (S.rng p hp).2) ?_
    exact hk
  · rw [List.map_map]
    (conv => whnf)
    have lc : (some.map ((fun | D.int p => rowD (optR rows p) | _ => D.non) ∘ D.int)).length = some.length := List.length_map _
    refine ⟨_, _, fun i => optR rows (byAt some i), upto b.toNat, rfl, rfl, by rw [lc]; omega, fun i hi => ?_, fun i hi c hc => ?_, upto_nd _, by rw [upto_len]; have := H.b1; omega, fun f M pm => ?_⟩
    · rw [lc] at hi
      obtain ⟨m1, l1, e3⟩ := byAt_mem hi
      have h0 := (mem_upto.mp hi).1
      obtain ⟨r, h1, h2, h3⟩ := optR_at (S.rng _ m1).1 (S.rng _ m1).2
      refine ⟨rowD (optR rows (byAt some i)), ?_, rfl, ?_⟩
      · show atD _ i = _
        unfold atD
        rw [if_pos h0, List.getElem?_map, List.getElem?_eq_getElem l1, e3]
        rfl
      · show (optR rows (byAt some i)).length ≤ 1000
        rw [h2]
        have := row_len (H.inc r h3) (H.rng r h3)
        have := H.b1
        omega
    · rw [lc] at hi
      obtain ⟨m1, l1, e3⟩ := byAt_mem hi
      obtain ⟨r, h1, h2, h3⟩ := optR_at (S.rng _ m1).1 (S.rng _ m1).2
      have hc : c ∈ optR rows (byAt some i) := hc
      rw [h2] at hc
      have := H.rng r h3 c hc
      exact mem_upto.mpr (by omega)
    · rw [lc] at pm
      (conv => whnf)
      have e5 : (kD f).length = (greedy (optR rows) some).length := by
        rw [kD_len, ← greedy_at S.nd, ← pm.length_eq]
        simp [vals]
      rw [e5]
      exact hq
theorem sp__law_most (ds q e) (h : ct__law_most ds q e) : fnW 1 w__law_most ds q e := by
  obtain ⟨b, rows, x, some, rfl, hx, H, S, hq⟩ := h
  exact lmost_go hx H S hq
end Mt
end Nas_

section Nax_
set_option maxRecDepth 100000
set_option maxHeartbeats 1000000
namespace Mt
open LW
/-! the law's houses are houses; things that are alike -/
theorem hGood {b : Int} {rows : List (List Int)} (H : HOk b rows) : goodF (.tup (rowsD rows)) = true := by
  have h0 : noObj (.tup (rowsD rows)) = true := rfl
  have h1 : (rowsD rows).length ≤ 1000 := by rw [show (rowsD rows).length = rows.length from List.length_map _]; have := H.n; omega
  have h2 : ∀ r ∈ rowsD rows, goodRow r = true := fun r hr => by
    obtain ⟨s, hs, rfl⟩ := List.mem_map.mp hr
    have l1 := row_len (H.inc s hs) (H.rng s hs)
    have l2 : (s.map D.int).length ≤ 1000 := by rw [List.length_map]; have := H.b1; omega
    have l3 : ∀ y ∈ s.map D.int, noObj y = true := fun y hy => by
      obtain ⟨i, _, rfl⟩ := List.mem_map.mp hy
      rfl
    show (noObj (.tup (s.map D.int)) && ((s.map D.int).all noObj && decide ((s.map D.int).length ≤ 1000))) = true
    rw [List.all_eq_true.mpr l3, decide_eq_true l2]
    rfl
  show (noObj (.tup (rowsD rows)) && ((rowsD rows).all goodRow && decide ((rowsD rows).length ≤ 1000))) = true
  rw [List.all_eq_true.mpr h2, decide_eq_true h1]
  rfl
theorem hRow {r : List Int} {b : Int} (h1 : r.Pairwise (· < ·)) (h2 : ∀ x ∈ r, 0 ≤ x ∧ x < b) : isRow (rowD r) b = true := by
  have hb : below (rowD r) b = true := by
    show ((r.map D.int).all fun y => isW y 0 (b - 1)) = true
    rw [List.all_eq_true]
    intro y hy
    obtain ⟨i, hi, rfl⟩ := List.mem_map.mp hy
    have := h2 i hi
    simp only [isW, Bool.and_eq_true, decide_eq_true_eq]
    omega
  have hi : ∀ l : List Int, l.Pairwise (· < ·) → incrI l = true := by
    intro l
    induction l with
    | nil => exact fun _ => rfl
    | cons x l ih =>
      intro h
      cases l with
      | nil => rfl
      | cons y l =>
        have h := List.pairwise_cons.mp h
        simp only [incrI, Bool.and_eq_true, decide_eq_true_eq]
        exact ⟨h.1 y List.mem_cons_self, ih h.2⟩
  show (below (rowD r) b && incrI (intsD' (r.map D.int))) = true
  rw [hb, intsD'_map, hi r h1]
  rfl
theorem hJudge {b : Int} {rows : List (List Int)} (H : HOk b rows) : judge (.int b) (.tup (rowsD rows)) = none := by
  have g : ∀ (rs : List (List Int)) (k : Nat), k + rs.length ≤ 24 → (∀ r ∈ rs, r.Pairwise (· < ·)) → (∀ r ∈ rs, ∀ x ∈ r, 0 ≤ x ∧ x < b) → judgeGo b k (rowsD rs) = none := by
    intro rs
    induction rs with
    | nil => exact fun _ _ _ _ => rfl
    | cons r rs ih =>
      intro k hk h1 h2
      have hl : k + (rs.length + 1) ≤ 24 := hk
      show (if k ≥ 24 ∨ isRow (rowD r) b = false then some k else judgeGo b (k + 1) (rowsD rs)) = none
      rw [if_neg]
      · exact ih (k + 1) (by omega) (fun s hs => h1 s (List.mem_cons_of_mem _ hs)) fun s hs => h2 s (List.mem_cons_of_mem _ hs)
      · rw [hRow (h1 r List.mem_cons_self) (h2 r List.mem_cons_self)]
        simp
        omega
  unfold judge
  simp only [H.b0, H.b1, and_self, if_true]
  rw [g rows 0 (by have := H.n; omega) H.inc H.rng]
  rfl
theorem hLen (rows : List (List Int)) : lenD (.tup (rowsD rows)) = .int rows.length := by
  show D.int ((rowsD rows).length : Int) = _
  rw [show (rowsD rows).length = rows.length from List.length_map _]
theorem sOks_ints (ns : List Int) : sOks (ns.map D.int) = true := by
  induction ns with
  | nil => rfl
  | cons n ns ih => simpa [sOks, sOk] using ih
theorem same_row (ns : List Int) (h : ns.length ≤ 1000) : sOk (rowD ns) = true ∧ dep (rowD ns) < 4 := by
  constructor
  · show (decide ((ns.map D.int).length ≤ 1000) && sOks (ns.map D.int)) = true
    rw [sOks_ints, List.length_map, decide_eq_true h]
    rfl
  · show deps (ns.map D.int) + 1 < 4
    rw [deps_ints]
    decide
abbrev kR : List (List Int) := [[0], [0], [0, 1]]
theorem kOk : HOk 2 kR := ⟨by decide, by decide, by decide, by decide, by decide⟩
theorem rows_len (rows : List (List Int)) : (rowsD rows).length = rows.length := List.length_map _
end Mt
end Nax_

section Nbc_
set_option maxRecDepth 100000
namespace Mt
open LW
/-! contracts: lodgings, judged -/
def liesB (rows : List (List Int)) (p : Nat) : D → Bool
  | .non => true
  | .int c => (optR rows p).contains c
  | _ => false
def liesL (rows : List (List Int)) : Nat → List D → List Bool
  | _, [] => []
  | k, x :: xs => liesB rows k x :: liesL rows (k + 1) xs
def bedsOf : List D → List Int
  | [] => []
  | .int c :: xs => c :: bedsOf xs
  | _ :: xs => bedsOf xs
def lodgesB (rows : List (List Int)) : D → Bool
  | .tup xs => decide (xs.length = rows.length) && ((liesL rows 0 xs).all id && decide (cnt (bedsOf xs) = (bedsOf xs).length))
  | _ => false
def ct_lies_right : Ct := fun ds q _ => ∃ (b : Int) (rows : List (List Int)) (p : Nat) (x : D), ds = [hD b rows, .int p, x] ∧ p < rows.length ∧ noObj x = true ∧ q (.bl (liesB rows p x))
def ct_lodges : Ct := fun ds q _ => ∃ b rows x, ds = [hD b rows, x] ∧ rows.length ≤ 24 ∧ goodRow x = true ∧ q (.bl (lodgesB rows x))
def ct_is_lodging : Ct := ct_lodges
def ct_lodged : Ct := ct_lodged_of
end Mt
end Nbc_

section Nbr_
set_option maxRecDepth 100000
set_option maxHeartbeats 4000000
namespace Mt
open LW

def w_lies_right : WS := (sRet (wOrV (wBin (vB cIsN) (wVar 2) (wC .non)) (wAndV (wCall ct_is_integer (wA1 (wVar 2) wA0)) (wBin (vB cIn) (wVar 2) (wBin fIx (wUn (fFld 0 1) (wVar 0)) (wVar 1))))))
@[irreducible] def w_lodges_r3 : WS := (sRet (wBin (vB cEq) (wUn fLenSet (wVar 2)) (wUn fLen (wVar 2))))
def w_lodges_s2 : WS := (sSet 2 (wFz (wLc (wiSeq (wVar 1)) (kName 4) (wB (wBin (vB (cNot cIsN)) (wVar 4) (wC .non))) (wVar 4) [4])))
@[irreducible] def w_lodges_r2 : WS := sSeq (w_lodges_s2) (w_lodges_r3)
def w_lodges_s1 : WS := (sIf (wNotT (wB (wUn fAll (wFz (wLc (wiArgs fEnum (wA1 (wVar 1) wA0)) (kTup [(kName 3), (kName 4)]) wTrue (wCall ct_lies_right (wA1 (wVar 0) (wA1 (wVar 3) (wA1 (wVar 4) wA0)))) [3, 4]))))) (sRet (wC (.bl false))) sNext)
@[irreducible] def w_lodges_r1 : WS := sSeq (w_lodges_s1) (w_lodges_r2)
def w_lodges_s0 : WS := (sIf (wOrT (wNotT (wB (wUn (fIs [0] [.tuple]) (wVar 1)))) (wB (wBin (vB (cNot cEq)) (wUn fLen (wVar 1)) (wUn (fFld 0 2) (wVar 0))))) (sRet (wC (.bl false))) sNext)
@[irreducible] def w_lodges_r0 : WS := sSeq (w_lodges_s0) (w_lodges_r1)
def w_lodges : WS := (sSeq (sIf (wOrT (wNotT (wB (wUn (fIs [0] [.tuple]) (wVar 1)))) (wB (wBin (vB (cNot cEq)) (wUn fLen (wVar 1)) (wUn (fFld 0 2) (wVar 0))))) (sRet (wC (.bl false))) sNext)
  (sSeq (sIf (wNotT (wB (wUn fAll (wFz (wLc (wiArgs fEnum (wA1 (wVar 1) wA0)) (kTup [(kName 3), (kName 4)]) wTrue (wCall ct_lies_right (wA1 (wVar 0) (wA1 (wVar 3) (wA1 (wVar 4) wA0)))) [3, 4]))))) (sRet (wC (.bl false))) sNext)
  (sSeq (sSet 2 (wFz (wLc (wiSeq (wVar 1)) (kName 4) (wB (wBin (vB (cNot cIsN)) (wVar 4) (wC .non))) (wVar 4) [4])))
  (sRet (wBin (vB cEq) (wUn fLenSet (wVar 2)) (wUn fLen (wVar 2)))))))
theorem wq_lodges : w_lodges = w_lodges_r0 := by with_unfolding_all rfl
def w_is_lodging : WS := (sSeq (sDrop (wCall ct_check_house (wA1 (wVar 0) wA0)))
  (sRet (wCall ct_lodges (wA1 (wVar 0) (wA1 (wVar 1) wA0)))))
def w_lodged : WS := (sSeq (sDrop (wCall ct_check_some (wA1 (wVar 0) (wA1 (wVar 1) wA0))))
  (sRet (wCall ct_lodged_of (wA1 (wVar 0) (wA1 (wVar 1) wA0)))))
end Mt
end Nbr_

section Nbs_
set_option maxRecDepth 100000
set_option maxHeartbeats 1000000
namespace Mt
open LW
theorem sp_lies_right (ds q e) (h : ct_lies_right ds q e) : fnW 0 w_lies_right ds q e := by
  obtain ⟨b, rows, p, x, rfl, hp, hx, hq⟩ := h
  have e1 : fIx (.tup (rowsD rows)) (.int p) = some (rowD (optR rows p)) := ix_rows (by omega) (by omega)
  cases x with
  | non => (conv => whnf); exact hq
  | int c =>
    (conv => whnf)
    refine ⟨_, rfl, hx, ?_⟩
    (conv => whnf)
    refine on_some e1 ?_
    (conv => whnf)
    have : cIn (.int c) (rowD (optR rows p)) = some ((optR rows p).contains c) := in_seq (y := rowD _) rfl c
    refine on_some (show vB cIn (.int c) (rowD (optR rows p)) = some (.bl (liesB rows p (.int c))) from by unfold vB; rw [this]; rfl) ?_
    (conv => whnf)
    exact hq
  | bl c => (conv => whnf); refine ⟨_, rfl, hx, ?_⟩; (conv => whnf); exact hq
  | str c => (conv => whnf); refine ⟨_, rfl, hx, ?_⟩; (conv => whnf); exact hq
  | tup c => (conv => whnf); refine ⟨_, rfl, hx, ?_⟩; (conv => whnf); exact hq
  | lst c => (conv => whnf); refine ⟨_, rfl, hx, ?_⟩; (conv => whnf); exact hq
  | dct c d => (conv => whnf); refine ⟨_, rfl, hx, ?_⟩; (conv => whnf); exact hq
  | obj c d => (conv => whnf); refine ⟨_, rfl, hx, ?_⟩; (conv => whnf); exact hq
  | hand => (conv => whnf); refine ⟨_, rfl, hx, ?_⟩; (conv => whnf); exact hq
theorem enum_mem : ∀ {xs : List D} {k : Nat} {z : D}, z ∈ enumD k xs → ∃ (j : Nat) (y : D), z = .tup [.int (j : Int), y] ∧ k ≤ j ∧ j < k + xs.length ∧ xs[j - k]? = some y ∧ y ∈ xs
  | [], _, _, h => by cases h
  | x :: xs, k, z, h => by
    rcases List.mem_cons.mp h with rfl | h
    · exact ⟨k, x, rfl, Nat.le_refl _, by simp, by simp, List.mem_cons_self⟩
    · obtain ⟨j, y, e, h1, h2, h3, h4⟩ := enum_mem h
      refine ⟨j, y, e, by omega, by simp; omega, ?_, List.mem_cons_of_mem _ h4⟩
      have : j - k = (j - (k + 1)) + 1 := by omega
      rw [this, List.getElem?_cons_succ]
      exact h3
theorem enum_len : ∀ (xs : List D) (k : Nat), (enumD k xs).length = xs.length
  | [], _ => rfl
  | x :: xs, k => by simp [enumD, enum_len xs]
def lieG (rows : List (List Int)) : D → D
  | .tup [.int k, x] => .bl (liesB rows k.toNat x)
  | _ => .non
theorem lie_map (rows : List (List Int)) : ∀ (xs : List D) (k : Nat), (enumD k xs).map (lieG rows) = (liesL rows k xs).map D.bl
  | [], _ => rfl
  | x :: xs, k => by
    simp only [enumD, List.map_cons, liesL, lie_map rows xs (k + 1)]
    rfl
theorem all_bls (bs : List Bool) : fAll (.lst (bs.map D.bl)) = some (.bl (bs.all id)) := by
  have : blsOf (bs.map D.bl) = some bs := by
    induction bs with
    | nil => rfl
    | cons b bs ih => simp [blsOf, ih]
  show (blsOf (bs.map D.bl)).map _ = _
  rw [this]
  rfl
/-- those that are not None, if all are integers or None -/
theorem told_ints {rows : List (List Int)} : ∀ {xs : List D} {k : Nat}, (liesL rows k xs).all id = true → (xs.filter fun x => !isNon x) = (bedsOf xs).map D.int
  | [], _, _ => rfl
  | x :: xs, k, h => by
    simp only [liesL, List.all_cons, Bool.and_eq_true] at h
    have ih := told_ints h.2
    cases x with
    | non => simpa [isNon, bedsOf] using ih
    | int c => simpa [isNon, bedsOf] using ih
    | _ => exact absurd h.1 (by simp [liesB])
theorem beds_len : ∀ xs : List D, (bedsOf xs).length ≤ xs.length
  | [] => Nat.le_refl _
  | x :: xs => by
    have := beds_len xs
    cases x <;> simp [bedsOf] <;> omega
theorem eqS_len (i j : Nat) : eqS (.int (i : Int)) (.int (j : Int)) = decide (i = j) := by
  show ((i : Int) == (j : Int)) = _
  rw [Bool.eq_iff_iff, beq_iff_eq, decide_eq_true_eq]
  omega
theorem len_ne (i j : Nat) : vB (cNot cEq) (.int i) (.int j) = some (.bl (!decide (i = j))) := by
  show some (D.bl (!(eqS (.int i) (.int j)))) = _
  have : eqS (.int (i : Int)) (.int (j : Int)) = decide (i = j) := by
    show ((i : Int) == (j : Int)) = _
    rw [Bool.eq_iff_iff, beq_iff_eq, decide_eq_true_eq]
    omega
  rw [this]
theorem len_eq (i j : Nat) : vB cEq (.int i) (.int j) = some (.bl (decide (i = j))) := by
  show some (D.bl (eqS (.int i) (.int j))) = _
  have : eqS (.int (i : Int)) (.int (j : Int)) = decide (i = j) := by
    show ((i : Int) == (j : Int)) = _
    rw [Bool.eq_iff_iff, beq_iff_eq, decide_eq_true_eq]
    omega
  rw [this]
theorem lenSet_ints (ns : List Int) (h : ns.length ≤ 1000) : fLenSet (.lst (ns.map D.int)) = some (.int (cnt ns)) := by
  show ((intsOf (ns.map D.int)).bind fun ns => if ns.length ≤ 1000 then some (D.int (cnt ns)) else none) = _
  rw [intsOf_map]
  show (if ns.length ≤ 1000 then some (D.int (cnt ns)) else none) = _
  rw [if_pos h]
theorem lod2 {Z : Ds} {E : KE} {b : Int} {rows : List (List Int)} {xs : List D} (hl : xs.length ≤ 1000) (ha : (liesL rows 0 xs).all id = true) (hq : ∀ e, Z.rt (.bl (decide (cnt (bedsOf xs) = (bedsOf xs).length))) e) :
    w_lodges_r2 Z [.val (hD b rows), .val (.tup xs), .un, .un, .un] E := by
  have bl := beds_len xs
  unfold w_lodges_r2
  (conv => whnf)
  refine ⟨⟨trivial, trivial⟩, lc_filtH (fun x => !isNon x) (fun x => x) (fun x hx => ?_) (Nat.le_trans hl (by decide)) ?_⟩
  · refine ⟨_, rfl, ⟨trivial, trivial⟩, rfl, fun Qt hk => ?_, fun Qk _ hk => ?_⟩
    · (conv => whnf)
      exact hk
    · (conv => whnf)
      exact hk
  · rw [List.map_id', told_ints ha]
    (conv => whnf)
    unfold w_lodges_r3
    (conv => whnf)
    refine on_some (lenSet_ints _ (by omega)) ?_
    (conv => whnf)
    have e2 : (eqS (.int (cnt (bedsOf xs))) (.int ((bedsOf xs).map D.int).length)) = decide (cnt (bedsOf xs) = (bedsOf xs).length) := by
      show ((cnt (bedsOf xs) : Int) == (((bedsOf xs).map D.int).length : Int)) = _
      rw [List.length_map, Bool.eq_iff_iff, beq_iff_eq, decide_eq_true_eq]
      omega
    rw [e2]
    exact hq _
theorem lod_go {q e : D → Prop} {b : Int} {rows : List (List Int)} {x : D} (hr : rows.length ≤ 24) (hx : goodRow x = true) (hq : q (.bl (lodgesB rows x))) : fnW 3 w_lodges_r0 [hD b rows, x] q e := by
  have hn : noObj x = true := by simp only [goodRow, Bool.and_eq_true] at hx; exact hx.1
  unfold w_lodges_r0
  (conv => whnf)
  refine on_some (fIs0 [.tuple] hn) ?_
  cases x with
  | tup xs =>
    simp only [goodRow, Bool.and_eq_true, decide_eq_true_eq, List.all_eq_true] at hx
    have h1 : xs.length ≤ 1000 := hx.2.2
    (conv => whnf)
    refine br_by (fun h => ?_) fun h => ?_
    · have hl : ¬ xs.length = rows.length := by
        have h : (!eqS (.int xs.length) (.int rows.length)) = true := h
        rw [eqS_len] at h
        simpa using h
      have eB : lodgesB rows (.tup xs) = false := by
        show (decide (xs.length = rows.length) && _) = _
        rw [decide_eq_false hl]
        rfl
      rw [eB] at hq
      (conv => whnf)
      exact hq
    · have hl : xs.length = rows.length := by
        have h : (!eqS (.int xs.length) (.int rows.length)) = false := h
        rw [eqS_len] at h
        simpa using h
      (conv => whnf)
      unfold w_lodges_r1
      (conv => whnf)
      refine ⟨⟨trivial, trivial, trivial⟩, lc_mapH (lieG rows) (fun z hz => ?_) (by rw [enum_len]; exact Nat.le_trans h1 (by decide)) ?_⟩
      · obtain ⟨j, y, rfl, j0, j1, j2, j3⟩ := enum_mem hz
        refine ⟨_, rfl, ⟨trivial, trivial, trivial⟩, rfl, fun Qk hk => ?_⟩
        (conv => whnf)
        exact ⟨b, rows, j, y, rfl, by omega, hx.2.1 y j3, hk⟩
      · rw [lie_map]
        (conv => whnf)
        refine on_some (all_bls _) ?_
        have eB : lodgesB rows (.tup xs) = ((liesL rows 0 xs).all id && decide (cnt (bedsOf xs) = (bedsOf xs).length)) := by
          show (decide (xs.length = rows.length) && _) = _
          rw [decide_eq_true hl, Bool.true_and]
        rw [eB] at hq
        cases ha : (liesL rows 0 xs).all id with
        | false =>
          rw [ha] at hq
          (conv => whnf)
          exact hq
        | true =>
          rw [ha] at hq
          (conv => whnf)
          exact lod2 h1 ha fun _ => hq
  | _ => (conv => whnf); exact hq
theorem sp_lodges (ds q e) (h : ct_lodges ds q e) : fnW 3 w_lodges ds q e := by
  obtain ⟨b, rows, x, rfl, hr, hx, hq⟩ := h
  rw [wq_lodges]
  exact lod_go hr hx hq
theorem sp_is_lodging (ds q e) (h : ct_is_lodging ds q e) : fnW 0 w_is_lodging ds q e := by
  obtain ⟨b, rows, x, rfl, hr, hx, hq⟩ := h
  (conv => whnf)
  refine ⟨_, rfl, ?_⟩
  (conv => whnf)
  refine ⟨b, rows, x, rfl, hr, hx, ?_⟩
  (conv => whnf)
  exact hq
theorem sp_lodged (ds q e) (h : ct_lodged ds q e) : fnW 0 w_lodged ds q e := by
  obtain ⟨b, rows, some, rfl, H, S, hq⟩ := h
  (conv => whnf)
  refine ⟨b, rows, some, rfl, S, ?_⟩
  (conv => whnf)
  refine ⟨b, rows, some, rfl, H, S, fun f M pm => ?_⟩
  (conv => whnf)
  exact hq f M pm
/-! the lodging of a matching -/
theorem lodgAt_look {f : AL} {opt : Int → List Int} (M : Mat opt f) {i c : Int} : lodgAt f i = .int c ↔ look f c = some i := by
  have swn : (keys (swapA f)).Nodup := by rw [swap_keys]; exact M.vnd
  unfold lodgAt
  constructor
  · intro h
    cases hl : look (swapA f) i with
    | none => rw [hl] at h; cases h
    | some d =>
      rw [hl] at h
      cases h
      obtain ⟨e, h1, h2⟩ := List.mem_map.mp (look_mem hl)
      cases h2
      exact mem_look M.nd (show (e.1, e.2) ∈ f from h1)
  · intro h
    have : look (swapA f) i = some c := mem_look swn (List.mem_map.mpr ⟨(c, i), look_mem h, rfl⟩)
    rw [this]
theorem lodgAt_kind (f : AL) (i : Int) : lodgAt f i = .non ∨ ∃ c, lodgAt f i = .int c := by
  unfold lodgAt
  cases look (swapA f) i with
  | none => exact .inl rfl
  | some c => exact .inr ⟨c, rfl⟩
theorem lodgAt_non {f : AL} {opt : Int → List Int} (M : Mat opt f) {i : Int} : lodgAt f i = .non ↔ i ∉ vals f := by
  rcases lodgAt_kind f i with h | ⟨c, h⟩
  · rw [h]
    refine ⟨fun _ z => ?_, fun _ => rfl⟩
    obtain ⟨c, hc⟩ := (val_look M.nd).mp z
    rw [(lodgAt_look M).mpr hc] at h
    cases h
  · rw [h]
    refine ⟨fun z => (by cases z), fun z => absurd ((val_look M.nd).mpr ⟨c, (lodgAt_look M).mp h⟩) z⟩
abbrev lodgL (n : Nat) (f : AL) : List D := (List.range n).map fun (i : Nat) => lodgAt f i
theorem lodg_lies {rows : List (List Int)} {f : AL} (M : Mat (optR rows) f) : ∀ (n k : Nat), (liesL rows k ((List.range' k n).map fun (i : Nat) => lodgAt f i)).all id = true
  | 0, _ => rfl
  | n + 1, k => by
    rw [List.range'_succ, List.map_cons]
    simp only [liesL, List.all_cons, Bool.and_eq_true]
    refine ⟨?_, lodg_lies M n (k + 1)⟩
    rcases lodgAt_kind f k with h | ⟨c, h⟩
    · rw [h]; rfl
    · rw [h]
      have := M.ok c k ((lodgAt_look M).mp h)
      exact List.contains_iff_mem.mpr this
theorem lodg_bedsOf {opt : Int → List Int} {f : AL} (M : Mat opt f) : ∀ l : List Nat, l.Nodup → (bedsOf (l.map fun (i : Nat) => lodgAt f i)).Nodup ∧ ∀ c, c ∈ bedsOf (l.map fun (i : Nat) => lodgAt f i) → ∃ i ∈ l, look f c = some (i : Int)
  | [], _ => ⟨.nil, fun c h => by cases h⟩
  | i :: l, nd => by
    have nd := List.nodup_cons.mp nd
    obtain ⟨h1, h2⟩ := lodg_bedsOf M l nd.2
    rcases lodgAt_kind f i with h | ⟨c, h⟩
    · simp only [List.map_cons, h, bedsOf]
      exact ⟨h1, fun c hc => by obtain ⟨j, j1, j2⟩ := h2 c hc; exact ⟨j, List.mem_cons_of_mem _ j1, j2⟩⟩
    · have hc := (lodgAt_look M).mp h
      simp only [List.map_cons, h, bedsOf]
      refine ⟨List.nodup_cons.mpr ⟨fun z => ?_, h1⟩, fun d hd => ?_⟩
      · obtain ⟨j, j1, j2⟩ := h2 c z
        rw [hc] at j2
        have : (i : Int) = j := Option.some.inj j2
        exact nd.1 (by have : i = j := by omega
                       rw [this]; exact j1)
      · rcases List.mem_cons.mp hd with rfl | hd
        · exact ⟨i, List.mem_cons_self, hc⟩
        · obtain ⟨j, j1, j2⟩ := h2 d hd
          exact ⟨j, List.mem_cons_of_mem _ j1, j2⟩
theorem lodg_ok {rows : List (List Int)} {f : AL} (M : Mat (optR rows) f) : lodgesB rows (lodgD rows.length f) = true := by
  have h1 := lodg_lies M rows.length 0
  rw [← List.range_eq_range'] at h1
  have h2 := (lodg_bedsOf M (List.range rows.length) List.nodup_range).1
  show (decide ((lodgL rows.length f).length = rows.length) && ((liesL rows 0 (lodgL rows.length f)).all id && decide (cnt (bedsOf (lodgL rows.length f)) = (bedsOf (lodgL rows.length f)).length))) = true
  rw [h1, decide_eq_true (cnt_nd.mpr h2), decide_eq_true (by simp)]
  rfl
theorem lodg_good {n : Nat} {f : AL} (h : n ≤ 24) : goodRow (lodgD n f) = true := by
  have h1 : (lodgL n f).all noObj = true := by
    rw [List.all_eq_true]
    intro x hx
    obtain ⟨i, _, rfl⟩ := List.mem_map.mp hx
    rcases lodgAt_kind f i with h | ⟨c, h⟩ <;> rw [h] <;> rfl
  have h2 : (lodgL n f).length ≤ 1000 := by simp; omega
  show (true && ((lodgL n f).all noObj && decide ((lodgL n f).length ≤ 1000))) = true
  rw [h1, decide_eq_true h2]
  rfl
end Mt
end Nbs_

section K24c_
set_option maxRecDepth 100000
namespace K24
open LW Mt
/-- all lodgings, person by person -/
abbrev LO := List (Option Int)
def bD : Option Int → D
  | none => .non
  | some c => .int c
def loD (l : LO) : D := .tup (l.map bD)
def more (row : List Int) (l : LO) : List LO := (l ++ [none]) :: (row.filter fun c => !(l.contains (some c))).map fun c => l ++ [some c]
def step (acc : List LO) (row : List Int) : List LO := acc.flatMap (more row)
def allL (rows : List (List Int)) : List LO := rows.foldl step [[]]
def ct__law_all_lodgings : Ct := fun ds q _ => ∃ b rows, ds = [hT b rows] ∧ HOk b rows ∧ b ≤ 4 ∧ rows.length ≤ 4 ∧ q (.lst ((allL rows).map loD))
def ct__law_are_numbers_right : Ct := fun ds q _ => ds = [.hand] ∧ q (.bl true)
def ct__law_are_lodgings_right : Ct := fun ds q _ => ds = [.hand] ∧ q (.bl true)
def ct__law_is_lodging : Ct := fun ds q _ => ∃ b rows f, ds = [hT b rows, lodgD rows.length f] ∧ HOk b rows ∧ Mat (optR rows) f ∧ q (.bl true)
def ct__law_is_told : Ct := fun ds q _ => ∃ b rows some, ds = [hT b rows, rowD some] ∧ HOk b rows ∧ SOk some rows.length ∧ q (.bl true)
/-! plain -/
theorem allL_snoc (rows : List (List Int)) (r : List Int) : allL (rows ++ [r]) = step (allL rows) r := by simp [allL, List.foldl_append]
theorem more_len {row : List Int} {l : LO} {n : Nat} (h : row.length ≤ n) : (more row l).length ≤ n + 1 := by
  have : (row.filter fun c => !(l.contains (some c))).length ≤ row.length := List.length_filter_le _ _
  simp only [more, List.length_cons, List.length_map]
  omega
theorem step_len {row : List Int} {n : Nat} (h : row.length ≤ n) : ∀ acc : List LO, (step acc row).length ≤ acc.length * (n + 1)
  | [] => by simp [step]
  | l :: acc => by
    have h1 := more_len (l := l) h
    have h2 := step_len h acc
    simp only [step, List.flatMap_cons, List.length_append, List.length_cons] at h2 ⊢
    rw [Nat.add_mul, Nat.one_mul]
    omega
/-- what a lodging is, so far -/
structure LoOk (rows : List (List Int)) (l : LO) : Prop where
  len : l.length = rows.length
  ok : ∀ (i : Nat) (c : Int), l[i]? = some (some c) → c ∈ optR rows i
  inj : ∀ (i j : Nat) (c : Int), l[i]? = some (some c) → l[j]? = some (some c) → i = j
theorem get_snoc {α : Type} {l : List α} {x y : α} {i : Nat} (h : (l ++ [x])[i]? = some y) : l[i]? = some y ∨ (i = l.length ∧ x = y) := by
  by_cases z : i < l.length
  · rw [List.getElem?_append_left z] at h
    exact .inl h
  · rw [List.getElem?_append_right (by omega)] at h
    have : i - l.length = 0 := by
      by_cases w : i - l.length = 0
      · exact w
      · obtain ⟨k, hk⟩ : ∃ k, i - l.length = k + 1 := ⟨i - l.length - 1, by omega⟩
        rw [hk] at h
        simp at h
    rw [this] at h
    simp at h
    exact .inr ⟨by omega, h⟩
theorem optR_app {rows : List (List Int)} {r : List Int} {i : Nat} (h : i < rows.length) : optR (rows ++ [r]) i = optR rows i := by
  unfold optR
  rw [Int.toNat_natCast, List.getElem?_append_left h]
theorem optR_last {rows : List (List Int)} {r : List Int} : optR (rows ++ [r]) (rows.length : Int) = r := by
  unfold optR
  rw [Int.toNat_natCast, List.getElem?_append_right (Nat.le_refl _), Nat.sub_self]
  rfl
theorem loOk_step {rows : List (List Int)} {r : List Int} {l m : LO} (h : LoOk rows l) (hm : m ∈ more r l) : LoOk (rows ++ [r]) m := by
  have lt : ∀ {i : Nat} {c : Int}, l[i]? = some (some c) → i < rows.length := fun {i c} e => by
    have := (List.getElem?_eq_some_iff.mp e).1
    rw [← h.len]
    exact this
  rcases List.mem_cons.mp hm with rfl | hm
  · refine ⟨by simp [h.len], fun i c e => ?_, fun i j c e1 e2 => ?_⟩
    · rcases get_snoc e with e | ⟨_, e⟩
      · rw [optR_app (lt e)]
        exact h.ok i c e
      · cases e
    · rcases get_snoc e1 with e1 | ⟨_, e⟩
      · rcases get_snoc e2 with e2 | ⟨_, e⟩
        · exact h.inj i j c e1 e2
        · cases e
      · cases e
  · obtain ⟨d, hd, rfl⟩ := List.mem_map.mp hm
    obtain ⟨d1, d2⟩ := List.mem_filter.mp hd
    have nd : ∀ {i : Nat}, l[i]? ≠ some (some d) := fun {i} e => by
      rw [List.contains_iff_mem.mpr (List.mem_of_getElem? e)] at d2
      cases d2
    refine ⟨by simp [h.len], fun i c e => ?_, fun i j c e1 e2 => ?_⟩
    · rcases get_snoc e with e | ⟨e0, e⟩
      · rw [optR_app (lt e)]
        exact h.ok i c e
      · cases e
        rw [e0, h.len, optR_last]
        exact d1
    · rcases get_snoc e1 with e1 | ⟨z1, e1⟩ <;> rcases get_snoc e2 with e2 | ⟨z2, e2⟩
      · exact h.inj i j c e1 e2
      · cases e2
        exact absurd e1 nd
      · cases e1
        exact absurd e2 nd
      · omega
theorem rev_ind {α : Type} {P : List α → Prop} (h0 : P []) (h1 : ∀ l x, P l → P (l ++ [x])) (l : List α) : P l := by
  have : ∀ m : List α, P m.reverse := fun m => by
    induction m with
    | nil => exact h0
    | cons x m ih => rw [List.reverse_cons]; exact h1 _ _ ih
  have := this l.reverse
  rwa [List.reverse_reverse] at this
theorem loOk_all : ∀ (rows : List (List Int)) (l : LO), l ∈ allL rows → LoOk rows l := by
  refine rev_ind ?_ ?_
  · intro l hl
    have : l = [] := by simpa [allL] using hl
    subst this
    exact ⟨rfl, fun i c e => by simp at e, fun i j c e => by simp at e⟩
  · intro rows r ih l hl
    rw [allL_snoc] at hl
    obtain ⟨m, h1, h2⟩ := List.mem_flatMap.mp hl
    exact loOk_step (ih m h1) h2
theorem loOk_pre {rows : List (List Int)} {r : List Int} {l : LO} {o : Option Int} (h : LoOk (rows ++ [r]) (l ++ [o])) : LoOk rows l ∧ (l ++ [o]) ∈ more r l := by
  have len : l.length = rows.length := by have := h.len; simp at this; omega
  have up : ∀ {i : Nat} {x : Option Int}, l[i]? = some x → (l ++ [o])[i]? = some x := fun {i x} e => by
    rw [List.getElem?_append_left (List.getElem?_eq_some_iff.mp e).1]
    exact e
  have lst : (l ++ [o])[l.length]? = some o := by simp
  refine ⟨⟨len, fun i c e => ?_, fun i j c e1 e2 => h.inj i j c (up e1) (up e2)⟩, ?_⟩
  · have := h.ok i c (up e)
    rwa [optR_app (by rw [← len]; exact (List.getElem?_eq_some_iff.mp e).1)] at this
  · cases o with
    | none => exact List.mem_cons_self
    | some c =>
      refine List.mem_cons_of_mem _ (List.mem_map.mpr ⟨c, List.mem_filter.mpr ⟨?_, ?_⟩, rfl⟩)
      · have := h.ok l.length c lst
        rwa [len, optR_last] at this
      · cases hc : l.contains (some c) with
        | false => rfl
        | true =>
          obtain ⟨i, hi, e⟩ := List.getElem_of_mem (List.contains_iff_mem.mp hc)
          have := h.inj i l.length c (up (by rw [List.getElem?_eq_getElem hi, e])) lst
          omega
theorem all_loOk : ∀ (rows : List (List Int)) (l : LO), LoOk rows l → l ∈ allL rows := by
  refine rev_ind ?_ ?_
  · intro l h
    have : l = [] := List.length_eq_zero_iff.mp h.len
    subst this
    simp [allL]
  · intro rows r ih l h
    have hl : l ≠ [] := fun z => by have := h.len; rw [z] at this; simp at this
    obtain ⟨m, o, rfl⟩ : ∃ m o, l = m ++ [o] := ⟨l.dropLast, l.getLast hl, (List.dropLast_concat_getLast hl).symm⟩
    obtain ⟨h1, h2⟩ := loOk_pre h
    rw [allL_snoc]
    exact List.mem_flatMap.mpr ⟨m, ih m h1, h2⟩
/-- those of some who lie -/
def lyB (l : LO) (p : Int) : Bool := match l[p.toNat]? with
  | some (some _) => true
  | _ => false
theorem lyB_t {l : LO} {p : Int} : lyB l p = true ↔ ∃ c, l[p.toNat]? = some (some c) := by
  unfold lyB
  split
  · rename_i c e
    exact ⟨fun _ => ⟨c, e⟩, fun _ => rfl⟩
  · rename_i h
    exact ⟨fun z => (by cases z), fun ⟨c, e⟩ => absurd e (h c)⟩
theorem ly_le {rows : List (List Int)} {some : List Int} {l : LO} (S : SOk some rows.length) (h : LoOk rows l) : (some.filter (lyB l)).length ≤ (greedy (optR rows) some).length := by
  refine greedy_max ⟨fun p => match l[p.toNat]? with
    | Option.some (Option.some c) => c
    | _ => 0, fun p hp => ?_, fun p hp q hq e => ?_⟩ ((inc_nd S.inc).sublist List.filter_sublist) fun x hx => (List.mem_filter.mp hx).1
  · obtain ⟨hp, h2⟩ := List.mem_filter.mp hp
    obtain ⟨c, e⟩ := lyB_t.mp h2
    have := h.ok _ c e
    have e2 : ((p.toNat : Nat) : Int) = p := Int.toNat_of_nonneg (S.rng p hp).1
    rw [e2] at this
    simp only [e]
    exact this
  · obtain ⟨hp, h2⟩ := List.mem_filter.mp hp
    obtain ⟨hq, h3⟩ := List.mem_filter.mp hq
    obtain ⟨c, e1⟩ := lyB_t.mp h2
    obtain ⟨d, e2⟩ := lyB_t.mp h3
    simp only [e1, e2] at e
    subst e
    have := h.inj _ _ _ e1 e2
    have := (S.rng p hp).1
    have := (S.rng q hq).1
    omega
def gLo (a : Int → Int) (G : List Int) (n : Nat) : LO := (List.range n).map fun (i : Nat) => if G.contains (i : Int) then Option.some (a i) else none
theorem ly_ge {rows : List (List Int)} {some : List Int} (S : SOk some rows.length) : ∃ l ∈ allL rows, (some.filter (lyB l)).length = (greedy (optR rows) some).length := by
  obtain ⟨a, a1, a2⟩ := greedy_sdr (opt := optR rows) (ps := some)
  have hG : ∀ p ∈ greedy (optR rows) some, p ∈ some := fun p hp => greedy_sub hp
  have at_ : ∀ i : Nat, i < rows.length → (gLo a (greedy (optR rows) some) rows.length)[i]? = Option.some (if (greedy (optR rows) some).contains (i : Int) then Option.some (a i) else none) := fun i hi => by
    unfold gLo
    rw [List.getElem?_map, List.getElem?_range hi]
    rfl
  have key : ∀ (i : Nat) (c : Int), (gLo a (greedy (optR rows) some) rows.length)[i]? = Option.some (Option.some c) → (i : Int) ∈ greedy (optR rows) some ∧ c = a i := fun i c e => by
    have hi : i < rows.length := by
      have := (List.getElem?_eq_some_iff.mp e).1
      simpa [gLo] using this
    rw [at_ i hi] at e
    split at e
    · rename_i hc
      cases e
      exact ⟨List.contains_iff_mem.mp hc, rfl⟩
    · cases e
  refine ⟨gLo a (greedy (optR rows) some) rows.length, all_loOk rows _ ⟨by simp [gLo], fun i c e => ?_, fun i j c e1 e2 => ?_⟩, ?_⟩
  · obtain ⟨h1, rfl⟩ := key i c e
    exact a1 _ h1
  · obtain ⟨h1, e1⟩ := key i c e1
    obtain ⟨h2, e2⟩ := key j c e2
    have := a2 _ h1 _ h2 (by rw [← e1, ← e2])
    omega
  · have : some.filter (lyB (gLo a (greedy (optR rows) some) rows.length)) = some.filter fun x => (greedy (optR rows) some).contains x := by
      refine List.filter_congr fun p hp => ?_
      obtain ⟨p0, p1⟩ := S.rng p hp
      rw [Bool.eq_iff_iff, lyB_t]
      have e2 : ((p.toNat : Nat) : Int) = p := Int.toNat_of_nonneg p0
      constructor
      · rintro ⟨c, e⟩
        have := (key _ c e).1
        rw [e2] at this
        exact List.contains_iff_mem.mpr this
      · intro h
        refine ⟨a p, ?_⟩
        rw [at_ _ (by omega), e2, if_pos h]
    rw [this, greedy_filter (inc_nd S.inc)]
end K24
end K24c_

section K24r_
set_option maxRecDepth 100000
set_option maxHeartbeats 4000000
namespace K24
open LW Mt

@[irreducible] def w__law_all_lodgings_b1_b1_r0 : WS := (sSet 3 (wBin fAdd (wBin fAdd (wVar 3) (wFz (wLst (wA1 (wBin fAdd (wVar 4) (wTup (wA1 (wC .non) wA0))) wA0)))) (wFz (wLc (wiSeq (wVar 2)) (kName 5) (wB (wBin (vB (cNot cIn)) (wVar 5) (wVar 4))) (wBin fAdd (wVar 4) (wTup (wA1 (wVar 5) wA0))) [5]))))
@[irreducible] def w__law_all_lodgings_b1_r2 : WS := (sSet 1 (wVar 3))
def w__law_all_lodgings_b1_s1 : WS := (sFor (wiSeq (wVar 1)) (kName 4) (w__law_all_lodgings_b1_b1_r0))
@[irreducible] def w__law_all_lodgings_b1_r1 : WS := sSeq (w__law_all_lodgings_b1_s1) (w__law_all_lodgings_b1_r2)
def w__law_all_lodgings_b1_s0 : WS := (sSet 3 (wFz (wLst wA0)))
@[irreducible] def w__law_all_lodgings_b1_r0 : WS := sSeq (w__law_all_lodgings_b1_s0) (w__law_all_lodgings_b1_r1)
@[irreducible] def w__law_all_lodgings_r2 : WS := (sRet (wVar 1))
def w__law_all_lodgings_s1 : WS := (sFor (wiSeq (wBin fIx (wVar 0) (wC (.int 1)))) (kName 2) (w__law_all_lodgings_b1_r0))
@[irreducible] def w__law_all_lodgings_r1 : WS := sSeq (w__law_all_lodgings_s1) (w__law_all_lodgings_r2)
def w__law_all_lodgings_s0 : WS := (sSet 1 (wFz (wLst (wA1 (wTup wA0) wA0))))
@[irreducible] def w__law_all_lodgings_r0 : WS := sSeq (w__law_all_lodgings_s0) (w__law_all_lodgings_r1)
def w__law_all_lodgings : WS := (sSeq (sSet 1 (wFz (wLst (wA1 (wTup wA0) wA0))))
  (sSeq (sFor (wiSeq (wBin fIx (wVar 0) (wC (.int 1)))) (kName 2) (sSeq (sSet 3 (wFz (wLst wA0)))
  (sSeq (sFor (wiSeq (wVar 1)) (kName 4) (sSet 3 (wBin fAdd (wBin fAdd (wVar 3) (wFz (wLst (wA1 (wBin fAdd (wVar 4) (wTup (wA1 (wC .non) wA0))) wA0)))) (wFz (wLc (wiSeq (wVar 2)) (kName 5) (wB (wBin (vB (cNot cIn)) (wVar 5) (wVar 4))) (wBin fAdd (wVar 4) (wTup (wA1 (wVar 5) wA0))) [5])))))
  (sSet 1 (wVar 3)))))
  (sRet (wVar 1))))
theorem wq__law_all_lodgings : w__law_all_lodgings = w__law_all_lodgings_r0 := by with_unfolding_all rfl
@[irreducible] def w__law_are_numbers_right_b2_r3 : WS := (sIf (wOrT (wNotT (wB (wCall (ct__law_same 4) (wA1 (wCall ct_most_lodged (wA1 (wVar 5) (wA1 (wVar 6) wA0))) (wA1 (wVar 7) wA0))))) (wB (wBin (vB (cNot cEq)) (wVar 7) (wCall ct__law_most (wA1 (wVar 4) (wA1 (wVar 6) wA0)))))) (sRet (wC (.bl false))) sNext)
def w__law_are_numbers_right_b2_s2 : WS := (sSet 7 (wMaxL (wFz (wLc (wiSeq (wCall ct__law_all_lodgings (wA1 (wTup (wA1 (wVar 3) (wA1 (wVar 4) wA0))) wA0))) (kName 14) wTrue (wUn fLen (wFz (wLc (wiSeq (wVar 6)) (kName 11) (wB (wBin (vB (cNot cIsN)) (wBin fIx (wVar 14) (wVar 11)) (wC .non))) (wVar 11) [11]))) [14]))))
@[irreducible] def w__law_are_numbers_right_b2_r2 : WS := sSeq (w__law_are_numbers_right_b2_s2) (w__law_are_numbers_right_b2_r3)
def w__law_are_numbers_right_b2_s1 : WS := (sPar [(5, .v (wCall ct_House (wA1 (wVar 3) (wA1 (wVar 4) wA0)))), (6, .v (wCall ct__law_row (wA1 (wVar 0) (wA1 (wUn fLen (wVar 4)) wA0))))])
@[irreducible] def w__law_are_numbers_right_b2_r1 : WS := sSeq (w__law_are_numbers_right_b2_s1) (w__law_are_numbers_right_b2_r2)
def w__law_are_numbers_right_b2_s0 : WS := (sAsg (kTup [(kName 3), (kName 4)]) (wCall ct__law_house (wA1 (wVar 0) (wA1 (wBin fAdd (wC (.int 1)) (wCall ct__law_draw (wA1 (wVar 0) (wA1 (wC (.int 4)) wA0)))) (wA1 (wBin fAdd (wC (.int 1)) (wCall ct__law_draw (wA1 (wVar 0) (wA1 (wC (.int 4)) wA0)))) wA0)))))
@[irreducible] def w__law_are_numbers_right_b2_r0 : WS := sSeq (w__law_are_numbers_right_b2_s0) (w__law_are_numbers_right_b2_r1)
@[irreducible] def w__law_are_numbers_right_b3_t4_r2 : WS := (sIf (wOrT (wNotT (wB (wCall (ct__law_same 4) (wA1 (wCall ct_most_lodged (wA1 (wVar 5) (wA1 (wVar 12) wA0))) (wA1 (wCall ct__law_most (wA1 (wVar 4) (wA1 (wVar 12) wA0))) wA0))))) (wB (wBin (vB (cNot cIn)) (wBin fSub (wBin fIx (wVar 10) (wC (.int 0))) (wCall ct__law_most (wA1 (wVar 4) (wA1 (wVar 12) wA0)))) (wTup (wA1 (wC (.int 0)) (wA1 (wC (.int 1)) wA0)))))) (sRet (wC (.bl false))) sNext)
def w__law_are_numbers_right_b3_t4_s1 : WS := (sSet 12 (wUn fTuple (wFz (wLc (wiSeq (wVar 6)) (kName 15) (wB (wBin (vB (cNot cEq)) (wVar 15) (wVar 11))) (wVar 15) [15]))))
@[irreducible] def w__law_are_numbers_right_b3_t4_r1 : WS := sSeq (w__law_are_numbers_right_b3_t4_s1) (w__law_are_numbers_right_b3_t4_r2)
def w__law_are_numbers_right_b3_t4_s0 : WS := (sSet 11 (wCall ct__law_any (wA1 (wVar 0) (wA1 (wVar 6) wA0))))
@[irreducible] def w__law_are_numbers_right_b3_t4_r0 : WS := sSeq (w__law_are_numbers_right_b3_t4_s0) (w__law_are_numbers_right_b3_t4_r1)
@[irreducible] def w__law_are_numbers_right_b3_r6 : WS := (sIf (wNotT (wB (wCall (ct__law_same 4) (wA1 (wCall ct_most_lodged (wA1 (wVar 13) (wA1 (wUn fRgT (wVar 8)) wA0))) (wA1 (wArgF fMin2 (wA1 (wVar 3) (wA1 (wVar 8) wA0))) wA0))))) (sRet (wC (.bl false))) sNext)
def w__law_are_numbers_right_b3_s5 : WS := (sSet 13 (wCall ct_House (wA1 (wVar 3) (wA1 (wBin fMul (wTup (wA1 (wUn fRgT (wVar 3)) wA0)) (wVar 8)) wA0))))
@[irreducible] def w__law_are_numbers_right_b3_r5 : WS := sSeq (w__law_are_numbers_right_b3_s5) (w__law_are_numbers_right_b3_r6)
def w__law_are_numbers_right_b3_s4 : WS := (sIf (wB (wBin (vB cGt) (wUn fLen (wVar 6)) (wC (.int 0)))) (w__law_are_numbers_right_b3_t4_r0) sNext)
@[irreducible] def w__law_are_numbers_right_b3_r4 : WS := sSeq (w__law_are_numbers_right_b3_s4) (w__law_are_numbers_right_b3_r5)
def w__law_are_numbers_right_b3_s3 : WS := (sIf (wNotT (wB (wCall (ct__law_same 4) (wA1 (wFz (wLst (wA1 (wCall ct_most_lodged (wA1 (wVar 5) (wA1 (wVar 6) wA0))) (wA1 (wCall ct_most_lodged (wA1 (wVar 5) (wA1 (wVar 9) wA0))) (wA1 (wCall ct_most_lodged (wA1 (wVar 5) (wA1 (wVar 6) wA0))) wA0))))) (wA1 (wBin fAdd (wVar 10) (wSl fSlice (wVar 10) wO0 (wO1 (wC (.int 1))))) wA0))))) (sRet (wC (.bl false))) sNext)
@[irreducible] def w__law_are_numbers_right_b3_r3 : WS := sSeq (w__law_are_numbers_right_b3_s3) (w__law_are_numbers_right_b3_r4)
def w__law_are_numbers_right_b3_s2 : WS := (sSet 10 (wFz (wLst (wA1 (wCall ct__law_most (wA1 (wVar 4) (wA1 (wVar 6) wA0))) (wA1 (wCall ct__law_most (wA1 (wVar 4) (wA1 (wVar 9) wA0))) wA0)))))
@[irreducible] def w__law_are_numbers_right_b3_r2 : WS := sSeq (w__law_are_numbers_right_b3_s2) (w__law_are_numbers_right_b3_r3)
def w__law_are_numbers_right_b3_s1 : WS := (sPar [(5, .v (wCall ct_House (wA1 (wVar 3) (wA1 (wVar 4) wA0)))), (6, .v (wCall ct__law_row (wA1 (wVar 0) (wA1 (wUn fLen (wVar 4)) wA0)))), (9, .v (wCall ct__law_row (wA1 (wVar 0) (wA1 (wUn fLen (wVar 4)) wA0))))])
@[irreducible] def w__law_are_numbers_right_b3_r1 : WS := sSeq (w__law_are_numbers_right_b3_s1) (w__law_are_numbers_right_b3_r2)
def w__law_are_numbers_right_b3_s0 : WS := (sAsg (kTup [(kName 3), (kName 4)]) (wCall ct__law_house (wA1 (wVar 0) (wA1 (wVar 3) (wA1 (wVar 8) wA0)))))
@[irreducible] def w__law_are_numbers_right_b3_r0 : WS := sSeq (w__law_are_numbers_right_b3_s0) (w__law_are_numbers_right_b3_r1)
@[irreducible] def w__law_are_numbers_right_r4 : WS := (sRet (wC (.bl true)))
def w__law_are_numbers_right_s3 : WS := (sFor (wiSeq (wFz (wLst (wA1 (wTup (wA1 (wC (.int 8)) (wA1 (wC (.int 9)) wA0))) (wA1 (wTup (wA1 (wC (.int 24)) (wA1 (wC (.int 24)) wA0))) (wA1 (wTup (wA1 (wCall ct__law_draw (wA1 (wVar 0) (wA1 (wC (.int 25)) wA0))) (wA1 (wCall ct__law_draw (wA1 (wVar 0) (wA1 (wC (.int 25)) wA0))) wA0))) wA0)))))) (kTup [(kName 3), (kName 8)]) (w__law_are_numbers_right_b3_r0))
@[irreducible] def w__law_are_numbers_right_r3 : WS := sSeq (w__law_are_numbers_right_s3) (w__law_are_numbers_right_r4)
def w__law_are_numbers_right_s2 : WS := (sFor (wiArgs fRange1 (wA1 (wC (.int 3)) wA0)) (kName 2) (w__law_are_numbers_right_b2_r0))
@[irreducible] def w__law_are_numbers_right_r2 : WS := sSeq (w__law_are_numbers_right_s2) (w__law_are_numbers_right_r3)
def w__law_are_numbers_right_s1 : WS := (sIf (wNotT (wB (wUn fAll (wFz (wLc (wiSeq (wVar 1)) (kTup [(kName 5), (kName 6), (kName 10)]) wTrue (wCall (ct__law_same 4) (wA1 (wCall ct_most_lodged (wA1 (wCall ct_House (wA1 (wBin fIx (wVar 5) (wC (.int 0))) (wA1 (wBin fIx (wVar 5) (wC (.int 1))) wA0))) (wA1 (wVar 6) wA0))) (wA1 (wVar 10) wA0))) [5, 6, 10]))))) (sRet (wC (.bl false))) sNext)
@[irreducible] def w__law_are_numbers_right_r1 : WS := sSeq (w__law_are_numbers_right_s1) (w__law_are_numbers_right_r2)
def w__law_are_numbers_right_s0 : WS := (sSet 1 (wFz (wLst (wA1 (wTup (wA1 (wTup (wA1 (wC (.int 4)) (wA1 (wTup (wA1 (wTup (wA1 (wC (.int 0)) (wA1 (wC (.int 1)) wA0))) (wA1 (wTup (wA1 (wC (.int 1)) (wA1 (wC (.int 2)) wA0))) (wA1 (wTup (wA1 (wC (.int 2)) (wA1 (wC (.int 3)) wA0))) wA0)))) wA0))) (wA1 (wTup (wA1 (wC (.int 0)) (wA1 (wC (.int 1)) (wA1 (wC (.int 2)) wA0)))) (wA1 (wC (.int 3)) wA0)))) (wA1 (wTup (wA1 (wTup (wA1 (wC (.int 2)) (wA1 (wTup (wA1 (wTup (wA1 (wC (.int 0)) wA0)) (wA1 (wTup (wA1 (wC (.int 0)) wA0)) (wA1 (wTup (wA1 (wC (.int 0)) (wA1 (wC (.int 1)) wA0))) wA0)))) wA0))) (wA1 (wTup (wA1 (wC (.int 0)) (wA1 (wC (.int 1)) (wA1 (wC (.int 2)) wA0)))) (wA1 (wC (.int 2)) wA0)))) (wA1 (wTup (wA1 (wTup (wA1 (wC (.int 2)) (wA1 (wTup (wA1 (wTup (wA1 (wC (.int 0)) wA0)) (wA1 (wTup (wA1 (wC (.int 0)) wA0)) (wA1 (wTup (wA1 (wC (.int 0)) (wA1 (wC (.int 1)) wA0))) wA0)))) wA0))) (wA1 (wTup (wA1 (wC (.int 0)) (wA1 (wC (.int 1)) wA0))) (wA1 (wC (.int 1)) wA0)))) (wA1 (wTup (wA1 (wTup (wA1 (wC (.int 0)) (wA1 (wTup (wA1 (wTup wA0) wA0)) wA0))) (wA1 (wTup (wA1 (wC (.int 0)) wA0)) (wA1 (wC (.int 0)) wA0)))) wA0)))))))
@[irreducible] def w__law_are_numbers_right_r0 : WS := sSeq (w__law_are_numbers_right_s0) (w__law_are_numbers_right_r1)
def w__law_are_numbers_right : WS := (sSeq (sSet 1 (wFz (wLst (wA1 (wTup (wA1 (wTup (wA1 (wC (.int 4)) (wA1 (wTup (wA1 (wTup (wA1 (wC (.int 0)) (wA1 (wC (.int 1)) wA0))) (wA1 (wTup (wA1 (wC (.int 1)) (wA1 (wC (.int 2)) wA0))) (wA1 (wTup (wA1 (wC (.int 2)) (wA1 (wC (.int 3)) wA0))) wA0)))) wA0))) (wA1 (wTup (wA1 (wC (.int 0)) (wA1 (wC (.int 1)) (wA1 (wC (.int 2)) wA0)))) (wA1 (wC (.int 3)) wA0)))) (wA1 (wTup (wA1 (wTup (wA1 (wC (.int 2)) (wA1 (wTup (wA1 (wTup (wA1 (wC (.int 0)) wA0)) (wA1 (wTup (wA1 (wC (.int 0)) wA0)) (wA1 (wTup (wA1 (wC (.int 0)) (wA1 (wC (.int 1)) wA0))) wA0)))) wA0))) (wA1 (wTup (wA1 (wC (.int 0)) (wA1 (wC (.int 1)) (wA1 (wC (.int 2)) wA0)))) (wA1 (wC (.int 2)) wA0)))) (wA1 (wTup (wA1 (wTup (wA1 (wC (.int 2)) (wA1 (wTup (wA1 (wTup (wA1 (wC (.int 0)) wA0)) (wA1 (wTup (wA1 (wC (.int 0)) wA0)) (wA1 (wTup (wA1 (wC (.int 0)) (wA1 (wC (.int 1)) wA0))) wA0)))) wA0))) (wA1 (wTup (wA1 (wC (.int 0)) (wA1 (wC (.int 1)) wA0))) (wA1 (wC (.int 1)) wA0)))) (wA1 (wTup (wA1 (wTup (wA1 (wC (.int 0)) (wA1 (wTup (wA1 (wTup wA0) wA0)) wA0))) (wA1 (wTup (wA1 (wC (.int 0)) wA0)) (wA1 (wC (.int 0)) wA0)))) wA0)))))))
  (sSeq (sIf (wNotT (wB (wUn fAll (wFz (wLc (wiSeq (wVar 1)) (kTup [(kName 5), (kName 6), (kName 10)]) wTrue (wCall (ct__law_same 4) (wA1 (wCall ct_most_lodged (wA1 (wCall ct_House (wA1 (wBin fIx (wVar 5) (wC (.int 0))) (wA1 (wBin fIx (wVar 5) (wC (.int 1))) wA0))) (wA1 (wVar 6) wA0))) (wA1 (wVar 10) wA0))) [5, 6, 10]))))) (sRet (wC (.bl false))) sNext)
  (sSeq (sFor (wiArgs fRange1 (wA1 (wC (.int 3)) wA0)) (kName 2) (sSeq (sAsg (kTup [(kName 3), (kName 4)]) (wCall ct__law_house (wA1 (wVar 0) (wA1 (wBin fAdd (wC (.int 1)) (wCall ct__law_draw (wA1 (wVar 0) (wA1 (wC (.int 4)) wA0)))) (wA1 (wBin fAdd (wC (.int 1)) (wCall ct__law_draw (wA1 (wVar 0) (wA1 (wC (.int 4)) wA0)))) wA0)))))
  (sSeq (sPar [(5, .v (wCall ct_House (wA1 (wVar 3) (wA1 (wVar 4) wA0)))), (6, .v (wCall ct__law_row (wA1 (wVar 0) (wA1 (wUn fLen (wVar 4)) wA0))))])
  (sSeq (sSet 7 (wMaxL (wFz (wLc (wiSeq (wCall ct__law_all_lodgings (wA1 (wTup (wA1 (wVar 3) (wA1 (wVar 4) wA0))) wA0))) (kName 14) wTrue (wUn fLen (wFz (wLc (wiSeq (wVar 6)) (kName 11) (wB (wBin (vB (cNot cIsN)) (wBin fIx (wVar 14) (wVar 11)) (wC .non))) (wVar 11) [11]))) [14]))))
  (sIf (wOrT (wNotT (wB (wCall (ct__law_same 4) (wA1 (wCall ct_most_lodged (wA1 (wVar 5) (wA1 (wVar 6) wA0))) (wA1 (wVar 7) wA0))))) (wB (wBin (vB (cNot cEq)) (wVar 7) (wCall ct__law_most (wA1 (wVar 4) (wA1 (wVar 6) wA0)))))) (sRet (wC (.bl false))) sNext)))))
  (sSeq (sFor (wiSeq (wFz (wLst (wA1 (wTup (wA1 (wC (.int 8)) (wA1 (wC (.int 9)) wA0))) (wA1 (wTup (wA1 (wC (.int 24)) (wA1 (wC (.int 24)) wA0))) (wA1 (wTup (wA1 (wCall ct__law_draw (wA1 (wVar 0) (wA1 (wC (.int 25)) wA0))) (wA1 (wCall ct__law_draw (wA1 (wVar 0) (wA1 (wC (.int 25)) wA0))) wA0))) wA0)))))) (kTup [(kName 3), (kName 8)]) (sSeq (sAsg (kTup [(kName 3), (kName 4)]) (wCall ct__law_house (wA1 (wVar 0) (wA1 (wVar 3) (wA1 (wVar 8) wA0)))))
  (sSeq (sPar [(5, .v (wCall ct_House (wA1 (wVar 3) (wA1 (wVar 4) wA0)))), (6, .v (wCall ct__law_row (wA1 (wVar 0) (wA1 (wUn fLen (wVar 4)) wA0)))), (9, .v (wCall ct__law_row (wA1 (wVar 0) (wA1 (wUn fLen (wVar 4)) wA0))))])
  (sSeq (sSet 10 (wFz (wLst (wA1 (wCall ct__law_most (wA1 (wVar 4) (wA1 (wVar 6) wA0))) (wA1 (wCall ct__law_most (wA1 (wVar 4) (wA1 (wVar 9) wA0))) wA0)))))
  (sSeq (sIf (wNotT (wB (wCall (ct__law_same 4) (wA1 (wFz (wLst (wA1 (wCall ct_most_lodged (wA1 (wVar 5) (wA1 (wVar 6) wA0))) (wA1 (wCall ct_most_lodged (wA1 (wVar 5) (wA1 (wVar 9) wA0))) (wA1 (wCall ct_most_lodged (wA1 (wVar 5) (wA1 (wVar 6) wA0))) wA0))))) (wA1 (wBin fAdd (wVar 10) (wSl fSlice (wVar 10) wO0 (wO1 (wC (.int 1))))) wA0))))) (sRet (wC (.bl false))) sNext)
  (sSeq (sIf (wB (wBin (vB cGt) (wUn fLen (wVar 6)) (wC (.int 0)))) (sSeq (sSet 11 (wCall ct__law_any (wA1 (wVar 0) (wA1 (wVar 6) wA0))))
  (sSeq (sSet 12 (wUn fTuple (wFz (wLc (wiSeq (wVar 6)) (kName 15) (wB (wBin (vB (cNot cEq)) (wVar 15) (wVar 11))) (wVar 15) [15]))))
  (sIf (wOrT (wNotT (wB (wCall (ct__law_same 4) (wA1 (wCall ct_most_lodged (wA1 (wVar 5) (wA1 (wVar 12) wA0))) (wA1 (wCall ct__law_most (wA1 (wVar 4) (wA1 (wVar 12) wA0))) wA0))))) (wB (wBin (vB (cNot cIn)) (wBin fSub (wBin fIx (wVar 10) (wC (.int 0))) (wCall ct__law_most (wA1 (wVar 4) (wA1 (wVar 12) wA0)))) (wTup (wA1 (wC (.int 0)) (wA1 (wC (.int 1)) wA0)))))) (sRet (wC (.bl false))) sNext))) sNext)
  (sSeq (sSet 13 (wCall ct_House (wA1 (wVar 3) (wA1 (wBin fMul (wTup (wA1 (wUn fRgT (wVar 3)) wA0)) (wVar 8)) wA0))))
  (sIf (wNotT (wB (wCall (ct__law_same 4) (wA1 (wCall ct_most_lodged (wA1 (wVar 13) (wA1 (wUn fRgT (wVar 8)) wA0))) (wA1 (wArgF fMin2 (wA1 (wVar 3) (wA1 (wVar 8) wA0))) wA0))))) (sRet (wC (.bl false))) sNext))))))))
  (sRet (wC (.bl true)))))))
theorem wq__law_are_numbers_right : w__law_are_numbers_right = w__law_are_numbers_right_r0 := by with_unfolding_all rfl
@[irreducible] def w__law_is_lodging_r3 : WS := (sRet (wUn fAll (wFz (wLc (wiArgs fEnum (wA1 (wVar 1) wA0)) (kTup [(kName 4), (kName 3)]) wTrue (wOrV (wBin (vB cIsN) (wVar 3) (wC .non)) (wBin (vB cIn) (wVar 3) (wBin fIx (wBin fIx (wVar 0) (wC (.int 1))) (wVar 4)))) [4, 3]))))
def w__law_is_lodging_s2 : WS := (sIf (wOrT (wNotT (wB (wUn fAll (wFz (wLc (wiSeq (wVar 2)) (kName 3) wTrue (wAndV (wUn (fIs [0] [.int]) (wVar 3)) (wNotV (wUn (fIs [0] [.bool]) (wVar 3)))) [3]))))) (wB (wBin (vB cLt) (wUn fLenSet (wVar 2)) (wUn fLen (wVar 2))))) (sRet (wC (.bl false))) sNext)
@[irreducible] def w__law_is_lodging_r2 : WS := sSeq (w__law_is_lodging_s2) (w__law_is_lodging_r3)
def w__law_is_lodging_s1 : WS := (sSet 2 (wFz (wLc (wiSeq (wVar 1)) (kName 3) (wB (wBin (vB (cNot cIsN)) (wVar 3) (wC .non))) (wVar 3) [3])))
@[irreducible] def w__law_is_lodging_r1 : WS := sSeq (w__law_is_lodging_s1) (w__law_is_lodging_r2)
def w__law_is_lodging_s0 : WS := (sIf (wOrT (wNotT (wB (wUn (fIs [0] [.tuple]) (wVar 1)))) (wB (wBin (vB (cNot cEq)) (wUn fLen (wVar 1)) (wUn fLen (wBin fIx (wVar 0) (wC (.int 1))))))) (sRet (wC (.bl false))) sNext)
@[irreducible] def w__law_is_lodging_r0 : WS := sSeq (w__law_is_lodging_s0) (w__law_is_lodging_r1)
def w__law_is_lodging : WS := (sSeq (sIf (wOrT (wNotT (wB (wUn (fIs [0] [.tuple]) (wVar 1)))) (wB (wBin (vB (cNot cEq)) (wUn fLen (wVar 1)) (wUn fLen (wBin fIx (wVar 0) (wC (.int 1))))))) (sRet (wC (.bl false))) sNext)
  (sSeq (sSet 2 (wFz (wLc (wiSeq (wVar 1)) (kName 3) (wB (wBin (vB (cNot cIsN)) (wVar 3) (wC .non))) (wVar 3) [3])))
  (sSeq (sIf (wOrT (wNotT (wB (wUn fAll (wFz (wLc (wiSeq (wVar 2)) (kName 3) wTrue (wAndV (wUn (fIs [0] [.int]) (wVar 3)) (wNotV (wUn (fIs [0] [.bool]) (wVar 3)))) [3]))))) (wB (wBin (vB cLt) (wUn fLenSet (wVar 2)) (wUn fLen (wVar 2))))) (sRet (wC (.bl false))) sNext)
  (sRet (wUn fAll (wFz (wLc (wiArgs fEnum (wA1 (wVar 1) wA0)) (kTup [(kName 4), (kName 3)]) wTrue (wOrV (wBin (vB cIsN) (wVar 3) (wC .non)) (wBin (vB cIn) (wVar 3) (wBin fIx (wBin fIx (wVar 0) (wC (.int 1))) (wVar 4)))) [4, 3])))))))
theorem wq__law_is_lodging : w__law_is_lodging = w__law_is_lodging_r0 := by with_unfolding_all rfl
@[irreducible] def w__law_is_told_r4 : WS := (sRet (wCall (ct__law_same 4) (wA1 (wFz (wLst (wA1 (wCall ct_can_lodge (wA1 (wVar 2) (wA1 (wVar 1) wA0))) (wA1 (wCall ct_most_lodged (wA1 (wVar 2) (wA1 (wVar 1) wA0))) wA0)))) (wA1 (wFz (wLst (wA1 (wBin (vB cEq) (wVar 4) (wUn fLen (wVar 1))) (wA1 (wVar 4) wA0)))) wA0))))
def w__law_is_told_s3 : WS := (sIf (wOrT (wB (wBin (vB (cNot cEq)) (wUn fLen (wVar 5)) (wVar 4))) (wNotT (wB (wUn fAll (wFz (wLc (wiSeq (wVar 5)) (kName 6) wTrue (wBin (vB cIn) (wVar 6) (wVar 1)) [6])))))) (sRet (wC (.bl false))) sNext)
@[irreducible] def w__law_is_told_r3 : WS := sSeq (w__law_is_told_s3) (w__law_is_told_r4)
def w__law_is_told_s2 : WS := (sSet 5 (wFz (wLc (wiArgs fEnum (wA1 (wVar 3) wA0)) (kTup [(kName 6), (kName 7)]) (wB (wBin (vB (cNot cIsN)) (wVar 7) (wC .non))) (wVar 6) [6, 7])))
@[irreducible] def w__law_is_told_r2 : WS := sSeq (w__law_is_told_s2) (w__law_is_told_r3)
def w__law_is_told_s1 : WS := (sIf (wOrT (wNotT (wB (wCall ct__law_is_lodging (wA1 (wVar 0) (wA1 (wVar 3) wA0))))) (wB (wBin (vB (cNot cIsB)) (wCall ct_is_lodging (wA1 (wVar 2) (wA1 (wVar 3) wA0))) (wC (.bl true))))) (sRet (wC (.bl false))) sNext)
@[irreducible] def w__law_is_told_r1 : WS := sSeq (w__law_is_told_s1) (w__law_is_told_r2)
def w__law_is_told_s0 : WS := (sPar [(2, .v (wCall ct_House (wA1 (wBin fIx (wVar 0) (wC (.int 0))) (wA1 (wBin fIx (wVar 0) (wC (.int 1))) wA0)))), (3, .v (wCall ct_lodged (wA1 (wCall ct_House (wA1 (wBin fIx (wVar 0) (wC (.int 0))) (wA1 (wBin fIx (wVar 0) (wC (.int 1))) wA0))) (wA1 (wVar 1) wA0)))), (4, .v (wCall ct__law_most (wA1 (wBin fIx (wVar 0) (wC (.int 1))) (wA1 (wVar 1) wA0))))])
@[irreducible] def w__law_is_told_r0 : WS := sSeq (w__law_is_told_s0) (w__law_is_told_r1)
def w__law_is_told : WS := (sSeq (sPar [(2, .v (wCall ct_House (wA1 (wBin fIx (wVar 0) (wC (.int 0))) (wA1 (wBin fIx (wVar 0) (wC (.int 1))) wA0)))), (3, .v (wCall ct_lodged (wA1 (wCall ct_House (wA1 (wBin fIx (wVar 0) (wC (.int 0))) (wA1 (wBin fIx (wVar 0) (wC (.int 1))) wA0))) (wA1 (wVar 1) wA0)))), (4, .v (wCall ct__law_most (wA1 (wBin fIx (wVar 0) (wC (.int 1))) (wA1 (wVar 1) wA0))))])
  (sSeq (sIf (wOrT (wNotT (wB (wCall ct__law_is_lodging (wA1 (wVar 0) (wA1 (wVar 3) wA0))))) (wB (wBin (vB (cNot cIsB)) (wCall ct_is_lodging (wA1 (wVar 2) (wA1 (wVar 3) wA0))) (wC (.bl true))))) (sRet (wC (.bl false))) sNext)
  (sSeq (sSet 5 (wFz (wLc (wiArgs fEnum (wA1 (wVar 3) wA0)) (kTup [(kName 6), (kName 7)]) (wB (wBin (vB (cNot cIsN)) (wVar 7) (wC .non))) (wVar 6) [6, 7])))
  (sSeq (sIf (wOrT (wB (wBin (vB (cNot cEq)) (wUn fLen (wVar 5)) (wVar 4))) (wNotT (wB (wUn fAll (wFz (wLc (wiSeq (wVar 5)) (kName 6) wTrue (wBin (vB cIn) (wVar 6) (wVar 1)) [6])))))) (sRet (wC (.bl false))) sNext)
  (sRet (wCall (ct__law_same 4) (wA1 (wFz (wLst (wA1 (wCall ct_can_lodge (wA1 (wVar 2) (wA1 (wVar 1) wA0))) (wA1 (wCall ct_most_lodged (wA1 (wVar 2) (wA1 (wVar 1) wA0))) wA0)))) (wA1 (wFz (wLst (wA1 (wBin (vB cEq) (wVar 4) (wUn fLen (wVar 1))) (wA1 (wVar 4) wA0)))) wA0))))))))
theorem wq__law_is_told : w__law_is_told = w__law_is_told_r0 := by with_unfolding_all rfl
@[irreducible] def w__law_are_lodgings_right_b2_b1_r0 : WS := (sIf (wNotT (wB (wCall ct__law_is_told (wA1 (wVar 4) (wA1 (wVar 5) wA0))))) (sRet (wC (.bl false))) sNext)
@[irreducible] def w__law_are_lodgings_right_b2_r1 : WS := (sFor (wiSeq (wFz (wLst (wA1 (wUn fRgT (wUn fLen (wBin fIx (wVar 4) (wC (.int 1))))) (wA1 (wCall ct__law_row (wA1 (wVar 0) (wA1 (wUn fLen (wBin fIx (wVar 4) (wC (.int 1)))) wA0))) (wA1 (wCall ct__law_row (wA1 (wVar 0) (wA1 (wUn fLen (wBin fIx (wVar 4) (wC (.int 1)))) wA0))) (wA1 (wTup wA0) wA0))))))) (kName 5) (w__law_are_lodgings_right_b2_b1_r0))
def w__law_are_lodgings_right_b2_s0 : WS := (sSet 4 (wCall ct__law_house (wA1 (wVar 0) (wA1 (wVar 2) (wA1 (wVar 3) wA0)))))
@[irreducible] def w__law_are_lodgings_right_b2_r0 : WS := sSeq (w__law_are_lodgings_right_b2_s0) (w__law_are_lodgings_right_b2_r1)
@[irreducible] def w__law_are_lodgings_right_r3 : WS := (sRet (wC (.bl true)))
def w__law_are_lodgings_right_s2 : WS := (sFor (wiSeq (wFz (wLst (wA1 (wTup (wA1 (wC (.int 3)) (wA1 (wC (.int 3)) wA0))) (wA1 (wTup (wA1 (wC (.int 6)) (wA1 (wC (.int 5)) wA0))) (wA1 (wTup (wA1 (wC (.int 12)) (wA1 (wC (.int 14)) wA0))) (wA1 (wTup (wA1 (wC (.int 24)) (wA1 (wC (.int 24)) wA0))) (wA1 (wTup (wA1 (wCall ct__law_draw (wA1 (wVar 0) (wA1 (wC (.int 25)) wA0))) (wA1 (wCall ct__law_draw (wA1 (wVar 0) (wA1 (wC (.int 25)) wA0))) wA0))) wA0)))))))) (kTup [(kName 2), (kName 3)]) (w__law_are_lodgings_right_b2_r0))
@[irreducible] def w__law_are_lodgings_right_r2 : WS := sSeq (w__law_are_lodgings_right_s2) (w__law_are_lodgings_right_r3)
def w__law_are_lodgings_right_s1 : WS := (sIf (wNotT (wB (wUn fAll (wFz (wLc (wiSeq (wTup (wA1 (wTup wA0) (wA1 (wTup (wA1 (wC (.int 0)) wA0)) (wA1 (wTup (wA1 (wC (.int 0)) (wA1 (wC (.int 1)) wA0))) (wA1 (wTup (wA1 (wC (.int 1)) (wA1 (wC (.int 2)) wA0))) (wA1 (wTup (wA1 (wC (.int 0)) (wA1 (wC (.int 1)) (wA1 (wC (.int 2)) wA0)))) wA0))))))) (kName 5) wTrue (wCall ct__law_is_told (wA1 (wVar 1) (wA1 (wVar 5) wA0))) [5]))))) (sRet (wC (.bl false))) sNext)
@[irreducible] def w__law_are_lodgings_right_r1 : WS := sSeq (w__law_are_lodgings_right_s1) (w__law_are_lodgings_right_r2)
def w__law_are_lodgings_right_s0 : WS := (sSet 1 (wTup (wA1 (wC (.int 2)) (wA1 (wTup (wA1 (wTup (wA1 (wC (.int 0)) wA0)) (wA1 (wTup (wA1 (wC (.int 0)) wA0)) (wA1 (wTup (wA1 (wC (.int 0)) (wA1 (wC (.int 1)) wA0))) wA0)))) wA0))))
@[irreducible] def w__law_are_lodgings_right_r0 : WS := sSeq (w__law_are_lodgings_right_s0) (w__law_are_lodgings_right_r1)
def w__law_are_lodgings_right : WS := (sSeq (sSet 1 (wTup (wA1 (wC (.int 2)) (wA1 (wTup (wA1 (wTup (wA1 (wC (.int 0)) wA0)) (wA1 (wTup (wA1 (wC (.int 0)) wA0)) (wA1 (wTup (wA1 (wC (.int 0)) (wA1 (wC (.int 1)) wA0))) wA0)))) wA0))))
  (sSeq (sIf (wNotT (wB (wUn fAll (wFz (wLc (wiSeq (wTup (wA1 (wTup wA0) (wA1 (wTup (wA1 (wC (.int 0)) wA0)) (wA1 (wTup (wA1 (wC (.int 0)) (wA1 (wC (.int 1)) wA0))) (wA1 (wTup (wA1 (wC (.int 1)) (wA1 (wC (.int 2)) wA0))) (wA1 (wTup (wA1 (wC (.int 0)) (wA1 (wC (.int 1)) (wA1 (wC (.int 2)) wA0)))) wA0))))))) (kName 5) wTrue (wCall ct__law_is_told (wA1 (wVar 1) (wA1 (wVar 5) wA0))) [5]))))) (sRet (wC (.bl false))) sNext)
  (sSeq (sFor (wiSeq (wFz (wLst (wA1 (wTup (wA1 (wC (.int 3)) (wA1 (wC (.int 3)) wA0))) (wA1 (wTup (wA1 (wC (.int 6)) (wA1 (wC (.int 5)) wA0))) (wA1 (wTup (wA1 (wC (.int 12)) (wA1 (wC (.int 14)) wA0))) (wA1 (wTup (wA1 (wC (.int 24)) (wA1 (wC (.int 24)) wA0))) (wA1 (wTup (wA1 (wCall ct__law_draw (wA1 (wVar 0) (wA1 (wC (.int 25)) wA0))) (wA1 (wCall ct__law_draw (wA1 (wVar 0) (wA1 (wC (.int 25)) wA0))) wA0))) wA0)))))))) (kTup [(kName 2), (kName 3)]) (sSeq (sSet 4 (wCall ct__law_house (wA1 (wVar 0) (wA1 (wVar 2) (wA1 (wVar 3) wA0)))))
  (sFor (wiSeq (wFz (wLst (wA1 (wUn fRgT (wUn fLen (wBin fIx (wVar 4) (wC (.int 1))))) (wA1 (wCall ct__law_row (wA1 (wVar 0) (wA1 (wUn fLen (wBin fIx (wVar 4) (wC (.int 1)))) wA0))) (wA1 (wCall ct__law_row (wA1 (wVar 0) (wA1 (wUn fLen (wBin fIx (wVar 4) (wC (.int 1)))) wA0))) (wA1 (wTup wA0) wA0))))))) (kName 5) (sIf (wNotT (wB (wCall ct__law_is_told (wA1 (wVar 4) (wA1 (wVar 5) wA0))))) (sRet (wC (.bl false))) sNext))))
  (sRet (wC (.bl true))))))
theorem wq__law_are_lodgings_right : w__law_are_lodgings_right = w__law_are_lodgings_right_r0 := by with_unfolding_all rfl
@[irreducible] def w_law_r0 : WS := (sRet (wAndV (wCall ct__law_are_numbers_right (wA1 (wVar 1) wA0)) (wCall ct__law_are_lodgings_right (wA1 (wVar 1) wA0))))
def w_law : WS := (sRet (wAndV (wCall ct__law_are_numbers_right (wA1 (wVar 1) wA0)) (wCall ct__law_are_lodgings_right (wA1 (wVar 1) wA0))))
theorem wq_law : w_law = w_law_r0 := by with_unfolding_all rfl
end K24
end K24r_

section K24s_
set_option maxRecDepth 100000
set_option maxHeartbeats 1000000
namespace K24
open LW Mt
theorem in_lo (l : LO) (c : Int) : cIn (.int c) (loD l) = some (l.contains (some c)) := by
  have h1 : (l.map bD).all flatD = true := by
    rw [List.all_eq_true]
    intro x hx
    obtain ⟨o, _, rfl⟩ := List.mem_map.mp hx
    cases o <;> rfl
  have h2 : (l.map bD).any (fun y => eqF y (.int c)) = l.contains (some c) := by
    induction l with
    | nil => rfl
    | cons o l ih =>
      have ih := ih (by rw [List.map_cons, List.all_cons] at h1; exact (Bool.and_eq_true _ _ ▸ h1).2)
      rw [List.map_cons, List.any_cons, ih, List.contains_cons]
      congr 1
      cases o with
      | none => rfl
      | some d =>
        show (d == c) = (some c == some d)
        rw [Bool.eq_iff_iff, beq_iff_eq, beq_iff_eq]
        exact ⟨fun h => by rw [h], fun h => (Option.some.inj h).symm⟩
  show (if (flatD (.int c) && (l.map bD).all flatD) = true then some ((l.map bD).any fun y => eqF y (.int c)) else none) = _
  rw [h1, h2]
  rfl
theorem lo_app (l : LO) (o : Option Int) (h : l.length ≤ 1000) : fAdd (loD l) (.tup [bD o]) = some (loD (l ++ [o])) := by
  show (if (l.map bD).length + 1 ≤ SZ then some (D.tup (l.map bD ++ [bD o])) else none) = _
  rw [List.length_map, if_pos (Nat.le_trans (show l.length + 1 ≤ 2000 by omega) (by decide))]
  simp [loD]
theorem addL {xs ys : List D} (h : xs.length + ys.length ≤ 100000) : fAdd (.lst xs) (.lst ys) = some (.lst (xs ++ ys)) := by
  show (if xs.length + ys.length ≤ SZ then some (D.lst (xs ++ ys)) else none) = _
  rw [if_pos (Nat.le_trans h (by decide))]
theorem allL_len : ∀ rows : List (List Int), (∀ r ∈ rows, r.length ≤ 4) → (allL rows).length ≤ 5 ^ rows.length := by
  refine rev_ind ?_ ?_
  · intro _; simp [allL]
  · intro rows r ih h
    have ih := ih fun s hs => h s (by simp [hs])
    have := step_len (h r (by simp)) (allL rows)
    rw [allL_snoc, List.length_append, Nat.pow_add]
    have : (allL rows).length * 5 ≤ 5 ^ rows.length * 5 := Nat.mul_le_mul_right _ ih
    simp only [List.length_cons, List.length_nil]
    omega
theorem step_snoc (acc : List LO) (l : LO) (r : List Int) : step (acc ++ [l]) r = step acc r ++ more r l := by simp [step]
theorem more_body {Z : Ds} {E : KE} {h : D} {r : List Int} {l : LO} {acc : List LO} {s1 : Slot} (rl : r.length ≤ 4) (ll : l.length ≤ 10) (al : acc.length ≤ 5000) (nx : Z.nx [.val h, s1, .val (rowD r), .val (.lst ((acc ++ more r l).map loD)), .val (loD l), .un]) :
    w__law_all_lodgings_b1_b1_r0 Z [.val h, s1, .val (rowD r), .val (.lst (acc.map loD)), .val (loD l), .un] E := by
  unfold w__law_all_lodgings_b1_b1_r0
  ((conv => whnf); (repeat (refine ⟨le_sz rfl, ?_⟩; conv => whnf)))
  refine on_some (show fAdd (loD l) (.tup [.non]) = _ from lo_app l none (by omega)) ?_
  ((conv => whnf); (repeat (refine ⟨le_sz rfl, ?_⟩; conv => whnf)))
  refine on_some (addL (xs := acc.map loD) (ys := [loD (l ++ [none])]) (by simp; omega)) ?_
  (conv => whnf)
  refine ⟨⟨trivial, trivial⟩, lc_filtH (fun | .int c => !(l.contains (some c)) | _ => false) (fun | .int c => loD (l ++ [some c]) | _ => .non) (fun x hx => ?_) (by rw [List.length_map]; exact Nat.le_trans rl (by decide)) ?_⟩
  · obtain ⟨c, hc, rfl⟩ := List.mem_map.mp hx
    refine ⟨_, rfl, ⟨trivial, trivial⟩, rfl, fun Qt hk => ?_, fun Qk _ hk => ?_⟩
    · (conv => whnf)
      refine on_some (show vB (cNot cIn) (.int c) (loD l) = some (.bl (!(l.contains (some c)))) from by unfold vB cNot; rw [in_lo]; rfl) ?_
      exact hk
    · ((conv => whnf); (repeat (refine ⟨le_sz rfl, ?_⟩; conv => whnf)))
      refine on_some (show fAdd (loD l) (.tup [.int c]) = _ from lo_app l (some c) (by omega)) ?_
      exact hk
  · have e1 : (((r.map D.int).filter (fun | .int c => !(l.contains (some c)) | _ => false)).map (fun | .int c => loD (l ++ [some c]) | _ => D.non)) = ((r.filter fun c => !(l.contains (some c))).map fun c => l ++ [some c]).map loD := by
      rw [List.filter_map, List.map_map, List.map_map]
      rfl
    rw [e1]
    have fl : (r.filter fun c => !(l.contains (some c))).length ≤ r.length := List.length_filter_le _ _
    (conv => whnf)
    refine on_some (show fAdd (.lst (acc.map loD ++ [loD (l ++ [none])])) (.lst _) = _ from addL (by simp only [List.length_append, List.length_map, List.length_cons, List.length_nil]; omega)) ?_
    have e2 : acc.map loD ++ [loD (l ++ [none])] ++ ((r.filter fun c => !(l.contains (some c))).map fun c => l ++ [some c]).map loD = (acc ++ more r l).map loD := by simp [more]
    rw [e2]
    exact nx
theorem all_go {q e : D → Prop} {b : Int} {rows : List (List Int)} (H : HOk b rows) (hb : b ≤ 4) (hr : rows.length ≤ 4) (hq : q (.lst ((allL rows).map loD))) : fnW 5 w__law_all_lodgings_r0 [hT b rows] q e := by
  have rl : ∀ r ∈ rows, r.length ≤ 4 := fun r hm => by have := row_len (H.inc r hm) (H.rng r hm); omega
  unfold w__law_all_lodgings_r0
  ((conv => whnf); (repeat (refine ⟨le_sz rfl, ?_⟩; conv => whnf)))
  unfold w__law_all_lodgings_r1
  (conv => whnf)
  refine for_pre (fun ds e => ∃ (done : List (List Int)) (s2 s3 s4 : Slot), ds = rowsD done ∧ e = [.val (hT b rows), .val (.lst ((allL done).map loD)), s2, s3, s4, .un]) ⟨[], .un, .un, .un, rfl, rfl⟩ ?_ ?_
  · rintro ds x rest e hi ⟨done, s2, s3, s4, rfl, rfl⟩ Zk hk
    obtain ⟨l1, r, l3, e1, e2, rfl⟩ := split_map (f := rowD) (ps := rows) hi
    have e2 : l1 = done := by
      have inj : ∀ a b : List (List Int), a.map rowD = b.map rowD → a = b := by
        intro a
        induction a with
        | nil => intro b h; cases b with
          | nil => rfl
          | cons _ _ => cases h
        | cons x a ih => intro b h; cases b with
          | nil => cases h
          | cons y b =>
            rw [List.map_cons, List.map_cons] at h
            have h1 := (List.cons.inj h).1
            have h2 := (List.cons.inj h).2
            rw [ih b h2]
            have : x.map D.int = y.map D.int := D.tup.inj h1
            rw [int_map_inj this]
      exact (inj _ _ e2).symm
    subst e2
    have dl : l1.length ≤ 3 := by have := hr; rw [e1, List.length_append, List.length_cons] at this; omega
    have al := allL_len l1 fun s hs => rl s (by rw [e1]; simp [hs])
    have al : (allL l1).length ≤ 125 := Nat.le_trans al (Nat.le_trans (Nat.pow_le_pow_right (by decide) dl) (by decide))
    have hrl := rl r (by rw [e1]; simp)
    refine ⟨_, rfl, ?_⟩
    unfold w__law_all_lodgings_b1_r0
    ((conv => whnf); (repeat (refine ⟨le_sz rfl, ?_⟩; conv => whnf)))
    unfold w__law_all_lodgings_b1_r1
    (conv => whnf)
    refine for_pre (fun ds e => ∃ (dn : List LO) (s4 : Slot), ds = dn.map loD ∧ (∃ t, allL l1 = dn ++ t) ∧ e = [.val (hT b rows), .val (.lst ((allL l1).map loD)), .val (rowD r), .val (.lst ((step dn r).map loD)), s4, .un]) ⟨[], _, rfl, ⟨_, rfl⟩, rfl⟩ ?_ ?_
    · rintro ds x rest e hi ⟨dn, s4, rfl, ⟨t, ht⟩, rfl⟩ Zk hk2
      obtain ⟨l, t', rfl⟩ : ∃ l t', t = l :: t' := by
        cases t with
        | nil =>
          rw [List.append_nil] at ht
          rw [ht] at hi
          have := congrArg List.length hi
          simp at this
        | cons l t' => exact ⟨l, t', rfl⟩
      have ex : x = loD l := by
        rw [ht, List.map_append, List.map_cons] at hi
        have := List.append_cancel_left hi
        exact (List.cons.inj this).1.symm
      subst ex
      have dl2 : dn.length ≤ 125 := by rw [ht, List.length_append] at al; omega
      have sl := step_len hrl dn
      have ll := (loOk_all l1 l (by rw [ht]; simp)).len
      refine ⟨_, rfl, ?_⟩
      exact more_body hrl (by omega) (by omega) (hk2 _ ⟨dn ++ [l], _, by simp, ⟨t', by rw [ht]; simp⟩, by rw [step_snoc]⟩)
    · rintro e ⟨dn, s4, hd, ⟨t, ht⟩, rfl⟩
      have : dn = allL l1 := by
        have := congrArg List.length hd
        rw [ht] at this ⊢
        simp at this
        cases t with
        | nil => simp
        | cons _ _ => simp at this
      subst this
      unfold w__law_all_lodgings_b1_r2
      (conv => whnf)
      refine hk _ ⟨l1 ++ [r], .val (rowD r), .val (.lst ((step (allL l1) r).map loD)), s4, by simp [rowsD], ?_⟩
      rw [allL_snoc]
      rfl
  · rintro e ⟨done, s2, s3, s4, hd, rfl⟩
    have hd : rows = done := by
      have inj : ∀ a b : List (List Int), a.map rowD = b.map rowD → a = b := by
        intro a
        induction a with
        | nil => intro b h; cases b with
          | nil => rfl
          | cons _ _ => cases h
        | cons x a ih => intro b h; cases b with
          | nil => cases h
          | cons y b =>
            rw [List.map_cons, List.map_cons] at h
            have h1 := (List.cons.inj h).1
            have h2 := (List.cons.inj h).2
            rw [ih b h2]
            have : x.map D.int = y.map D.int := D.tup.inj h1
            rw [int_map_inj this]
      exact inj _ _ hd
    subst hd
    unfold w__law_all_lodgings_r2
    (conv => whnf)
    exact hq
theorem sp__law_all_lodgings (ds q e) (h : ct__law_all_lodgings ds q e) : fnW 5 w__law_all_lodgings ds q e := by
  obtain ⟨b, rows, rfl, H, hb, hr, hq⟩ := h
  rw [wq__law_all_lodgings]
  exact all_go H hb hr hq
theorem fIsT (x : D) (us : List Ty) (h : noObj x = true) : fIs [0] us x = some (.bl (us.any (sub (tyOf x)))) := fIs0 us h
theorem lodgL_len (n : Nat) (f : AL) : (lodgL n f).length = n := by simp
theorem isl_go {q e : D → Prop} {b : Int} {rows : List (List Int)} {f : AL} (H : HOk b rows) (M : Mat (optR rows) f) (hq : q (.bl true)) : fnW 3 w__law_is_lodging_r0 [hT b rows, lodgD rows.length f] q e := by
  have hn := H.n
  have ha := lodg_lies M rows.length 0
  rw [← List.range_eq_range'] at ha
  have nd := (lodg_bedsOf M (List.range rows.length) List.nodup_range).1
  have bl := beds_len (lodgL rows.length f)
  rw [lodgL_len] at bl
  unfold w__law_is_lodging_r0
  (conv => whnf)
  refine br_by (fun h => ?_) fun h => ?_
  · have h : (!eqS (.int (lodgL rows.length f).length) (.int (rowsD rows).length)) = true := h
    rw [eqS_len, lodgL_len, rows_len] at h
    simp at h
  (conv => whnf)
  unfold w__law_is_lodging_r1
  (conv => whnf)
  refine ⟨⟨trivial, trivial⟩, lc_filtH (fun x => !isNon x) (fun x => x) (fun x hx => ?_) (by rw [lodgL_len]; exact Nat.le_trans hn (by decide)) ?_⟩
  · refine ⟨_, rfl, ⟨trivial, trivial⟩, rfl, fun Qt hk => ?_, fun Qk _ hk => ?_⟩
    · (conv => whnf)
      exact hk
    · (conv => whnf)
      exact hk
  rw [List.map_id', told_ints ha]
  (conv => whnf)
  unfold w__law_is_lodging_r2
  (conv => whnf)
  refine ⟨⟨trivial, trivial⟩, lc_mapH (fun _ => .bl true) (fun x hx => ?_) (by rw [List.length_map]; exact Nat.le_trans (Nat.le_trans bl hn) (by decide)) ?_⟩
  · obtain ⟨c, hc, rfl⟩ := List.mem_map.mp hx
    refine ⟨_, rfl, ⟨trivial, trivial⟩, rfl, fun Qk hk => ?_⟩
    (conv => whnf)
    exact hk
  (conv => whnf)
  refine on_some (show fAll (.lst ((((bedsOf (lodgL rows.length f))).map D.int).map fun _ => D.bl true)) = _ from all_true _) ?_
  (conv => whnf)
  refine on_some (lenSet_ints (bedsOf (lodgL rows.length f)) (by omega)) ?_
  (conv => whnf)
  refine br_by (fun h => ?_) fun h => ?_
  · have h : decide ((cnt (bedsOf (lodgL rows.length f)) : Int) < (((bedsOf (lodgL rows.length f)).map D.int).length : Int)) = true := h
    rw [List.length_map, cnt_nd.mpr nd] at h
    simp at h
  (conv => whnf)
  unfold w__law_is_lodging_r3
  (conv => whnf)
  refine ⟨⟨trivial, trivial, trivial⟩, lc_mapH (lieG rows) (fun z hz => ?_) (by rw [enum_len, lodgL_len]; exact Nat.le_trans hn (by decide)) ?_⟩
  · obtain ⟨j, y, rfl, j0, j1, j2, j3⟩ := enum_mem hz
    rw [lodgL_len] at j1
    refine ⟨_, rfl, ⟨trivial, trivial, trivial⟩, rfl, fun Qk hk => ?_⟩
    obtain ⟨i, hi, rfl⟩ := List.mem_map.mp j3
    rcases lodgAt_kind f i with hk2 | ⟨c, hk2⟩
    · rw [hk2] at hk ⊢
      (conv => whnf)
      exact hk
    · rw [hk2] at hk ⊢
      (conv => whnf)
      refine on_some (ix_rows (p := (j : Int)) (by omega) (by omega)) ?_
      (conv => whnf)
      have : cIn (.int c) (rowD (optR rows j)) = some ((optR rows j).contains c) := in_seq (y := rowD _) rfl c
      refine on_some (show vB cIn (.int c) (rowD (optR rows j)) = some (.bl ((optR rows j).contains c)) from by unfold vB; rw [this]; rfl) ?_
      exact hk
  rw [lie_map]
  (conv => whnf)
  refine on_some (all_bls _) ?_
  rw [ha]
  (conv => whnf)
  exact hq
theorem sp__law_is_lodging (ds q e) (h : ct__law_is_lodging ds q e) : fnW 3 w__law_is_lodging ds q e := by
  obtain ⟨b, rows, f, rfl, H, M, hq⟩ := h
  rw [wq__law_is_lodging]
  exact isl_go H M hq
/-- those who lie -/
def lying (n : Nat) (f : AL) : List Int := (upto n).filter fun i => (vals f).contains i
def lyF : D → Bool
  | .tup [.int _, x] => !isNon x
  | _ => false
def lyG : D → D
  | .tup [.int k, _] => .int k
  | _ => .non
theorem enum_ly {opt : Int → List Int} {f : AL} (M : Mat opt f) : ∀ (n k : Nat), (((enumD k ((List.range' k n).map fun (i : Nat) => lodgAt f i)).filter lyF).map lyG) = (((List.range' k n).map fun (i : Nat) => (i : Int)).filter fun i => (vals f).contains i).map D.int
  | 0, _ => rfl
  | n + 1, k => by
    have ih := enum_ly M n (k + 1)
    rw [List.range'_succ, List.map_cons, List.map_cons, enumD, List.filter_cons, List.filter_cons]
    have e : lyF (.tup [.int k, lodgAt f k]) = (vals f).contains (k : Int) := by
      have := lodgAt_non M (i := (k : Int))
      show (!isNon (lodgAt f k)) = _
      rcases lodgAt_kind f k with h | ⟨c, h⟩
      · have nv := this.mp h
        rw [h]
        cases hc : (vals f).contains (k : Int) with
        | false => rfl
        | true => exact absurd (List.contains_iff_mem.mp hc) nv
      · have nv : ¬ ((k : Int) ∉ vals f) := fun z => by rw [this.mpr z] at h; cases h
        rw [h, List.contains_iff_mem.mpr (Classical.byContradiction nv)]
        rfl
    rw [e]
    cases hc : (vals f).contains (k : Int) with
    | true =>
      rw [if_pos rfl, if_pos rfl, List.map_cons, List.map_cons, ih]
      rfl
    | false =>
      rw [if_neg (by decide), if_neg (by decide)]
      exact ih
theorem lying_len {n : Nat} {f : AL} {opt : Int → List Int} (M : Mat opt f) (h : ∀ v ∈ vals f, 0 ≤ v ∧ v < n) : (lying n f).length = (vals f).length := by
  refine List.Perm.length_eq (perm_of ((upto_nd n).sublist List.filter_sublist) M.vnd fun a => ?_)
  unfold lying
  rw [List.mem_filter, List.contains_iff_mem]
  exact ⟨fun z => z.2, fun z => ⟨mem_upto.mpr (h a z), z⟩⟩
section
variable {Z : Ds} {E : KE} {b : Int} {rows : List (List Int)} {some : List Int}
theorem to2 {f : AL} (H : HOk b rows) (S : SOk some rows.length) (M : Mat (optR rows) f) (pm : List.Perm (vals f) (greedy (optR rows) some)) (k : ∀ e, Z.rt (.bl true) e) :
    w__law_is_told_r2 Z [.val (hT b rows), .val (rowD some), .val (hD b rows), .val (lodgD rows.length f), .val (.int (greedy (optR rows) some).length), .un, .un, .un] E := by
  have hn := H.n
  have vr : ∀ v ∈ vals f, 0 ≤ v ∧ v < rows.length := fun v hv => S.rng v (greedy_sub (pm.mem_iff.mp hv))
  have ll := lying_len M vr
  rw [pm.length_eq] at ll
  unfold w__law_is_told_r2
  (conv => whnf)
  refine ⟨⟨trivial, trivial, trivial⟩, lc_filtH lyF lyG (fun z hz => ?_) (by rw [enum_len, lodgL_len]; exact Nat.le_trans hn (by decide)) ?_⟩
  · obtain ⟨j, y, rfl, j0, j1, j2, j3⟩ := enum_mem hz
    refine ⟨_, rfl, ⟨trivial, trivial, trivial⟩, rfl, fun Qt hk => ?_, fun Qk _ hk => ?_⟩
    · (conv => whnf)
      exact hk
    · (conv => whnf)
      exact hk
  have el := enum_ly M rows.length 0
  rw [← List.range_eq_range'] at el
  rw [el]
  have ly : (((List.range rows.length).map fun (i : Nat) => (i : Int)).filter fun i => (vals f).contains i) = lying rows.length f := rfl
  rw [ly]
  (conv => whnf)
  unfold w__law_is_told_r3
  (conv => whnf)
  refine br_by (fun h => ?_) fun h => ?_
  · have h : (!eqS (.int ((lying rows.length f).map D.int).length) (.int (greedy (optR rows) some).length)) = true := h
    rw [eqS_len, List.length_map, ll] at h
    simp at h
  (conv => whnf)
  refine ⟨⟨trivial, trivial⟩, lc_mapH (fun _ => .bl true) (fun x hx => ?_) (by rw [List.length_map, ll]; have := (S.pok.greedy (opt := optR rows)).len; exact Nat.le_trans (Nat.le_trans this hn) (by decide)) ?_⟩
  · obtain ⟨c, hc, rfl⟩ := List.mem_map.mp hx
    refine ⟨_, rfl, ⟨trivial, trivial⟩, rfl, fun Qk hk => ?_⟩
    (conv => whnf)
    have cm : c ∈ some := greedy_sub (pm.mem_iff.mp (List.contains_iff_mem.mp (List.mem_filter.mp hc).2))
    have : cIn (.int c) (rowD some) = Option.some (some.contains c) := in_seq (y := rowD _) rfl c
    refine on_some (show vB cIn (.int c) (rowD some) = Option.some (.bl true) from by unfold vB; rw [this, List.contains_iff_mem.mpr cm]; rfl) ?_
    exact hk
  (conv => whnf)
  refine on_some (show fAll (.lst (((lying rows.length f).map D.int).map fun _ => D.bl true)) = _ from all_true _) ?_
  (conv => whnf)
  unfold w__law_is_told_r4
  (conv => whnf)
  refine ⟨b, rows, some, rfl, H, S, ?_⟩
  (conv => whnf)
  refine ⟨b, rows, some, rfl, H, S, ?_⟩
  ((conv => whnf); (repeat (refine ⟨le_sz rfl, ?_⟩; conv => whnf)))
  have e1 : eqS (.int (greedy (optR rows) some).length) (.int (some.map D.int).length) = sdrB (optR rows) some := by
    rw [eqS_len, List.length_map]
    rw [← sdrB_len, Bool.eq_iff_iff, decide_eq_true_eq, decide_eq_true_eq]
    omega
  refine ⟨.lst [.bl (sdrB (optR rows) some), .int (greedy (optR rows) some).length], ?_, rfl, Nat.le_of_ble_eq_true rfl, ?_⟩
  · show [_, D.lst [.bl (eqS (.int (greedy (optR rows) some).length) (.int (some.map D.int).length)), _]] = _
    rw [e1]
  · (conv => whnf)
    exact k _
theorem to0 {q e : D → Prop} (H : HOk b rows) (S : SOk some rows.length) (hq : q (.bl true)) : fnW 6 w__law_is_told_r0 [hT b rows, rowD some] q e := by
  unfold w__law_is_told_r0
  (conv => whnf)
  refine ⟨_, _, rfl, rfl, hGood H, ?_⟩
  rw [hJudge H, hLen]
  (conv => whnf)
  refine ⟨_, _, rfl, rfl, hGood H, ?_⟩
  rw [hJudge H, hLen]
  (conv => whnf)
  refine ⟨b, rows, some, rfl, H, S, fun f M pm => ?_⟩
  (conv => whnf)
  refine ⟨b, rows, _, some, rfl, rfl, H, S.pok, ?_⟩
  (conv => whnf)
  unfold w__law_is_told_r1
  (conv => whnf)
  refine ⟨b, rows, f, rfl, H, M, ?_⟩
  (conv => whnf)
  refine ⟨b, rows, _, rfl, H.n, lodg_good H.n, ?_⟩
  rw [lodg_ok M]
  (conv => whnf)
  exact to2 H S M pm fun _ => hq
end
theorem sp__law_is_told (ds q e) (h : ct__law_is_told ds q e) : fnW 6 w__law_is_told ds q e := by
  obtain ⟨b, rows, some, rfl, H, S, hq⟩ := h
  rw [wq__law_is_told]
  exact to0 H S hq
theorem full_sok {n : Nat} (h : n ≤ 24) : SOk (upto n) n := sok_sub (List.Sublist.refl _) h
theorem rgT {n : Int} (h0 : 0 ≤ n) (h1 : n ≤ 1000) : fRgT (.int n) = some (rowD (upto n.toNat)) := by
  show (if 0 ≤ n ∧ n ≤ 1000 then some (D.tup (rangeD n.toNat 0)) else none) = _
  rw [if_pos ⟨h0, h1⟩, range_upto]
  rfl
theorem lr3 {Z : Ds} {E : KE} {k : D} {b : Int} {rows : List (List Int)} {s2 s3 s5 : Slot} (H : HOk b rows) (nx : ∀ s5, Z.nx [.val .hand, .val k, s2, s3, .val (hT b rows), s5]) : w__law_are_lodgings_right_b2_r1 Z [.val .hand, .val k, s2, s3, .val (hT b rows), s5] E := by
  have hl := rows_len rows
  have hn := H.n
  unfold w__law_are_lodgings_right_b2_r1
  (conv => whnf)
  refine on_some (rgT (n := ((rowsD rows).length : Int)) (by omega) (by rw [hl]; omega)) ?_
  (conv => whnf)
  refine ⟨_, rfl, by omega, by rw [hl]; omega, fun r1 S1 => ?_⟩
  (conv => whnf)
  refine ⟨_, rfl, by omega, by rw [hl]; omega, fun r2 S2 => ?_⟩
  rw [hl, Int.toNat_natCast] at S1 S2
  rw [hl, Int.toNat_natCast]
  ((conv => whnf); (repeat (refine ⟨le_sz rfl, ?_⟩; conv => whnf)))
  refine for_mem (fun e => ∃ s5, e = [.val .hand, .val k, s2, s3, .val (hT b rows), s5]) ⟨s5, rfl⟩ ?_ ?_
  · rintro x hx e ⟨s5, rfl⟩ Zk hk
    obtain ⟨some, rfl, S⟩ : ∃ some, x = rowD some ∧ SOk some rows.length := by
      simp only [List.mem_cons, List.not_mem_nil, or_false] at hx
      rcases hx with rfl | rfl | rfl | rfl
      · exact ⟨_, rfl, full_sok hn⟩
      · exact ⟨r1, rfl, S1⟩
      · exact ⟨r2, rfl, S2⟩
      · exact ⟨[], rfl, ⟨.nil, by simp, by simp⟩⟩
    refine ⟨_, rfl, ?_⟩
    unfold w__law_are_lodgings_right_b2_b1_r0
    (conv => whnf)
    refine ⟨b, rows, some, rfl, H, S, ?_⟩
    (conv => whnf)
    exact hk _ ⟨_, rfl⟩
  · rintro e ⟨s5, rfl⟩
    exact nx s5
theorem lr2 {Z : Ds} {E : KE} {s2 s3 s4 s5 : Slot} {k : D} (h : ∀ e, Z.rt (.bl true) e) : w__law_are_lodgings_right_r2 Z [.val .hand, .val k, s2, s3, s4, s5] E := by
  unfold w__law_are_lodgings_right_r2
  ((conv => whnf); (repeat (refine ⟨le_sz rfl, ?_⟩; conv => whnf)))
  refine ⟨25, rfl, by decide, by decide, fun d1 d10 d11 => ?_⟩
  ((conv => whnf); (repeat (refine ⟨le_sz rfl, ?_⟩; conv => whnf)))
  refine ⟨25, rfl, by decide, by decide, fun d2 d20 d21 => ?_⟩
  ((conv => whnf); (repeat (refine ⟨le_sz rfl, ?_⟩; conv => whnf)))
  refine for_mem (fun e => ∃ s2 s3 s4 s5, e = [.val .hand, .val k, s2, s3, s4, s5]) ⟨_, _, _, _, rfl⟩ ?_ ?_
  · rintro x hx e ⟨s2, s3, s4, s5, rfl⟩ Zk hk
    obtain ⟨b, p, rfl, b0, b1, p0, p1⟩ : ∃ b p : Int, x = .tup [.int b, .int p] ∧ 0 ≤ b ∧ b ≤ 24 ∧ 0 ≤ p ∧ p ≤ 24 := by
      simp only [List.mem_cons, List.not_mem_nil, or_false] at hx
      rcases hx with rfl | rfl | rfl | rfl | rfl
      · exact ⟨3, 3, rfl, by decide⟩
      · exact ⟨6, 5, rfl, by decide⟩
      · exact ⟨12, 14, rfl, by decide⟩
      · exact ⟨24, 24, rfl, by decide⟩
      · exact ⟨d1, d2, rfl, by omega, by omega, by omega, by omega⟩
    refine ⟨_, rfl, ?_⟩
    unfold w__law_are_lodgings_right_b2_r0
    (conv => whnf)
    refine ⟨b, p, rfl, b0, b1, p0, p1, fun b' rows H _ => ?_⟩
    (conv => whnf)
    exact lr3 H fun s5 => hk _ ⟨_, _, _, _, rfl⟩
  · rintro e ⟨s2, s3, s4, s5, rfl⟩
    unfold w__law_are_lodgings_right_r3
    (conv => whnf)
    exact h _
theorem sp__law_are_lodgings_right (ds q e) (h : ct__law_are_lodgings_right ds q e) : fnW 5 w__law_are_lodgings_right ds q e := by
  obtain ⟨rfl, hq⟩ := h
  rw [wq__law_are_lodgings_right]
  unfold w__law_are_lodgings_right_r0
  ((conv => whnf); (repeat (refine ⟨le_sz rfl, ?_⟩; conv => whnf)))
  unfold w__law_are_lodgings_right_r1
  ((conv => whnf); (repeat (refine ⟨le_sz rfl, ?_⟩; conv => whnf)))
  refine ⟨⟨trivial, trivial⟩, lc_mapH (fun _ => .bl true) (items := [rowD [], rowD [0], rowD [0, 1], rowD [1, 2], rowD [0, 1, 2]]) (fun x hx => ?_) (by decide) ?_⟩
  · obtain ⟨some, rfl, S⟩ : ∃ some, x = rowD some ∧ SOk some kR.length := by
      simp only [List.mem_cons, List.not_mem_nil, or_false] at hx
      rcases hx with rfl | rfl | rfl | rfl | rfl
      · exact ⟨_, rfl, ⟨by decide, by decide, by decide⟩⟩
      · exact ⟨_, rfl, ⟨by decide, by decide, by decide⟩⟩
      · exact ⟨_, rfl, ⟨by decide, by decide, by decide⟩⟩
      · exact ⟨_, rfl, ⟨by decide, by decide, by decide⟩⟩
      · exact ⟨_, rfl, ⟨by decide, by decide, by decide⟩⟩
    refine ⟨_, rfl, ⟨trivial, trivial⟩, rfl, fun Qk hk => ?_⟩
    (conv => whnf)
    refine ⟨2, kR, some, rfl, kOk, S, ?_⟩
    (conv => whnf)
    exact hk
  · (conv => whnf)
    exact lr2 fun _ => hq
end K24
end K24s_

section K24l_
set_option maxRecDepth 100000
set_option maxHeartbeats 1000000
namespace K24
open LW Mt
/-! plain: one fewer; all fit all -/
theorem less_ok {opt : Int → List Int} {some : List Int} {x : Int} (nd : some.Nodup) (hx : x ∈ some) : (greedy opt (some.filter fun y => !(y == x))).length = (greedy opt some).length ∨ (greedy opt (some.filter fun y => !(y == x))).length + 1 = (greedy opt some).length := by
  have le : (greedy opt (some.filter fun y => !(y == x))).length ≤ (greedy opt some).length := greedy_max greedy_sdr (greedy_nd (nd.sublist List.filter_sublist)) fun y hy => (List.mem_filter.mp (greedy_sub hy)).1
  have gn := greedy_nd (opt := opt) nd
  have ge : ((greedy opt some).erase x).length ≤ (greedy opt (some.filter fun y => !(y == x))).length := by
    refine greedy_max (greedy_sdr.mono fun q hq => List.mem_of_mem_erase hq) (gn.erase x) fun y hy => List.mem_filter.mpr ⟨greedy_sub (List.mem_of_mem_erase hy), ?_⟩
    have := (gn.mem_erase_iff.mp hy).1
    simpa using this
  have : (greedy opt some).length ≤ ((greedy opt some).erase x).length + 1 := by
    rw [List.length_erase]
    split <;> omega
  omega
theorem fullOk {b : Int} {n : Nat} (b0 : 0 ≤ b) (b1 : b ≤ 24) (hn : n ≤ 24) : HOk b (List.replicate n (upto b.toNat)) := by
  refine ⟨b0, b1, by simpa using hn, fun r hr => ?_, fun r hr x hx => ?_⟩
  · rw [(List.mem_replicate.mp hr).2]
    exact upto_inc _
  · rw [(List.mem_replicate.mp hr).2] at hx
    have := mem_upto.mp hx
    omega
theorem full_opt {b : Int} {n : Nat} {p : Int} (h0 : 0 ≤ p) (h1 : p < n) : optR (List.replicate n (upto b.toNat)) p = upto b.toNat := by
  unfold optR
  rw [List.getElem?_replicate, if_pos (by omega)]
  rfl
theorem full_len {b : Int} {n : Nat} (b0 : 0 ≤ b) : ((greedy (optR (List.replicate n (upto b.toNat))) (upto n)).length : Int) = min2 b n := by
  have up : (greedy (optR (List.replicate n (upto b.toNat))) (upto n)).length ≤ b.toNat := by
    obtain ⟨a, a1, a2⟩ := greedy_sdr (opt := optR (List.replicate n (upto b.toNat))) (ps := upto n)
    have nd := greedy_nd (opt := optR (List.replicate n (upto b.toNat))) (upto_nd n)
    have := nodup_sub (l := (greedy (optR (List.replicate n (upto b.toNat))) (upto n)).map a) (m := upto b.toNat) (nodup_map nd fun x hx y hy => a2 x hx y hy) fun y hy => by
      obtain ⟨p, hp, rfl⟩ := List.mem_map.mp hy
      have := a1 p hp
      obtain ⟨p0, p1⟩ := mem_upto.mp (greedy_sub hp)
      rwa [full_opt p0 p1] at this
    rwa [List.length_map, upto_len] at this
  have up2 : (greedy (optR (List.replicate n (upto b.toNat))) (upto n)).length ≤ n := by
    have := greedy_sl (opt := optR (List.replicate n (upto b.toNat))) (ps := upto n) |>.length_le
    rwa [upto_len] at this
  have lo : (upto (min b.toNat n)).length ≤ (greedy (optR (List.replicate n (upto b.toNat))) (upto n)).length := by
    refine greedy_max ⟨fun p => p, fun p hp => ?_, fun p _ q _ e => e⟩ (upto_nd _) fun x hx => ?_
    · obtain ⟨p0, p1⟩ := mem_upto.mp hp
      show p ∈ _
      rw [full_opt p0 (by omega)]
      exact mem_upto.mpr (by omega)
    · obtain ⟨p0, p1⟩ := mem_upto.mp hx
      exact mem_upto.mpr (by omega)
  rw [upto_len] at lo
  unfold min2
  split <;> omega
theorem sok_less {some : List Int} {n : Nat} {x : Int} (S : SOk some n) : SOk (some.filter fun y => !(y == x)) n := ⟨List.Pairwise.sublist List.filter_sublist S.inc, fun y hy => S.rng y (List.mem_filter.mp hy).1, Nat.le_trans (List.length_filter_le _ _) S.len⟩
abbrev eN (s1 s2 s3 s4 s5 s6 s7 s8 s9 s10 s11 s12 s13 : Slot) : Env := [.val .hand, s1, s2, s3, s4, s5, s6, s7, s8, s9, s10, s11, s12, s13, .un, .un]
section
variable {Z : Ds} {E : KE} {b : Int} {rows : List (List Int)} {some : List Int} {s1 s2 s3 s4 s5 s6 s7 s8 s9 s10 s11 s12 s13 : Slot}
theorem nr5 {n : Int} (b0 : 0 ≤ b) (b1 : b ≤ 24) (n0 : 0 ≤ n) (n1 : n ≤ 24) (nx : ∀ s13, Z.nx (eN s1 s2 (.val (.int b)) s4 s5 s6 s7 (.val (.int n)) s9 s10 s11 s12 s13)) : w__law_are_numbers_right_b3_r5 Z (eN s1 s2 (.val (.int b)) s4 s5 s6 s7 (.val (.int n)) s9 s10 s11 s12 s13) E := by
  have H := fullOk (n := n.toNat) b0 b1 (by omega)
  unfold w__law_are_numbers_right_b3_r5
  (conv => whnf)
  refine on_some (rgT b0 (by omega)) ?_
  ((conv => whnf); (repeat (refine ⟨le_sz rfl, ?_⟩; conv => whnf)))
  refine on_some (show fMul (.tup [rowD (upto b.toNat)]) (.int n) = Option.some (.tup (rowsD (List.replicate n.toNat (upto b.toNat)))) from ?_) ?_
  · show (if 0 ≤ n ∧ n ≤ 1000 ∧ _ ≤ 1000 then Option.some (D.tup (List.replicate n.toNat [rowD (upto b.toNat)]).flatten) else none) = _
    rw [if_pos ⟨n0, by omega, by simp⟩]
    have : ∀ k : Nat, (List.replicate k [rowD (upto b.toNat)]).flatten = rowsD (List.replicate k (upto b.toNat)) := by
      intro k
      induction k with
      | zero => rfl
      | succ k ih => rw [List.replicate_succ, List.flatten_cons, ih, List.replicate_succ]; rfl
    rw [this]
  (conv => whnf)
  refine ⟨_, _, rfl, rfl, hGood H, ?_⟩
  rw [hJudge H, hLen]
  (conv => whnf)
  unfold w__law_are_numbers_right_b3_r6
  (conv => whnf)
  refine on_some (rgT n0 (by omega)) ?_
  (conv => whnf)
  refine ⟨b, _, _, rfl, H, by rw [List.length_replicate]; exact full_sok (by omega), ?_⟩
  have fl := full_len (n := n.toNat) b0
  rw [Int.toNat_of_nonneg n0] at fl
  rw [fl]
  (conv => whnf)
  refine ⟨_, rfl, rfl, by show 0 < 4; decide, ?_⟩
  (conv => whnf)
  exact nx _
theorem nr4t (H : HOk b rows) (S : SOk some rows.length) (ne : some ≠ []) {g2 : D} (nx : ∀ s11 s12, Z.nx (eN s1 s2 (.val (.int b)) (.val (.tup (rowsD rows))) (.val (hD b rows)) (.val (rowD some)) s7 s8 s9 (.val (.lst [.int (greedy (optR rows) some).length, g2])) s11 s12 s13)) :
    w__law_are_numbers_right_b3_t4_r0 Z (eN s1 s2 (.val (.int b)) (.val (.tup (rowsD rows))) (.val (hD b rows)) (.val (rowD some)) s7 s8 s9 (.val (.lst [.int (greedy (optR rows) some).length, g2])) s11 s12 s13) E := by
  have sl := S.len
  have hn := H.n
  unfold w__law_are_numbers_right_b3_t4_r0
  (conv => whnf)
  refine ⟨_, _, rfl, rfl, by simpa using ne, by rw [List.length_map]; omega, fun y hy => ?_⟩
  obtain ⟨x, hx, rfl⟩ := List.mem_map.mp hy
  (conv => whnf)
  unfold w__law_are_numbers_right_b3_t4_r1
  (conv => whnf)
  refine ⟨⟨trivial, trivial⟩, lc_filtH (fun | .int y => !(y == x) | _ => false) (fun x => x) (fun z hz => ?_) (by rw [List.length_map]; exact Nat.le_trans sl (by decide)) ?_⟩
  · obtain ⟨c, hc, rfl⟩ := List.mem_map.mp hz
    refine ⟨_, rfl, ⟨trivial, trivial⟩, rfl, fun Qt hk => ?_, fun Qk _ hk => ?_⟩
    · (conv => whnf)
      exact hk
    · (conv => whnf)
      exact hk
  have e1 : (((some.map D.int).filter (fun | .int y => !(y == x) | _ => false)).map fun x => x) = (some.filter fun y => !(y == x)).map D.int := by
    rw [List.map_id', List.filter_map]
    rfl
  rw [e1]
  (conv => whnf)
  unfold w__law_are_numbers_right_b3_t4_r2
  (conv => whnf)
  have S2 := sok_less (x := x) S
  refine ⟨b, rows, _, rfl, H, S2, ?_⟩
  (conv => whnf)
  refine ⟨b, rows, _, _, rfl, rfl, H, S2.pok, ?_⟩
  (conv => whnf)
  refine ⟨_, rfl, rfl, by show 0 < 4; decide, ?_⟩
  (conv => whnf)
  refine ⟨b, rows, _, _, rfl, rfl, H, S2.pok, ?_⟩
  ((conv => whnf); (repeat (refine ⟨le_sz rfl, ?_⟩; conv => whnf)))
  have lk := less_ok (opt := optR rows) (inc_nd S.inc) hx
  obtain ⟨d, hd, h01⟩ : ∃ d : Int, ((greedy (optR rows) some).length : Int) - ((greedy (optR rows) (some.filter fun y => !(y == x))).length : Int) = d ∧ (d = 0 ∨ d = 1) := ⟨_, rfl, by omega⟩
  rw [hd]
  have hc : (!(([D.int 0, D.int 1]).any fun y => eqF y (.int d))) = false := by
    rcases h01 with rfl | rfl <;> rfl
  refine br_by (fun h => ?_) fun h => ?_
  · have h : (!(([D.int 0, D.int 1]).any fun y => eqF y (.int d))) = true := h
    rw [hc] at h
    cases h
  (conv => whnf)
  exact nx _ _
theorem nr1 {n : Int} (b0 : 0 ≤ b) (b1 : b ≤ 24) (n0 : 0 ≤ n) (n1 : n ≤ 24) (H : HOk b rows) (nx : ∀ s5 s6 s9 s10 s11 s12 s13, Z.nx (eN s1 s2 (.val (.int b)) (.val (.tup (rowsD rows))) s5 s6 s7 (.val (.int n)) s9 s10 s11 s12 s13)) :
    w__law_are_numbers_right_b3_r1 Z (eN s1 s2 (.val (.int b)) (.val (.tup (rowsD rows))) s5 s6 s7 (.val (.int n)) s9 s10 s11 s12 s13) E := by
  have hl := rows_len rows
  have hn := H.n
  unfold w__law_are_numbers_right_b3_r1
  (conv => whnf)
  refine ⟨_, _, rfl, rfl, hGood H, ?_⟩
  rw [hJudge H, hLen]
  (conv => whnf)
  refine ⟨_, rfl, by omega, by rw [hl]; omega, fun r1 S1 => ?_⟩
  (conv => whnf)
  refine ⟨_, rfl, by omega, by rw [hl]; omega, fun r2 S2 => ?_⟩
  rw [hl, Int.toNat_natCast] at S1 S2
  (conv => whnf)
  unfold w__law_are_numbers_right_b3_r2
  (conv => whnf)
  refine ⟨b, rows, _, _, rfl, rfl, H, S1.pok, ?_⟩
  (conv => whnf)
  refine ⟨b, rows, _, _, rfl, rfl, H, S2.pok, ?_⟩
  ((conv => whnf); (repeat (refine ⟨le_sz rfl, ?_⟩; conv => whnf)))
  unfold w__law_are_numbers_right_b3_r3
  (conv => whnf)
  refine ⟨b, rows, _, rfl, H, S1, ?_⟩
  (conv => whnf)
  refine ⟨b, rows, _, rfl, H, S2, ?_⟩
  (conv => whnf)
  refine ⟨b, rows, _, rfl, H, S1, ?_⟩
  ((conv => whnf); (repeat (refine ⟨le_sz rfl, ?_⟩; conv => whnf)))
  refine ⟨_, rfl, rfl, by show 1 < 4; decide, ?_⟩
  (conv => whnf)
  unfold w__law_are_numbers_right_b3_r4
  have fin : ∀ {s11 s12 s13}, w__law_are_numbers_right_b3_r5 Z (eN s1 s2 (.val (.int b)) (.val (.tup (rowsD rows))) (.val (hD b rows)) (.val (rowD r1)) s7 (.val (.int n)) (.val (rowD r2)) (.val (.lst [.int (greedy (optR rows) r1).length, .int (greedy (optR rows) r2).length])) s11 s12 s13) E := nr5 b0 b1 n0 n1 fun s13 => nx _ _ _ _ _ _ _
  (conv => whnf)
  refine br_by (fun h => ?_) fun h => ?_
  · (conv => whnf)
    refine nr4t H S1 (fun z => ?_) fun s11 s12 => fin
    rw [z] at h
    cases h
  · exact fin
theorem ix_lo {l : LO} {p : Int} (h0 : 0 ≤ p) (h1 : p < l.length) : ∃ o, l[p.toNat]? = Option.some o ∧ fIx (loD l) (.int p) = Option.some (bD o) := by
  have hl : p.toNat < l.length := by omega
  refine ⟨l[p.toNat], List.getElem?_eq_getElem hl, ix_tup h0 ?_⟩
  rw [List.getElem?_map, List.getElem?_eq_getElem hl]
  rfl
def cntD (some : List Int) : D → D
  | .tup xs => .int (some.filter (fun p => match xs[p.toNat]? with
    | Option.some (.int _) => true
    | _ => false)).length
  | _ => .non
theorem cntD_lo (some : List Int) (l : LO) : cntD some (loD l) = .int (some.filter (lyB l)).length := by
  show D.int ((some.filter _).length : Int) = _
  congr 4
  funext p
  unfold lyB
  rw [List.getElem?_map]
  cases l[p.toNat]? with
  | none => rfl
  | some o => cases o <;> rfl
theorem nr2 (H : HOk b rows) (h4 : b ≤ 4) (hr : rows.length ≤ 4) (nx : ∀ s5 s6 s7, Z.nx (eN s1 s2 (.val (.int b)) (.val (.tup (rowsD rows))) s5 s6 s7 .un .un .un .un .un .un)) :
    w__law_are_numbers_right_b2_r1 Z (eN s1 s2 (.val (.int b)) (.val (.tup (rowsD rows))) s5 s6 s7 .un .un .un .un .un .un) E := by
  have hl := rows_len rows
  have hn := H.n
  have al : (allL rows).length ≤ 5 ^ rows.length := allL_len rows fun r hm => by have := row_len (H.inc r hm) (H.rng r hm); omega
  have al : (allL rows).length ≤ 625 := Nat.le_trans al (Nat.le_trans (Nat.pow_le_pow_right (by decide) hr) (by decide))
  unfold w__law_are_numbers_right_b2_r1
  (conv => whnf)
  refine ⟨_, _, rfl, rfl, hGood H, ?_⟩
  rw [hJudge H, hLen]
  (conv => whnf)
  refine ⟨_, rfl, by omega, by rw [hl]; omega, fun r1 S1 => ?_⟩
  rw [hl, Int.toNat_natCast] at S1
  have sl := S1.len
  (conv => whnf)
  unfold w__law_are_numbers_right_b2_r2
  ((conv => whnf); (repeat (refine ⟨le_sz rfl, ?_⟩; conv => whnf)))
  refine ⟨b, rows, rfl, H, h4, hr, ?_⟩
  (conv => whnf)
  refine ⟨⟨trivial, trivial⟩, lc_mapH (cntD r1) (fun x hx => ?_) (by rw [List.length_map]; exact Nat.le_trans al (by decide)) ?_⟩
  · obtain ⟨l, hm, rfl⟩ := List.mem_map.mp hx
    have lk := loOk_all rows l hm
    refine ⟨_, rfl, ⟨trivial, trivial⟩, rfl, fun Qk hk => ?_⟩
    rw [cntD_lo] at hk
    (conv => whnf)
    refine ⟨⟨trivial, trivial⟩, lc_filtH (fun | .int p => lyB l p | _ => false) (fun x => x) (fun z hz => ?_) (by rw [List.length_map]; exact Nat.le_trans sl (by decide)) ?_⟩
    · obtain ⟨p, hp, rfl⟩ := List.mem_map.mp hz
      obtain ⟨p0, p1⟩ := S1.rng p hp
      obtain ⟨o, ho, hi⟩ := ix_lo (l := l) p0 (by rw [lk.len]; exact p1)
      refine ⟨_, rfl, ⟨trivial, trivial⟩, rfl, fun Qt hk => ?_, fun Qk _ hk => ?_⟩
      · have hk : Qt (lyB l p) _ := hk
        have e1 : lyB l p = !isNon (bD o) := by
          unfold lyB
          rw [ho]
          cases o <;> rfl
        rw [e1] at hk
        (conv => whnf)
        refine on_some hi ?_
        (conv => whnf)
        exact hk
      · (conv => whnf)
        exact hk
    · have e1 : (((r1.map D.int).filter (fun | .int p => lyB l p | _ => false)).map fun x => x) = (r1.filter (lyB l)).map D.int := by
        rw [List.map_id', List.filter_map]
        rfl
      rw [e1]
      (conv => whnf)
      have e2 : ((r1.filter (lyB l)).map D.int).length = (r1.filter (lyB l)).length := List.length_map _
      rw [e2]
      exact hk
  have e1 : ((allL rows).map loD).map (cntD r1) = ((allL rows).map fun l => ((r1.filter (lyB l)).length : Int)).map D.int := by
    rw [List.map_map, List.map_map]
    exact List.map_congr_left fun l _ => cntD_lo r1 l
  rw [e1]
  (conv => whnf)
  refine on_some (show intsL (.lst _) = Option.some _ from intsOf_map _) ?_
  obtain ⟨l0, m0, c0⟩ := ly_ge (rows := rows) S1
  refine ⟨fun z => ?_, fun m hm hk => ?_⟩
  · have : l0 ∈ ([] : List LO) := by rw [← List.map_eq_nil_iff.mp z]; exact m0
    cases this
  have hm2 : m = (greedy (optR rows) r1).length := by
    obtain ⟨l, h1, h2⟩ := List.mem_map.mp hm
    have := ly_le S1 (loOk_all rows l h1)
    have := hk _ (List.mem_map.mpr ⟨l0, m0, rfl⟩)
    omega
  subst hm2
  (conv => whnf)
  unfold w__law_are_numbers_right_b2_r3
  (conv => whnf)
  refine ⟨b, rows, _, rfl, H, S1, ?_⟩
  (conv => whnf)
  refine ⟨_, rfl, rfl, by show 0 < 4; decide, ?_⟩
  (conv => whnf)
  refine ⟨b, rows, _, _, rfl, rfl, H, S1.pok, ?_⟩
  (conv => whnf)
  refine br_by (fun h => ?_) fun h => ?_
  · have h : (!eqS (.int (greedy (optR rows) r1).length) (.int (greedy (optR rows) r1).length)) = true := h
    rw [eqS_len] at h
    simp at h
  (conv => whnf)
  exact nx _ _ _
theorem nr3 (k : ∀ e, Z.rt (.bl true) e) : w__law_are_numbers_right_r3 Z (eN s1 s2 s3 s4 s5 s6 s7 s8 s9 s10 s11 s12 s13) E := by
  unfold w__law_are_numbers_right_r3
  ((conv => whnf); (repeat (refine ⟨le_sz rfl, ?_⟩; conv => whnf)))
  refine ⟨25, rfl, by decide, by decide, fun d1 d10 d11 => ?_⟩
  ((conv => whnf); (repeat (refine ⟨le_sz rfl, ?_⟩; conv => whnf)))
  refine ⟨25, rfl, by decide, by decide, fun d2 d20 d21 => ?_⟩
  ((conv => whnf); (repeat (refine ⟨le_sz rfl, ?_⟩; conv => whnf)))
  refine for_mem (fun e => ∃ s2 s3 s4 s5 s6 s7 s8 s9 s10 s11 s12 s13, e = eN s1 s2 s3 s4 s5 s6 s7 s8 s9 s10 s11 s12 s13) ⟨_, _, _, _, _, _, _, _, _, _, _, _, rfl⟩ ?_ ?_
  · rintro x hx e ⟨s2, s3, s4, s5, s6, s7, s8, s9, s10, s11, s12, s13, rfl⟩ Zk hk
    obtain ⟨b, p, rfl, b0, b1, p0, p1⟩ : ∃ b p : Int, x = .tup [.int b, .int p] ∧ 0 ≤ b ∧ b ≤ 24 ∧ 0 ≤ p ∧ p ≤ 24 := by
      simp only [List.mem_cons, List.not_mem_nil, or_false] at hx
      rcases hx with rfl | rfl | rfl
      · exact ⟨8, 9, rfl, by decide⟩
      · exact ⟨24, 24, rfl, by decide⟩
      · exact ⟨d1, d2, rfl, by omega, by omega, by omega, by omega⟩
    refine ⟨_, rfl, ?_⟩
    unfold w__law_are_numbers_right_b3_r0
    (conv => whnf)
    refine ⟨b, p, rfl, b0, b1, p0, p1, fun b' rows H _ => ?_⟩
    (conv => whnf)
    exact nr1 H.b0 H.b1 p0 p1 H fun s5 s6 s9 s10 s11 s12 s13 => hk _ ⟨_, _, _, _, _, _, _, _, _, _, _, _, rfl⟩
  · rintro e ⟨s2, s3, s4, s5, s6, s7, s8, s9, s10, s11, s12, s13, rfl⟩
    unfold w__law_are_numbers_right_r4
    (conv => whnf)
    exact k _
theorem nr2l (k : ∀ e, Z.rt (.bl true) e) : w__law_are_numbers_right_r2 Z (eN s1 s2 s3 s4 s5 s6 s7 .un .un .un .un .un .un) E := by
  unfold w__law_are_numbers_right_r2
  (conv => whnf)
  refine for_mem (fun e => ∃ s2 s3 s4 s5 s6 s7, e = eN s1 s2 s3 s4 s5 s6 s7 .un .un .un .un .un .un) ⟨_, _, _, _, _, _, rfl⟩ ?_ ?_
  · rintro x hx e ⟨s2, s3, s4, s5, s6, s7, rfl⟩ Zk hk
    refine ⟨_, rfl, ?_⟩
    unfold w__law_are_numbers_right_b2_r0
    (conv => whnf)
    refine ⟨4, rfl, by decide, by decide, fun d1 d10 d11 => ?_⟩
    (conv => whnf)
    refine ⟨4, rfl, by decide, by decide, fun d2 d20 d21 => ?_⟩
    (conv => whnf)
    refine ⟨_, _, rfl, by omega, by omega, by omega, by omega, fun b' rows H el => ?_⟩
    obtain ⟨e1, e2⟩ := el (by omega)
    (conv => whnf)
    exact nr2 H (by omega) (by omega) fun s5 s6 s7 => hk _ ⟨_, _, _, _, _, _, rfl⟩
  · rintro e ⟨s2, s3, s4, s5, s6, s7, rfl⟩
    exact nr3 k
end
/-! the known ones -/
abbrev kA : List (List Int) := [[0, 1], [1, 2], [2, 3]]
theorem kAOk : HOk 4 kA := ⟨by decide, by decide, by decide, by decide, by decide⟩
abbrev kZ : List (List Int) := [[]]
theorem kZOk : HOk 0 kZ := ⟨by decide, by decide, by decide, by decide, by decide⟩
theorem ka1 : (greedy (optR kA) [0, 1, 2]).length = 3 := greedy_iff.mpr ⟨fun p => p, by decide, by decide⟩
theorem kr1 : (greedy (optR kR) [0, 1, 2]).length = 2 := by
  have a : Sdr (optR kR) [0, 2] := ⟨fun p => if p = 0 then 0 else 1, by decide, by decide⟩
  have lo := greedy_max (ps := [0, 1, 2]) a (by decide) (by simp)
  have up : ¬ Sdr (optR kR) [0, 1, 2] := fun ⟨a, h, g⟩ => by
    have h0 := h 0 (by simp)
    have h1 := h 1 (by simp)
    have := g 0 (by simp) 1 (by simp)
    simp [optR] at h0 h1
    omega
  have le := (greedy_sl (opt := optR kR) (ps := [0, 1, 2])).length_le
  have ne : (greedy (optR kR) [0, 1, 2]).length ≠ 3 := fun z => up (greedy_iff.mp z)
  simp only [List.length_cons, List.length_nil] at lo le
  omega
theorem kr2 : (greedy (optR kR) [0, 1]).length = 1 := by
  have a : Sdr (optR kR) [0] := ⟨fun p => 0, by decide, by decide⟩
  have lo := greedy_max (ps := [0, 1]) a (by decide) (by simp)
  have up : ¬ Sdr (optR kR) [0, 1] := fun ⟨a, h, g⟩ => by
    have h0 := h 0 (by simp)
    have h1 := h 1 (by simp)
    have := g 0 (by simp) 1 (by simp)
    simp [optR] at h0 h1
    omega
  have le := (greedy_sl (opt := optR kR) (ps := [0, 1])).length_le
  have ne : (greedy (optR kR) [0, 1]).length ≠ 2 := fun z => up (greedy_iff.mp z)
  simp only [List.length_cons, List.length_nil] at lo le
  omega
theorem kz1 : (greedy (optR kZ) [0]).length = 0 := by
  have up : ¬ Sdr (optR kZ) [0] := fun ⟨a, h, g⟩ => by
    have h0 := h 0 (by simp)
    simp [optR] at h0
  have le := (greedy_sl (opt := optR kZ) (ps := [0])).length_le
  have ne : (greedy (optR kZ) [0]).length ≠ 1 := fun z => up (greedy_iff.mp z)
  simp only [List.length_cons, List.length_nil] at le
  omega
def kn (b : Int) (rows : List (List Int)) (some : List Int) (n : Int) : D := .tup [hT b rows, rowD some, .int n]
theorem sp__law_are_numbers_right (ds q e) (h : ct__law_are_numbers_right ds q e) : fnW 15 w__law_are_numbers_right ds q e := by
  obtain ⟨rfl, hq⟩ := h
  rw [wq__law_are_numbers_right]
  unfold w__law_are_numbers_right_r0
  ((conv => whnf); (repeat (refine ⟨le_sz rfl, ?_⟩; conv => whnf)))
  unfold w__law_are_numbers_right_r1
  (conv => whnf)
  refine ⟨⟨trivial, trivial, trivial, trivial⟩, lc_mapH (fun _ => .bl true) (items := [kn 4 kA [0, 1, 2] 3, kn 2 kR [0, 1, 2] 2, kn 2 kR [0, 1] 1, kn 0 kZ [0] 0]) (fun x hx => ?_) (by decide) ?_⟩
  · obtain ⟨b, rows, some, n, rfl, H, S, hg⟩ : ∃ b rows some n, x = kn b rows some n ∧ HOk b rows ∧ SOk some rows.length ∧ ((greedy (optR rows) some).length : Int) = n := by
      simp only [List.mem_cons, List.not_mem_nil, or_false] at hx
      rcases hx with rfl | rfl | rfl | rfl
      · exact ⟨_, _, _, _, rfl, kAOk, ⟨by decide, by decide, by decide⟩, by rw [ka1]; rfl⟩
      · exact ⟨_, _, _, _, rfl, kOk, ⟨by decide, by decide, by decide⟩, by rw [kr1]; rfl⟩
      · exact ⟨_, _, _, _, rfl, kOk, ⟨by decide, by decide, by decide⟩, by rw [kr2]; rfl⟩
      · exact ⟨_, _, _, _, rfl, kZOk, ⟨by decide, by decide, by decide⟩, by rw [kz1]; rfl⟩
    refine ⟨_, rfl, ⟨trivial, trivial, trivial, trivial⟩, rfl, fun Qk hk => ?_⟩
    (conv => whnf)
    refine ⟨_, _, rfl, rfl, hGood H, ?_⟩
    rw [hJudge H, hLen]
    (conv => whnf)
    refine ⟨b, rows, some, rfl, H, S, ?_⟩
    rw [hg]
    (conv => whnf)
    refine ⟨_, rfl, rfl, by show 0 < 4; decide, ?_⟩
    (conv => whnf)
    exact hk
  · (conv => whnf)
    exact nr2l fun _ => hq
abbrev zL : Ds := { nx := fun _ => False, rt := fun d _ => d = .bl true, bk := fun _ => False, ct := fun _ => False }
theorem law_all : w_law zL (st (st (List.replicate 2 .un) 0 .un) 1 (.val .hand)) fun _ _ => False := by
  rw [wq_law]
  unfold w_law_r0
  (conv => whnf)
  refine ⟨rfl, ?_⟩
  (conv => whnf)
  refine ⟨rfl, ?_⟩
  (conv => whnf)
end K24
end K24l_

section K24b_
set_option maxRecDepth 100000
set_option maxHeartbeats 4000000
namespace K24
open PySem PySem.Spec PyProof.Rows L2 RZ LW Mt K24
def top (i : Nat) : Stmt := PySem.Challenge.pw_lodgeall_k24_whole_most_lodged_and_lodge.main.body.getD i (.Pass ⟨0, 0, 0, 0⟩)
def memb (i j : Nat) : Stmt := match top i with
  | .ClassDef _ _ _ body .. => body.getD j (.Pass ⟨0, 0, 0, 0⟩)
  | s => s
structure Fx (K : PySem.W.Frag) (mg : Str → Option Value) (C : Cl) : Prop where
  f_abs : mg "abs" = none
  f_all : mg "all" = none
  f_bool : mg "bool" = none
  f_enumerate : mg "enumerate" = none
  f_int : mg "int" = none
  f_isinstance : mg "isinstance" = none
  f_len : mg "len" = none
  f_list : mg "list" = none
  f_max : mg "max" = none
  f_min : mg "min" = none
  f_range : mg "range" = none
  f_set : mg "set" = none
  f_sorted : mg "sorted" = none
  f_str : mg "str" = none
  f_tuple : mg "tuple" = none
  f_zip : mg "zip" = none
  i_MOST_BEDS : ∃ t, mg "MOST_BEDS" = some (.int 24 t)
  i_MOST_PERSONS : ∃ t, mg "MOST_PERSONS" = some (.int 24 t)
  ok : ClOk K C [0]
  c_House : mg "House" = some (.ref (C.ca 0))
  cf0 : C.cf 0 = (["beds", "fits", "persons"] : List Str)
  na_0 : ∀ f : Str, f ∈ (["beds", "fits", "persons"] : List Str) → NoAttr K (C.ca 0) f
  c_LodgeFault : mg "LodgeFault" = some (.ref (C.ca 2))
  x_LodgeFault : HasX0 K mg C "LodgeFault" 2
  c_BadRow : mg "BadRow" = some (.ref (C.ca 3))
  x_BadRow : HasX0 K mg C "BadRow" 3
  c_NoHouse : mg "NoHouse" = some (.ref (C.ca 5))
  x_NoHouse : HasX0 K mg C "NoHouse" 5
variable {P : Program} {w : World} {K : PySem.W.Frag} {mg : Str → Option Value} {base : Heap} {C : Cl}
theorem Fx.cf0_0 (F : Fx K mg C) : (C.cf 0)[0]? = some ("beds" : Str) := by rw [F.cf0] <;> rfl
theorem Fx.cf0_1 (F : Fx K mg C) : (C.cf 0)[1]? = some ("fits" : Str) := by rw [F.cf0] <;> rfl
theorem Fx.cf0_2 (F : Fx K mg C) : (C.cf 0)[2]? = some ("persons" : Str) := by rw [F.cf0] <;> rfl
theorem Fx.nd0 (F : Fx K mg C) : (C.cf 0).Nodup := by rw [F.cf0]; decide
theorem b__law_any_r (F : Fx K mg C) (h__law_draw : Has P w K mg base C 1 "_law_draw" ["hand", "many"] ct__law_draw) (W : WX) : CSs C W (XPd P w K mg base 1 ["hand", "some"] (defScope (top 35)) W) (defBody (top 35)) (w__law_any_r) :=
  have B := bd_def (P := P) (w := w) (K := K) (mg := mg) (base := base) (W := W) (k := 1) (N := ["hand", "some"]) (sc := defScope (top 35)) (by decide)
  (css_one (cs_ret (ce_ix B (ce_var B 1) (ce_call B h__law_draw (ca_cons (ce_var B 0) (ca_cons (ce_len B F.f_len (ce_var B 1)) ca_nil))))))
theorem b_is_integer (F : Fx K mg C) (W : WX) : CSs C W (XPd P w K mg base 0 ["thing"] (defScope (top 1)) W) (defBody (top 1)) (w_is_integer) :=
  have B := bd_def (P := P) (w := w) (K := K) (mg := mg) (base := base) (W := W) (k := 0) (N := ["thing"]) (sc := defScope (top 1)) (by decide)
  (css_one (cs_ret (ce_and (ce_isi B F.ok F.f_isinstance (ce_var B 0) (ty_b B "int" .int F.f_int PyProof.Rows.boot_int)) (ce_bool1 (ce_not (ce_isi B F.ok F.f_isinstance (ce_var B 0) (ty_b B "bool" .bool F.f_bool PyProof.Rows.boot_bool)))))))
theorem b_is_within (F : Fx K mg C) (h_is_integer : Has P w K mg base C 1 "is_integer" ["thing"] ct_is_integer) (W : WX) : CSs C W (XPd P w K mg base 1 ["thing", "low", "high"] (defScope (top 2)) W) (defBody (top 2)) (w_is_within) :=
  have B := bd_def (P := P) (w := w) (K := K) (mg := mg) (base := base) (W := W) (k := 1) (N := ["thing", "low", "high"]) (sc := defScope (top 2)) (by decide)
  (css_one (cs_ret (ce_and (ce_call B h_is_integer (ca_cons (ce_var B 0) ca_nil)) (ce_bool1 (ce_chain cc_le cc_le (ce_var B 1) (ce_var B 0) (ce_var B 2))))))
theorem b_are_below (F : Fx K mg C) (h_is_within : Has P w K mg base C 2 "is_within" ["thing", "low", "high"] ct_is_within) (W : WX) : CSs C W (XPd P w K mg base 2 ["thing", "many", "one"] (defScope (top 3)) W) (defBody (top 3)) (w_are_below) :=
  have B := bd_def (P := P) (w := w) (K := K) (mg := mg) (base := base) (W := W) (k := 2) (N := ["thing", "many", "one"]) (sc := defScope (top 3)) (by decide)
  (css_one (cs_ret (ce_and (ce_isi B F.ok F.f_isinstance (ce_var B 0) (ty_b B "tuple" .tuple F.f_tuple PyProof.Rows.boot_tuple)) (ce_bool1 (ce_all B F.f_all (ce_frz (cf_lc B [("one", 2)] (ci_seq B (ce_var B 0)) (cg_name (B.blk _) 2) cts_nil (ce_call (B.blk _) h_is_within (ca_cons (ce_var (B.blk _) 2) (ca_cons ce_int (ca_cons (ce_bin cb_sub (ce_var (B.blk _) 1) ce_int) ca_nil)))))))))))
theorem b_is_row (F : Fx K mg C) (h_are_below : Has P w K mg base C 3 "are_below" ["thing", "many"] ct_are_below) (W : WX) : CSs C W (XPd P w K mg base 3 ["thing", "many", "one", "other"] (defScope (top 4)) W) (defBody (top 4)) (w_is_row) :=
  have B := bd_def (P := P) (w := w) (K := K) (mg := mg) (base := base) (W := W) (k := 3) (N := ["thing", "many", "one", "other"]) (sc := defScope (top 4)) (by decide)
  (css_one (cs_ret (ce_and (ce_call B h_are_below (ca_cons (ce_var B 0) (ca_cons (ce_var B 1) ca_nil))) (ce_bool1 (ce_all B F.f_all (ce_frz (cf_lc B [("one", 2), ("other", 3)] (ci_zip B F.f_zip (ca_cons (ce_var B 0) (ca_cons (ce_slice B (ce_var B 0) (co_some ce_int) co_none) ca_nil))) (cg_tup (B.blk _) (cgs_cons (cg_name (B.blk _) 2) (cgs_cons (cg_name (B.blk _) 3) cgs_nil))) cts_nil (ce_cmp cc_lt (ce_var (B.blk _) 2) (ce_var (B.blk _) 3)))))))))
theorem b_check_house (F : Fx K mg C) (W : WX) : CSs C W (XPd P w K mg base 0 ["house"] (defScope (top 14)) W) (defBody (top 14)) (w_check_house) :=
  have B := bd_def (P := P) (w := w) (K := K) (mg := mg) (base := base) (W := W) (k := 0) (N := ["house"]) (sc := defScope (top 14)) (by decide)
  (css_one (cs_if (ct_not (ct_val (ce_isi B F.ok F.f_isinstance (ce_var B 0) (ty_c B 0 F.c_House)))) (css_one (cs_raise0 B F.x_NoHouse)) css_nil))
theorem b_check_some (F : Fx K mg C) (h_is_row : Has P w K mg base C 4 "is_row" ["thing", "many"] ct_is_row) (h_check_house : Has P w K mg base C 1 "check_house" ["house"] ct_check_house) (W : WX) : CSs C W (XPd P w K mg base 4 ["house", "some"] (defScope (top 15)) W) (defBody (top 15)) (w_check_some) :=
  have B := bd_def (P := P) (w := w) (K := K) (mg := mg) (base := base) (W := W) (k := 4) (N := ["house", "some"]) (sc := defScope (top 15)) (by decide)
  (css_cons (cs_drop (ce_call B h_check_house (ca_cons (ce_var B 0) ca_nil)))
  (css_one (cs_if (ct_not (ct_val (ce_call B h_is_row (ca_cons (ce_var B 1) (ca_cons (ce_fld B 0 2 F.ok (F.na_0 "persons" (by decide)) F.cf0_2 F.nd0 (ce_var B 0)) ca_nil))))) (css_one (cs_raise0 B F.x_BadRow)) css_nil)))
theorem b_lies_right (F : Fx K mg C) (h_is_integer : Has P w K mg base C 1 "is_integer" ["thing"] ct_is_integer) (W : WX) : CSs C W (XPd P w K mg base 1 ["house", "person", "bed"] (defScope (top 16)) W) (defBody (top 16)) (w_lies_right) :=
  have B := bd_def (P := P) (w := w) (K := K) (mg := mg) (base := base) (W := W) (k := 1) (N := ["house", "person", "bed"]) (sc := defScope (top 16)) (by decide)
  (css_one (cs_ret (ce_or (ce_cmp cc_isN (ce_var B 2) ce_non) (ce_bool1 (ce_and (ce_call B h_is_integer (ca_cons (ce_var B 2) ca_nil)) (ce_bool1 (ce_cmp (cc_in B) (ce_var B 2) (ce_ix B (ce_fld B 0 1 F.ok (F.na_0 "fits" (by decide)) F.cf0_1 F.nd0 (ce_var B 0)) (ce_var B 1)))))))))
theorem b_lodges (F : Fx K mg C) (h_lies_right : Has P w K mg base C 2 "lies_right" ["house", "person", "bed"] ct_lies_right) (W : WX) : CSs C W (XPd P w K mg base 2 ["house", "thing", "told", "person", "bed"] (defScope (top 17)) W) (defBody (top 17)) (w_lodges) :=
  have B := bd_def (P := P) (w := w) (K := K) (mg := mg) (base := base) (W := W) (k := 2) (N := ["house", "thing", "told", "person", "bed"]) (sc := defScope (top 17)) (by decide)
  (css_cons (cs_if (ct_w (cw_or (ct_not (ct_val (ce_isi B F.ok F.f_isinstance (ce_var B 1) (ty_b B "tuple" .tuple F.f_tuple PyProof.Rows.boot_tuple)))) (cw_or1 (ct_cmp (cc_ne B) (ce_len B F.f_len (ce_var B 1)) (ce_fld B 0 2 F.ok (F.na_0 "persons" (by decide)) F.cf0_2 F.nd0 (ce_var B 0)))))) (css_one (cs_ret ce_bl)) css_nil)
  (css_cons (cs_if (ct_not (ct_val (ce_all B F.f_all (ce_frz (cf_lc B [("person", 3), ("bed", 4)] (ci_enum B F.f_enumerate (ca_cons (ce_var B 1) ca_nil)) (cg_tup (B.blk _) (cgs_cons (cg_name (B.blk _) 3) (cgs_cons (cg_name (B.blk _) 4) cgs_nil))) cts_nil (ce_call (B.blk _) h_lies_right (ca_cons (ce_var (B.blk _) 0) (ca_cons (ce_var (B.blk _) 3) (ca_cons (ce_var (B.blk _) 4) ca_nil))))))))) (css_one (cs_ret ce_bl)) css_nil)
  (css_cons (cs_setLcV B 2 [("bed", 4)] (ci_seq B (ce_var B 1)) (cg_name (B.blk _) 4) (cts_one (ct_cmp cc_notN (ce_var (B.blk _) 4) ce_non)) (ce_var (B.blk _) 4))
  (css_one (cs_ret (ce_cmp (cc_eq B) (ce_lenSet B F.f_len F.f_set (ce_var B 2)) (ce_len B F.f_len (ce_var B 2))))))))
theorem b_is_lodging (F : Fx K mg C) (h_lodges : Has P w K mg base C 3 "lodges" ["house", "thing"] ct_lodges) (h_check_house : Has P w K mg base C 1 "check_house" ["house"] ct_check_house) (W : WX) : CSs C W (XPd P w K mg base 3 ["house", "thing"] (defScope (top 18)) W) (defBody (top 18)) (w_is_lodging) :=
  have B := bd_def (P := P) (w := w) (K := K) (mg := mg) (base := base) (W := W) (k := 3) (N := ["house", "thing"]) (sc := defScope (top 18)) (by decide)
  (css_cons (cs_drop (ce_call B h_check_house (ca_cons (ce_var B 0) ca_nil)))
  (css_one (cs_ret (ce_call B h_lodges (ca_cons (ce_var B 0) (ca_cons (ce_var B 1) ca_nil))))))
theorem b_improved (F : Fx K mg C) (h_moved_on : HasR P w K mg base C 1 "moved_on" ["came", "found", "bed", "person"] ct_moved_on) (W : WX) : CSs C W (XPd P w K mg base 1 ["options", "found", "person", "came", "queue", "met", "here", "bed"] (defScope (top 20)) W) (defBody (top 20)) (w_improved) :=
  have B := bd_def (P := P) (w := w) (K := K) (mg := mg) (base := base) (W := W) (k := 1) (N := ["options", "found", "person", "came", "queue", "met", "here", "bed"]) (sc := defScope (top 20)) (by decide)
  (css_cons (cs_par3 B (csrc_d0 3 (csrc_f 4 (cf_lst (ca_cons (ce_var B 2) ca_nil)) (csrc_f 5 (cf_lst (ca_cons (ce_var B 2) ca_nil)) csrc_nil))))
  (css_cons (cs_while B (ct_cmp cc_gt (ce_len B F.f_len (ce_var B 4)) ce_int) (css_cons (cs_set B 6 (ce_popAt B 4 ce_int))
  (css_one (cs_for B (ci_seq B (ce_ix B (ce_var B 0) (ce_var B 6))) (cg_name B 7) (css_one (cs_if (ct_cmp (cc_notIn B) (ce_var B 7) (ce_var B 3)) (css_cons (cs_putD B 3 (ce_var B 6) (ce_var B 7))
  (css_cons (cs_if (ct_cmp (cc_notIn B) (ce_var B 7) (ce_var B 1)) (css_cons (cs_drop (ce_callR B h_moved_on (car_v (ce_var B 3) (car_r B 1 (car_v (ce_var B 7) (car_v (ce_var B 2) car_nil))))))
  (css_one (cs_ret (ce_frz (cf_lst ca_nil))))) css_nil)
  (css_cons (cs_append B 4 (ce_ix B (ce_var B 1) (ce_var B 7)))
  (css_one (cs_append B 5 (ce_ix B (ce_var B 1) (ce_var B 7))))))) css_nil))))))
  (css_one (cs_ret (ce_var B 5)))))
theorem b_moved_on (F : Fx K mg C) (W : WX) : CSs C W (XPd P w K mg base 0 ["came", "found", "bed", "person", "here", "left", "one"] (defScope (top 21)) W) (defBody (top 21)) (w_moved_on) :=
  have B := bd_def (P := P) (w := w) (K := K) (mg := mg) (base := base) (W := W) (k := 0) (N := ["came", "found", "bed", "person", "here", "left", "one"]) (sc := defScope (top 21)) (by decide)
  (css_one (cs_while B (ct_val ce_bl) (css_cons (cs_set B 4 (ce_ix B (ce_var B 0) (ce_var B 2)))
  (css_cons (cs_keysEq B 5 1 4 6)
  (css_cons (cs_putD B 1 (ce_var B 4) (ce_var B 2))
  (css_cons (cs_if (ct_cmp (cc_eq B) (ce_var B 4) (ce_var B 3)) (css_one cs_retN) css_nil)
  (css_one (cs_set B 2 (ce_ix B (ce_var B 5) ce_int)))))))))
theorem b_let_in_turn (F : Fx K mg C) (h_improved : HasR P w K mg base C 2 "improved" ["options", "found", "person"] ct_improved) (W : WX) : CSs C W (XPd P w K mg base 2 ["options", "order", "found", "vain", "person", "met"] (defScope (top 22)) W) (defBody (top 22)) (w_let_in_turn) :=
  have B := bd_def (P := P) (w := w) (K := K) (mg := mg) (base := base) (W := W) (k := 2) (N := ["options", "order", "found", "vain", "person", "met"]) (sc := defScope (top 22)) (by decide)
  (css_cons (cs_par2 B (csrc_d0 2 (csrc_f 3 (cf_lst ca_nil) csrc_nil)))
  (css_cons (cs_for B (ci_seq B (ce_var B 1)) (cg_name B 4) (css_cons (cs_set B 5 (ce_callR B h_improved (car_v (ce_var B 0) (car_r B 2 (car_v (ce_var B 4) car_nil)))))
  (css_one (cs_if (ct_cmp (cc_ne B) (ce_var B 5) (ce_frz (cf_lst ca_nil))) (css_one (cs_append B 3 (ce_var B 5))) css_nil))))
  (css_one (cs_ret (ce_tup (ca_cons (ce_var B 2) (ca_cons (ce_var B 3) ca_nil)))))))
theorem b_beds_by (F : Fx K mg C) (W : WX) : CSs C W (XPd P w K mg base 0 ["found", "bed"] (defScope (top 23)) W) (defBody (top 23)) (w_beds_by) :=
  have B := bd_def (P := P) (w := w) (K := K) (mg := mg) (base := base) (W := W) (k := 0) (N := ["found", "bed"]) (sc := defScope (top 23)) (by decide)
  (css_one (cs_ret (ce_inv B 0 1)))
theorem b_lodging_of (F : Fx K mg C) (h_beds_by : Has P w K mg base C 1 "beds_by" ["found"] ct_beds_by) (W : WX) : CSs C W (XPd P w K mg base 1 ["house", "found", "beds", "person"] (defScope (top 25)) W) (defBody (top 25)) (w_lodging_of) :=
  have B := bd_def (P := P) (w := w) (K := K) (mg := mg) (base := base) (W := W) (k := 1) (N := ["house", "found", "beds", "person"]) (sc := defScope (top 25)) (by decide)
  (css_cons (cs_set B 2 (ce_call B h_beds_by (ca_cons (ce_var B 1) ca_nil)))
  (css_one (cs_ret (ce_toTup B F.f_tuple (ce_frz (cf_lc B [("person", 3)] (ci_range1 B F.f_range (ca_cons (ce_fld B 0 2 F.ok (F.na_0 "persons" (by decide)) F.cf0_2 F.nd0 (ce_var B 0)) ca_nil)) (cg_name (B.blk _) 3) cts_nil (ce_getV (B.blk _) 2 (ce_var (B.blk _) 3))))))))
theorem b_most_of (F : Fx K mg C) (h_let_in_turn : Has P w K mg base C 3 "let_in_turn" ["options", "order"] ct_let_in_turn) (W : WX) : CSs C W (XPd P w K mg base 3 ["house", "some"] (defScope (top 26)) W) (defBody (top 26)) (w_most_of) :=
  have B := bd_def (P := P) (w := w) (K := K) (mg := mg) (base := base) (W := W) (k := 3) (N := ["house", "some"]) (sc := defScope (top 26)) (by decide)
  (css_one (cs_ret (ce_len B F.f_len (ce_ix B (ce_call B h_let_in_turn (ca_cons (ce_fld B 0 1 F.ok (F.na_0 "fits" (by decide)) F.cf0_1 F.nd0 (ce_var B 0)) (ca_cons (ce_var B 1) ca_nil))) ce_int))))
theorem b_most_lodged (F : Fx K mg C) (h_most_of : Has P w K mg base C 4 "most_of" ["house", "some"] ct_most_of) (h_check_some : Has P w K mg base C 5 "check_some" ["house", "some"] ct_check_some) (W : WX) : CSs C W (XPd P w K mg base 5 ["house", "some"] (defScope (top 27)) W) (defBody (top 27)) (w_most_lodged) :=
  have B := bd_def (P := P) (w := w) (K := K) (mg := mg) (base := base) (W := W) (k := 5) (N := ["house", "some"]) (sc := defScope (top 27)) (by decide)
  (css_cons (cs_drop (ce_call B h_check_some (ca_cons (ce_var B 0) (ca_cons (ce_var B 1) ca_nil))))
  (css_one (cs_ret (ce_call B h_most_of (ca_cons (ce_var B 0) (ca_cons (ce_var B 1) ca_nil))))))
theorem b_lodged_of (F : Fx K mg C) (h_let_in_turn : Has P w K mg base C 3 "let_in_turn" ["options", "order"] ct_let_in_turn) (h_lodging_of : Has P w K mg base C 2 "lodging_of" ["house", "found"] ct_lodging_of) (W : WX) : CSs C W (XPd P w K mg base 3 ["house", "some"] (defScope (top 28)) W) (defBody (top 28)) (w_lodged_of) :=
  have B := bd_def (P := P) (w := w) (K := K) (mg := mg) (base := base) (W := W) (k := 3) (N := ["house", "some"]) (sc := defScope (top 28)) (by decide)
  (css_one (cs_ret (ce_call B h_lodging_of (ca_cons (ce_var B 0) (ca_cons (ce_ix B (ce_call B h_let_in_turn (ca_cons (ce_fld B 0 1 F.ok (F.na_0 "fits" (by decide)) F.cf0_1 F.nd0 (ce_var B 0)) (ca_cons (ce_var B 1) ca_nil))) ce_int) ca_nil)))))
theorem b_lodged (F : Fx K mg C) (h_lodged_of : Has P w K mg base C 4 "lodged_of" ["house", "some"] ct_lodged_of) (h_check_some : Has P w K mg base C 5 "check_some" ["house", "some"] ct_check_some) (W : WX) : CSs C W (XPd P w K mg base 5 ["house", "some"] (defScope (top 29)) W) (defBody (top 29)) (w_lodged) :=
  have B := bd_def (P := P) (w := w) (K := K) (mg := mg) (base := base) (W := W) (k := 5) (N := ["house", "some"]) (sc := defScope (top 29)) (by decide)
  (css_cons (cs_drop (ce_call B h_check_some (ca_cons (ce_var B 0) (ca_cons (ce_var B 1) ca_nil))))
  (css_one (cs_ret (ce_call B h_lodged_of (ca_cons (ce_var B 0) (ca_cons (ce_var B 1) ca_nil))))))
theorem b_all_fit (F : Fx K mg C) (h_most_of : Has P w K mg base C 4 "most_of" ["house", "some"] ct_most_of) (W : WX) : CSs C W (XPd P w K mg base 4 ["house", "some"] (defScope (top 30)) W) (defBody (top 30)) (w_all_fit) :=
  have B := bd_def (P := P) (w := w) (K := K) (mg := mg) (base := base) (W := W) (k := 4) (N := ["house", "some"]) (sc := defScope (top 30)) (by decide)
  (css_one (cs_ret (ce_cmp (cc_eq B) (ce_call B h_most_of (ca_cons (ce_var B 0) (ca_cons (ce_var B 1) ca_nil))) (ce_len B F.f_len (ce_var B 1)))))
theorem b_can_lodge (F : Fx K mg C) (h_all_fit : Has P w K mg base C 5 "all_fit" ["house", "some"] ct_all_fit) (h_check_some : Has P w K mg base C 5 "check_some" ["house", "some"] ct_check_some) (W : WX) : CSs C W (XPd P w K mg base 5 ["house", "some"] (defScope (top 31)) W) (defBody (top 31)) (w_can_lodge) :=
  have B := bd_def (P := P) (w := w) (K := K) (mg := mg) (base := base) (W := W) (k := 5) (N := ["house", "some"]) (sc := defScope (top 31)) (by decide)
  (css_cons (cs_drop (ce_call B h_check_some (ca_cons (ce_var B 0) (ca_cons (ce_var B 1) ca_nil))))
  (css_one (cs_ret (ce_call B h_all_fit (ca_cons (ce_var B 0) (ca_cons (ce_var B 1) ca_nil))))))
theorem b__law_any (F : Fx K mg C) (h__law_draw : Has P w K mg base C 1 "_law_draw" ["hand", "many"] ct__law_draw) (W : WX) : CSs C W (XPd P w K mg base 1 ["hand", "some"] (defScope (top 35)) W) (defBody (top 35)) (w__law_any) :=
  have B := bd_def (P := P) (w := w) (K := K) (mg := mg) (base := base) (W := W) (k := 1) (N := ["hand", "some"]) (sc := defScope (top 35)) (by decide)
  (css_one (cs_ret (ce_ix B (ce_var B 1) (ce_call B h__law_draw (ca_cons (ce_var B 0) (ca_cons (ce_len B F.f_len (ce_var B 1)) ca_nil))))))
theorem b__law_mixed (F : Fx K mg C) (h__law_draw : Has P w K mg base C 1 "_law_draw" ["hand", "many"] ct__law_draw) (W : WX) : CSs C W (XPd P w K mg base 1 ["hand", "some", "left", "found"] (defScope (top 36)) W) (defBody (top 36)) (w__law_mixed) :=
  have B := bd_def (P := P) (w := w) (K := K) (mg := mg) (base := base) (W := W) (k := 1) (N := ["hand", "some", "left", "found"]) (sc := defScope (top 36)) (by decide)
  (css_cons (cs_par2 B (csrc_f 2 (cf_toLst B F.f_list (ce_var B 1)) (csrc_f 3 (cf_lst ca_nil) csrc_nil)))
  (css_cons (cs_while B (ct_cmp cc_gt (ce_len B F.f_len (ce_var B 2)) ce_int) (css_one (cs_append B 3 (ce_popAt B 2 (ce_call B h__law_draw (ca_cons (ce_var B 0) (ca_cons (ce_len B F.f_len (ce_var B 2)) ca_nil)))))))
  (css_one (cs_ret (ce_var B 3)))))
theorem b__law_same (F : Fx K mg C) {k m : Nat} (h__law_same : Has P w K mg base C k "_law_same" ["one", "due"] (ct__law_same m)) (W : WX) : CSs C W (XPd P w K mg base k ["one", "due", "two", "other"] (defScope (top 37)) W) (defBody (top 37)) (w__law_same m) :=
  have B := bd_def (P := P) (w := w) (K := K) (mg := mg) (base := base) (W := W) (k := k) (N := ["one", "due", "two", "other"]) (sc := defScope (top 37)) (by decide)
  (css_cons (cs_if (ct_val (ce_isi2 B F.ok F.f_isinstance (ce_var B 1) (ty_b B "tuple" .tuple F.f_tuple PyProof.Rows.boot_tuple) (ty_b B "list" .list F.f_list PyProof.Rows.boot_list))) (css_cons (cs_if (ct_w (cw_or (ct_cmp (cc_ne B) (ce_isi B F.ok F.f_isinstance (ce_var B 0) (ty_b B "tuple" .tuple F.f_tuple PyProof.Rows.boot_tuple)) (ce_isi B F.ok F.f_isinstance (ce_var B 1) (ty_b B "tuple" .tuple F.f_tuple PyProof.Rows.boot_tuple))) (cw_or1 (ct_not (ct_val (ce_isi2 B F.ok F.f_isinstance (ce_var B 0) (ty_b B "tuple" .tuple F.f_tuple PyProof.Rows.boot_tuple) (ty_b B "list" .list F.f_list PyProof.Rows.boot_list))))))) (css_one (cs_ret ce_bl)) css_nil)
  (css_one (cs_ret (ce_and (ce_cmp (cc_eq B) (ce_len B F.f_len (ce_var B 0)) (ce_len B F.f_len (ce_var B 1))) (ce_bool1 (ce_all B F.f_all (ce_frz (cf_lc B [("two", 2), ("other", 3)] (ci_zip B F.f_zip (ca_cons (ce_var B 0) (ca_cons (ce_var B 1) ca_nil))) (cg_tup (B.blk _) (cgs_cons (cg_name (B.blk _) 2) (cgs_cons (cg_name (B.blk _) 3) cgs_nil))) cts_nil (ce_call (B.blk _) h__law_same (ca_cons (ce_var (B.blk _) 2) (ca_cons (ce_var (B.blk _) 3) ca_nil)) (by omega)))))))))) css_nil)
  (css_cons (cs_if (ct_w (cw_or (ct_val (ce_isi B F.ok F.f_isinstance (ce_var B 1) (ty_b B "bool" .bool F.f_bool PyProof.Rows.boot_bool))) (cw_or (ct_val (ce_isi B F.ok F.f_isinstance (ce_var B 0) (ty_b B "bool" .bool F.f_bool PyProof.Rows.boot_bool))) (cw_or (ct_cmp cc_isN (ce_var B 1) ce_non) (cw_or1 (ct_cmp cc_isN (ce_var B 0) ce_non)))))) (css_one (cs_ret (ce_and (ce_cmp (cc_eq B) (ce_isi B F.ok F.f_isinstance (ce_var B 0) (ty_b B "bool" .bool F.f_bool PyProof.Rows.boot_bool)) (ce_isi B F.ok F.f_isinstance (ce_var B 1) (ty_b B "bool" .bool F.f_bool PyProof.Rows.boot_bool))) (ce_and (ce_cmp (cc_eq B) (ce_cmp cc_isN (ce_var B 0) ce_non) (ce_cmp cc_isN (ce_var B 1) ce_non)) (ce_bool1 (ce_cmp (cc_eq B) (ce_var B 0) (ce_var B 1))))))) css_nil)
  (css_one (cs_ret (ce_and (ce_cmp (cc_eq B) (ce_isi B F.ok F.f_isinstance (ce_var B 0) (ty_b B "str" .str F.f_str PyProof.Rows.boot_str)) (ce_isi B F.ok F.f_isinstance (ce_var B 1) (ty_b B "str" .str F.f_str PyProof.Rows.boot_str))) (ce_and (ce_isi2 B F.ok F.f_isinstance (ce_var B 0) (ty_b B "int" .int F.f_int PyProof.Rows.boot_int) (ty_b B "str" .str F.f_str PyProof.Rows.boot_str)) (ce_bool1 (ce_cmp (cc_eq B) (ce_var B 0) (ce_var B 1)))))))))
theorem b__law_renamed (F : Fx K mg C) (h__law_mixed : Has P w K mg base C 2 "_law_mixed" ["hand", "some"] ct__law_mixed) (W : WX) : CSs C W (XPd P w K mg base 2 ["hand", "beds", "rows", "names", "found", "row", "bed"] (defScope (top 38)) W) (defBody (top 38)) (w__law_renamed) :=
  have B := bd_def (P := P) (w := w) (K := K) (mg := mg) (base := base) (W := W) (k := 2) (N := ["hand", "beds", "rows", "names", "found", "row", "bed"]) (sc := defScope (top 38)) (by decide)
  (css_cons (cs_parT2 B (csrc_v 3 (ce_call B h__law_mixed (ca_cons (ce_var B 0) (ca_cons (ce_frz (cf_rgL B F.f_list F.f_range (ce_var B 1))) ca_nil))) (csrc_f 4 (cf_lst ca_nil) csrc_nil)))
  (css_cons (cs_for B (ci_seq B (ce_call B h__law_mixed (ca_cons (ce_var B 0) (ca_cons (ce_var B 2) ca_nil)))) (cg_name B 5) (css_one (cs_append B 4 (ce_toTup B F.f_tuple (ce_frz (cf_sortSet B F.f_sorted F.f_set (ce_frz (cf_lc B [("bed", 6)] (ci_seq B (ce_var B 5)) (cg_name (B.blk _) 6) cts_nil (ce_ix (B.blk _) (ce_var (B.blk _) 3) (ce_var (B.blk _) 6))))))))))
  (css_one (cs_ret (ce_tup (ca_cons (ce_var B 1) (ca_cons (ce_toTup B F.f_tuple (ce_var B 4)) ca_nil)))))))
theorem b__law_planted (F : Fx K mg C) (h__law_draw : Has P w K mg base C 1 "_law_draw" ["hand", "many"] ct__law_draw) (W : WX) : CSs C W (XPd P w K mg base 1 ["hand", "size", "a", "b", "c", "more", "rows", "turn", "person", "extra", "bed"] (defScope (top 39)) W) (defBody (top 39)) (w__law_planted) :=
  have B := bd_def (P := P) (w := w) (K := K) (mg := mg) (base := base) (W := W) (k := 1) (N := ["hand", "size", "a", "b", "c", "more", "rows", "turn", "person", "extra", "bed"]) (sc := defScope (top 39)) (by decide)
  (css_cons (cs_parT3 B (csrc_v 2 (ce_bin (cb_add B) ce_int (ce_call B h__law_draw (ca_cons (ce_var B 0) (ca_cons (ce_var B 1) ca_nil)))) (csrc_v 3 (ce_call B h__law_draw (ca_cons (ce_var B 0) (ca_cons (ce_var B 1) ca_nil))) (csrc_v 4 (ce_call B h__law_draw (ca_cons (ce_var B 0) (ca_cons (ce_bin (cb_add B) (ce_var B 1) ce_int) ca_nil))) csrc_nil))))
  (css_cons (cs_par2 B (csrc_v 5 (ce_bin (cb_add B) ce_int (ce_call B h__law_draw (ca_cons (ce_var B 0) (ca_cons ce_int ca_nil)))) (csrc_f 6 (cf_lst ca_nil) csrc_nil)))
  (css_cons (cs_for B (ci_range1 B F.f_range (ca_cons (ce_bin (cb_add B) (ce_var B 2) (ce_var B 5)) ca_nil)) (cg_name B 7) (css_one (cs_append B 6 (ce_frz (cf_lc B [("bed", 10)] (ci_range1 B F.f_range (ca_cons (ce_var B 2) ca_nil)) (cg_name (B.blk _) 10) (cts_one (ct_cmp cc_gt (ce_call (B.blk _) h__law_draw (ca_cons (ce_var (B.blk _) 0) (ca_cons ce_int ca_nil))) ce_int)) (ce_var (B.blk _) 10))))))
  (css_cons (cs_for B (ci_range1 B F.f_range (ca_cons (ce_var B 4) ca_nil)) (cg_name B 8) (css_cons (cs_setLcV B 9 [("bed", 10)] (ci_range1 B F.f_range (ca_cons (ce_bin (cb_add B) (ce_var B 2) (ce_var B 8)) ca_nil)) (cg_name (B.blk _) 10) (cts_one (ct_cmp (cc_eq (B.blk _)) (ce_call (B.blk _) h__law_draw (ca_cons (ce_var (B.blk _) 0) (ca_cons ce_int ca_nil))) ce_int)) (ce_var (B.blk _) 10))
  (css_one (cs_append B 6 (ce_bin (cb_add B) (ce_bin (cb_add B) (ce_var B 9) (ce_frz (cf_lst (ca_cons (ce_bin (cb_add B) (ce_var B 2) (ce_var B 8)) ca_nil)))) (ce_frz (cf_lc B [("bed", 10)] (ci_range2 B F.f_range (ca_cons (ce_var B 8) (ca_cons (ce_var B 4) ca_nil))) (cg_name (B.blk _) 10) (cts_one (ct_cmp (cc_eq (B.blk _)) (ce_call (B.blk _) h__law_draw (ca_cons (ce_var (B.blk _) 0) (ca_cons ce_int ca_nil))) ce_int)) (ce_bin (cb_add (B.blk _)) (ce_var (B.blk _) 2) (ce_var (B.blk _) 10)))))))))
  (css_cons (cs_for B (ci_range1 B F.f_range (ca_cons (ce_var B 3) ca_nil)) (cg_name B 8) (css_cons (cs_setLcV B 9 [("bed", 10)] (ci_range1 B F.f_range (ca_cons (ce_bin (cb_add B) (ce_var B 2) (ce_var B 4)) ca_nil)) (cg_name (B.blk _) 10) (cts_one (ct_cmp (cc_eq (B.blk _)) (ce_call (B.blk _) h__law_draw (ca_cons (ce_var (B.blk _) 0) (ca_cons ce_int ca_nil))) ce_int)) (ce_var (B.blk _) 10))
  (css_one (cs_append B 6 (ce_bin (cb_add B) (ce_var B 9) (ce_frz (cf_lc B [("bed", 10)] (ci_range1 B F.f_range (ca_cons (ce_bin (cb_add B) (ce_var B 3) (ce_var B 5)) ca_nil)) (cg_name (B.blk _) 10) (cts_one (ct_w (cw_or (ct_cmp (cc_eq (B.blk _)) (ce_var (B.blk _) 10) (ce_var (B.blk _) 8)) (cw_or1 (ct_cmp cc_gt (ce_call (B.blk _) h__law_draw (ca_cons (ce_var (B.blk _) 0) (ca_cons ce_int ca_nil))) ce_int))))) (ce_bin (cb_add (B.blk _)) (ce_bin (cb_add (B.blk _)) (ce_var (B.blk _) 2) (ce_var (B.blk _) 4)) (ce_var (B.blk _) 10)))))))))
  (css_one (cs_ret (ce_tup (ca_cons (ce_bin (cb_add B) (ce_bin (cb_add B) (ce_bin (cb_add B) (ce_var B 2) (ce_var B 3)) (ce_var B 4)) (ce_var B 5)) (ca_cons (ce_var B 6) ca_nil))))))))))
theorem b__law_house (F : Fx K mg C) (h__law_renamed : Has P w K mg base C 3 "_law_renamed" ["hand", "beds", "rows"] ct__law_renamed) (h__law_draw : Has P w K mg base C 1 "_law_draw" ["hand", "many"] ct__law_draw) (h__law_any_r : HasR P w K mg base C 2 "_law_any" ["hand", "some"] ct__law_any_r) (h__law_any : Has P w K mg base C 2 "_law_any" ["hand", "some"] ct__law_any) (h__law_planted : Has P w K mg base C 2 "_law_planted" ["hand", "size"] ct__law_planted) (W : WX) : CSs C W (XPd P w K mg base 3 ["hand", "beds", "persons", "which", "rows", "made", "share", "wide", "person", "row", "bed", "k"] (defScope (top 40)) W) (defBody (top 40)) (w__law_house) :=
  have B := bd_def (P := P) (w := w) (K := K) (mg := mg) (base := base) (W := W) (k := 3) (N := ["hand", "beds", "persons", "which", "rows", "made", "share", "wide", "person", "row", "bed", "k"]) (sc := defScope (top 40)) (by decide)
  (css_cons (cs_par2 B (csrc_v 3 (ce_call B h__law_draw (ca_cons (ce_var B 0) (ca_cons ce_int ca_nil))) (csrc_f 4 (cf_lst ca_nil) csrc_nil)))
  (css_cons (cs_if (ct_w (cw_and (ct_cmp (cc_eq B) (ce_var B 3) ce_int) (cw_and1 (ct_cmp cc_gt (ce_var B 1) ce_int)))) (css_cons (cs_set B 5 (ce_call B h__law_planted (ca_cons (ce_var B 0) (ca_cons (ce_max2 B F.f_max (ca_cons ce_int (ca_cons (ce_bin cb_div (ce_min3 B F.f_min (ca_cons (ce_var B 1) (ca_cons (ce_var B 2) (ca_cons ce_int ca_nil)))) ce_int) ca_nil))) ca_nil))))
  (css_one (cs_ret (ce_call B h__law_renamed (ca_cons (ce_var B 0) (ca_cons (ce_ix B (ce_var B 5) ce_int) (ca_cons (ce_ix B (ce_var B 5) ce_int) ca_nil))))))) css_nil)
  (css_cons (cs_parT2 B (csrc_v 6 (ce_call B h__law_any (ca_cons (ce_var B 0) (ca_cons (ce_frz (cf_lst (ca_cons ce_int (ca_cons ce_int (ca_cons ce_int (ca_cons ce_int ca_nil)))))) ca_nil))) (csrc_v 7 (ce_bin (cb_add B) ce_int (ce_call B h__law_draw (ca_cons (ce_var B 0) (ca_cons ce_int ca_nil)))) csrc_nil)))
  (css_cons (cs_for B (ci_range1 B F.f_range (ca_cons (ce_var B 2) ca_nil)) (cg_name B 8) (css_cons (cs_if (ct_cmp (cc_eq B) (ce_var B 3) ce_int) (css_one (cs_setLcV B 9 [("bed", 10)] (ci_range2 B F.f_range (ca_cons (ce_var B 8) (ca_cons (ce_min2 B F.f_min (ca_cons (ce_var B 1) (ca_cons (ce_bin (cb_add B) (ce_bin (cb_add B) (ce_var B 8) (ce_var B 7)) ce_int) ca_nil))) ca_nil))) (cg_name (B.blk _) 10) cts_nil (ce_var (B.blk _) 10))) (css_one (cs_if (ct_cmp (cc_eq B) (ce_var B 3) ce_int) (css_one (cs_setLcV B 9 [("k", 11)] (ci_range1 B F.f_range (ca_cons (ce_min2 B F.f_min (ca_cons ce_int (ca_cons (ce_var B 1) ca_nil))) ca_nil)) (cg_name (B.blk _) 11) cts_nil (ce_bin cb_mod (ce_toInt (B.blk _) F.f_int (ce_bin (cb_add (B.blk _)) (ce_var (B.blk _) 8) (ce_var (B.blk _) 11))) (ce_max2 (B.blk _) F.f_max (ca_cons ce_int (ca_cons (ce_var (B.blk _) 1) ca_nil)))))) (css_one (cs_if (ct_cmp (cc_eq B) (ce_var B 3) ce_int) (css_one (cs_set B 9 (ce_frz (cf_rgL B F.f_list F.f_range (ce_call B h__law_draw (ca_cons (ce_var B 0) (ca_cons (ce_bin (cb_add B) (ce_var B 1) ce_int) ca_nil))))))) (css_one (cs_setLcV B 9 [("bed", 10)] (ci_range1 B F.f_range (ca_cons (ce_var B 1) ca_nil)) (cg_name (B.blk _) 10) (cts_one (ct_cmp (cc_eq (B.blk _)) (ce_call (B.blk _) h__law_draw (ca_cons (ce_var (B.blk _) 0) (ca_cons (ce_var (B.blk _) 6) ca_nil))) ce_int)) (ce_var (B.blk _) 10))))))))
  (css_cons (cs_if (ct_w (cw_and (ct_cmp (cc_eq B) (ce_var B 3) ce_int) (cw_and (ct_cmp cc_gt (ce_len B F.f_len (ce_var B 4)) ce_int) (cw_and1 (ct_cmp (cc_eq B) (ce_call B h__law_draw (ca_cons (ce_var B 0) (ca_cons ce_int ca_nil))) ce_int))))) (css_one (cs_set B 9 (ce_callR B h__law_any_r (car_v (ce_var B 0) (car_r B 4 car_nil))))) css_nil)
  (css_one (cs_append B 4 (ce_var B 9))))))
  (css_one (cs_ret (ce_call B h__law_renamed (ca_cons (ce_var B 0) (ca_cons (ce_var B 1) (ca_cons (ce_var B 4) ca_nil))))))))))
theorem b__law_seat (F : Fx K mg C) {k m : Nat} (h__law_seat : HasR P w K mg base C k "_law_seat" ["x", "choices", "taken", "met"] (ct__law_seat m)) (W : WX) : CSs C W (XPd P w K mg base k ["x", "choices", "taken", "met", "bed"] (defScope (top 41)) W) (defBody (top 41)) (w__law_seat m) :=
  have B := bd_def (P := P) (w := w) (K := K) (mg := mg) (base := base) (W := W) (k := k) (N := ["x", "choices", "taken", "met", "bed"]) (sc := defScope (top 41)) (by decide)
  (css_cons (cs_for B (ci_seq B (ce_ix B (ce_var B 1) (ce_var B 0))) (cg_name B 4) (css_one (cs_if (ct_cmp (cc_notIn B) (ce_var B 4) (ce_var B 3)) (css_cons (cs_putD B 3 ce_bl (ce_var B 4))
  (css_one (cs_if (ct_w (cw_or (ct_cmp (cc_notIn B) (ce_var B 4) (ce_var B 2)) (cw_or1 (ct_val (ce_callR B h__law_seat (car_v (ce_ix B (ce_var B 2) (ce_var B 4)) (car_v (ce_var B 1) (car_r B 2 (car_r B 3 car_nil)))) (hk := by omega)))))) (css_cons (cs_putD B 2 (ce_var B 0) (ce_var B 4))
  (css_one (cs_ret ce_bl))) css_nil))) css_nil)))
  (css_one (cs_ret ce_bl)))
theorem b__law_seated (F : Fx K mg C) (h__law_seat : HasR P w K mg base C 26 "_law_seat" ["x", "choices", "taken", "met"] (ct__law_seat 25)) (W : WX) : CSs C W (XPd P w K mg base 26 ["choices", "taken", "x"] (defScope (top 42)) W) (defBody (top 42)) (w__law_seated) :=
  have B := bd_def (P := P) (w := w) (K := K) (mg := mg) (base := base) (W := W) (k := 26) (N := ["choices", "taken", "x"]) (sc := defScope (top 42)) (by decide)
  (css_cons (cs_newD B 1)
  (css_cons (cs_for B (ci_range1 B F.f_range (ca_cons (ce_len B F.f_len (ce_var B 0)) ca_nil)) (cg_name B 2) (css_one (cs_drop (ce_callR B h__law_seat (car_v (ce_var B 2) (car_v (ce_var B 0) (car_r B 1 car_n)))))))
  (css_one (cs_ret (ce_var B 1)))))
theorem b__law_most (F : Fx K mg C) (h__law_seated : Has P w K mg base C 27 "_law_seated" ["choices"] ct__law_seated) (W : WX) : CSs C W (XPd P w K mg base 27 ["fits", "some", "x"] (defScope (top 43)) W) (defBody (top 43)) (w__law_most) :=
  have B := bd_def (P := P) (w := w) (K := K) (mg := mg) (base := base) (W := W) (k := 27) (N := ["fits", "some", "x"]) (sc := defScope (top 43)) (by decide)
  (css_one (cs_ret (ce_len B F.f_len (ce_call B h__law_seated (ca_cons (ce_frz (cf_lc B [("x", 2)] (ci_seq B (ce_var B 1)) (cg_name (B.blk _) 2) cts_nil (ce_ix (B.blk _) (ce_var (B.blk _) 0) (ce_var (B.blk _) 2)))) ca_nil)))))
theorem b__law_row (F : Fx K mg C) (h__law_draw : Has P w K mg base C 1 "_law_draw" ["hand", "many"] ct__law_draw) (h__law_mixed : Has P w K mg base C 2 "_law_mixed" ["hand", "some"] ct__law_mixed) (h__law_any : Has P w K mg base C 2 "_law_any" ["hand", "some"] ct__law_any) (W : WX) : CSs C W (XPd P w K mg base 2 ["hand", "many", "share", "x"] (defScope (top 44)) W) (defBody (top 44)) (w__law_row) :=
  have B := bd_def (P := P) (w := w) (K := K) (mg := mg) (base := base) (W := W) (k := 2) (N := ["hand", "many", "share", "x"]) (sc := defScope (top 44)) (by decide)
  (css_cons (cs_set B 2 (ce_call B h__law_any (ca_cons (ce_var B 0) (ca_cons (ce_frz (cf_lst (ca_cons ce_int (ca_cons ce_int (ca_cons ce_int (ca_cons ce_int (ca_cons ce_int (ca_cons ce_int ca_nil)))))))) ca_nil))))
  (css_cons (cs_if (ct_cmp (cc_eq B) (ce_var B 2) ce_int) (css_one (cs_ret (ce_toTup B F.f_tuple (ce_frz (cf_sortI B F.f_sorted (ce_slice B (ce_call B h__law_mixed (ca_cons (ce_var B 0) (ca_cons (ce_frz (cf_rgL B F.f_list F.f_range (ce_var B 1))) ca_nil))) co_none (co_some (ce_call B h__law_draw (ca_cons (ce_var B 0) (ca_cons ce_int ca_nil)))))))))) css_nil)
  (css_one (cs_ret (ce_toTup B F.f_tuple (ce_frz (cf_lc B [("x", 3)] (ci_range1 B F.f_range (ca_cons (ce_var B 1) ca_nil)) (cg_name (B.blk _) 3) (cts_one (ct_w (cw_or (ct_cmp (cc_eq (B.blk _)) (ce_var (B.blk _) 2) ce_int) (cw_or1 (ct_cmp cc_gt (ce_call (B.blk _) h__law_draw (ca_cons (ce_var (B.blk _) 0) (ca_cons (ce_var (B.blk _) 2) ca_nil))) ce_int))))) (ce_var (B.blk _) 3))))))))
theorem b__law_all_lodgings (F : Fx K mg C) (W : WX) : CSs C W (XPd P w K mg base 0 ["house", "found", "row", "longer", "lodging", "bed"] (defScope (top 45)) W) (defBody (top 45)) (w__law_all_lodgings) :=
  have B := bd_def (P := P) (w := w) (K := K) (mg := mg) (base := base) (W := W) (k := 0) (N := ["house", "found", "row", "longer", "lodging", "bed"]) (sc := defScope (top 45)) (by decide)
  (css_cons (cs_set B 1 (ce_frz (cf_lst (ca_cons (ce_tup ca_nil) ca_nil))))
  (css_cons (cs_for B (ci_seq B (ce_ix B (ce_var B 0) ce_int)) (cg_name B 2) (css_cons (cs_set B 3 (ce_frz (cf_lst ca_nil)))
  (css_cons (cs_for B (ci_seq B (ce_var B 1)) (cg_name B 4) (css_one (cs_set B 3 (ce_bin (cb_add B) (ce_bin (cb_add B) (ce_var B 3) (ce_frz (cf_lst (ca_cons (ce_bin (cb_add B) (ce_var B 4) (ce_tup (ca_cons ce_non ca_nil))) ca_nil)))) (ce_frz (cf_lc B [("bed", 5)] (ci_seq B (ce_var B 2)) (cg_name (B.blk _) 5) (cts_one (ct_cmp (cc_notIn (B.blk _)) (ce_var (B.blk _) 5) (ce_var (B.blk _) 4))) (ce_bin (cb_add (B.blk _)) (ce_var (B.blk _) 4) (ce_tup (ca_cons (ce_var (B.blk _) 5) ca_nil)))))))))
  (css_one (cs_set B 1 (ce_var B 3))))))
  (css_one (cs_ret (ce_var B 1)))))
theorem b__law_are_numbers_right (F : Fx K mg C) (h__law_draw : Has P w K mg base C 1 "_law_draw" ["hand", "many"] ct__law_draw) (h_most_lodged : Has P w K mg base C 6 "most_lodged" ["house", "some"] ct_most_lodged) (h__law_same : Has P w K mg base C 5 "_law_same" ["one", "due"] (ct__law_same 4)) (h_House : HasI P w K mg base C 5 "House" 0 ["self", "beds", "fits"] ct_House) (h__law_most : Has P w K mg base C 28 "_law_most" ["fits", "some"] ct__law_most) (h__law_any : Has P w K mg base C 2 "_law_any" ["hand", "some"] ct__law_any) (h__law_row : Has P w K mg base C 3 "_law_row" ["hand", "many"] ct__law_row) (h__law_house : Has P w K mg base C 4 "_law_house" ["hand", "beds", "persons"] ct__law_house) (h__law_all_lodgings : Has P w K mg base C 1 "_law_all_lodgings" ["house"] ct__law_all_lodgings) (W : WX) : CSs C W (XPd P w K mg base 28 ["hand", "known", "turn", "beds", "fits", "house", "some", "most", "persons", "other", "due", "x", "less", "full", "one", "y"] (defScope (top 46)) W) (defBody (top 46)) (w__law_are_numbers_right) :=
  have B := bd_def (P := P) (w := w) (K := K) (mg := mg) (base := base) (W := W) (k := 28) (N := ["hand", "known", "turn", "beds", "fits", "house", "some", "most", "persons", "other", "due", "x", "less", "full", "one", "y"]) (sc := defScope (top 46)) (by decide)
  (css_cons (cs_set B 1 (ce_frz (cf_lst (ca_cons (ce_tup (ca_cons (ce_tup (ca_cons ce_int (ca_cons (ce_tup (ca_cons (ce_tup (ca_cons ce_int (ca_cons ce_int ca_nil))) (ca_cons (ce_tup (ca_cons ce_int (ca_cons ce_int ca_nil))) (ca_cons (ce_tup (ca_cons ce_int (ca_cons ce_int ca_nil))) ca_nil)))) ca_nil))) (ca_cons (ce_tup (ca_cons ce_int (ca_cons ce_int (ca_cons ce_int ca_nil)))) (ca_cons ce_int ca_nil)))) (ca_cons (ce_tup (ca_cons (ce_tup (ca_cons ce_int (ca_cons (ce_tup (ca_cons (ce_tup (ca_cons ce_int ca_nil)) (ca_cons (ce_tup (ca_cons ce_int ca_nil)) (ca_cons (ce_tup (ca_cons ce_int (ca_cons ce_int ca_nil))) ca_nil)))) ca_nil))) (ca_cons (ce_tup (ca_cons ce_int (ca_cons ce_int (ca_cons ce_int ca_nil)))) (ca_cons ce_int ca_nil)))) (ca_cons (ce_tup (ca_cons (ce_tup (ca_cons ce_int (ca_cons (ce_tup (ca_cons (ce_tup (ca_cons ce_int ca_nil)) (ca_cons (ce_tup (ca_cons ce_int ca_nil)) (ca_cons (ce_tup (ca_cons ce_int (ca_cons ce_int ca_nil))) ca_nil)))) ca_nil))) (ca_cons (ce_tup (ca_cons ce_int (ca_cons ce_int ca_nil))) (ca_cons ce_int ca_nil)))) (ca_cons (ce_tup (ca_cons (ce_tup (ca_cons ce_int (ca_cons (ce_tup (ca_cons (ce_tup ca_nil) ca_nil)) ca_nil))) (ca_cons (ce_tup (ca_cons ce_int ca_nil)) (ca_cons ce_int ca_nil)))) ca_nil)))))))
  (css_cons (cs_if (ct_not (ct_val (ce_all B F.f_all (ce_frz (cf_lc B [("house", 5), ("some", 6), ("due", 10)] (ci_seq B (ce_var B 1)) (cg_tup (B.blk _) (cgs_cons (cg_name (B.blk _) 5) (cgs_cons (cg_name (B.blk _) 6) (cgs_cons (cg_name (B.blk _) 10) cgs_nil)))) cts_nil (ce_call (B.blk _) h__law_same (ca_cons (ce_call (B.blk _) h_most_lodged (ca_cons (ce_make (B.blk _) h_House (ca_cons (ce_ix (B.blk _) (ce_var (B.blk _) 5) ce_int) (ca_cons (ce_ix (B.blk _) (ce_var (B.blk _) 5) ce_int) ca_nil))) (ca_cons (ce_var (B.blk _) 6) ca_nil))) (ca_cons (ce_var (B.blk _) 10) ca_nil)))))))) (css_one (cs_ret ce_bl)) css_nil)
  (css_cons (cs_for B (ci_range1 B F.f_range (ca_cons ce_int ca_nil)) (cg_name B 2) (css_cons (cs_asg B (ce_call B h__law_house (ca_cons (ce_var B 0) (ca_cons (ce_bin (cb_add B) ce_int (ce_call B h__law_draw (ca_cons (ce_var B 0) (ca_cons ce_int ca_nil)))) (ca_cons (ce_bin (cb_add B) ce_int (ce_call B h__law_draw (ca_cons (ce_var B 0) (ca_cons ce_int ca_nil)))) ca_nil)))) (cg_tup B (cgs_cons (cg_name B 3) (cgs_cons (cg_name B 4) cgs_nil))))
  (css_cons (cs_parT2 B (csrc_v 5 (ce_make B h_House (ca_cons (ce_var B 3) (ca_cons (ce_var B 4) ca_nil))) (csrc_v 6 (ce_call B h__law_row (ca_cons (ce_var B 0) (ca_cons (ce_len B F.f_len (ce_var B 4)) ca_nil))) csrc_nil)))
  (css_cons (cs_set B 7 (ce_maxL B F.f_max (ce_frz (cf_lc B [("one", 14)] (ci_seq B (ce_call B h__law_all_lodgings (ca_cons (ce_tup (ca_cons (ce_var B 3) (ca_cons (ce_var B 4) ca_nil))) ca_nil))) (cg_cell B 14) cts_nil (ce_len (B.blk _) F.f_len (ce_frz (cf_lc (B.blk _) [("x", 11)] (ci_seq (B.blk _) (ce_var (B.blk _) 6)) (cg_name ((B.blk _).blk _) 11) (cts_one (ct_cmp cc_notN (ce_ix ((B.blk _).blk _) (ce_var ((B.blk _).blk _) 14) (ce_var ((B.blk _).blk _) 11)) ce_non)) (ce_var ((B.blk _).blk _) 11))))))))
  (css_one (cs_if (ct_w (cw_or (ct_not (ct_val (ce_call B h__law_same (ca_cons (ce_call B h_most_lodged (ca_cons (ce_var B 5) (ca_cons (ce_var B 6) ca_nil))) (ca_cons (ce_var B 7) ca_nil))))) (cw_or1 (ct_cmp (cc_ne B) (ce_var B 7) (ce_call B h__law_most (ca_cons (ce_var B 4) (ca_cons (ce_var B 6) ca_nil))))))) (css_one (cs_ret ce_bl)) css_nil))))))
  (css_cons (cs_for B (ci_seq B (ce_frz (cf_lst (ca_cons (ce_tup (ca_cons ce_int (ca_cons ce_int ca_nil))) (ca_cons (ce_tup (ca_cons ce_int (ca_cons ce_int ca_nil))) (ca_cons (ce_tup (ca_cons (ce_call B h__law_draw (ca_cons (ce_var B 0) (ca_cons ce_int ca_nil))) (ca_cons (ce_call B h__law_draw (ca_cons (ce_var B 0) (ca_cons ce_int ca_nil))) ca_nil))) ca_nil)))))) (cg_tup B (cgs_cons (cg_name B 3) (cgs_cons (cg_name B 8) cgs_nil))) (css_cons (cs_asg B (ce_call B h__law_house (ca_cons (ce_var B 0) (ca_cons (ce_var B 3) (ca_cons (ce_var B 8) ca_nil)))) (cg_tup B (cgs_cons (cg_name B 3) (cgs_cons (cg_name B 4) cgs_nil))))
  (css_cons (cs_parT3 B (csrc_v 5 (ce_make B h_House (ca_cons (ce_var B 3) (ca_cons (ce_var B 4) ca_nil))) (csrc_v 6 (ce_call B h__law_row (ca_cons (ce_var B 0) (ca_cons (ce_len B F.f_len (ce_var B 4)) ca_nil))) (csrc_v 9 (ce_call B h__law_row (ca_cons (ce_var B 0) (ca_cons (ce_len B F.f_len (ce_var B 4)) ca_nil))) csrc_nil))))
  (css_cons (cs_set B 10 (ce_frz (cf_lst (ca_cons (ce_call B h__law_most (ca_cons (ce_var B 4) (ca_cons (ce_var B 6) ca_nil))) (ca_cons (ce_call B h__law_most (ca_cons (ce_var B 4) (ca_cons (ce_var B 9) ca_nil))) ca_nil)))))
  (css_cons (cs_if (ct_not (ct_val (ce_call B h__law_same (ca_cons (ce_frz (cf_lst (ca_cons (ce_call B h_most_lodged (ca_cons (ce_var B 5) (ca_cons (ce_var B 6) ca_nil))) (ca_cons (ce_call B h_most_lodged (ca_cons (ce_var B 5) (ca_cons (ce_var B 9) ca_nil))) (ca_cons (ce_call B h_most_lodged (ca_cons (ce_var B 5) (ca_cons (ce_var B 6) ca_nil))) ca_nil))))) (ca_cons (ce_bin (cb_add B) (ce_var B 10) (ce_slice B (ce_var B 10) co_none (co_some ce_int))) ca_nil))))) (css_one (cs_ret ce_bl)) css_nil)
  (css_cons (cs_if (ct_cmp cc_gt (ce_len B F.f_len (ce_var B 6)) ce_int) (css_cons (cs_set B 11 (ce_call B h__law_any (ca_cons (ce_var B 0) (ca_cons (ce_var B 6) ca_nil))))
  (css_cons (cs_set B 12 (ce_toTup B F.f_tuple (ce_frz (cf_lc B [("y", 15)] (ci_seq B (ce_var B 6)) (cg_name (B.blk _) 15) (cts_one (ct_cmp (cc_ne (B.blk _)) (ce_var (B.blk _) 15) (ce_var (B.blk _) 11))) (ce_var (B.blk _) 15)))))
  (css_one (cs_if (ct_w (cw_or (ct_not (ct_val (ce_call B h__law_same (ca_cons (ce_call B h_most_lodged (ca_cons (ce_var B 5) (ca_cons (ce_var B 12) ca_nil))) (ca_cons (ce_call B h__law_most (ca_cons (ce_var B 4) (ca_cons (ce_var B 12) ca_nil))) ca_nil))))) (cw_or1 (ct_cmp (cc_notIn B) (ce_bin cb_sub (ce_ix B (ce_var B 10) ce_int) (ce_call B h__law_most (ca_cons (ce_var B 4) (ca_cons (ce_var B 12) ca_nil)))) (ce_tup (ca_cons ce_int (ca_cons ce_int ca_nil))))))) (css_one (cs_ret ce_bl)) css_nil)))) css_nil)
  (css_cons (cs_set B 13 (ce_make B h_House (ca_cons (ce_var B 3) (ca_cons (ce_bin (cb_mul B) (ce_tup (ca_cons (ce_rgT B F.f_tuple F.f_range (ce_var B 3)) ca_nil)) (ce_var B 8)) ca_nil))))
  (css_one (cs_if (ct_not (ct_val (ce_call B h__law_same (ca_cons (ce_call B h_most_lodged (ca_cons (ce_var B 13) (ca_cons (ce_rgT B F.f_tuple F.f_range (ce_var B 8)) ca_nil))) (ca_cons (ce_min2 B F.f_min (ca_cons (ce_var B 3) (ca_cons (ce_var B 8) ca_nil))) ca_nil))))) (css_one (cs_ret ce_bl)) css_nil)))))))))
  (css_one (cs_ret ce_bl))))))
theorem b__law_is_lodging (F : Fx K mg C) (W : WX) : CSs C W (XPd P w K mg base 0 ["house", "thing", "lain", "bed", "x"] (defScope (top 47)) W) (defBody (top 47)) (w__law_is_lodging) :=
  have B := bd_def (P := P) (w := w) (K := K) (mg := mg) (base := base) (W := W) (k := 0) (N := ["house", "thing", "lain", "bed", "x"]) (sc := defScope (top 47)) (by decide)
  (css_cons (cs_if (ct_w (cw_or (ct_not (ct_val (ce_isi B F.ok F.f_isinstance (ce_var B 1) (ty_b B "tuple" .tuple F.f_tuple PyProof.Rows.boot_tuple)))) (cw_or1 (ct_cmp (cc_ne B) (ce_len B F.f_len (ce_var B 1)) (ce_len B F.f_len (ce_ix B (ce_var B 0) ce_int)))))) (css_one (cs_ret ce_bl)) css_nil)
  (css_cons (cs_setLcV B 2 [("bed", 3)] (ci_seq B (ce_var B 1)) (cg_name (B.blk _) 3) (cts_one (ct_cmp cc_notN (ce_var (B.blk _) 3) ce_non)) (ce_var (B.blk _) 3))
  (css_cons (cs_if (ct_w (cw_or (ct_not (ct_val (ce_all B F.f_all (ce_frz (cf_lc B [("bed", 3)] (ci_seq B (ce_var B 2)) (cg_name (B.blk _) 3) cts_nil (ce_and (ce_isi (B.blk _) F.ok F.f_isinstance (ce_var (B.blk _) 3) (ty_b (B.blk _) "int" .int F.f_int PyProof.Rows.boot_int)) (ce_bool1 (ce_not (ce_isi (B.blk _) F.ok F.f_isinstance (ce_var (B.blk _) 3) (ty_b (B.blk _) "bool" .bool F.f_bool PyProof.Rows.boot_bool)))))))))) (cw_or1 (ct_cmp cc_lt (ce_lenSet B F.f_len F.f_set (ce_var B 2)) (ce_len B F.f_len (ce_var B 2)))))) (css_one (cs_ret ce_bl)) css_nil)
  (css_one (cs_ret (ce_all B F.f_all (ce_frz (cf_lc B [("x", 4), ("bed", 3)] (ci_enum B F.f_enumerate (ca_cons (ce_var B 1) ca_nil)) (cg_tup (B.blk _) (cgs_cons (cg_name (B.blk _) 4) (cgs_cons (cg_name (B.blk _) 3) cgs_nil))) cts_nil (ce_or (ce_cmp cc_isN (ce_var (B.blk _) 3) ce_non) (ce_bool1 (ce_cmp (cc_in (B.blk _)) (ce_var (B.blk _) 3) (ce_ix (B.blk _) (ce_ix (B.blk _) (ce_var (B.blk _) 0) ce_int) (ce_var (B.blk _) 4)))))))))))))
theorem b__law_is_told (F : Fx K mg C) (h_can_lodge : Has P w K mg base C 6 "can_lodge" ["house", "some"] ct_can_lodge) (h_most_lodged : Has P w K mg base C 6 "most_lodged" ["house", "some"] ct_most_lodged) (h__law_same : Has P w K mg base C 5 "_law_same" ["one", "due"] (ct__law_same 4)) (h_is_lodging : Has P w K mg base C 4 "is_lodging" ["house", "thing"] ct_is_lodging) (h__law_is_lodging : Has P w K mg base C 1 "_law_is_lodging" ["house", "thing"] ct__law_is_lodging) (h__law_most : Has P w K mg base C 28 "_law_most" ["fits", "some"] ct__law_most) (h_House : HasI P w K mg base C 5 "House" 0 ["self", "beds", "fits"] ct_House) (h_lodged : Has P w K mg base C 6 "lodged" ["house", "some"] ct_lodged) (W : WX) : CSs C W (XPd P w K mg base 28 ["house", "some", "made", "got", "most", "lying", "x", "bed"] (defScope (top 48)) W) (defBody (top 48)) (w__law_is_told) :=
  have B := bd_def (P := P) (w := w) (K := K) (mg := mg) (base := base) (W := W) (k := 28) (N := ["house", "some", "made", "got", "most", "lying", "x", "bed"]) (sc := defScope (top 48)) (by decide)
  (css_cons (cs_par3 B (csrc_v 2 (ce_make B h_House (ca_cons (ce_ix B (ce_var B 0) ce_int) (ca_cons (ce_ix B (ce_var B 0) ce_int) ca_nil))) (csrc_v 3 (ce_call B h_lodged (ca_cons (ce_make B h_House (ca_cons (ce_ix B (ce_var B 0) ce_int) (ca_cons (ce_ix B (ce_var B 0) ce_int) ca_nil))) (ca_cons (ce_var B 1) ca_nil))) (csrc_v 4 (ce_call B h__law_most (ca_cons (ce_ix B (ce_var B 0) ce_int) (ca_cons (ce_var B 1) ca_nil))) csrc_nil))))
  (css_cons (cs_if (ct_w (cw_or (ct_not (ct_val (ce_call B h__law_is_lodging (ca_cons (ce_var B 0) (ca_cons (ce_var B 3) ca_nil))))) (cw_or1 (ct_cmp cc_notB (ce_call B h_is_lodging (ca_cons (ce_var B 2) (ca_cons (ce_var B 3) ca_nil))) ce_bl)))) (css_one (cs_ret ce_bl)) css_nil)
  (css_cons (cs_setLcV B 5 [("x", 6), ("bed", 7)] (ci_enum B F.f_enumerate (ca_cons (ce_var B 3) ca_nil)) (cg_tup (B.blk _) (cgs_cons (cg_name (B.blk _) 6) (cgs_cons (cg_name (B.blk _) 7) cgs_nil))) (cts_one (ct_cmp cc_notN (ce_var (B.blk _) 7) ce_non)) (ce_var (B.blk _) 6))
  (css_cons (cs_if (ct_w (cw_or (ct_cmp (cc_ne B) (ce_len B F.f_len (ce_var B 5)) (ce_var B 4)) (cw_or1 (ct_not (ct_val (ce_all B F.f_all (ce_frz (cf_lc B [("x", 6)] (ci_seq B (ce_var B 5)) (cg_name (B.blk _) 6) cts_nil (ce_cmp (cc_in (B.blk _)) (ce_var (B.blk _) 6) (ce_var (B.blk _) 1)))))))))) (css_one (cs_ret ce_bl)) css_nil)
  (css_one (cs_ret (ce_call B h__law_same (ca_cons (ce_frz (cf_lst (ca_cons (ce_call B h_can_lodge (ca_cons (ce_var B 2) (ca_cons (ce_var B 1) ca_nil))) (ca_cons (ce_call B h_most_lodged (ca_cons (ce_var B 2) (ca_cons (ce_var B 1) ca_nil))) ca_nil)))) (ca_cons (ce_frz (cf_lst (ca_cons (ce_cmp (cc_eq B) (ce_var B 4) (ce_len B F.f_len (ce_var B 1))) (ca_cons (ce_var B 4) ca_nil)))) ca_nil)))))))))
theorem b__law_are_lodgings_right (F : Fx K mg C) (h__law_draw : Has P w K mg base C 1 "_law_draw" ["hand", "many"] ct__law_draw) (h__law_row : Has P w K mg base C 3 "_law_row" ["hand", "many"] ct__law_row) (h__law_is_told : Has P w K mg base C 29 "_law_is_told" ["house", "some"] ct__law_is_told) (h__law_house : Has P w K mg base C 4 "_law_house" ["hand", "beds", "persons"] ct__law_house) (W : WX) : CSs C W (XPd P w K mg base 29 ["hand", "k", "beds", "persons", "house", "some"] (defScope (top 49)) W) (defBody (top 49)) (w__law_are_lodgings_right) :=
  have B := bd_def (P := P) (w := w) (K := K) (mg := mg) (base := base) (W := W) (k := 29) (N := ["hand", "k", "beds", "persons", "house", "some"]) (sc := defScope (top 49)) (by decide)
  (css_cons (cs_set B 1 (ce_tup (ca_cons ce_int (ca_cons (ce_tup (ca_cons (ce_tup (ca_cons ce_int ca_nil)) (ca_cons (ce_tup (ca_cons ce_int ca_nil)) (ca_cons (ce_tup (ca_cons ce_int (ca_cons ce_int ca_nil))) ca_nil)))) ca_nil))))
  (css_cons (cs_if (ct_not (ct_val (ce_all B F.f_all (ce_frz (cf_lc B [("some", 5)] (ci_seq B (ce_tup (ca_cons (ce_tup ca_nil) (ca_cons (ce_tup (ca_cons ce_int ca_nil)) (ca_cons (ce_tup (ca_cons ce_int (ca_cons ce_int ca_nil))) (ca_cons (ce_tup (ca_cons ce_int (ca_cons ce_int ca_nil))) (ca_cons (ce_tup (ca_cons ce_int (ca_cons ce_int (ca_cons ce_int ca_nil)))) ca_nil))))))) (cg_name (B.blk _) 5) cts_nil (ce_call (B.blk _) h__law_is_told (ca_cons (ce_var (B.blk _) 1) (ca_cons (ce_var (B.blk _) 5) ca_nil)))))))) (css_one (cs_ret ce_bl)) css_nil)
  (css_cons (cs_for B (ci_seq B (ce_frz (cf_lst (ca_cons (ce_tup (ca_cons ce_int (ca_cons ce_int ca_nil))) (ca_cons (ce_tup (ca_cons ce_int (ca_cons ce_int ca_nil))) (ca_cons (ce_tup (ca_cons ce_int (ca_cons ce_int ca_nil))) (ca_cons (ce_tup (ca_cons ce_int (ca_cons ce_int ca_nil))) (ca_cons (ce_tup (ca_cons (ce_call B h__law_draw (ca_cons (ce_var B 0) (ca_cons ce_int ca_nil))) (ca_cons (ce_call B h__law_draw (ca_cons (ce_var B 0) (ca_cons ce_int ca_nil))) ca_nil))) ca_nil)))))))) (cg_tup B (cgs_cons (cg_name B 2) (cgs_cons (cg_name B 3) cgs_nil))) (css_cons (cs_set B 4 (ce_call B h__law_house (ca_cons (ce_var B 0) (ca_cons (ce_var B 2) (ca_cons (ce_var B 3) ca_nil)))))
  (css_one (cs_for B (ci_seq B (ce_frz (cf_lst (ca_cons (ce_rgT B F.f_tuple F.f_range (ce_len B F.f_len (ce_ix B (ce_var B 4) ce_int))) (ca_cons (ce_call B h__law_row (ca_cons (ce_var B 0) (ca_cons (ce_len B F.f_len (ce_ix B (ce_var B 4) ce_int)) ca_nil))) (ca_cons (ce_call B h__law_row (ca_cons (ce_var B 0) (ca_cons (ce_len B F.f_len (ce_ix B (ce_var B 4) ce_int)) ca_nil))) (ca_cons (ce_tup ca_nil) ca_nil))))))) (cg_name B 5) (css_one (cs_if (ct_not (ct_val (ce_call B h__law_is_told (ca_cons (ce_var B 4) (ca_cons (ce_var B 5) ca_nil))))) (css_one (cs_ret ce_bl)) css_nil))))))
  (css_one (cs_ret ce_bl)))))
theorem b_law (F : Fx K mg C) (h__law_are_lodgings_right : Has P w K mg base C 30 "_law_are_lodgings_right" ["hand"] ct__law_are_lodgings_right) (h__law_are_numbers_right : Has P w K mg base C 29 "_law_are_numbers_right" ["hand"] ct__law_are_numbers_right) (W : WX) : CSs C W (XPd P w K mg base 30 ["script", "hand"] (defScope (top 50)) W) ((defBody (top 50)).drop 1) (w_law) :=
  have B := bd_def (P := P) (w := w) (K := K) (mg := mg) (base := base) (W := W) (k := 30) (N := ["script", "hand"]) (sc := defScope (top 50)) (by decide)
  (css_one (cs_ret (ce_and (ce_call B h__law_are_numbers_right (ca_cons (ce_var B 1) ca_nil)) (ce_bool1 (ce_call B h__law_are_lodgings_right (ca_cons (ce_var B 1) ca_nil))))))
theorem b_House (F : Fx K mg C) (h_is_row : Has P w K mg base C 4 "is_row" ["thing", "many"] ct_is_row) (h_BadHouse : HasX2 P w K mg base C 1 "BadHouse" 1 "what" "at") (h_is_within : Has P w K mg base C 2 "is_within" ["thing", "low", "high"] ct_is_within) (W : WX) : CIn C W K (XPd P w K mg base 4 ["self", "beds", "fits", "at", "some"] (defScope (memb 13 0)) W) (defBody (memb 13 0)) (["beds", "fits", "persons"] : List Str) i_House :=
  have B := bd_def (P := P) (w := w) (K := K) (mg := mg) (base := base) (W := W) (k := 4) (N := ["self", "beds", "fits", "at", "some"]) (sc := defScope (memb 13 0)) (by decide)
  (cin_st (cs_if (ct_not (ct_val (ce_call B h_is_within (ca_cons (ce_var B 1) (ca_cons ce_int (ca_cons (ce_gint B F.i_MOST_BEDS) ca_nil)))))) (css_one (cs_raise2 B h_BadHouse (ca_cons (ce_str [98, 101, 100, 115]) (ca_cons (ce_neg ce_int) ca_nil)))) css_nil)
  (cin_st (cs_if (ct_not (ct_val (ce_isi B F.ok F.f_isinstance (ce_var B 2) (ty_b B "tuple" .tuple F.f_tuple PyProof.Rows.boot_tuple)))) (css_one (cs_raise2 B h_BadHouse (ca_cons (ce_str [102, 105, 116, 115]) (ca_cons (ce_neg ce_int) ca_nil)))) css_nil)
  (cin_st (cs_for B (ci_enum B F.f_enumerate (ca_cons (ce_var B 2) ca_nil)) (cg_tup B (cgs_cons (cg_name B 3) (cgs_cons (cg_name B 4) cgs_nil))) (css_one (cs_if (ct_w (cw_or (ct_cmp cc_ge (ce_var B 3) (ce_gint B F.i_MOST_PERSONS)) (cw_or1 (ct_not (ct_val (ce_call B h_is_row (ca_cons (ce_var B 4) (ca_cons (ce_var B 1) ca_nil)))))))) (css_one (cs_raise2 B h_BadHouse (ca_cons (ce_str [102, 105, 116, 115]) (ca_cons (ce_var B 3) ca_nil)))) css_nil)))
  (cin_fld B (ce_var B 1)
  (cin_fld B (ce_var B 2)
  (cin_fld B (ce_len B F.f_len (ce_var B 2))
  cin_nil))))))
theorem d_draw (F : Fx K mg C) (W : WX) {n : Nat} : ∀ X, XPd P w K mg base n ["hand", "many", "cell", "digit", "number"] (defScope (top 34)) W X → PSs X (defBody (top 34)) ((t_draw K 31)) := by
  intro X hX
  have B := bd_def (P := P) (w := w) (K := K) (mg := mg) (base := base) (W := W) (k := n) (N := ["hand", "many", "cell", "digit", "number"]) (sc := defScope (top 34)) (by decide)
  have kk := B.k X hX
  subst kk
  have v0 : ∀ {pos}, PE X (.Name "hand" pos) (tVar 0) := pe_var (B.lk (by rfl) hX) (B.vis (by rfl) hX) (by decide) (by decide)
  have v1 : ∀ {pos}, PE X (.Name "many" pos) (tVar 1) := pe_var (B.lk (by rfl) hX) (B.vis (by rfl) hX) (by decide) (by decide)
  have v2 : ∀ {pos}, PE X (.Name "cell" pos) (tVar 2) := pe_var (B.lk (by rfl) hX) (B.vis (by rfl) hX) (by decide) (by decide)
  have v3 : ∀ {pos}, PE X (.Name "digit" pos) (tVar 3) := pe_var (B.lk (by rfl) hX) (B.vis (by rfl) hX) (by decide) (by decide)
  have v4 : ∀ {pos}, PE X (.Name "number" pos) (tVar 4) := pe_var (B.lk (by rfl) hX) (B.vis (by rfl) hX) (by decide) (by decide)
  have rd : ∀ {i k p1 p2 p3}, PE X (.Subscript (.Name "hand" p1) (.Constant (.int i) k p2) p3) (rdV X.K i) := pe_ix ix_seq v0 pe_int (fun _ _ => rfl)
  have nt : ∀ {e te p pos}, PE X e te → (∀ env : PySem.Env, starEach [e] env = (false, eval e env) :: starEach [] env) → PE X (.Call (.Name "int" p) [e] [] pos) (tInt te) := fun h hs => pe_callTy call_int1 (B.gl (by rfl) hX) (B.mv F.f_int hX) PyProof.Rows.boot_int (pa_cons h pa_nil (hs _)) (by decide) (by decide) (hs _)
  have as2 : ∀ {e te p pos}, PE X e te → (∀ (env : PySem.Env), swapsWith e (some (.Name "cell" p)) pos.line env = pure false) → PS X (.Assign [.Name "cell" p] e pos) (tAsg te (gName 2)) := fun h hs => ps_set (B.ndX hX) (B.lk (by rfl) hX) (B.loc (by rfl) hX).1 h (hs _) (B.loc (by rfl) hX).2
  have as3 : ∀ {e te p pos}, PE X e te → (∀ (env : PySem.Env), swapsWith e (some (.Name "digit" p)) pos.line env = pure false) → PS X (.Assign [.Name "digit" p] e pos) (tAsg te (gName 3)) := fun h hs => ps_set (B.ndX hX) (B.lk (by rfl) hX) (B.loc (by rfl) hX).1 h (hs _) (B.loc (by rfl) hX).2
  have as4 : ∀ {e te p pos}, PE X e te → (∀ (env : PySem.Env), swapsWith e (some (.Name "number" p)) pos.line env = pure false) → PS X (.Assign [.Name "number" p] e pos) (tAsg te (gName 4)) := fun h hs => ps_set (B.ndX hX) (B.lk (by rfl) hX) (B.loc (by rfl) hX).1 h (hs _) (B.loc (by rfl) hX).2
  have sv : ∀ {e te i k p1 p2 p3 pos}, PE X e te → (∀ (env : PySem.Env), swapsWithSole [.Subscript (.Name "hand" p1) (.Constant (.int i) k p2) p3] e pos.line env = pure false) → (∀ env : PySem.Env, swappedStores [.Subscript (.Name "hand" p1) (.Constant (.int i) k p2) p3] e env = pure none) →
      PS X (.Assign [.Subscript (.Name "hand" p1) (.Constant (.int i) k p2) p3] e pos) (stV te i) := fun h hs hw => ps_asg h (pg_sub v0 pe_int set_list) (hs _) (hw _)
  refine pss_cons (ps_if (pw_and (pt_cmpR op_eq rd pe_int (nomark _)) (pw_and1 (pt_cmpR op_lt rd (pe_callB cr_lenA (B.gl (by rfl) hX) (B.mv F.f_len hX) boot_len (pa_cons rd pa_nil)) (nomark _)))).pt
    (pss_cons (as2 (pe_ix ix_seq rd rd (fun _ _ => rfl)) fun _ => rfl) (pss_cons (sv (pe_op (r := rAddI) op_add rd pe_int) (fun _ => rfl) fun _ => rfl)
      (pss_cons (sv (pe_op op_mod (nt (pe_op (r := rAddI) op_add (pe_op (r := rAddI) op_add (pe_op op_mul rd pe_int) (pe_op op_mul v2 pe_int)) pe_int) fun _ => rfl) pe_int) (fun _ => rfl) fun _ => rfl)
        (pss_one (ps_if (pt_cmpR op_ge v2 (pe_op op_pow pe_int pe_int) (nomark _)) (pss_one (sv v2 (fun _ => rfl) fun _ => rfl)) pss_nil))))) pss_nil) ?_
  refine pss_cons (ps_if (pt_cmpR op_gt rd pe_int (nomark _)) (pss_cons (as3 (pe_op op_mod (nt rd fun _ => rfl) v1) fun _ => rfl) (pss_cons (sv (pe_op op_fdiv rd v1) (fun _ => rfl) fun _ => rfl) (pss_one (ps_ret v3)))) pss_nil) ?_
  refine pss_cons (sv (pe_op (r := rAddI) op_add rd pe_int) (fun _ => rfl) fun _ => rfl) (pss_cons (as4 (pe_op op_mod (nt (pe_op op_mul (nt (pe_op (r := rAddI) op_add rd (pe_op op_mul pe_int rd)) fun _ => rfl) pe_int) fun _ => rfl) pe_int) fun _ => rfl) ?_)
  refine pss_cons (as4 (pe_op op_mod (nt (pe_op op_mul v4 (pe_op (r := rAddI) op_add (pe_op op_fdiv v4 pe_int) pe_int)) fun _ => rfl) pe_int) fun _ => rfl) (pss_cons (as4 (pe_op op_mod (nt (pe_op op_mul v4 (pe_op (r := rAddI) op_add (pe_op op_fdiv v4 pe_int) pe_int)) fun _ => rfl) pe_int) fun _ => rfl) ?_)
  exact pss_one (ps_ret (pe_op op_mod (nt (pe_op op_fdiv v4 pe_int) fun _ => rfl) v1))
theorem has_draw (F : Fx K mg C) {f : Addr} {fd : FuncData} (hm : mg "_law_draw" = some (.ref f)) (D : FunD K "_law_draw" "_law_draw" (defArgs (top 34)) (defBody (top 34)) (defScope (top 34)) [] [] f fd) (S : FnScope ["hand", "many", "cell", "digit", "number"] ["hand", "many"] (defScope (top 34))) (bb : Binds K fd ["hand", "many"] []) :
    Has P w K mg base C 1 "_law_draw" ["hand", "many"] ct__law_draw := by
  refine ⟨f, fd, hm, D.kp, bb, D.ok S (fun vs H Q E h => ?_) (fun cdv A outer s H vs Q E hr h => ⟨(t_draw K 31), d_draw F (fun cls d _ H => E cls d H) _ ⟨rfl, rfl, rfl, rfl, rfl, rfl, rfl, rfl, hr, rfl, passes_of rfl, takes_of rfl rfl rfl rfl, rfl, rfl⟩, ?_⟩)⟩
  · obtain ⟨h, c, Pa, ds, q, e, ph, pc, hd, r, hct, _⟩ := h
    obtain ⟨m, rfl, _⟩ := hct
    rw [r.length]
    rfl
  · obtain ⟨h, c, Pa, ds, q, e, ph, pc, hd, r, hct, hq, he⟩ := h
    obtain ⟨m, rfl, m0, m1, hk⟩ := hct
    cases r with
    | cons r1 rr =>
      cases rr with
      | cons r2 rr =>
        cases rr
        cases r1 with
        | hand hh =>
          cases r2
          exact draw_ok (G := ⟨C, h, c⟩) hh m0 m1 rfl rfl rfl fun d H' kc d0 d1 => hq (.int d) (.int d) H' kc (.int d) (hk d d0 d1)
theorem d_hand (F : Fx K mg C) (W : WX) {n : Nat} : ∀ X, XPd P w K mg base n ["script", "cells", "cell"] (defScope (top 33)) W X → PSs X (defBody (top 33)) ((t_hand K 61 5)) := by
  intro X hX
  have B := bd_def (P := P) (w := w) (K := K) (mg := mg) (base := base) (W := W) (k := n) (N := ["script", "cells", "cell"]) (sc := defScope (top 33)) (by decide)
  have kk := B.k X hX
  subst kk
  have v0 : ∀ {pos}, PE X (.Name "script" pos) (tVar 0) := pe_var (B.lk (by rfl) hX) (B.vis (by rfl) hX) (by decide) (by decide)
  have v1 : ∀ {pos}, PE X (.Name "cells" pos) (tVar 1) := pe_var (B.lk (by rfl) hX) (B.vis (by rfl) hX) (by decide) (by decide)
  refine pss_cons (ps_setLc (own := [("cell", 2)]) (B.c X hX) (B.ndX hX) (B.lk (by rfl) hX) (by rw [B.s X hX] <;> rfl) ?_ (pi_seq (pe_slice sl_any v0 po_none (po_some pe_int))) (blkOk_by (by rw [B.n X hX, B.s X hX]; decide +kernel)) (fun s H D cl fp => ?_) (fun s H D cl fp => pts_nil) (fun s H D cl fp => ?_)) ?_
  · have h := B.s X hX
    generalize X.env = env at h
    cases env
    cases h
    rfl
  · have Bb := B.blk (XP := XPd P w X.K mg base n ["script", "cells", "cell"] (defScope (top 33)) W)
    exact pg_name ((Bb _).ndX ⟨X, s, H, D, cl, fp, hX, rfl⟩) ((Bb _).lk (by rfl) ⟨X, s, H, D, cl, fp, hX, rfl⟩) ((Bb _).loc (by rfl) ⟨X, s, H, D, cl, fp, hX, rfl⟩).1 ((Bb _).loc (by rfl) ⟨X, s, H, D, cl, fp, hX, rfl⟩).2
  · have Bb := B.blk (XP := XPd P w X.K mg base n ["script", "cells", "cell"] (defScope (top 33)) W)
    exact pe_callB call_abs ((Bb _).gl (by rfl) ⟨X, s, H, D, cl, fp, hX, rfl⟩) ((Bb _).mv F.f_abs ⟨X, s, H, D, cl, fp, hX, rfl⟩) boot_abs (pa_cons (pe_callTy call_int1 ((Bb _).gl (by rfl) ⟨X, s, H, D, cl, fp, hX, rfl⟩) ((Bb _).mv F.f_int ⟨X, s, H, D, cl, fp, hX, rfl⟩) PyProof.Rows.boot_int (pa_cons (pe_var ((Bb _).lk (by rfl) ⟨X, s, H, D, cl, fp, hX, rfl⟩) ((Bb _).vis (by rfl) ⟨X, s, H, D, cl, fp, hX, rfl⟩) (by decide) (by decide)) pa_nil)) pa_nil)
  · exact pss_one (ps_ret (pe_lst (pa_cons v1 (pa_cons pe_int (pa_cons pe_int (pa_cons (pe_op (r := rAddI) op_add pe_int (pe_op op_mul pe_int (pe_callB cr_lenA (B.gl (by rfl) hX) (B.mv F.f_len hX) boot_len (pa_cons v1 pa_nil)))) (pa_cons pe_int pa_nil)))))))
def spHand (C : Cl) (K : PySem.W.Frag) : Sp := fun vs H Q _ => ∃ (a : Addr) (ns : List Int), vs = [.ref a] ∧ SqL K H a (ns.map V.int) ∧ ns.length ≤ 63 ∧ ∀ h c H', IsHand ⟨C, h, c⟩ H' → Q (.ref h) H'
def spLaw (K : PySem.W.Frag) : Sp := fun vs H Q _ => ∃ (a : Addr) (ns : List Int), vs = [.ref a] ∧ SqL K H a (ns.map V.int) ∧ ns.length ≤ 63 ∧ ∀ H', Q (.bl true) H'
theorem fn_hand (F : Fx K mg C) {f : Addr} {fd : FuncData} (D : FunD K "_law_hand" "_law_hand" (defArgs (top 33)) (defBody (top 33)) (defScope (top 33)) [] [] f fd) (S : FnScope ["script", "cells", "cell"] ["script"] (defScope (top 33))) :
    FnOk P w K mg base (L2.CX P w) 1 f fd ["script"] (spHand C K) := by
  refine D.ok S (fun vs H Q E h => ?_) (fun cdv A outer s H vs Q E hr h => ⟨(t_hand K 61 5), d_hand F (fun cls d _ H => E cls d H) _ ⟨rfl, rfl, rfl, rfl, rfl, rfl, rfl, rfl, hr, rfl, passes_of rfl, takes_of rfl rfl rfl rfl, rfl, rfl⟩, ?_⟩)
  · obtain ⟨a, ns, rfl, _⟩ := h
    rfl
  · obtain ⟨a, ns, rfl, hS, hl, k⟩ := h
    exact hand_ok (C := C) (s1 := a) hS hl (by decide) (by decide) fun h c H' hh _ _ _ => k h c H' hh
theorem fn_law {f fh : Addr} {fd fdh : FuncData} {N : List Str} (hN : N.Nodup) (h0 : N[0]? = some ("script" : Str)) (h1 : N[1]? = some ("hand" : Str)) (D : FunD K "law" "law" (defArgs (top 50)) (defBody (top 50)) (defScope (top 50)) [] [] f fd) (S : FnScope N ["script"] (defScope (top 50)))
    (hm : mg "_law_hand" = some (.ref fh)) (kp : PySem.W.keepIn K (.ref fh) = true) (bh : Binds K fdh ["script"] []) (Gh : FnOk P w K mg base (L2.CX P w) 1 fh fdh ["script"] (spHand C K)) {wl : WS} {k : Nat} (hk : 1 ≤ k)
    (hb : ∀ W, CSs C W (XPd P w K mg base k N (defScope (top 50)) W) ((defBody (top 50)).drop 1) wl)
    (spec : wl { nx := fun _ => False, rt := fun d _ => d = .bl true, bk := fun _ => False, ct := fun _ => False } (st (st (List.replicate N.length .un) 0 .un) 1 (.val .hand)) fun _ _ => False) : FnOk P w K mg base (L2.CX P w) (k + 1) f fd ["script"] (spLaw K) := by
  refine D.ok S (fun vs H Q E h => ?_) (fun cdv A outer s H vs Q E hr h => ?_)
  · obtain ⟨a, ns, rfl, _⟩ := h
    rfl
  · obtain ⟨ts, p2, g2⟩ := hb (fun cls d _ H => E cls d H)
    have hX : XPd P w K mg base k N (defScope (top 50)) (fun cls d _ H => E cls d H) (cxOf (L2.CX P w) P w K mg base N "law" (defScope (top 50)) f cdv A outer s H E) := ⟨rfl, rfl, rfl, rfl, rfl, rfl, rfl, rfl, hr, rfl, passes_of rfl, takes_of rfl rfl rfl rfl, rfl, rfl⟩
    have B := bd_def (P := P) (w := w) (K := K) (mg := mg) (base := base) (W := fun cls d _ H => E cls d H) (k := k) (N := N) (sc := defScope (top 50)) hN
    refine ⟨tSeq (tAsg (tCallS (spHand C K) (L2.WE fun cls d _ H => E cls d H) (tCons (tVar 0) tNil)) (gName 1)) ts, ?_, ?_⟩
    · refine pss_cons (ps_set (B.ndX hX) (B.lk h1 hX) (B.loc (x := "hand") (by rfl) hX).1 (pe_callS Gh (hr.mono hk) (B.gl (by rfl) hX) hm kp bh (fun σ => passAt (B.t _ hX) σ) (pa_cons (pe_var (B.lk h0 hX) (B.vis (by rfl) hX) (by decide) (by decide)) pa_nil)) rfl (B.loc (by rfl) hX).2) (p2 _ hX)
    · obtain ⟨a, ns, rfl, hS, hl, kq⟩ := h
      have hlen : 1 < N.length := (List.getElem?_eq_some_iff.mp h1).1
      have e0 : (L2.start N [V.ref a])[0]? = some (some (.ref a)) := rfl
      refine ⟨_, e0, a, ns, rfl, hS, hl, fun h c H' hh => ?_⟩
      obtain ⟨ns', i1, i2, i3, i4, z0, z1, z2, _⟩ := id hh
      have hd : ∀ b, (b = h ∨ b = c) → ∃ o, H' b = some o := fun b hb => hb.elim (fun z => z ▸ ⟨_, z1⟩) fun z => z ▸ ⟨_, z2⟩
      have S0 := sim_start (C := C) (h := h) (c := c) (P := fun b => b = h ∨ b = c) (H := H') (vs := []) (ds := []) (N := N) (ps := N) (.inl rfl) (.inr rfl) hd .nil (Nat.zero_le _)
      have S1 := (S0.setUn (i := 0) (v := some (.ref a))).setVal (i := 1) (v := .ref h) (x := .hand) (.hand hh)
      have es : ((L2.start N ([] : List V)).set 0 (some (V.ref a))).set 1 (some (V.ref h)) = (L2.start N [V.ref a]).set 1 (some (V.ref h)) := by
        congr 1
        cases N with
        | nil => simp at hlen
        | cons n N =>
          unfold L2.start
          simp [List.replicate_succ]
      rw [es] at S1
      refine g2 h c (fun b => b = h ∨ b = c) H' _ _ H' _ (fun _ _ => False) _ S1 spec (fun _ _ _ _ _ _ _ _ z => z.elim) ⟨⟨fun _ _ _ _ _ z => z.elim⟩, ⟨fun _ _ _ _ _ z => z.elim⟩, ⟨fun _ _ _ _ _ z => z.elim⟩, fun x e1 σ1 v H1 S1 r1 q1 => ?_⟩
      cases q1
      cases r1
      exact kq H1

theorem fn_BadHouse {f : Addr} {fd : FuncData} {nm qual : Str} (D : FunD K nm qual (defArgs (memb 7 0)) (defBody (memb 7 0)) (defScope (memb 7 0)) [] [] f fd) (S : FnScope ["self", "what", "at"] ["self", "what", "at"] (defScope (memb 7 0))) :
    FnOk P w K mg base (L2.CX P w) 1 f fd ["self", "what", "at"] (spX2 K "what" "at") := by
  refine D.ok S (fun vs H Q E h => ?_) (fun cdv A outer s H vs Q E hr h => ⟨_, ?_, x2_run (N := ["self", "what", "at"]) rfl h⟩)
  · obtain ⟨a, C, v1, v2, rfl, _⟩ := h
    rfl
  · have hX : XPd P w K mg base 0 ["self", "what", "at"] (defScope (memb 7 0)) (fun cls d _ H => E cls d H) (cxOf (L2.CX P w) P w K mg base ["self", "what", "at"] qual (defScope (memb 7 0)) f cdv A outer s H E) := ⟨rfl, rfl, rfl, rfl, rfl, rfl, rfl, rfl, hr, rfl, passes_of rfl, takes_of rfl rfl rfl rfl, rfl, rfl⟩
    have B := bd_def (P := P) (w := w) (K := K) (mg := mg) (base := base) (W := fun cls d _ H => E cls d H) (k := 0) (N := ["self", "what", "at"]) (sc := defScope (memb 7 0)) (by decide)
    have v0 : ∀ {pos}, PE (cxOf (L2.CX P w) P w K mg base ["self", "what", "at"] qual (defScope (memb 7 0)) f cdv A outer s H E) (.Name "self" pos) (tVar 0) := pe_var (B.lk (by rfl) hX) (B.vis (by rfl) hX) (by decide) (by decide)
    have v1 : ∀ {pos}, PE (cxOf (L2.CX P w) P w K mg base ["self", "what", "at"] qual (defScope (memb 7 0)) f cdv A outer s H E) (.Name "what" pos) (tVar 1) := pe_var (B.lk (by rfl) hX) (B.vis (by rfl) hX) (by decide) (by decide)
    have v2 : ∀ {pos}, PE (cxOf (L2.CX P w) P w K mg base ["self", "what", "at"] qual (defScope (memb 7 0)) f cdv A outer s H E) (.Name "at" pos) (tVar 2) := pe_var (B.lk (by rfl) hX) (B.vis (by rfl) hX) (by decide) (by decide)
    exact pss_cons (ps_ost v0 v1) (pss_one (ps_ost v0 v2))
end K24
end K24b_

section K24h_
set_option maxRecDepth 100000
set_option maxHeartbeats 4000000
namespace K24
open PySem PySem.Spec PyProof.Rows L2 RZ LW Mt K24
def nm : Nat → Str
  | 0 => "House"
  | 1 => "BadHouse"
  | 2 => "LodgeFault"
  | 3 => "BadRow"
  | 5 => "NoHouse"
  | _ => "House"
def fl : Nat → List Str
  | 0 => (["beds", "fits", "persons"] : List Str)
  | 1 => (["what", "at"] : List Str)
  | _ => []
def dd_is_integer : He.DefD := ⟨("is_integer", none), "is_integer", "is_integer", defArgs (top 1), defBody (top 1), defScope (top 1), [], []⟩
def dd_is_within : He.DefD := ⟨("is_within", none), "is_within", "is_within", defArgs (top 2), defBody (top 2), defScope (top 2), [], []⟩
def dd_are_below : He.DefD := ⟨("are_below", none), "are_below", "are_below", defArgs (top 3), defBody (top 3), defScope (top 3), [], []⟩
def dd_is_row : He.DefD := ⟨("is_row", none), "is_row", "is_row", defArgs (top 4), defBody (top 4), defScope (top 4), [], []⟩
def dd_check_house : He.DefD := ⟨("check_house", none), "check_house", "check_house", defArgs (top 14), defBody (top 14), defScope (top 14), [], []⟩
def dd_check_some : He.DefD := ⟨("check_some", none), "check_some", "check_some", defArgs (top 15), defBody (top 15), defScope (top 15), [], []⟩
def dd_lies_right : He.DefD := ⟨("lies_right", none), "lies_right", "lies_right", defArgs (top 16), defBody (top 16), defScope (top 16), [], []⟩
def dd_lodges : He.DefD := ⟨("lodges", none), "lodges", "lodges", defArgs (top 17), defBody (top 17), defScope (top 17), [], []⟩
def dd_is_lodging : He.DefD := ⟨("is_lodging", none), "is_lodging", "is_lodging", defArgs (top 18), defBody (top 18), defScope (top 18), [], []⟩
def dd_improved : He.DefD := ⟨("improved", none), "improved", "improved", defArgs (top 20), defBody (top 20), defScope (top 20), [], []⟩
def dd_moved_on : He.DefD := ⟨("moved_on", none), "moved_on", "moved_on", defArgs (top 21), defBody (top 21), defScope (top 21), [], []⟩
def dd_let_in_turn : He.DefD := ⟨("let_in_turn", none), "let_in_turn", "let_in_turn", defArgs (top 22), defBody (top 22), defScope (top 22), [], []⟩
def dd_beds_by : He.DefD := ⟨("beds_by", none), "beds_by", "beds_by", defArgs (top 23), defBody (top 23), defScope (top 23), [], []⟩
def dd_lodging_of : He.DefD := ⟨("lodging_of", none), "lodging_of", "lodging_of", defArgs (top 25), defBody (top 25), defScope (top 25), [], []⟩
def dd_most_of : He.DefD := ⟨("most_of", none), "most_of", "most_of", defArgs (top 26), defBody (top 26), defScope (top 26), [], []⟩
def dd_most_lodged : He.DefD := ⟨("most_lodged", none), "most_lodged", "most_lodged", defArgs (top 27), defBody (top 27), defScope (top 27), [], []⟩
def dd_lodged_of : He.DefD := ⟨("lodged_of", none), "lodged_of", "lodged_of", defArgs (top 28), defBody (top 28), defScope (top 28), [], []⟩
def dd_lodged : He.DefD := ⟨("lodged", none), "lodged", "lodged", defArgs (top 29), defBody (top 29), defScope (top 29), [], []⟩
def dd_all_fit : He.DefD := ⟨("all_fit", none), "all_fit", "all_fit", defArgs (top 30), defBody (top 30), defScope (top 30), [], []⟩
def dd_can_lodge : He.DefD := ⟨("can_lodge", none), "can_lodge", "can_lodge", defArgs (top 31), defBody (top 31), defScope (top 31), [], []⟩
def dd__law_hand : He.DefD := ⟨("_law_hand", none), "_law_hand", "_law_hand", defArgs (top 33), defBody (top 33), defScope (top 33), [], []⟩
def dd__law_draw : He.DefD := ⟨("_law_draw", none), "_law_draw", "_law_draw", defArgs (top 34), defBody (top 34), defScope (top 34), [], []⟩
def dd__law_any : He.DefD := ⟨("_law_any", none), "_law_any", "_law_any", defArgs (top 35), defBody (top 35), defScope (top 35), [], []⟩
def dd__law_mixed : He.DefD := ⟨("_law_mixed", none), "_law_mixed", "_law_mixed", defArgs (top 36), defBody (top 36), defScope (top 36), [], []⟩
def dd__law_same : He.DefD := ⟨("_law_same", none), "_law_same", "_law_same", defArgs (top 37), defBody (top 37), defScope (top 37), [], []⟩
def dd__law_renamed : He.DefD := ⟨("_law_renamed", none), "_law_renamed", "_law_renamed", defArgs (top 38), defBody (top 38), defScope (top 38), [], []⟩
def dd__law_planted : He.DefD := ⟨("_law_planted", none), "_law_planted", "_law_planted", defArgs (top 39), defBody (top 39), defScope (top 39), [], []⟩
def dd__law_house : He.DefD := ⟨("_law_house", none), "_law_house", "_law_house", defArgs (top 40), defBody (top 40), defScope (top 40), [], []⟩
def dd__law_seat : He.DefD := ⟨("_law_seat", none), "_law_seat", "_law_seat", defArgs (top 41), defBody (top 41), defScope (top 41), [], []⟩
def dd__law_seated : He.DefD := ⟨("_law_seated", none), "_law_seated", "_law_seated", defArgs (top 42), defBody (top 42), defScope (top 42), [], []⟩
def dd__law_most : He.DefD := ⟨("_law_most", none), "_law_most", "_law_most", defArgs (top 43), defBody (top 43), defScope (top 43), [], []⟩
def dd__law_row : He.DefD := ⟨("_law_row", none), "_law_row", "_law_row", defArgs (top 44), defBody (top 44), defScope (top 44), [], []⟩
def dd__law_all_lodgings : He.DefD := ⟨("_law_all_lodgings", none), "_law_all_lodgings", "_law_all_lodgings", defArgs (top 45), defBody (top 45), defScope (top 45), [], []⟩
def dd__law_are_numbers_right : He.DefD := ⟨("_law_are_numbers_right", none), "_law_are_numbers_right", "_law_are_numbers_right", defArgs (top 46), defBody (top 46), defScope (top 46), [], []⟩
def dd__law_is_lodging : He.DefD := ⟨("_law_is_lodging", none), "_law_is_lodging", "_law_is_lodging", defArgs (top 47), defBody (top 47), defScope (top 47), [], []⟩
def dd__law_is_told : He.DefD := ⟨("_law_is_told", none), "_law_is_told", "_law_is_told", defArgs (top 48), defBody (top 48), defScope (top 48), [], []⟩
def dd__law_are_lodgings_right : He.DefD := ⟨("_law_are_lodgings_right", none), "_law_are_lodgings_right", "_law_are_lodgings_right", defArgs (top 49), defBody (top 49), defScope (top 49), [], []⟩
def dd_law : He.DefD := ⟨("law", none), "law", "law", defArgs (top 50), defBody (top 50), defScope (top 50), [], []⟩
def dd_House__init__ : He.DefD := ⟨("House", some "__init__"), "__init__", "House.__init__", defArgs (memb 13 0), defBody (memb 13 0), defScope (memb 13 0), [], []⟩
def dd_BadHouse__init__ : He.DefD := ⟨("BadHouse", some "__init__"), "__init__", "BadHouse.__init__", defArgs (memb 7 0), defBody (memb 7 0), defScope (memb 7 0), [], []⟩
def fn : List He.DefD := ([dd_is_integer, dd_is_within, dd_are_below, dd_is_row, dd_check_house, dd_check_some, dd_lies_right, dd_lodges, dd_is_lodging, dd_improved, dd_moved_on, dd_let_in_turn, dd_beds_by, dd_lodging_of, dd_most_of, dd_most_lodged, dd_lodged_of, dd_lodged, dd_all_fit, dd_can_lodge, dd__law_hand, dd__law_draw, dd__law_any, dd__law_mixed] : List He.DefD) ++ ([dd__law_same, dd__law_renamed, dd__law_planted, dd__law_house, dd__law_seat, dd__law_seated, dd__law_most, dd__law_row, dd__law_all_lodgings, dd__law_are_numbers_right, dd__law_is_lodging, dd__law_is_told, dd__law_are_lodgings_right, dd_law, dd_House__init__, dd_BadHouse__init__] : List He.DefD)
def fa : List He.Fa := ([.glo "is_integer", .glo "is_within", .glo "are_below", .glo "is_row", .glo "check_house", .glo "check_some", .glo "lies_right", .glo "lodges", .glo "is_lodging", .glo "improved", .glo "moved_on", .glo "let_in_turn", .glo "beds_by", .glo "lodging_of", .glo "most_of", .glo "most_lodged", .glo "lodged_of", .glo "lodged", .glo "all_fit", .glo "can_lodge", .glo "_law_hand", .glo "_law_draw", .glo "_law_any", .glo "_law_mixed"] : List He.Fa) ++ ([.glo "_law_same", .glo "_law_renamed", .glo "_law_planted", .glo "_law_house", .glo "_law_seat", .glo "_law_seated", .glo "_law_most", .glo "_law_row", .glo "_law_all_lodgings", .glo "_law_are_numbers_right", .glo "_law_is_lodging", .glo "_law_is_told", .glo "_law_are_lodgings_right", .glo "law", .glo "LodgeFault", .glo "BadHouse", .glo "BadRow", .glo "NoHouse", .glo "House", .free "abs", .free "all", .free "bool", .free "enumerate", .free "int"] : List He.Fa) ++ ([.free "isinstance", .free "len", .free "list", .free "max", .free "min", .free "range", .free "set", .free "sorted", .free "str", .free "tuple", .free "zip", .int "MOST_BEDS" 24, .int "MOST_PERSONS" 24, .cls "House", .mkr "House", .noat "House" "beds", .noat "House" "fits", .noat "House" "persons", .noat "BadHouse" "what", .noat "BadHouse" "at"] : List He.Fa)
def ex (K : PySem.W.Frag) : Bool := clsB K (mkC K nm fl) [0] && (x0B K "LodgeFault" && (x0B K "BadRow" && (x0B K "NoHouse" && (initB K "BadHouse" && (oexB K (He.ga K "BadHouse"))))))
abbrev R : PySem.W.OpenRow := PySem.W.OpenLaw.row PySem.Challenge.rw_lodgeall_k24_whole_most_lodged_and_lodge
abbrev hk : PySem.W.Hook := He.hookX 5 fa fn [] [] ex
def ob (s : PySem.W.SharedT) : He.AlX := He.obsX 5 fa fn [] [] ex (HandSHeadRun.getT s)
theorem ob_eq (s : PySem.W.SharedT) : ob s = hk.obs s.abs := He.obsX_eq (HandSHeadRun.getT_eq s)
def loose : List Str := (["is_integer", "is_within", "are_below", "is_row", "LodgeFault", "BadHouse", "BadRow", "NoHouse", "MOST_BEDS", "MOST_PERSONS", "House", "check_house", "check_some", "lies_right", "lodges", "is_lodging", "improved", "moved_on", "let_in_turn", "beds_by", "lodging_of", "most_of", "most_lodged", "lodged_of"] : List Str) ++ (["lodged", "all_fit", "can_lodge", "_law_hand", "_law_draw", "_law_any", "_law_mixed", "_law_same", "_law_renamed", "_law_planted", "_law_house", "_law_seat", "_law_seated", "_law_most", "_law_row", "_law_all_lodgings", "_law_are_numbers_right", "_law_is_lodging", "_law_is_told", "_law_are_lodgings_right"] : List Str)
theorem run (w : World) : HandSHeadRun.RunEq R (PySem.W.view R.prog [50]) hk ob 4000 loose w := by
  intro os
  kernel_rfl
section
variable {P : Program} {w : World} {K : PySem.W.Frag} {mg : Str → Option Value} {base : Heap}
theorem base0 {h : Heap} (X : K.In h) (G : h.Ns mainGlobals mg) {w0 : World} {h0 : Heap} (c : He.SaysX fa fn [] [] ex w0 h0 K) : Fx K mg (mkC K nm fl) := by
  have m := c.more
  obtain ⟨m0, m⟩ := He.ba m
  obtain ⟨m1, m⟩ := He.ba m
  obtain ⟨m2, m⟩ := He.ba m
  obtain ⟨m3, m⟩ := He.ba m
  obtain ⟨m4, m⟩ := He.ba m
  have m5 := m
  have z0 := He.free_ok X G (c.t.d.fact 43 (f := .free "abs") rfl)
  have z1 := He.free_ok X G (c.t.d.fact 44 (f := .free "all") rfl)
  have z2 := He.free_ok X G (c.t.d.fact 45 (f := .free "bool") rfl)
  have z3 := He.free_ok X G (c.t.d.fact 46 (f := .free "enumerate") rfl)
  have z4 := He.free_ok X G (c.t.d.fact 47 (f := .free "int") rfl)
  have z5 := He.free_ok X G (c.t.d.fact 48 (f := .free "isinstance") rfl)
  have z6 := He.free_ok X G (c.t.d.fact 49 (f := .free "len") rfl)
  have z7 := He.free_ok X G (c.t.d.fact 50 (f := .free "list") rfl)
  have z8 := He.free_ok X G (c.t.d.fact 51 (f := .free "max") rfl)
  have z9 := He.free_ok X G (c.t.d.fact 52 (f := .free "min") rfl)
  have z10 := He.free_ok X G (c.t.d.fact 53 (f := .free "range") rfl)
  have z11 := He.free_ok X G (c.t.d.fact 54 (f := .free "set") rfl)
  have z12 := He.free_ok X G (c.t.d.fact 55 (f := .free "sorted") rfl)
  have z13 := He.free_ok X G (c.t.d.fact 56 (f := .free "str") rfl)
  have z14 := He.free_ok X G (c.t.d.fact 57 (f := .free "tuple") rfl)
  have z15 := He.free_ok X G (c.t.d.fact 58 (f := .free "zip") rfl)
  have z16 := He.int_ok X G (c.t.d.fact 59 (f := .int "MOST_BEDS" 24) rfl)
  have z17 := He.int_ok X G (c.t.d.fact 60 (f := .int "MOST_PERSONS" 24) rfl)
  have z18 : ClOk K (mkC K nm fl) [0] := clsB_ok m0 (fun k hk => by
    simp only [List.mem_cons, List.not_mem_nil, or_false] at hk
    rcases hk with rfl
    · exact He.cls_ok (x := "House") (c.t.d.fact 61 (f := .cls "House") rfl))
  have z19 := (He.glo_ok X G (c.t.d.fact 42 (f := .glo "House") rfl))
  have z22 := (He.glo_ok X G (c.t.d.fact 38 (f := .glo "LodgeFault") rfl))
  have z23 : HasX0 K mg (mkC K nm fl) "LodgeFault" 2 := x0B_ok m1 rfl (He.glo_ok X G (c.t.d.fact 38 (f := .glo "LodgeFault") rfl))
  have z24 := (He.glo_ok X G (c.t.d.fact 40 (f := .glo "BadRow") rfl))
  have z25 : HasX0 K mg (mkC K nm fl) "BadRow" 3 := x0B_ok m2 rfl (He.glo_ok X G (c.t.d.fact 40 (f := .glo "BadRow") rfl))
  have z26 := (He.glo_ok X G (c.t.d.fact 41 (f := .glo "NoHouse") rfl))
  have z27 : HasX0 K mg (mkC K nm fl) "NoHouse" 5 := x0B_ok m3 rfl (He.glo_ok X G (c.t.d.fact 41 (f := .glo "NoHouse") rfl))
  exact ⟨z0, z1, z2, z3, z4, z5, z6, z7, z8, z9, z10, z11, z12, z13, z14, z15, z16, z17, z18, z19, rfl, (fun f hf => by
    simp only [List.mem_cons, List.not_mem_nil, or_false] at hf
    rcases hf with rfl | rfl | rfl
    · exact He.noat_ok (c.t.d.fact 63 (f := .noat "House" "beds") rfl)
    · exact He.noat_ok (c.t.d.fact 64 (f := .noat "House" "fits") rfl)
    · exact He.noat_ok (c.t.d.fact 65 (f := .noat "House" "persons") rfl)), z22, z23, z24, z25, z26, z27⟩
theorem facts {h : Heap} (X : K.In h) (G : h.Ns mainGlobals mg) {w0 : World} {h0 : Heap} (c : He.SaysX fa fn [] [] ex w0 h0 K) {f : Addr} (hfa : mg ("law" : Str) = some (.ref f)) :
    ∃ fd : FuncData, (∀ (s : Shared) (v : Value), BindsTo s fd ⟨[v], []⟩ [("script", v)]) ∧ ∀ base : Heap, FnOk P w K mg base (L2.CX P w) 31 f fd ["script"] (spLaw K) := by
  have Fc := base0 X G c
  have m := c.more
  obtain ⟨m0, m⟩ := He.ba m
  obtain ⟨m1, m⟩ := He.ba m
  obtain ⟨m2, m⟩ := He.ba m
  obtain ⟨m3, m⟩ := He.ba m
  obtain ⟨m4, m⟩ := He.ba m
  have m5 := m
  obtain ⟨fd_is_integer, D_is_integer⟩ := (c.t.d.def_ 0 (d := dd_is_integer) rfl)
  have g_is_integer := He.glo_ok X G (c.t.d.fact 0 (f := .glo "is_integer") rfl)
  obtain ⟨fd_is_within, D_is_within⟩ := (c.t.d.def_ 1 (d := dd_is_within) rfl)
  have g_is_within := He.glo_ok X G (c.t.d.fact 1 (f := .glo "is_within") rfl)
  obtain ⟨fd_are_below, D_are_below⟩ := (c.t.d.def_ 2 (d := dd_are_below) rfl)
  have g_are_below := He.glo_ok X G (c.t.d.fact 2 (f := .glo "are_below") rfl)
  obtain ⟨fd_is_row, D_is_row⟩ := (c.t.d.def_ 3 (d := dd_is_row) rfl)
  have g_is_row := He.glo_ok X G (c.t.d.fact 3 (f := .glo "is_row") rfl)
  obtain ⟨fd_check_house, D_check_house⟩ := (c.t.d.def_ 4 (d := dd_check_house) rfl)
  have g_check_house := He.glo_ok X G (c.t.d.fact 4 (f := .glo "check_house") rfl)
  obtain ⟨fd_check_some, D_check_some⟩ := (c.t.d.def_ 5 (d := dd_check_some) rfl)
  have g_check_some := He.glo_ok X G (c.t.d.fact 5 (f := .glo "check_some") rfl)
  obtain ⟨fd_lies_right, D_lies_right⟩ := (c.t.d.def_ 6 (d := dd_lies_right) rfl)
  have g_lies_right := He.glo_ok X G (c.t.d.fact 6 (f := .glo "lies_right") rfl)
  obtain ⟨fd_lodges, D_lodges⟩ := (c.t.d.def_ 7 (d := dd_lodges) rfl)
  have g_lodges := He.glo_ok X G (c.t.d.fact 7 (f := .glo "lodges") rfl)
  obtain ⟨fd_is_lodging, D_is_lodging⟩ := (c.t.d.def_ 8 (d := dd_is_lodging) rfl)
  have g_is_lodging := He.glo_ok X G (c.t.d.fact 8 (f := .glo "is_lodging") rfl)
  obtain ⟨fd_improved, D_improved⟩ := (c.t.d.def_ 9 (d := dd_improved) rfl)
  have g_improved := He.glo_ok X G (c.t.d.fact 9 (f := .glo "improved") rfl)
  obtain ⟨fd_moved_on, D_moved_on⟩ := (c.t.d.def_ 10 (d := dd_moved_on) rfl)
  have g_moved_on := He.glo_ok X G (c.t.d.fact 10 (f := .glo "moved_on") rfl)
  obtain ⟨fd_let_in_turn, D_let_in_turn⟩ := (c.t.d.def_ 11 (d := dd_let_in_turn) rfl)
  have g_let_in_turn := He.glo_ok X G (c.t.d.fact 11 (f := .glo "let_in_turn") rfl)
  obtain ⟨fd_beds_by, D_beds_by⟩ := (c.t.d.def_ 12 (d := dd_beds_by) rfl)
  have g_beds_by := He.glo_ok X G (c.t.d.fact 12 (f := .glo "beds_by") rfl)
  obtain ⟨fd_lodging_of, D_lodging_of⟩ := (c.t.d.def_ 13 (d := dd_lodging_of) rfl)
  have g_lodging_of := He.glo_ok X G (c.t.d.fact 13 (f := .glo "lodging_of") rfl)
  obtain ⟨fd_most_of, D_most_of⟩ := (c.t.d.def_ 14 (d := dd_most_of) rfl)
  have g_most_of := He.glo_ok X G (c.t.d.fact 14 (f := .glo "most_of") rfl)
  obtain ⟨fd_most_lodged, D_most_lodged⟩ := (c.t.d.def_ 15 (d := dd_most_lodged) rfl)
  have g_most_lodged := He.glo_ok X G (c.t.d.fact 15 (f := .glo "most_lodged") rfl)
  obtain ⟨fd_lodged_of, D_lodged_of⟩ := (c.t.d.def_ 16 (d := dd_lodged_of) rfl)
  have g_lodged_of := He.glo_ok X G (c.t.d.fact 16 (f := .glo "lodged_of") rfl)
  obtain ⟨fd_lodged, D_lodged⟩ := (c.t.d.def_ 17 (d := dd_lodged) rfl)
  have g_lodged := He.glo_ok X G (c.t.d.fact 17 (f := .glo "lodged") rfl)
  obtain ⟨fd_all_fit, D_all_fit⟩ := (c.t.d.def_ 18 (d := dd_all_fit) rfl)
  have g_all_fit := He.glo_ok X G (c.t.d.fact 18 (f := .glo "all_fit") rfl)
  obtain ⟨fd_can_lodge, D_can_lodge⟩ := (c.t.d.def_ 19 (d := dd_can_lodge) rfl)
  have g_can_lodge := He.glo_ok X G (c.t.d.fact 19 (f := .glo "can_lodge") rfl)
  obtain ⟨fd__law_hand, D__law_hand⟩ := (c.t.d.def_ 20 (d := dd__law_hand) rfl)
  have g__law_hand := He.glo_ok X G (c.t.d.fact 20 (f := .glo "_law_hand") rfl)
  obtain ⟨fd__law_draw, D__law_draw⟩ := (c.t.d.def_ 21 (d := dd__law_draw) rfl)
  have g__law_draw := He.glo_ok X G (c.t.d.fact 21 (f := .glo "_law_draw") rfl)
  obtain ⟨fd__law_any, D__law_any⟩ := (c.t.d.def_ 22 (d := dd__law_any) rfl)
  have g__law_any := He.glo_ok X G (c.t.d.fact 22 (f := .glo "_law_any") rfl)
  obtain ⟨fd__law_mixed, D__law_mixed⟩ := (c.t.d.def_ 23 (d := dd__law_mixed) rfl)
  have g__law_mixed := He.glo_ok X G (c.t.d.fact 23 (f := .glo "_law_mixed") rfl)
  obtain ⟨fd__law_same, D__law_same⟩ := (c.t.d.def_ 24 (d := dd__law_same) rfl)
  have g__law_same := He.glo_ok X G (c.t.d.fact 24 (f := .glo "_law_same") rfl)
  obtain ⟨fd__law_renamed, D__law_renamed⟩ := (c.t.d.def_ 25 (d := dd__law_renamed) rfl)
  have g__law_renamed := He.glo_ok X G (c.t.d.fact 25 (f := .glo "_law_renamed") rfl)
  obtain ⟨fd__law_planted, D__law_planted⟩ := (c.t.d.def_ 26 (d := dd__law_planted) rfl)
  have g__law_planted := He.glo_ok X G (c.t.d.fact 26 (f := .glo "_law_planted") rfl)
  obtain ⟨fd__law_house, D__law_house⟩ := (c.t.d.def_ 27 (d := dd__law_house) rfl)
  have g__law_house := He.glo_ok X G (c.t.d.fact 27 (f := .glo "_law_house") rfl)
  obtain ⟨fd__law_seat, D__law_seat⟩ := (c.t.d.def_ 28 (d := dd__law_seat) rfl)
  have g__law_seat := He.glo_ok X G (c.t.d.fact 28 (f := .glo "_law_seat") rfl)
  obtain ⟨fd__law_seated, D__law_seated⟩ := (c.t.d.def_ 29 (d := dd__law_seated) rfl)
  have g__law_seated := He.glo_ok X G (c.t.d.fact 29 (f := .glo "_law_seated") rfl)
  obtain ⟨fd__law_most, D__law_most⟩ := (c.t.d.def_ 30 (d := dd__law_most) rfl)
  have g__law_most := He.glo_ok X G (c.t.d.fact 30 (f := .glo "_law_most") rfl)
  obtain ⟨fd__law_row, D__law_row⟩ := (c.t.d.def_ 31 (d := dd__law_row) rfl)
  have g__law_row := He.glo_ok X G (c.t.d.fact 31 (f := .glo "_law_row") rfl)
  obtain ⟨fd__law_all_lodgings, D__law_all_lodgings⟩ := (c.t.d.def_ 32 (d := dd__law_all_lodgings) rfl)
  have g__law_all_lodgings := He.glo_ok X G (c.t.d.fact 32 (f := .glo "_law_all_lodgings") rfl)
  obtain ⟨fd__law_are_numbers_right, D__law_are_numbers_right⟩ := (c.t.d.def_ 33 (d := dd__law_are_numbers_right) rfl)
  have g__law_are_numbers_right := He.glo_ok X G (c.t.d.fact 33 (f := .glo "_law_are_numbers_right") rfl)
  obtain ⟨fd__law_is_lodging, D__law_is_lodging⟩ := (c.t.d.def_ 34 (d := dd__law_is_lodging) rfl)
  have g__law_is_lodging := He.glo_ok X G (c.t.d.fact 34 (f := .glo "_law_is_lodging") rfl)
  obtain ⟨fd__law_is_told, D__law_is_told⟩ := (c.t.d.def_ 35 (d := dd__law_is_told) rfl)
  have g__law_is_told := He.glo_ok X G (c.t.d.fact 35 (f := .glo "_law_is_told") rfl)
  obtain ⟨fd__law_are_lodgings_right, D__law_are_lodgings_right⟩ := (c.t.d.def_ 36 (d := dd__law_are_lodgings_right) rfl)
  have g__law_are_lodgings_right := He.glo_ok X G (c.t.d.fact 36 (f := .glo "_law_are_lodgings_right") rfl)
  obtain ⟨fd_law, D_law⟩ := (c.t.d.def_ 37 (d := dd_law) rfl)
  have g_law := He.glo_ok X G (c.t.d.fact 37 (f := .glo "law") rfl)
  obtain ⟨fd_House__init__, D_House__init__⟩ := (c.t.d.def_ 38 (d := dd_House__init__) rfl)
  obtain ⟨fd_BadHouse__init__, D_BadHouse__init__⟩ := (c.t.d.def_ 39 (d := dd_BadHouse__init__) rfl)
  have e := hfa.symm.trans g_law
  cases e
  refine ⟨fd_law, fun s v => FunD.bindsA (ps := ["script"]) D_law (fun _ _ _ _ _ _ us hl => match us, hl with | [_], _ => rfl) s [v] rfl, fun base => ?_⟩
  have h__law_draw := has_draw (P := P) (w := w) (base := base) Fc g__law_draw D__law_draw (show FnScope (["hand", "many", "cell", "digit", "number"] : List Str) (["hand", "many"] : List Str) (defScope (top 34)) from ⟨rfl, rfl, rfl, by decide +kernel, rfl, by decide +kernel, by decide +kernel⟩) (FunD.bindsN D__law_draw (fun _ _ _ _ _ _ us hl => match us, hl with | [_, _], _ => rfl))
  have h__law_mixed : Has P w K mg base (mkC K nm fl) 2 "_law_mixed" (["hand", "some"] : List Str) ct__law_mixed := has_def g__law_mixed D__law_mixed (show FnScope (["hand", "some", "left", "found"] : List Str) (["hand", "some"] : List Str) (defScope (top 36)) from ⟨rfl, rfl, rfl, by decide +kernel, rfl, by decide +kernel, by decide +kernel⟩) (FunD.bindsN D__law_mixed (fun _ _ _ _ _ _ us hl => match us, hl with | [_, _], _ => rfl)) (fun W => b__law_mixed Fc h__law_draw W) (fun ds q e h => by first | (obtain ⟨rfl, _⟩ := h; rfl) | (obtain ⟨_, rfl, _⟩ := h; rfl) | (obtain ⟨_, _, rfl, _⟩ := h; rfl) | (obtain ⟨_, _, _, rfl, _⟩ := h; rfl) | (obtain ⟨_, _, _, _, rfl, _⟩ := h; rfl) | (obtain ⟨_, _, _, _, _, rfl, _⟩ := h; rfl) | (obtain ⟨_, _, _, _, _, _, rfl, _⟩ := h; rfl) | (obtain ⟨_, _, _, _, _, _, _, rfl, _⟩ := h; rfl)) sp__law_mixed
  have h__law_any : Has P w K mg base (mkC K nm fl) 2 "_law_any" (["hand", "some"] : List Str) ct__law_any := has_def g__law_any D__law_any (show FnScope (["hand", "some"] : List Str) (["hand", "some"] : List Str) (defScope (top 35)) from ⟨rfl, rfl, rfl, by decide +kernel, rfl, by decide +kernel, by decide +kernel⟩) (FunD.bindsN D__law_any (fun _ _ _ _ _ _ us hl => match us, hl with | [_, _], _ => rfl)) (fun W => b__law_any Fc h__law_draw W) (fun ds q e h => by first | (obtain ⟨rfl, _⟩ := h; rfl) | (obtain ⟨_, rfl, _⟩ := h; rfl) | (obtain ⟨_, _, rfl, _⟩ := h; rfl) | (obtain ⟨_, _, _, rfl, _⟩ := h; rfl) | (obtain ⟨_, _, _, _, rfl, _⟩ := h; rfl) | (obtain ⟨_, _, _, _, _, rfl, _⟩ := h; rfl) | (obtain ⟨_, _, _, _, _, _, rfl, _⟩ := h; rfl) | (obtain ⟨_, _, _, _, _, _, _, rfl, _⟩ := h; rfl)) sp__law_any
  have h__law_row : Has P w K mg base (mkC K nm fl) 3 "_law_row" (["hand", "many"] : List Str) ct__law_row := has_def g__law_row D__law_row (show FnScope (["hand", "many", "share", "x"] : List Str) (["hand", "many"] : List Str) (defScope (top 44)) from ⟨rfl, rfl, rfl, by decide +kernel, rfl, by decide +kernel, by decide +kernel⟩) (FunD.bindsN D__law_row (fun _ _ _ _ _ _ us hl => match us, hl with | [_, _], _ => rfl)) (fun W => b__law_row Fc h__law_draw h__law_mixed h__law_any W) (fun ds q e h => by first | (obtain ⟨rfl, _⟩ := h; rfl) | (obtain ⟨_, rfl, _⟩ := h; rfl) | (obtain ⟨_, _, rfl, _⟩ := h; rfl) | (obtain ⟨_, _, _, rfl, _⟩ := h; rfl) | (obtain ⟨_, _, _, _, rfl, _⟩ := h; rfl) | (obtain ⟨_, _, _, _, _, rfl, _⟩ := h; rfl) | (obtain ⟨_, _, _, _, _, _, rfl, _⟩ := h; rfl) | (obtain ⟨_, _, _, _, _, _, _, rfl, _⟩ := h; rfl)) sp__law_row
  have h_moved_on : HasR P w K mg base (mkC K nm fl) 1 "moved_on" (["came", "found", "bed", "person"] : List Str) ct_moved_on := has_defR g_moved_on D_moved_on (show FnScope (["came", "found", "bed", "person", "here", "left", "one"] : List Str) (["came", "found", "bed", "person"] : List Str) (defScope (top 21)) from ⟨rfl, rfl, rfl, by decide +kernel, rfl, by decide +kernel, by decide +kernel⟩) (FunD.bindsN D_moved_on (fun _ _ _ _ _ _ us hl => match us, hl with | [_, _, _, _], _ => rfl)) (fun W => b_moved_on Fc W) (fun ar q h => by first | (obtain ⟨rfl, _⟩ := h; rfl) | (obtain ⟨_, rfl, _⟩ := h; rfl) | (obtain ⟨_, _, rfl, _⟩ := h; rfl) | (obtain ⟨_, _, _, rfl, _⟩ := h; rfl) | (obtain ⟨_, _, _, _, rfl, _⟩ := h; rfl) | (obtain ⟨_, _, _, _, _, rfl, _⟩ := h; rfl) | (obtain ⟨_, _, _, _, _, _, rfl, _⟩ := h; rfl) | (obtain ⟨_, _, _, _, _, _, _, rfl, _⟩ := h; rfl) | (obtain ⟨_, _, _, _, _, _, _, _, rfl, _⟩ := h; rfl) | (obtain ⟨_, _, _, _, _, _, _, _, _, rfl, _⟩ := h; rfl) | (obtain ⟨_, _, _, _, _, _, _, _, _, _, rfl, _⟩ := h; rfl)) sp_moved_on
  have h_improved : HasR P w K mg base (mkC K nm fl) 2 "improved" (["options", "found", "person"] : List Str) ct_improved := has_defR g_improved D_improved (show FnScope (["options", "found", "person", "came", "queue", "met", "here", "bed"] : List Str) (["options", "found", "person"] : List Str) (defScope (top 20)) from ⟨rfl, rfl, rfl, by decide +kernel, rfl, by decide +kernel, by decide +kernel⟩) (FunD.bindsN D_improved (fun _ _ _ _ _ _ us hl => match us, hl with | [_, _, _], _ => rfl)) (fun W => b_improved Fc h_moved_on W) (fun ar q h => by first | (obtain ⟨rfl, _⟩ := h; rfl) | (obtain ⟨_, rfl, _⟩ := h; rfl) | (obtain ⟨_, _, rfl, _⟩ := h; rfl) | (obtain ⟨_, _, _, rfl, _⟩ := h; rfl) | (obtain ⟨_, _, _, _, rfl, _⟩ := h; rfl) | (obtain ⟨_, _, _, _, _, rfl, _⟩ := h; rfl) | (obtain ⟨_, _, _, _, _, _, rfl, _⟩ := h; rfl) | (obtain ⟨_, _, _, _, _, _, _, rfl, _⟩ := h; rfl) | (obtain ⟨_, _, _, _, _, _, _, _, rfl, _⟩ := h; rfl) | (obtain ⟨_, _, _, _, _, _, _, _, _, rfl, _⟩ := h; rfl) | (obtain ⟨_, _, _, _, _, _, _, _, _, _, rfl, _⟩ := h; rfl)) sp_improved
  have h_let_in_turn : Has P w K mg base (mkC K nm fl) 3 "let_in_turn" (["options", "order"] : List Str) ct_let_in_turn := has_def g_let_in_turn D_let_in_turn (show FnScope (["options", "order", "found", "vain", "person", "met"] : List Str) (["options", "order"] : List Str) (defScope (top 22)) from ⟨rfl, rfl, rfl, by decide +kernel, rfl, by decide +kernel, by decide +kernel⟩) (FunD.bindsN D_let_in_turn (fun _ _ _ _ _ _ us hl => match us, hl with | [_, _], _ => rfl)) (fun W => b_let_in_turn Fc h_improved W) (fun ds q e h => by first | (obtain ⟨rfl, _⟩ := h; rfl) | (obtain ⟨_, rfl, _⟩ := h; rfl) | (obtain ⟨_, _, rfl, _⟩ := h; rfl) | (obtain ⟨_, _, _, rfl, _⟩ := h; rfl) | (obtain ⟨_, _, _, _, rfl, _⟩ := h; rfl) | (obtain ⟨_, _, _, _, _, rfl, _⟩ := h; rfl) | (obtain ⟨_, _, _, _, _, _, rfl, _⟩ := h; rfl) | (obtain ⟨_, _, _, _, _, _, _, rfl, _⟩ := h; rfl)) sp_let_in_turn
  have h_most_of : Has P w K mg base (mkC K nm fl) 4 "most_of" (["house", "some"] : List Str) ct_most_of := has_def g_most_of D_most_of (show FnScope (["house", "some"] : List Str) (["house", "some"] : List Str) (defScope (top 26)) from ⟨rfl, rfl, rfl, by decide +kernel, rfl, by decide +kernel, by decide +kernel⟩) (FunD.bindsN D_most_of (fun _ _ _ _ _ _ us hl => match us, hl with | [_, _], _ => rfl)) (fun W => b_most_of Fc h_let_in_turn W) (fun ds q e h => by first | (obtain ⟨rfl, _⟩ := h; rfl) | (obtain ⟨_, rfl, _⟩ := h; rfl) | (obtain ⟨_, _, rfl, _⟩ := h; rfl) | (obtain ⟨_, _, _, rfl, _⟩ := h; rfl) | (obtain ⟨_, _, _, _, rfl, _⟩ := h; rfl) | (obtain ⟨_, _, _, _, _, rfl, _⟩ := h; rfl) | (obtain ⟨_, _, _, _, _, _, rfl, _⟩ := h; rfl) | (obtain ⟨_, _, _, _, _, _, _, rfl, _⟩ := h; rfl)) sp_most_of
  have h_all_fit : Has P w K mg base (mkC K nm fl) 5 "all_fit" (["house", "some"] : List Str) ct_all_fit := has_def g_all_fit D_all_fit (show FnScope (["house", "some"] : List Str) (["house", "some"] : List Str) (defScope (top 30)) from ⟨rfl, rfl, rfl, by decide +kernel, rfl, by decide +kernel, by decide +kernel⟩) (FunD.bindsN D_all_fit (fun _ _ _ _ _ _ us hl => match us, hl with | [_, _], _ => rfl)) (fun W => b_all_fit Fc h_most_of W) (fun ds q e h => by first | (obtain ⟨rfl, _⟩ := h; rfl) | (obtain ⟨_, rfl, _⟩ := h; rfl) | (obtain ⟨_, _, rfl, _⟩ := h; rfl) | (obtain ⟨_, _, _, rfl, _⟩ := h; rfl) | (obtain ⟨_, _, _, _, rfl, _⟩ := h; rfl) | (obtain ⟨_, _, _, _, _, rfl, _⟩ := h; rfl) | (obtain ⟨_, _, _, _, _, _, rfl, _⟩ := h; rfl) | (obtain ⟨_, _, _, _, _, _, _, rfl, _⟩ := h; rfl)) sp_all_fit
  have h_is_integer : Has P w K mg base (mkC K nm fl) 1 "is_integer" (["thing"] : List Str) ct_is_integer := has_def g_is_integer D_is_integer (show FnScope (["thing"] : List Str) (["thing"] : List Str) (defScope (top 1)) from ⟨rfl, rfl, rfl, by decide +kernel, rfl, by decide +kernel, by decide +kernel⟩) (FunD.bindsN D_is_integer (fun _ _ _ _ _ _ us hl => match us, hl with | [_], _ => rfl)) (fun W => b_is_integer Fc W) (fun ds q e h => by first | (obtain ⟨rfl, _⟩ := h; rfl) | (obtain ⟨_, rfl, _⟩ := h; rfl) | (obtain ⟨_, _, rfl, _⟩ := h; rfl) | (obtain ⟨_, _, _, rfl, _⟩ := h; rfl) | (obtain ⟨_, _, _, _, rfl, _⟩ := h; rfl) | (obtain ⟨_, _, _, _, _, rfl, _⟩ := h; rfl) | (obtain ⟨_, _, _, _, _, _, rfl, _⟩ := h; rfl) | (obtain ⟨_, _, _, _, _, _, _, rfl, _⟩ := h; rfl)) sp_is_integer
  have h_is_within : Has P w K mg base (mkC K nm fl) 2 "is_within" (["thing", "low", "high"] : List Str) ct_is_within := has_def g_is_within D_is_within (show FnScope (["thing", "low", "high"] : List Str) (["thing", "low", "high"] : List Str) (defScope (top 2)) from ⟨rfl, rfl, rfl, by decide +kernel, rfl, by decide +kernel, by decide +kernel⟩) (FunD.bindsN D_is_within (fun _ _ _ _ _ _ us hl => match us, hl with | [_, _, _], _ => rfl)) (fun W => b_is_within Fc h_is_integer W) (fun ds q e h => by first | (obtain ⟨rfl, _⟩ := h; rfl) | (obtain ⟨_, rfl, _⟩ := h; rfl) | (obtain ⟨_, _, rfl, _⟩ := h; rfl) | (obtain ⟨_, _, _, rfl, _⟩ := h; rfl) | (obtain ⟨_, _, _, _, rfl, _⟩ := h; rfl) | (obtain ⟨_, _, _, _, _, rfl, _⟩ := h; rfl) | (obtain ⟨_, _, _, _, _, _, rfl, _⟩ := h; rfl) | (obtain ⟨_, _, _, _, _, _, _, rfl, _⟩ := h; rfl)) sp_is_within
  have h_are_below : Has P w K mg base (mkC K nm fl) 3 "are_below" (["thing", "many"] : List Str) ct_are_below := has_def g_are_below D_are_below (show FnScope (["thing", "many", "one"] : List Str) (["thing", "many"] : List Str) (defScope (top 3)) from ⟨rfl, rfl, rfl, by decide +kernel, rfl, by decide +kernel, by decide +kernel⟩) (FunD.bindsN D_are_below (fun _ _ _ _ _ _ us hl => match us, hl with | [_, _], _ => rfl)) (fun W => b_are_below Fc h_is_within W) (fun ds q e h => by first | (obtain ⟨rfl, _⟩ := h; rfl) | (obtain ⟨_, rfl, _⟩ := h; rfl) | (obtain ⟨_, _, rfl, _⟩ := h; rfl) | (obtain ⟨_, _, _, rfl, _⟩ := h; rfl) | (obtain ⟨_, _, _, _, rfl, _⟩ := h; rfl) | (obtain ⟨_, _, _, _, _, rfl, _⟩ := h; rfl) | (obtain ⟨_, _, _, _, _, _, rfl, _⟩ := h; rfl) | (obtain ⟨_, _, _, _, _, _, _, rfl, _⟩ := h; rfl)) sp_are_below
  have h_is_row : Has P w K mg base (mkC K nm fl) 4 "is_row" (["thing", "many"] : List Str) ct_is_row := has_def g_is_row D_is_row (show FnScope (["thing", "many", "one", "other"] : List Str) (["thing", "many"] : List Str) (defScope (top 4)) from ⟨rfl, rfl, rfl, by decide +kernel, rfl, by decide +kernel, by decide +kernel⟩) (FunD.bindsN D_is_row (fun _ _ _ _ _ _ us hl => match us, hl with | [_, _], _ => rfl)) (fun W => b_is_row Fc h_are_below W) (fun ds q e h => by first | (obtain ⟨rfl, _⟩ := h; rfl) | (obtain ⟨_, rfl, _⟩ := h; rfl) | (obtain ⟨_, _, rfl, _⟩ := h; rfl) | (obtain ⟨_, _, _, rfl, _⟩ := h; rfl) | (obtain ⟨_, _, _, _, rfl, _⟩ := h; rfl) | (obtain ⟨_, _, _, _, _, rfl, _⟩ := h; rfl) | (obtain ⟨_, _, _, _, _, _, rfl, _⟩ := h; rfl) | (obtain ⟨_, _, _, _, _, _, _, rfl, _⟩ := h; rfl)) sp_is_row
  have h_check_house : Has P w K mg base (mkC K nm fl) 1 "check_house" (["house"] : List Str) ct_check_house := has_def g_check_house D_check_house (show FnScope (["house"] : List Str) (["house"] : List Str) (defScope (top 14)) from ⟨rfl, rfl, rfl, by decide +kernel, rfl, by decide +kernel, by decide +kernel⟩) (FunD.bindsN D_check_house (fun _ _ _ _ _ _ us hl => match us, hl with | [_], _ => rfl)) (fun W => b_check_house Fc W) (fun ds q e h => by first | (obtain ⟨rfl, _⟩ := h; rfl) | (obtain ⟨_, rfl, _⟩ := h; rfl) | (obtain ⟨_, _, rfl, _⟩ := h; rfl) | (obtain ⟨_, _, _, rfl, _⟩ := h; rfl) | (obtain ⟨_, _, _, _, rfl, _⟩ := h; rfl) | (obtain ⟨_, _, _, _, _, rfl, _⟩ := h; rfl) | (obtain ⟨_, _, _, _, _, _, rfl, _⟩ := h; rfl) | (obtain ⟨_, _, _, _, _, _, _, rfl, _⟩ := h; rfl)) sp_check_house
  have h_check_some : Has P w K mg base (mkC K nm fl) 5 "check_some" (["house", "some"] : List Str) ct_check_some := has_def g_check_some D_check_some (show FnScope (["house", "some"] : List Str) (["house", "some"] : List Str) (defScope (top 15)) from ⟨rfl, rfl, rfl, by decide +kernel, rfl, by decide +kernel, by decide +kernel⟩) (FunD.bindsN D_check_some (fun _ _ _ _ _ _ us hl => match us, hl with | [_, _], _ => rfl)) (fun W => b_check_some Fc h_is_row h_check_house W) (fun ds q e h => by first | (obtain ⟨rfl, _⟩ := h; rfl) | (obtain ⟨_, rfl, _⟩ := h; rfl) | (obtain ⟨_, _, rfl, _⟩ := h; rfl) | (obtain ⟨_, _, _, rfl, _⟩ := h; rfl) | (obtain ⟨_, _, _, _, rfl, _⟩ := h; rfl) | (obtain ⟨_, _, _, _, _, rfl, _⟩ := h; rfl) | (obtain ⟨_, _, _, _, _, _, rfl, _⟩ := h; rfl) | (obtain ⟨_, _, _, _, _, _, _, rfl, _⟩ := h; rfl)) sp_check_some
  have h_can_lodge : Has P w K mg base (mkC K nm fl) 6 "can_lodge" (["house", "some"] : List Str) ct_can_lodge := has_def g_can_lodge D_can_lodge (show FnScope (["house", "some"] : List Str) (["house", "some"] : List Str) (defScope (top 31)) from ⟨rfl, rfl, rfl, by decide +kernel, rfl, by decide +kernel, by decide +kernel⟩) (FunD.bindsN D_can_lodge (fun _ _ _ _ _ _ us hl => match us, hl with | [_, _], _ => rfl)) (fun W => b_can_lodge Fc h_all_fit h_check_some W) (fun ds q e h => by first | (obtain ⟨rfl, _⟩ := h; rfl) | (obtain ⟨_, rfl, _⟩ := h; rfl) | (obtain ⟨_, _, rfl, _⟩ := h; rfl) | (obtain ⟨_, _, _, rfl, _⟩ := h; rfl) | (obtain ⟨_, _, _, _, rfl, _⟩ := h; rfl) | (obtain ⟨_, _, _, _, _, rfl, _⟩ := h; rfl) | (obtain ⟨_, _, _, _, _, _, rfl, _⟩ := h; rfl) | (obtain ⟨_, _, _, _, _, _, _, rfl, _⟩ := h; rfl)) sp_can_lodge
  have h_most_lodged : Has P w K mg base (mkC K nm fl) 6 "most_lodged" (["house", "some"] : List Str) ct_most_lodged := has_def g_most_lodged D_most_lodged (show FnScope (["house", "some"] : List Str) (["house", "some"] : List Str) (defScope (top 27)) from ⟨rfl, rfl, rfl, by decide +kernel, rfl, by decide +kernel, by decide +kernel⟩) (FunD.bindsN D_most_lodged (fun _ _ _ _ _ _ us hl => match us, hl with | [_, _], _ => rfl)) (fun W => b_most_lodged Fc h_most_of h_check_some W) (fun ds q e h => by first | (obtain ⟨rfl, _⟩ := h; rfl) | (obtain ⟨_, rfl, _⟩ := h; rfl) | (obtain ⟨_, _, rfl, _⟩ := h; rfl) | (obtain ⟨_, _, _, rfl, _⟩ := h; rfl) | (obtain ⟨_, _, _, _, rfl, _⟩ := h; rfl) | (obtain ⟨_, _, _, _, _, rfl, _⟩ := h; rfl) | (obtain ⟨_, _, _, _, _, _, rfl, _⟩ := h; rfl) | (obtain ⟨_, _, _, _, _, _, _, rfl, _⟩ := h; rfl)) sp_most_lodged
  have S__law_same := (show FnScope (["one", "due", "two", "other"] : List Str) (["one", "due"] : List Str) (defScope (top 37)) from ⟨rfl, rfl, rfl, by decide +kernel, rfl, by decide +kernel, by decide +kernel⟩)
  have h_all_law_same : ∀ m, Has P w K mg base (mkC K nm fl) (m + 1) "_law_same" ["one", "due"] (ct__law_same m) := by
    intro m
    induction m with
    | zero =>
      exact has_zero g__law_same D__law_same S__law_same (FunD.bindsN D__law_same (fun _ _ _ _ _ _ us hl => match us, hl with | [_, _], _ => rfl)) (fun _ _ _ z => ct__law_same_zero z)
    | succ m ih => exact has_def g__law_same D__law_same S__law_same (FunD.bindsN D__law_same (fun _ _ _ _ _ _ us hl => match us, hl with | [_, _], _ => rfl)) (fun W => b__law_same Fc ih W) (fun ds q e h => by first | (obtain ⟨rfl, _⟩ := h; rfl) | (obtain ⟨_, rfl, _⟩ := h; rfl) | (obtain ⟨_, _, rfl, _⟩ := h; rfl) | (obtain ⟨_, _, _, rfl, _⟩ := h; rfl) | (obtain ⟨_, _, _, _, rfl, _⟩ := h; rfl) | (obtain ⟨_, _, _, _, _, rfl, _⟩ := h; rfl) | (obtain ⟨_, _, _, _, _, _, rfl, _⟩ := h; rfl) | (obtain ⟨_, _, _, _, _, _, _, rfl, _⟩ := h; rfl)) (sp__law_same m)
  have h__law_same := h_all_law_same 4
  have h_lies_right : Has P w K mg base (mkC K nm fl) 2 "lies_right" (["house", "person", "bed"] : List Str) ct_lies_right := has_def g_lies_right D_lies_right (show FnScope (["house", "person", "bed"] : List Str) (["house", "person", "bed"] : List Str) (defScope (top 16)) from ⟨rfl, rfl, rfl, by decide +kernel, rfl, by decide +kernel, by decide +kernel⟩) (FunD.bindsN D_lies_right (fun _ _ _ _ _ _ us hl => match us, hl with | [_, _, _], _ => rfl)) (fun W => b_lies_right Fc h_is_integer W) (fun ds q e h => by first | (obtain ⟨rfl, _⟩ := h; rfl) | (obtain ⟨_, rfl, _⟩ := h; rfl) | (obtain ⟨_, _, rfl, _⟩ := h; rfl) | (obtain ⟨_, _, _, rfl, _⟩ := h; rfl) | (obtain ⟨_, _, _, _, rfl, _⟩ := h; rfl) | (obtain ⟨_, _, _, _, _, rfl, _⟩ := h; rfl) | (obtain ⟨_, _, _, _, _, _, rfl, _⟩ := h; rfl) | (obtain ⟨_, _, _, _, _, _, _, rfl, _⟩ := h; rfl)) sp_lies_right
  have h_lodges : Has P w K mg base (mkC K nm fl) 3 "lodges" (["house", "thing"] : List Str) ct_lodges := has_def g_lodges D_lodges (show FnScope (["house", "thing", "told", "person", "bed"] : List Str) (["house", "thing"] : List Str) (defScope (top 17)) from ⟨rfl, rfl, rfl, by decide +kernel, rfl, by decide +kernel, by decide +kernel⟩) (FunD.bindsN D_lodges (fun _ _ _ _ _ _ us hl => match us, hl with | [_, _], _ => rfl)) (fun W => b_lodges Fc h_lies_right W) (fun ds q e h => by first | (obtain ⟨rfl, _⟩ := h; rfl) | (obtain ⟨_, rfl, _⟩ := h; rfl) | (obtain ⟨_, _, rfl, _⟩ := h; rfl) | (obtain ⟨_, _, _, rfl, _⟩ := h; rfl) | (obtain ⟨_, _, _, _, rfl, _⟩ := h; rfl) | (obtain ⟨_, _, _, _, _, rfl, _⟩ := h; rfl) | (obtain ⟨_, _, _, _, _, _, rfl, _⟩ := h; rfl) | (obtain ⟨_, _, _, _, _, _, _, rfl, _⟩ := h; rfl)) sp_lodges
  have h_is_lodging : Has P w K mg base (mkC K nm fl) 4 "is_lodging" (["house", "thing"] : List Str) ct_is_lodging := has_def g_is_lodging D_is_lodging (show FnScope (["house", "thing"] : List Str) (["house", "thing"] : List Str) (defScope (top 18)) from ⟨rfl, rfl, rfl, by decide +kernel, rfl, by decide +kernel, by decide +kernel⟩) (FunD.bindsN D_is_lodging (fun _ _ _ _ _ _ us hl => match us, hl with | [_, _], _ => rfl)) (fun W => b_is_lodging Fc h_lodges h_check_house W) (fun ds q e h => by first | (obtain ⟨rfl, _⟩ := h; rfl) | (obtain ⟨_, rfl, _⟩ := h; rfl) | (obtain ⟨_, _, rfl, _⟩ := h; rfl) | (obtain ⟨_, _, _, rfl, _⟩ := h; rfl) | (obtain ⟨_, _, _, _, rfl, _⟩ := h; rfl) | (obtain ⟨_, _, _, _, _, rfl, _⟩ := h; rfl) | (obtain ⟨_, _, _, _, _, _, rfl, _⟩ := h; rfl) | (obtain ⟨_, _, _, _, _, _, _, rfl, _⟩ := h; rfl)) sp_is_lodging
  have h__law_is_lodging : Has P w K mg base (mkC K nm fl) 1 "_law_is_lodging" (["house", "thing"] : List Str) ct__law_is_lodging := has_def g__law_is_lodging D__law_is_lodging (show FnScope (["house", "thing", "lain", "bed", "x"] : List Str) (["house", "thing"] : List Str) (defScope (top 47)) from ⟨rfl, rfl, rfl, by decide +kernel, rfl, by decide +kernel, by decide +kernel⟩) (FunD.bindsN D__law_is_lodging (fun _ _ _ _ _ _ us hl => match us, hl with | [_, _], _ => rfl)) (fun W => b__law_is_lodging Fc W) (fun ds q e h => by first | (obtain ⟨rfl, _⟩ := h; rfl) | (obtain ⟨_, rfl, _⟩ := h; rfl) | (obtain ⟨_, _, rfl, _⟩ := h; rfl) | (obtain ⟨_, _, _, rfl, _⟩ := h; rfl) | (obtain ⟨_, _, _, _, rfl, _⟩ := h; rfl) | (obtain ⟨_, _, _, _, _, rfl, _⟩ := h; rfl) | (obtain ⟨_, _, _, _, _, _, rfl, _⟩ := h; rfl) | (obtain ⟨_, _, _, _, _, _, _, rfl, _⟩ := h; rfl)) sp__law_is_lodging
  have S__law_seat := (show FnScope (["x", "choices", "taken", "met", "bed"] : List Str) (["x", "choices", "taken", "met"] : List Str) (defScope (top 41)) from ⟨rfl, rfl, rfl, by decide +kernel, rfl, by decide +kernel, by decide +kernel⟩)
  have h_all_law_seat : ∀ m, HasR P w K mg base (mkC K nm fl) (m + 1) "_law_seat" ["x", "choices", "taken", "met"] (ct__law_seat m) := by
    intro m
    induction m with
    | zero =>
      exact has_zeroR g__law_seat D__law_seat S__law_seat (FunD.bindsN D__law_seat (fun _ _ _ _ _ _ us hl => match us, hl with | [_, _, _, _], _ => rfl)) (fun _ _ z => ct__law_seat_zero z)
    | succ m ih => exact has_defR g__law_seat D__law_seat S__law_seat (FunD.bindsN D__law_seat (fun _ _ _ _ _ _ us hl => match us, hl with | [_, _, _, _], _ => rfl)) (fun W => b__law_seat Fc ih W) (fun ar q h => by first | (obtain ⟨rfl, _⟩ := h; rfl) | (obtain ⟨_, rfl, _⟩ := h; rfl) | (obtain ⟨_, _, rfl, _⟩ := h; rfl) | (obtain ⟨_, _, _, rfl, _⟩ := h; rfl) | (obtain ⟨_, _, _, _, rfl, _⟩ := h; rfl) | (obtain ⟨_, _, _, _, _, rfl, _⟩ := h; rfl) | (obtain ⟨_, _, _, _, _, _, rfl, _⟩ := h; rfl) | (obtain ⟨_, _, _, _, _, _, _, rfl, _⟩ := h; rfl) | (obtain ⟨_, _, _, _, _, _, _, _, rfl, _⟩ := h; rfl) | (obtain ⟨_, _, _, _, _, _, _, _, _, rfl, _⟩ := h; rfl) | (obtain ⟨_, _, _, _, _, _, _, _, _, _, rfl, _⟩ := h; rfl)) (sp__law_seat m)
  have h__law_seat := h_all_law_seat 25
  have h__law_seated : Has P w K mg base (mkC K nm fl) 27 "_law_seated" (["choices"] : List Str) ct__law_seated := has_def g__law_seated D__law_seated (show FnScope (["choices", "taken", "x"] : List Str) (["choices"] : List Str) (defScope (top 42)) from ⟨rfl, rfl, rfl, by decide +kernel, rfl, by decide +kernel, by decide +kernel⟩) (FunD.bindsN D__law_seated (fun _ _ _ _ _ _ us hl => match us, hl with | [_], _ => rfl)) (fun W => b__law_seated Fc h__law_seat W) (fun ds q e h => by first | (obtain ⟨rfl, _⟩ := h; rfl) | (obtain ⟨_, rfl, _⟩ := h; rfl) | (obtain ⟨_, _, rfl, _⟩ := h; rfl) | (obtain ⟨_, _, _, rfl, _⟩ := h; rfl) | (obtain ⟨_, _, _, _, rfl, _⟩ := h; rfl) | (obtain ⟨_, _, _, _, _, rfl, _⟩ := h; rfl) | (obtain ⟨_, _, _, _, _, _, rfl, _⟩ := h; rfl) | (obtain ⟨_, _, _, _, _, _, _, rfl, _⟩ := h; rfl)) sp__law_seated
  have h__law_most : Has P w K mg base (mkC K nm fl) 28 "_law_most" (["fits", "some"] : List Str) ct__law_most := has_def g__law_most D__law_most (show FnScope (["fits", "some", "x"] : List Str) (["fits", "some"] : List Str) (defScope (top 43)) from ⟨rfl, rfl, rfl, by decide +kernel, rfl, by decide +kernel, by decide +kernel⟩) (FunD.bindsN D__law_most (fun _ _ _ _ _ _ us hl => match us, hl with | [_, _], _ => rfl)) (fun W => b__law_most Fc h__law_seated W) (fun ds q e h => by first | (obtain ⟨rfl, _⟩ := h; rfl) | (obtain ⟨_, rfl, _⟩ := h; rfl) | (obtain ⟨_, _, rfl, _⟩ := h; rfl) | (obtain ⟨_, _, _, rfl, _⟩ := h; rfl) | (obtain ⟨_, _, _, _, rfl, _⟩ := h; rfl) | (obtain ⟨_, _, _, _, _, rfl, _⟩ := h; rfl) | (obtain ⟨_, _, _, _, _, _, rfl, _⟩ := h; rfl) | (obtain ⟨_, _, _, _, _, _, _, rfl, _⟩ := h; rfl)) sp__law_most
  have h_BadHouse : HasX2 P w K mg base (mkC K nm fl) 1 "BadHouse" 1 "what" "at" := hasX2_of m4 m5 rfl rfl (He.glo_ok X G (c.t.d.fact 39 (f := .glo "BadHouse") rfl)) (FunD.bindsN (ps := ["self", "what", "at"]) D_BadHouse__init__ (fun _ _ _ _ _ _ us hl => match us, hl with | [_, _, _], _ => rfl)) (fn_BadHouse D_BadHouse__init__ (show FnScope (["self", "what", "at"] : List Str) (["self", "what", "at"] : List Str) (defScope (memb 7 0)) from ⟨rfl, rfl, rfl, by decide +kernel, rfl, by decide +kernel, by decide +kernel⟩)) (He.noat_ok (c.t.d.fact 66 (f := .noat "BadHouse" "what") rfl)) (He.noat_ok (c.t.d.fact 67 (f := .noat "BadHouse" "at") rfl)) (by decide)
  have h_House : HasI P w K mg base (mkC K nm fl) 5 "House" 0 ["self", "beds", "fits"] ct_House := hasI_def Fc.c_House (He.mkr_ok (x := "House") (c.t.d.fact 62 (f := .mkr "House") rfl)) (He.cls_ok (x := "House") (c.t.d.fact 61 (f := .cls "House") rfl)) Fc.na_0 Fc.nd0 (by rw [Fc.cf0]; decide) D_House__init__ (show FnScope (["self", "beds", "fits", "at", "some"] : List Str) (["self", "beds", "fits"] : List Str) (defScope (memb 13 0)) from ⟨rfl, rfl, rfl, by decide +kernel, rfl, by decide +kernel, by decide +kernel⟩) (FunD.bindsN D_House__init__ (fun _ _ _ _ _ _ us hl => match us, hl with | [_, _, _], _ => rfl)) (fun W => b_House Fc h_is_row h_BadHouse h_is_within W) (fun ds q e h => by first | (obtain ⟨rfl, _⟩ := h; rfl) | (obtain ⟨_, rfl, _⟩ := h; rfl) | (obtain ⟨_, _, rfl, _⟩ := h; rfl) | (obtain ⟨_, _, _, rfl, _⟩ := h; rfl) | (obtain ⟨_, _, _, _, rfl, _⟩ := h; rfl) | (obtain ⟨_, _, _, _, _, rfl, _⟩ := h; rfl) | (obtain ⟨_, _, _, _, _, _, rfl, _⟩ := h; rfl) | (obtain ⟨_, _, _, _, _, _, _, rfl, _⟩ := h; rfl)) sp_House
  have h_beds_by : Has P w K mg base (mkC K nm fl) 1 "beds_by" (["found"] : List Str) ct_beds_by := has_def g_beds_by D_beds_by (show FnScope (["found", "bed"] : List Str) (["found"] : List Str) (defScope (top 23)) from ⟨rfl, rfl, rfl, by decide +kernel, rfl, by decide +kernel, by decide +kernel⟩) (FunD.bindsN D_beds_by (fun _ _ _ _ _ _ us hl => match us, hl with | [_], _ => rfl)) (fun W => b_beds_by Fc W) (fun ds q e h => by first | (obtain ⟨rfl, _⟩ := h; rfl) | (obtain ⟨_, rfl, _⟩ := h; rfl) | (obtain ⟨_, _, rfl, _⟩ := h; rfl) | (obtain ⟨_, _, _, rfl, _⟩ := h; rfl) | (obtain ⟨_, _, _, _, rfl, _⟩ := h; rfl) | (obtain ⟨_, _, _, _, _, rfl, _⟩ := h; rfl) | (obtain ⟨_, _, _, _, _, _, rfl, _⟩ := h; rfl) | (obtain ⟨_, _, _, _, _, _, _, rfl, _⟩ := h; rfl)) sp_beds_by
  have h_lodging_of : Has P w K mg base (mkC K nm fl) 2 "lodging_of" (["house", "found"] : List Str) ct_lodging_of := has_def g_lodging_of D_lodging_of (show FnScope (["house", "found", "beds", "person"] : List Str) (["house", "found"] : List Str) (defScope (top 25)) from ⟨rfl, rfl, rfl, by decide +kernel, rfl, by decide +kernel, by decide +kernel⟩) (FunD.bindsN D_lodging_of (fun _ _ _ _ _ _ us hl => match us, hl with | [_, _], _ => rfl)) (fun W => b_lodging_of Fc h_beds_by W) (fun ds q e h => by first | (obtain ⟨rfl, _⟩ := h; rfl) | (obtain ⟨_, rfl, _⟩ := h; rfl) | (obtain ⟨_, _, rfl, _⟩ := h; rfl) | (obtain ⟨_, _, _, rfl, _⟩ := h; rfl) | (obtain ⟨_, _, _, _, rfl, _⟩ := h; rfl) | (obtain ⟨_, _, _, _, _, rfl, _⟩ := h; rfl) | (obtain ⟨_, _, _, _, _, _, rfl, _⟩ := h; rfl) | (obtain ⟨_, _, _, _, _, _, _, rfl, _⟩ := h; rfl)) sp_lodging_of
  have h_lodged_of : Has P w K mg base (mkC K nm fl) 4 "lodged_of" (["house", "some"] : List Str) ct_lodged_of := has_def g_lodged_of D_lodged_of (show FnScope (["house", "some"] : List Str) (["house", "some"] : List Str) (defScope (top 28)) from ⟨rfl, rfl, rfl, by decide +kernel, rfl, by decide +kernel, by decide +kernel⟩) (FunD.bindsN D_lodged_of (fun _ _ _ _ _ _ us hl => match us, hl with | [_, _], _ => rfl)) (fun W => b_lodged_of Fc h_let_in_turn h_lodging_of W) (fun ds q e h => by first | (obtain ⟨rfl, _⟩ := h; rfl) | (obtain ⟨_, rfl, _⟩ := h; rfl) | (obtain ⟨_, _, rfl, _⟩ := h; rfl) | (obtain ⟨_, _, _, rfl, _⟩ := h; rfl) | (obtain ⟨_, _, _, _, rfl, _⟩ := h; rfl) | (obtain ⟨_, _, _, _, _, rfl, _⟩ := h; rfl) | (obtain ⟨_, _, _, _, _, _, rfl, _⟩ := h; rfl) | (obtain ⟨_, _, _, _, _, _, _, rfl, _⟩ := h; rfl)) sp_lodged_of
  have h_lodged : Has P w K mg base (mkC K nm fl) 6 "lodged" (["house", "some"] : List Str) ct_lodged := has_def g_lodged D_lodged (show FnScope (["house", "some"] : List Str) (["house", "some"] : List Str) (defScope (top 29)) from ⟨rfl, rfl, rfl, by decide +kernel, rfl, by decide +kernel, by decide +kernel⟩) (FunD.bindsN D_lodged (fun _ _ _ _ _ _ us hl => match us, hl with | [_, _], _ => rfl)) (fun W => b_lodged Fc h_lodged_of h_check_some W) (fun ds q e h => by first | (obtain ⟨rfl, _⟩ := h; rfl) | (obtain ⟨_, rfl, _⟩ := h; rfl) | (obtain ⟨_, _, rfl, _⟩ := h; rfl) | (obtain ⟨_, _, _, rfl, _⟩ := h; rfl) | (obtain ⟨_, _, _, _, rfl, _⟩ := h; rfl) | (obtain ⟨_, _, _, _, _, rfl, _⟩ := h; rfl) | (obtain ⟨_, _, _, _, _, _, rfl, _⟩ := h; rfl) | (obtain ⟨_, _, _, _, _, _, _, rfl, _⟩ := h; rfl)) sp_lodged
  have h__law_is_told : Has P w K mg base (mkC K nm fl) 29 "_law_is_told" (["house", "some"] : List Str) ct__law_is_told := has_def g__law_is_told D__law_is_told (show FnScope (["house", "some", "made", "got", "most", "lying", "x", "bed"] : List Str) (["house", "some"] : List Str) (defScope (top 48)) from ⟨rfl, rfl, rfl, by decide +kernel, rfl, by decide +kernel, by decide +kernel⟩) (FunD.bindsN D__law_is_told (fun _ _ _ _ _ _ us hl => match us, hl with | [_, _], _ => rfl)) (fun W => b__law_is_told Fc h_can_lodge h_most_lodged h__law_same h_is_lodging h__law_is_lodging h__law_most h_House h_lodged W) (fun ds q e h => by first | (obtain ⟨rfl, _⟩ := h; rfl) | (obtain ⟨_, rfl, _⟩ := h; rfl) | (obtain ⟨_, _, rfl, _⟩ := h; rfl) | (obtain ⟨_, _, _, rfl, _⟩ := h; rfl) | (obtain ⟨_, _, _, _, rfl, _⟩ := h; rfl) | (obtain ⟨_, _, _, _, _, rfl, _⟩ := h; rfl) | (obtain ⟨_, _, _, _, _, _, rfl, _⟩ := h; rfl) | (obtain ⟨_, _, _, _, _, _, _, rfl, _⟩ := h; rfl)) sp__law_is_told
  have h__law_renamed : Has P w K mg base (mkC K nm fl) 3 "_law_renamed" (["hand", "beds", "rows"] : List Str) ct__law_renamed := has_def g__law_renamed D__law_renamed (show FnScope (["hand", "beds", "rows", "names", "found", "row", "bed"] : List Str) (["hand", "beds", "rows"] : List Str) (defScope (top 38)) from ⟨rfl, rfl, rfl, by decide +kernel, rfl, by decide +kernel, by decide +kernel⟩) (FunD.bindsN D__law_renamed (fun _ _ _ _ _ _ us hl => match us, hl with | [_, _, _], _ => rfl)) (fun W => b__law_renamed Fc h__law_mixed W) (fun ds q e h => by first | (obtain ⟨rfl, _⟩ := h; rfl) | (obtain ⟨_, rfl, _⟩ := h; rfl) | (obtain ⟨_, _, rfl, _⟩ := h; rfl) | (obtain ⟨_, _, _, rfl, _⟩ := h; rfl) | (obtain ⟨_, _, _, _, rfl, _⟩ := h; rfl) | (obtain ⟨_, _, _, _, _, rfl, _⟩ := h; rfl) | (obtain ⟨_, _, _, _, _, _, rfl, _⟩ := h; rfl) | (obtain ⟨_, _, _, _, _, _, _, rfl, _⟩ := h; rfl)) sp__law_renamed
  have h__law_any_r : HasR P w K mg base (mkC K nm fl) 2 "_law_any" (["hand", "some"] : List Str) ct__law_any_r := has_defR g__law_any D__law_any (show FnScope (["hand", "some"] : List Str) (["hand", "some"] : List Str) (defScope (top 35)) from ⟨rfl, rfl, rfl, by decide +kernel, rfl, by decide +kernel, by decide +kernel⟩) (FunD.bindsN D__law_any (fun _ _ _ _ _ _ us hl => match us, hl with | [_, _], _ => rfl)) (fun W => b__law_any_r Fc h__law_draw W) (fun ar q h => by first | (obtain ⟨rfl, _⟩ := h; rfl) | (obtain ⟨_, rfl, _⟩ := h; rfl) | (obtain ⟨_, _, rfl, _⟩ := h; rfl) | (obtain ⟨_, _, _, rfl, _⟩ := h; rfl) | (obtain ⟨_, _, _, _, rfl, _⟩ := h; rfl) | (obtain ⟨_, _, _, _, _, rfl, _⟩ := h; rfl) | (obtain ⟨_, _, _, _, _, _, rfl, _⟩ := h; rfl) | (obtain ⟨_, _, _, _, _, _, _, rfl, _⟩ := h; rfl) | (obtain ⟨_, _, _, _, _, _, _, _, rfl, _⟩ := h; rfl) | (obtain ⟨_, _, _, _, _, _, _, _, _, rfl, _⟩ := h; rfl) | (obtain ⟨_, _, _, _, _, _, _, _, _, _, rfl, _⟩ := h; rfl)) sp__law_any_r
  have h__law_planted : Has P w K mg base (mkC K nm fl) 2 "_law_planted" (["hand", "size"] : List Str) ct__law_planted := has_def g__law_planted D__law_planted (show FnScope (["hand", "size", "a", "b", "c", "more", "rows", "turn", "person", "extra", "bed"] : List Str) (["hand", "size"] : List Str) (defScope (top 39)) from ⟨rfl, rfl, rfl, by decide +kernel, rfl, by decide +kernel, by decide +kernel⟩) (FunD.bindsN D__law_planted (fun _ _ _ _ _ _ us hl => match us, hl with | [_, _], _ => rfl)) (fun W => b__law_planted Fc h__law_draw W) (fun ds q e h => by first | (obtain ⟨rfl, _⟩ := h; rfl) | (obtain ⟨_, rfl, _⟩ := h; rfl) | (obtain ⟨_, _, rfl, _⟩ := h; rfl) | (obtain ⟨_, _, _, rfl, _⟩ := h; rfl) | (obtain ⟨_, _, _, _, rfl, _⟩ := h; rfl) | (obtain ⟨_, _, _, _, _, rfl, _⟩ := h; rfl) | (obtain ⟨_, _, _, _, _, _, rfl, _⟩ := h; rfl) | (obtain ⟨_, _, _, _, _, _, _, rfl, _⟩ := h; rfl)) sp__law_planted
  have h__law_house : Has P w K mg base (mkC K nm fl) 4 "_law_house" (["hand", "beds", "persons"] : List Str) ct__law_house := has_def g__law_house D__law_house (show FnScope (["hand", "beds", "persons", "which", "rows", "made", "share", "wide", "person", "row", "bed", "k"] : List Str) (["hand", "beds", "persons"] : List Str) (defScope (top 40)) from ⟨rfl, rfl, rfl, by decide +kernel, rfl, by decide +kernel, by decide +kernel⟩) (FunD.bindsN D__law_house (fun _ _ _ _ _ _ us hl => match us, hl with | [_, _, _], _ => rfl)) (fun W => b__law_house Fc h__law_renamed h__law_draw h__law_any_r h__law_any h__law_planted W) (fun ds q e h => by first | (obtain ⟨rfl, _⟩ := h; rfl) | (obtain ⟨_, rfl, _⟩ := h; rfl) | (obtain ⟨_, _, rfl, _⟩ := h; rfl) | (obtain ⟨_, _, _, rfl, _⟩ := h; rfl) | (obtain ⟨_, _, _, _, rfl, _⟩ := h; rfl) | (obtain ⟨_, _, _, _, _, rfl, _⟩ := h; rfl) | (obtain ⟨_, _, _, _, _, _, rfl, _⟩ := h; rfl) | (obtain ⟨_, _, _, _, _, _, _, rfl, _⟩ := h; rfl)) sp__law_house
  have h__law_are_lodgings_right : Has P w K mg base (mkC K nm fl) 30 "_law_are_lodgings_right" (["hand"] : List Str) ct__law_are_lodgings_right := has_def g__law_are_lodgings_right D__law_are_lodgings_right (show FnScope (["hand", "k", "beds", "persons", "house", "some"] : List Str) (["hand"] : List Str) (defScope (top 49)) from ⟨rfl, rfl, rfl, by decide +kernel, rfl, by decide +kernel, by decide +kernel⟩) (FunD.bindsN D__law_are_lodgings_right (fun _ _ _ _ _ _ us hl => match us, hl with | [_], _ => rfl)) (fun W => b__law_are_lodgings_right Fc h__law_draw h__law_row h__law_is_told h__law_house W) (fun ds q e h => by first | (obtain ⟨rfl, _⟩ := h; rfl) | (obtain ⟨_, rfl, _⟩ := h; rfl) | (obtain ⟨_, _, rfl, _⟩ := h; rfl) | (obtain ⟨_, _, _, rfl, _⟩ := h; rfl) | (obtain ⟨_, _, _, _, rfl, _⟩ := h; rfl) | (obtain ⟨_, _, _, _, _, rfl, _⟩ := h; rfl) | (obtain ⟨_, _, _, _, _, _, rfl, _⟩ := h; rfl) | (obtain ⟨_, _, _, _, _, _, _, rfl, _⟩ := h; rfl)) sp__law_are_lodgings_right
  have h__law_all_lodgings : Has P w K mg base (mkC K nm fl) 1 "_law_all_lodgings" (["house"] : List Str) ct__law_all_lodgings := has_def g__law_all_lodgings D__law_all_lodgings (show FnScope (["house", "found", "row", "longer", "lodging", "bed"] : List Str) (["house"] : List Str) (defScope (top 45)) from ⟨rfl, rfl, rfl, by decide +kernel, rfl, by decide +kernel, by decide +kernel⟩) (FunD.bindsN D__law_all_lodgings (fun _ _ _ _ _ _ us hl => match us, hl with | [_], _ => rfl)) (fun W => b__law_all_lodgings Fc W) (fun ds q e h => by first | (obtain ⟨rfl, _⟩ := h; rfl) | (obtain ⟨_, rfl, _⟩ := h; rfl) | (obtain ⟨_, _, rfl, _⟩ := h; rfl) | (obtain ⟨_, _, _, rfl, _⟩ := h; rfl) | (obtain ⟨_, _, _, _, rfl, _⟩ := h; rfl) | (obtain ⟨_, _, _, _, _, rfl, _⟩ := h; rfl) | (obtain ⟨_, _, _, _, _, _, rfl, _⟩ := h; rfl) | (obtain ⟨_, _, _, _, _, _, _, rfl, _⟩ := h; rfl)) sp__law_all_lodgings
  have h__law_are_numbers_right : Has P w K mg base (mkC K nm fl) 29 "_law_are_numbers_right" (["hand"] : List Str) ct__law_are_numbers_right := has_def g__law_are_numbers_right D__law_are_numbers_right (show FnScope (["hand", "known", "turn", "beds", "fits", "house", "some", "most", "persons", "other", "due", "x", "less", "full", "one", "y"] : List Str) (["hand"] : List Str) (defScope (top 46)) from ⟨rfl, rfl, rfl, by decide +kernel, rfl, by decide +kernel, by decide +kernel⟩) (FunD.bindsN D__law_are_numbers_right (fun _ _ _ _ _ _ us hl => match us, hl with | [_], _ => rfl)) (fun W => b__law_are_numbers_right Fc h__law_draw h_most_lodged h__law_same h_House h__law_most h__law_any h__law_row h__law_house h__law_all_lodgings W) (fun ds q e h => by first | (obtain ⟨rfl, _⟩ := h; rfl) | (obtain ⟨_, rfl, _⟩ := h; rfl) | (obtain ⟨_, _, rfl, _⟩ := h; rfl) | (obtain ⟨_, _, _, rfl, _⟩ := h; rfl) | (obtain ⟨_, _, _, _, rfl, _⟩ := h; rfl) | (obtain ⟨_, _, _, _, _, rfl, _⟩ := h; rfl) | (obtain ⟨_, _, _, _, _, _, rfl, _⟩ := h; rfl) | (obtain ⟨_, _, _, _, _, _, _, rfl, _⟩ := h; rfl)) sp__law_are_numbers_right
  have G_hand := fn_hand (P := P) (w := w) (base := base) Fc D__law_hand (show FnScope (["script", "cells", "cell"] : List Str) (["script"] : List Str) (defScope (top 33)) from ⟨rfl, rfl, rfl, by decide +kernel, rfl, by decide +kernel, by decide +kernel⟩)
  exact fn_law (N := (["script", "hand"] : List Str)) (by decide) rfl rfl D_law (show FnScope (["script", "hand"] : List Str) (["script"] : List Str) (defScope (top 50)) from ⟨rfl, rfl, rfl, by decide +kernel, rfl, by decide +kernel, by decide +kernel⟩) g__law_hand D__law_hand.kp (FunD.bindsN D__law_hand (fun _ _ _ _ _ _ us hl => match us, hl with | [_], _ => rfl)) G_hand (k := 30) (by decide) (fun W => b_law Fc h__law_are_lodgings_right h__law_are_numbers_right W) law_all
end
end K24
open PySem PySem.W PySem.Calls PyProof.Rows
set_option maxRecDepth 100000 in
set_option maxHeartbeats 8000000 in
theorem PySem.Challenge.cw_lodgeall_k24_whole_most_lodged_and_lodge_holds : PySem.Challenge.rw_lodgeall_k24_whole_most_lodged_and_lodge.Holds := by
  w_on; o_law
  refine HandSHeadRun.head_any (r := OpenLaw.row PySem.Challenge.rw_lodgeall_k24_whole_most_lodged_and_lodge) (q := view (OpenLaw.row PySem.Challenge.rw_lodgeall_k24_whole_most_lodged_and_lodge).prog [50]) (H := K24.hk) (ob := K24.ob) (M := 4000) (loose := K24.loose) (d := HandSHeadRun.topDef (OpenLaw.row PySem.Challenge.rw_lodgeall_k24_whole_most_lodged_and_lodge).prog 50) (kwd := []) K24.ob_eq
    (by kernel_rfl) (fun s => by kernel_rfl) K24.run (by kernel_rfl) (by kernel_rfl) (by kernel_rfl) (by rfl) (by first | assumption | decide +kernel) (by decide +kernel) ⟨rfl, rfl, rfl, rfl, rfl, by decide +kernel⟩ ?hw ?hc
  case hw => w_witness2
  case hc =>
    refine LW.walk_law (l := PySem.Challenge.rw_lodgeall_k24_whole_most_lodged_and_lodge) (n := 63) (k := 31) (x := "script") (CXw := fun w => L2.CX (PySem.Challenge.rw_lodgeall_k24_whole_most_lodged_and_lodge).prog w) rfl (by decide) (by kernel_rfl) ⟨rfl, by decide, by decide⟩ ?F (fun w H s e s' z => ?_)
    · intro w mg fa h Y G hmg0
      obtain ⟨K, KX, c⟩ := Y
      have hmg : mg ("law" : PySem.Str) = some (.ref fa) := by
        have e : (HandSHeadRun.topDef (OpenLaw.row PySem.Challenge.rw_lodgeall_k24_whole_most_lodged_and_lodge).prog 50).name = ("law" : PySem.Str) := by kernel_rfl
        rw [← e]
        exact hmg0
      obtain ⟨fd, hb, hF⟩ := K24.facts (P := (PySem.Challenge.rw_lodgeall_k24_whole_most_lodged_and_lodge).prog) (w := w) KX G c hmg
      exact ⟨K, fd, K24.spLaw K, KX, hb, fun H a ns hl _ hS => ⟨a, ns, rfl, hS, hl, fun _ => rfl⟩, fun base _ _ => hF base⟩
    · obtain ⟨_, _, _, _, _, z⟩ := z
      exact z.2.2.2.2.2.2.2
end K24h_
