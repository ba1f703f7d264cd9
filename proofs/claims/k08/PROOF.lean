import PyProof.Rows.All
import Wide.All
import OpenK.AllK
import Wide.FinOn
import HandS.ForMost
import HandS.TupAny
import HandS.TupLe
import HandS.TupMul
import PyProof.Rows.ReprR
import HandS.Star
import HandS.Style
import HandS.TupLen
import KE.KDictPairs
import PyProof.ReprLen
import KE.GoesMore
import KE.GoesEnum
import KE.GoesZip
import KE.GoesEnumKw
import HandS.IsInst
import HandS.Conv
import HandS.Deep
import HandS.More
import PySem.Challenge.RW_deeplots_k08_whole_roots_of_several
set_option Elab.async false
set_option linter.all false
set_option maxRecDepth 100000
set_option maxHeartbeats 4000000
namespace DL
open PySem

/-- a computation: it ends with a value, it is none of ours, or it draws a number from 0 to n - 1 -/
inductive M (α : Type) where
  | ret (a : α)
  | bad
  | pick (n : Int) (k : Int → M α)

def M.bind {α β : Type} : M α → (α → M β) → M β
  | .ret a, f => f a
  | .bad, _ => .bad
  | .pick n k, f => .pick n fun i => M.bind (k i) f

/-- on each way it ends with a value of which Q holds -/
def M.wp {α : Type} : M α → (α → Prop) → Prop
  | .ret a, Q => Q a
  | .bad, _ => False
  | .pick n k, Q => ∀ i : Int, 0 ≤ i → i < max 1 n → M.wp (k i) Q

theorem M.wp_mono {α : Type} {Q R : α → Prop} (h : ∀ a, Q a → R a) : ∀ {m : M α}, m.wp Q → m.wp R
  | .ret _, q => h _ q
  | .bad, q => q
  | .pick _ _, q => fun i h0 h1 => M.wp_mono h (q i h0 h1)
theorem M.wp_bind {α β : Type} {f : α → M β} {Q : β → Prop} : ∀ {m : M α}, (m.bind f).wp Q ↔ m.wp fun a => (f a).wp Q
  | .ret _ => Iff.rfl
  | .bad => Iff.rfl
  | .pick _ k => ⟨fun h i h0 h1 => (M.wp_bind (m := k i)).mp (h i h0 h1), fun h i h0 h1 => (M.wp_bind (m := k i)).mpr (h i h0 h1)⟩
theorem M.bind_ret {α : Type} : ∀ m : M α, m.bind .ret = m
  | .ret _ => rfl
  | .bad => rfl
  | .pick n k => by
    show M.pick n (fun i => (k i).bind .ret) = M.pick n k
    congr 1; funext i; exact M.bind_ret (k i)
theorem M.bind_assoc {α β γ : Type} {f : α → M β} {g : β → M γ} : ∀ m : M α, (m.bind f).bind g = m.bind fun a => (f a).bind g
  | .ret _ => rfl
  | .bad => rfl
  | .pick n k => by
    show M.pick n (fun i => ((k i).bind f).bind g) = M.pick n (fun i => (k i).bind fun a => (f a).bind g)
    congr 1; funext i; exact M.bind_assoc (k i)
@[simp] theorem M.ret_bind {α β : Type} (a : α) (f : α → M β) : (M.ret a).bind f = f a := rfl
@[simp] theorem M.bad_bind {α β : Type} (f : α → M β) : (M.bad : M α).bind f = M.bad := rfl
@[simp] theorem M.pick_bind {α β : Type} (n : Int) (k : Int → M α) (f : α → M β) : (M.pick n k).bind f = M.pick n fun i => (k i).bind f := rfl
@[simp] theorem M.wp_ret {α : Type} {a : α} {Q : α → Prop} : (M.ret a).wp Q ↔ Q a := Iff.rfl

/-- what a name of a frame holds: unknown, a value that stands still, a list or dict of the frame's own, the law's source -/
inductive Sl where
  | no
  | val (d : PyData)
  | own (ds : List PyData)
  | ownD (kvs : List (PyData × PyData))
  | src
abbrev En := List Sl
inductive Fl where
  | nx | bk | ct
  | rt (d : PyData)
abbrev CE := En → M PyData
abbrev CT := En → M Bool
abbrev CL := En → M (List PyData)
abbrev CG := En → PyData → M En
abbrev CS := En → M (Fl × En)
abbrev FD := List PyData → M PyData

/-! ### expressions -/
def cVar (i : Nat) : CE := fun e => match e[i]? with
  | some (.val d) => .ret d
  | _ => .bad
def cPeek (i : Nat) : CE := fun e => match e[i]? with
  | some (.val d) => .ret d
  | some (.own ds) => .ret (.list ds)
  | some (.ownD kvs) => .ret (.dict kvs)
  | _ => .bad
def cC (d : PyData) : CE := fun _ => .ret d
def cOp2 (m : PyData → PyData → M PyData) (a b : CE) : CE := fun e => (a e).bind fun x => (b e).bind fun y => m x y
def cOp1 (m : PyData → M PyData) (a : CE) : CE := fun e => (a e).bind m
def cIf (t : CT) (a b : CE) : CE := fun e => (t e).bind fun k => if k = true then a e else b e
def asB : PyData → M Bool
  | .bool b => .ret b
  | _ => .bad
def ctV (c : CE) : CT := fun e => (c e).bind asB
def ctNot (t : CT) : CT := fun e => (t e).bind fun k => .ret (!k)
def ctAnd (a b : CT) : CT := fun e => (a e).bind fun k => if k = true then b e else .ret false
def ctOr (a b : CT) : CT := fun e => (a e).bind fun k => if k = true then .ret true else b e
def ctYes : CT := fun _ => .ret true
def cNot (c : CE) : CE := fun e => (c e).bind fun x => (asB x).bind fun k => .ret (.bool (!k))
def cAnd (a b : CE) : CE := fun e => (a e).bind fun x => (asB x).bind fun k => if k = true then b e else .ret (.bool false)
def cOr (a b : CE) : CE := fun e => (a e).bind fun x => (asB x).bind fun k => if k = true then .ret (.bool true) else b e
def caNil : CL := fun _ => .ret []
def caCons (a : CE) (r : CL) : CL := fun e => (a e).bind fun x => (r e).bind fun xs => .ret (x :: xs)
def fits (ds : List PyData) : Bool := decide (ds.length ≤ sizeLine)
def cTup (a : CL) : CE := fun e => (a e).bind fun xs => if fits xs = true then .ret (.tuple xs) else .bad
/-- a new list by what stands in it -/
def clDisp (a : CL) : CL := fun e => (a e).bind fun xs => if fits xs = true then .ret xs else .bad
def cFz (c : CL) : CE := fun e => (c e).bind fun xs => .ret (.list xs)
def cCall (f : FD) (a : CL) : CE := fun e => (a e).bind f
def cCallS (i : Nat) (f : FD) (a : CL) : CE := fun e => match e[i]? with
  | some .src => (a e).bind f
  | _ => .bad

/-! ### what is walked -/
def itemsOf : PyData → M (List PyData)
  | .list xs => .ret xs
  | .tuple xs => .ret xs
  | _ => .bad
def ciSeq (c : CE) : CL := fun e => (c e).bind itemsOf
def intsFrom (lo : Int) (n : Nat) : List PyData := (List.range n).map fun (i : Nat) => PyData.int (lo + (i : Int))
def asI : PyData → M Int
  | .int i => .ret i
  | _ => .bad
def inB (i : Int) : Bool := decide (i.natAbs.log2 < 62)
theorem lt_log2 {n k : Nat} (h : n.log2 < k) : n < 2 ^ k := by
  by_cases h0 : n = 0
  · subst h0; exact Nat.two_pow_pos k
  · exact (Nat.log2_lt h0).mp h
theorem inB_iff {i : Int} (h : inB i = true) : -(2 ^ 62) ≤ i ∧ i < 2 ^ 62 := by
  have := lt_log2 (of_decide_eq_true h)
  omega
def ciRange1 (a : CE) : CL := fun e => (a e).bind fun x => (asI x).bind fun n => if inB n = true then .ret (intsFrom 0 n.toNat) else .bad
def ciRange2 (a b : CE) : CL := fun e => (a e).bind fun x => (b e).bind fun y => (asI x).bind fun l => (asI y).bind fun n => if (inB l && inB n) = true then .ret (intsFrom l (n - l).toNat) else .bad

/-! ### targets -/
def gSet (i : Nat) : CG := fun e d => .ret (e.set i (.val d))
def gGo : List CG → En → List PyData → M En
  | [], e, [] => .ret e
  | g :: gs, e, d :: ds => (g e d).bind fun e' => gGo gs e' ds
  | _, _, _ => .bad
def gTup (gs : List CG) : CG := fun e d => match d with
  | .tuple ds => gGo gs e ds
  | _ => .bad

/-! ### comprehensions -/
def wipeE (e : En) : List Nat → En
  | [] => e
  | v :: vs => (wipeE e vs).set v .no
def compGo (g : CG) (t : CT) (c : CE) (e : En) : List PyData → M (List PyData)
  | [] => .ret []
  | d :: ds => (g e d).bind fun e1 => (t e1).bind fun k => if k = true then (c e1).bind fun y => (compGo g t c e ds).bind fun ys => .ret (y :: ys) else compGo g t c e ds
def clComp (vs : List Nat) (ci : CL) (g : CG) (t : CT) (c : CE) : CL := fun e => (ci e).bind fun ds => if fits ds = true then compGo g t c (wipeE e vs) ds else .bad

/-! ### statements -/
def sNil : CS := fun e => .ret (.nx, e)
def sSeq (a b : CS) : CS := fun e => (a e).bind fun r => match r with
  | (.nx, e1) => b e1
  | r => .ret r
def sSet (i : Nat) (c : CE) : CS := fun e => (c e).bind fun d => .ret (.nx, e.set i (.val d))
def sOwn (i : Nat) (c : CL) : CS := fun e => (c e).bind fun ds => .ret (.nx, e.set i (.own ds))
def sRet (c : CE) : CS := fun e => (c e).bind fun d => .ret (.rt d, e)
def sDrop (c : CE) : CS := fun e => (c e).bind fun _ => .ret (.nx, e)
def sIf (t : CT) (a b : CS) : CS := fun e => (t e).bind fun k => if k = true then a e else b e
def sCont : CS := fun e => .ret (.ct, e)
def sBrk : CS := fun e => .ret (.bk, e)
/-- a list or dict of the frame's own stands still from here on -/
def sFrz (i : Nat) (r : CS) : CS := fun e => match e[i]? with
  | some (.own ds) => r (e.set i (.val (.list ds)))
  | some (.ownD kvs) => r (e.set i (.val (.dict kvs)))
  | _ => .bad
/-- as sFrz, but a value that stands still already goes on, too -/
def sFrzT (i : Nat) (r : CS) : CS := fun e => match e[i]? with
  | some (.own ds) => r (e.set i (.val (.list ds)))
  | some (.ownD kvs) => r (e.set i (.val (.dict kvs)))
  | some (.val _) => r e
  | _ => .bad
def sAsg (g : CG) (c : CE) : CS := fun e => (c e).bind fun d => (g e d).bind fun e' => .ret (.nx, e')
def sAug (i : Nat) (m : PyData → PyData → M PyData) (c : CE) : CS := fun e => (cVar i e).bind fun x => (c e).bind fun y => (m x y).bind fun d => .ret (.nx, e.set i (.val d))
def sAppend (i : Nat) (c : CE) : CS := fun e => match e[i]? with
  | some (.own _) => (c e).bind fun d => match e[i]? with
    | some (.own ds) => if ds.length < sizeLine then .ret (.nx, e.set i (.own (ds ++ [d]))) else .bad
    | _ => .bad
  | _ => .bad
def sExtend (i : Nat) (c : CE) : CS := fun e => match e[i]? with
  | some (.own ds) => (c e).bind fun d => (itemsOf d).bind fun xs => if ds.length + xs.length ≤ sizeLine then .ret (.nx, e.set i (.own (ds ++ xs))) else .bad
  | _ => .bad
def sExtendO (i j : Nat) : CS := fun e => match e[i]?, e[j]? with
  | some (.own ds), some (.own xs) => if ds.length + xs.length ≤ sizeLine then .ret (.nx, e.set i (.own (ds ++ xs))) else .bad
  | _, _ => .bad
/-- the last item goes -/
def sPop (i : Nat) : CS := fun e => match e[i]? with
  | some (.own (d :: ds)) => .ret (.nx, e.set i (.own (d :: ds).dropLast))
  | _ => .bad
def forGo (g : CG) (b : CS) : List PyData → En → M (Fl × En)
  | [], e => .ret (.nx, e)
  | d :: ds, e => (g e d).bind fun e1 => (b e1).bind fun r => match r with
    | (.nx, e2) => forGo g b ds e2
    | (.ct, e2) => forGo g b ds e2
    | (.bk, e2) => .ret (.nx, e2)
    | (.rt d, e2) => .ret (.rt d, e2)
def sFor (ci : CL) (g : CG) (b : CS) : CS := fun e => (ci e).bind fun ds => forGo g b ds e
def whileGo (t : CT) (b : CS) : Nat → En → M (Fl × En)
  | 0, _ => .bad
  | n + 1, e => (t e).bind fun k => if k = true then (b e).bind fun r => (match r with
    | (.nx, e2) => whileGo t b n e2
    | (.ct, e2) => whileGo t b n e2
    | (.bk, e2) => .ret (.nx, e2)
    | (.rt d, e2) => .ret (.rt d, e2)) else .ret (.nx, e)
def sWhile (n : Nat) (t : CT) (b : CS) : CS := whileGo t b n

/-! ### defs -/
def endOf : Fl × En → M PyData
  | (.rt d, _) => .ret d
  | (.nx, _) => .ret .none
  | _ => .bad
/-- a def of ps parameters, n names in all -/
def fnD (ps n : Nat) (b : CS) : FD := fun ds => if ds.length = ps then (b (ds.map .val ++ List.replicate (n - ps) .no)).bind endOf else .bad
/-- a def whose first parameter is the source -/
def fnS (ps n : Nat) (b : CS) : FD := fun ds => if ds.length + 1 = ps then (b (.src :: (ds.map .val ++ List.replicate (n - ps) .no))).bind endOf else .bad

/-! ### operations on data -/
def smallI (i : Int) : Bool := decide (i.natAbs.log2 < 1000000)
def mAdd : PyData → PyData → M PyData
  | .int i, .int j => .ret (.int (i + j))
  | .str a, .str b => if a.length + b.length ≤ sizeLine then .ret (.str (a ++ b)) else .bad
  | .list a, .list b => if a.length + b.length ≤ sizeLine then .ret (.list (a ++ b)) else .bad
  | .tuple a, .tuple b => if a.length + b.length ≤ sizeLine then .ret (.tuple (a ++ b)) else .bad
  | _, _ => .bad
def mSub : PyData → PyData → M PyData
  | .int i, .int j => .ret (.int (i - j))
  | _, _ => .bad
def mulOk (i j : Int) : Bool := decide (i.natAbs.log2 < 64) || decide (j.natAbs.log2 < 64) || (smallI i && smallI j)
def mMul : PyData → PyData → M PyData
  | .int i, .int j => if mulOk i j = true then .ret (.int (i * j)) else .bad
  | .list a, .int k => if inB k = true && decide (a.length * k.toNat ≤ sizeLine) then .ret (.list (List.replicate k.toNat a).flatten) else .bad
  | _, _ => .bad
def mFdiv : PyData → PyData → M PyData
  | .int i, .int j => if decide (j ≠ 0) && decide (j.natAbs.log2 < 9000) then .ret (.int (i.fdiv j)) else .bad
  | _, _ => .bad
def mMod : PyData → PyData → M PyData
  | .int i, .int j => if j ≠ 0 then .ret (.int (i.fmod j)) else .bad
  | _, _ => .bad
def mPow : PyData → PyData → M PyData
  | .int i, .int j => if decide (0 ≤ j) && decide (j.toNat ≤ 1000000) && decide (i.natAbs < 2 ^ 64) then .ret (.int (i ^ j.toNat)) else .bad
  | _, _ => .bad
def mAddI : PyData → PyData → M PyData
  | .int i, .int j => .ret (.int (i + j))
  | .str a, .str b => if a.length + b.length ≤ sizeLine then .ret (.str (a ++ b)) else .bad
  | _, _ => .bad
def mFdivI : PyData → PyData → M PyData
  | .int i, .int j => if decide (0 < j) && decide (j < 1073741824) then .ret (.int (i / j)) else .bad
  | _, _ => .bad
def mMulI : PyData → PyData → M PyData
  | .int i, .int j => if mulOk i j = true then .ret (.int (i * j)) else .bad
  | _, _ => .bad
def mNeg : PyData → M PyData
  | .int i => .ret (.int (-i))
  | _ => .bad
def mCmpI (p : Int → Int → Bool) : PyData → PyData → M PyData
  | .int i, .int j => .ret (.bool (p i j))
  | _, _ => .bad
def mEq (a b : PyData) : M PyData := if (SeqAt.shaped a && SeqAt.shaped b) = true then .ret (.bool (PyData.eqv a b)) else .bad
def mNe (a b : PyData) : M PyData := if (SeqAt.shaped a && SeqAt.shaped b) = true then .ret (.bool (!PyData.eqv a b)) else .bad
def isNoneD : PyData → Bool
  | .none => true
  | _ => false
def mIsN (a b : PyData) : M PyData := if isNoneD b = true then .ret (.bool (isNoneD a)) else .bad
def mNotN (a b : PyData) : M PyData := if isNoneD b = true then .ret (.bool (!isNoneD a)) else .bad
def asInts : List PyData → M (List Int)
  | [] => .ret []
  | .int i :: r => (asInts r).bind fun is => .ret (i :: is)
  | _ :: _ => .bad
def asIntsO : List PyData → Option (List Int)
  | [] => some []
  | .int i :: r => match asIntsO r with
    | some is => some (i :: is)
    | none => none
  | _ :: _ => none
/-- two tuples of whole numbers by p -/
def mTI (p : List Int → List Int → Bool) (a b : List PyData) : M PyData := match asIntsO a, asIntsO b with
  | some ns, some ms => .ret (.bool (p ns ms))
  | _, _ => .bad
def mLt : PyData → PyData → M PyData
  | .int i, .int j => .ret (.bool (decide (i < j)))
  | .tuple a, .tuple b => mTI HT.lexLt a b
  | _, _ => .bad
def leAt (ns ms : List Int) : Bool := Ob.lexAt (fun j => decide (ns.getD j 0 = ms.getD j 0)) (fun j => decide (ns.getD j 0 ≤ ms.getD j 0)) (decide (ns.length ≤ ms.length)) 0 (min ns.length ms.length)
def mLe : PyData → PyData → M PyData
  | .int i, .int j => .ret (.bool (decide (i ≤ j)))
  | .tuple a, .tuple b => mTI leAt a b
  | _, _ => .bad
def ofO : Option PyData → M PyData
  | some d => .ret d
  | none => .bad
/-! ### dicts -/
open L2 (Key)
def keyD : Key → PyData
  | .inl i => .int i
  | .inr x => .str x
def putI (xs : List (List Int × PyData)) (k : List Int) (v : PyData) : List (List Int × PyData) :=
  if (xs.any fun p => decide (p.1 = k)) = true then xs.map (fun p => if p.1 = k then (p.1, v) else p) else xs ++ [(k, v)]
def dictI (xs : List (List Int × PyData)) : List (PyData × PyData) := xs.map fun p => (.tuple (p.1.map PyData.int), p.2)
/-- the data of a dict with such keys -/
def ofDictI : List (PyData × PyData) → Option (List (List Int × PyData))
  | [] => some []
  | (.tuple ks, v) :: r => match asIntsO ks, ofDictI r with
    | some k, some t => some ((k, v) :: t)
    | _, _ => none
  | _ :: _ => none
def atT (xs : List (List Int × PyData)) (k : List Int) : Option PyData := (xs.find? fun p => decide (p.1 = k)).map (·.2)
abbrev KD := List (Key × PyData)
def keyOf : PyData → Option Key
  | .int i => some (.inl i)
  | .str x => some (.inr x)
  | _ => none
def ofDictK : List (PyData × PyData) → Option KD
  | [] => some []
  | (k, v) :: r => match keyOf k, ofDictK r with
    | some k, some t => some ((k, v) :: t)
    | _, _ => none
def dictK (xs : KD) : List (PyData × PyData) := xs.map fun p => (keyD p.1, p.2)
def atK (xs : KD) (k : Key) : Option PyData := (xs.find? fun p => decide (p.1 = k)).map (·.2)
def putKD (xs : KD) (k : Key) (v : PyData) : KD :=
  if (xs.any fun p => decide (p.1 = k)) = true then xs.map (fun p => if p.1 = k then (p.1, v) else p) else xs ++ [(k, v)]
/-- the key of a lookup: an int or a text; a tuple of ints -/
inductive LK where
  | k (k : Key)
  | t (k : List Int)
def lkOf : PyData → Option LK
  | .int i => some (.k (.inl i))
  | .str x => some (.k (.inr x))
  | .tuple ks => (asIntsO ks).map LK.t
  | _ => none
def getLK (ds : List (PyData × PyData)) : LK → Option (Option PyData)
  | .k k => (ofDictK ds).map fun xs => atK xs k
  | .t k => (ofDictI ds).map fun xs => atT xs k
def putLK (ds : List (PyData × PyData)) (v : PyData) : LK → Option (List (PyData × PyData))
  | .k k => (ofDictK ds).map fun xs => dictK (putKD xs k v)
  | .t k => (ofDictI ds).map fun xs => dictI (putI xs k v)
def getDD (ds : List (PyData × PyData)) (k : PyData) : M (Option PyData) := match lkOf k with
  | some l => (match getLK ds l with
    | some o => .ret o
    | none => .bad)
  | none => .bad
def mIx (a b : PyData) : M PyData := match a with
  | .list xs => (match b with
    | .int i => ofO (L2.atI xs i)
    | _ => .bad)
  | .tuple xs => (match b with
    | .int i => ofO (L2.atI xs i)
    | _ => .bad)
  | .dict ds => (getDD ds b).bind ofO
  | _ => .bad
end DL
namespace DL
open PySem PySem.Spec PyProof.Rows L2

abbrev Hp0 : Hp := fun _ => none
/-- locked as u -/
def Fzn (H : Hp) (a : Addr) (u : HO) : Prop := ∃ o, H a = some (.frz o u)
/-- a list that stands still: locked -/
abbrev LsF (H : Hp) (a : Addr) (xs : List V) : Prop := Fzn H a (.lst xs)
/-- a tuple; a list that stands still -/
structure Kp (H H' : Hp) : Prop where
  tup : ∀ a xs, H a = some (.tup xs) → H' a = some (.tup xs)
  frz : ∀ a o u, H a = some (.frz o u) → H' a = some (.frz o u)
theorem Kp.refl (H : Hp) : Kp H H := ⟨fun _ _ h => h, fun _ _ _ h => h⟩
theorem Kp.trans {H H1 H2 : Hp} (a : Kp H H1) (b : Kp H1 H2) : Kp H H2 := ⟨fun c xs h => b.tup c xs (a.tup c xs h), fun c o u h => b.frz c o u (a.frz c o u h)⟩
theorem Fzn.kp {H H' : Hp} {a : Addr} {u : HO} (k : Kp H H') (h : Fzn H a u) : Fzn H' a u := let ⟨o, h⟩ := h; ⟨o, k.frz _ _ _ h⟩
theorem sqT_kp {K : PySem.W.Frag} {H H' : Hp} {a : Addr} {xs : List V} (k : Kp H H') (h : SqT K H a xs) : SqT K H' a xs := by
  rcases h with (h | ⟨o, h⟩) | h
  · exact .inl (.inl (k.tup _ _ h))
  · exact .inl (.inr ⟨o, k.frz _ _ _ h⟩)
  · exact .inr h

/-- the hash of a tuple of ints -/
def hashT (k : List Int) : Int := reduceHash (Builtin.Tuple.tupleHashOf (k.map hashInt))
abbrev KT3 := List (List Int × Addr × V)
/-- the entries of a dict whose keys are tuples of ints: the key's own object is told -/
def EnT (ks : KT3) (xs : List (List Int × Addr × Value)) : Prop := Paired (fun p q => p.1 = q.1 ∧ p.2.1 = q.2.1 ∧ RelV p.2.2 q.2.2) ks xs
def dtOk (p : Addr × KT3) (h : Heap) : Prop := p.2 ≠ [] ∧ p.2.length ≤ sizeLine ∧ (p.1 == sysModules) = false ∧ ∃ xs, EnT p.2 xs ∧
  ∃ o es ep, h.get? p.1 = some o ∧ o.ExactDict ∧ o.data = .dict es ep ∧ es.toList = xs.map (fun x => (⟨hashT x.1, .ref x.2.1, x.2.2⟩ : DictEntry)) ∧ (xs.map (·.1)).Nodup
abbrev DTO (p : Addr × KT3) : HO := .ext (dtOk p)
mutual
/-- the value stands for the data, and stands still -/
inductive Rep (K : PySem.W.Frag) (H : Hp) : V → PyData → Prop
  | non : Rep K H .non .none
  | bl (b : Bool) : Rep K H (.bl b) (.bool b)
  | int (i : Int) : Rep K H (.int i) (.int i)
  | str (x : Str) : Rep K H (.str x) (.str x)
  | lst {a : Addr} {xs : List V} {ds : List PyData} : LsF H a xs → RepA K H xs ds → Rep K H (.ref a) (.list ds)
  | tup {a : Addr} {xs : List V} {ds : List PyData} : SqT K H a xs → RepA K H xs ds → Rep K H (.ref a) (.tuple ds)
  | dK {a : Addr} {ks : List (Key × V)} {ds : List (PyData × PyData)} : Fzn H a (.dK ks) → RepK K H ks ds → Rep K H (.ref a) (.dict ds)
  | dT {a : Addr} {ks : List (List Int × Addr × V)} {ds : List (PyData × PyData)} : Fzn H a (DTO (a, ks)) → RepT K H ks ds → Rep K H (.ref a) (.dict ds)
inductive RepA (K : PySem.W.Frag) (H : Hp) : List V → List PyData → Prop
  | nil : RepA K H [] []
  | cons {v : V} {vs : List V} {d : PyData} {ds : List PyData} : Rep K H v d → RepA K H vs ds → RepA K H (v :: vs) (d :: ds)
inductive RepK (K : PySem.W.Frag) (H : Hp) : List (Key × V) → List (PyData × PyData) → Prop
  | nil : RepK K H [] []
  | cons {k : Key} {v : V} {ks : List (Key × V)} {d : PyData} {ds : List (PyData × PyData)} : Rep K H v d → RepK K H ks ds → RepK K H ((k, v) :: ks) ((keyD k, d) :: ds)
inductive RepT (K : PySem.W.Frag) (H : Hp) : List (List Int × Addr × V) → List (PyData × PyData) → Prop
  | nil : RepT K H [] []
  | cons {k : List Int} {b : Addr} {v : V} {ks : List (List Int × Addr × V)} {d : PyData} {ds : List (PyData × PyData)} : SqT K H b (k.map V.int) → Rep K H v d → RepT K H ks ds → RepT K H ((k, b, v) :: ks) ((.tuple (k.map PyData.int), d) :: ds)
end
section
variable {K : PySem.W.Frag} {H H' : Hp}
mutual
theorem Rep.kp (k : Kp H H') : ∀ {d : PyData} {v : V}, Rep K H v d → Rep K H' v d
  | .none, _, h => by cases h; exact .non
  | .bool b, _, h => by cases h; exact .bl b
  | .int i, _, h => by cases h; exact .int i
  | .str x, _, h => by cases h; exact .str x
  | .list ds, _, h => by
    cases h with
    | lst h1 h2 => exact .lst (h1.kp k) (RepA.kp k h2)
  | .tuple ds, _, h => by
    cases h with
    | tup h1 h2 => exact .tup (sqT_kp k h1) (RepA.kp k h2)
  | .dict kvs, _, h => by
    cases h with
    | dK h1 h2 => exact .dK (h1.kp k) (RepK.kp k h2)
    | dT h1 h2 => exact .dT (h1.kp k) (RepT.kp k h2)
theorem RepA.kp (k : Kp H H') : ∀ {ds : List PyData} {vs : List V}, RepA K H vs ds → RepA K H' vs ds
  | [], _, h => by cases h; exact .nil
  | d :: ds, _, h => by
    cases h with
    | cons h1 h2 => exact .cons (Rep.kp k h1) (RepA.kp k h2)
theorem RepK.kp (k : Kp H H') : ∀ {ds : List (PyData × PyData)} {vs : List (Key × V)}, RepK K H vs ds → RepK K H' vs ds
  | [], _, h => by cases h; exact .nil
  | (_, d) :: ds, _, h => by
    cases h with
    | cons h1 h2 => exact .cons (Rep.kp k h1) (RepK.kp k h2)
theorem RepT.kp (k : Kp H H') : ∀ {ds : List (PyData × PyData)} {vs : List (List Int × Addr × V)}, RepT K H vs ds → RepT K H' vs ds
  | [], _, h => by cases h; exact .nil
  | (_, d) :: ds, _, h => by
    cases h with
    | cons h0 h1 h2 => exact .cons (sqT_kp k h0) (Rep.kp k h1) (RepT.kp k h2)
end
theorem RepA.length : ∀ {vs : List V} {ds : List PyData}, RepA K H vs ds → vs.length = ds.length
  | _, _, .nil => rfl
  | _, _, .cons _ t => by rw [List.length_cons, List.length_cons, t.length]
theorem RepA.append : ∀ {vs us : List V} {ds es : List PyData}, RepA K H vs ds → RepA K H us es → RepA K H (vs ++ us) (ds ++ es)
  | _, _, _, _, .nil, s => s
  | _, _, _, _, .cons r t, s => .cons r (t.append s)
theorem RepA.get : ∀ {vs : List V} {ds : List PyData} {i : Nat}, RepA K H vs ds → ∀ {d}, ds[i]? = some d → ∃ v, vs[i]? = some v ∧ Rep K H v d
  | _, _, _, .nil, _, e => by simp at e
  | _, _, 0, .cons r _, _, e => by simp at e; subst e; exact ⟨_, rfl, r⟩
  | _, _, i + 1, .cons _ t, d, e => by
    obtain ⟨v, h1, h2⟩ := t.get (i := i) (d := d) (by simpa using e)
    exact ⟨v, by simpa using h1, h2⟩
theorem RepA.take : ∀ {vs : List V} {ds : List PyData} (n : Nat), RepA K H vs ds → RepA K H (vs.take n) (ds.take n)
  | _, _, 0, _ => .nil
  | _, _, _ + 1, .nil => .nil
  | _, _, n + 1, .cons r t => .cons r (t.take n)
theorem RepA.drop : ∀ {vs : List V} {ds : List PyData} (n : Nat), RepA K H vs ds → RepA K H (vs.drop n) (ds.drop n)
  | _, _, 0, r => r
  | _, _, _ + 1, .nil => .nil
  | _, _, n + 1, .cons _ t => t.drop n
theorem RepA.dropLast {vs : List V} {ds : List PyData} (h : RepA K H vs ds) : RepA K H vs.dropLast ds.dropLast := by
  rw [List.dropLast_eq_take, List.dropLast_eq_take, h.length]
  exact h.take _
theorem RepA.flat {vs : List V} {ds : List PyData} (h : RepA K H vs ds) : ∀ n : Nat, RepA K H (List.replicate n vs).flatten (List.replicate n ds).flatten
  | 0 => .nil
  | n + 1 => by
    rw [List.replicate_succ, List.replicate_succ, List.flatten_cons, List.flatten_cons]
    exact h.append (h.flat n)
theorem RepA.reverse : ∀ {vs : List V} {ds : List PyData}, RepA K H vs ds → RepA K H vs.reverse ds.reverse
  | _, _, .nil => .nil
  | _, _, .cons r t => by
    rw [List.reverse_cons, List.reverse_cons]
    exact t.reverse.append (.cons r .nil)
theorem RepA.bools : ∀ {vs : List V} {bs : List Bool}, RepA K H vs (bs.map PyData.bool) → vs = bs.map V.bl
  | _, [], h => by cases h; rfl
  | _, b :: bs, h => by
    rw [List.map_cons] at h
    cases h with
    | cons r t =>
      cases r
      rw [List.map_cons, RepA.bools t]
theorem RepA.ints : ∀ {vs : List V} {ns : List Int}, RepA K H vs (ns.map PyData.int) → vs = ns.map V.int
  | _, [], h => by cases h; rfl
  | _, b :: bs, h => by
    rw [List.map_cons] at h
    cases h with
    | cons r t =>
      cases r
      rw [List.map_cons, RepA.ints t]
theorem RepA.of_ints : ∀ (ns : List Int), RepA K H (ns.map V.int) (ns.map PyData.int)
  | [] => .nil
  | n :: ns => .cons (.int n) (RepA.of_ints ns)
end

/-! ### the law's source: its dict and its list of cells -/
abbrev SrcA := Option (Addr × Addr)
def inS : SrcA → Addr → Prop
  | none, _ => False
  | some (s, c), a => a = s ∨ a = c
def SrcAt (s c : Addr) (H : Hp) : Prop := s ≠ c ∧ ∃ (cells : List Int) (left mixed turn : Int), H c = some (.lst (cells.map V.int)) ∧
  H s = some (.dK [(.inr "cells", .ref c), (.inr "left", .int left), (.inr "mixed", .int mixed), (.inr "turn", .int turn)]) ∧ (∀ x ∈ cells, 0 ≤ x) ∧ 0 ≤ left ∧ 0 ≤ mixed ∧ mixed < 2147483648 ∧ 0 ≤ turn
def SrcOk : SrcA → Hp → Prop
  | none, _ => True
  | some (s, c), H => SrcAt s c H
/-- all but the source's own is as it was -/
def SameX (S : SrcA) (H H' : Hp) : Prop := ∀ a o, ¬ inS S a → H a = some o → H' a = some o
theorem SameX.refl {S : SrcA} (H : Hp) : SameX S H H := fun _ _ _ h => h
theorem SameX.trans {S : SrcA} {H H1 H2 : Hp} (a : SameX S H H1) (b : SameX S H1 H2) : SameX S H H2 := fun c o n h => b c o n (a c o n h)
theorem SameX.of {S : SrcA} {H H' : Hp} (h : Same H H') : SameX S H H' := fun a o _ e => h a o e
theorem SrcOk.same {S : SrcA} {H H' : Hp} (h : Same H H') (k : SrcOk S H) : SrcOk S H' := by
  match S, k with
  | none, _ => trivial
  | some (s, c), ⟨n, cells, l, m, t, h1, h2, r⟩ => exact ⟨n, cells, l, m, t, h _ _ h1, h _ _ h2, r⟩
theorem inS.lst {S : SrcA} {H : Hp} (k : SrcOk S H) {a : Addr} (h : inS S a) : (∃ xs, H a = some (.lst xs)) ∨ ∃ ks, H a = some (.dK ks) := by
  match S, k, h with
  | some (s, c), ⟨n, cells, l, m, t, h1, h2, r⟩, .inl e => exact .inr ⟨_, e ▸ h2⟩
  | some (s, c), ⟨n, cells, l, m, t, h1, h2, r⟩, .inr e => exact .inl ⟨_, e ▸ h1⟩
theorem SameX.kp {S : SrcA} {H H' : Hp} (k : SrcOk S H) (h : SameX S H H') : Kp H H' := by
  refine ⟨fun a xs e => h a _ (fun z => ?_) e, fun a o u e => h a _ (fun z => ?_) e⟩ <;>
    (rcases inS.lst k z with ⟨_, q⟩ | ⟨_, q⟩ <;> (rw [e] at q; cases q))

/-- as Rep, but the thing itself may be a list or dict of the frame's own -/
inductive RepP (K : PySem.W.Frag) (S : SrcA) (H : Hp) : V → PyData → Prop
  | rep {v : V} {d : PyData} : Rep K H v d → RepP K S H v d
  | own {a : Addr} {xs : List V} {ds : List PyData} : ¬ inS S a → H a = some (.lst xs) → RepA K H xs ds → RepP K S H (.ref a) (.list ds)
  | ownK {a : Addr} {ks : List (Key × V)} {ds : List (PyData × PyData)} : ¬ inS S a → H a = some (.dK ks) → RepK K H ks ds → RepP K S H (.ref a) (.dict ds)
  | ownT {a : Addr} {ks : List (List Int × Addr × V)} {ds : List (PyData × PyData)} : ¬ inS S a → H a = some (DTO (a, ks)) → RepT K H ks ds → RepP K S H (.ref a) (.dict ds)
theorem RepP.same {K : PySem.W.Frag} {S : SrcA} {H H' : Hp} (k : SrcOk S H) (h : SameX S H H') {v : V} {d : PyData} (r : RepP K S H v d) : RepP K S H' v d := by
  cases r with
  | rep r => exact .rep (r.kp (h.kp k))
  | own n e r => exact .own n (h _ _ n e) (r.kp (h.kp k))
  | ownK n e r => exact .ownK n (h _ _ n e) (r.kp (h.kp k))
  | ownT n e r => exact .ownT n (h _ _ n e) (r.kp (h.kp k))
/-- a list, as it is read -/
theorem RepP.listR {K : PySem.W.Frag} {S : SrcA} {H : Hp} {v : V} {ds : List PyData} (r : RepP K S H v (.list ds)) : ∃ a xs, v = .ref a ∧ Rd H a (.lst xs) ∧ RepA K H xs ds := by
  cases r with
  | rep r =>
    cases r with
    | lst h1 h2 => exact ⟨_, _, rfl, .inr h1, h2⟩
  | own n e r => exact ⟨_, _, rfl, .inl e, r⟩
theorem RepP.list {K : PySem.W.Frag} {S : SrcA} {H : Hp} {v : V} {ds : List PyData} (r : RepP K S H v (.list ds)) : ∃ a xs, v = .ref a ∧ SqL K H a xs ∧ RepA K H xs ds :=
  let ⟨a, xs, e, h, q⟩ := r.listR; ⟨a, xs, e, .inl h, q⟩
theorem RepP.tuple {K : PySem.W.Frag} {S : SrcA} {H : Hp} {v : V} {ds : List PyData} (r : RepP K S H v (.tuple ds)) : ∃ a xs, v = .ref a ∧ SqT K H a xs ∧ RepA K H xs ds := by
  cases r with
  | rep r =>
    cases r with
    | tup h1 h2 => exact ⟨_, _, rfl, h1, h2⟩
theorem RepP.int {K : PySem.W.Frag} {S : SrcA} {H : Hp} {v : V} {i : Int} (r : RepP K S H v (.int i)) : v = .int i := by
  cases r with
  | rep r => cases r; rfl
theorem RepP.bool {K : PySem.W.Frag} {S : SrcA} {H : Hp} {v : V} {i : Bool} (r : RepP K S H v (.bool i)) : v = .bl i := by
  cases r with
  | rep r => cases r; rfl
theorem RepP.str {K : PySem.W.Frag} {S : SrcA} {H : Hp} {v : V} {i : Str} (r : RepP K S H v (.str i)) : v = .str i := by
  cases r with
  | rep r => cases r; rfl
theorem RepP.none {K : PySem.W.Frag} {S : SrcA} {H : Hp} {v : V} (r : RepP K S H v .none) : v = .non := by
  cases r with
  | rep r => cases r; rfl

/-! ### slots -/
inductive RelSl (K : PySem.W.Frag) (S : SrcA) (Z : Addr → Prop) (H : Hp) : Option V → Sl → Prop
  | no {o : Option V} : RelSl K S Z H o .no
  | val {v : V} {d : PyData} : Rep K H v d → RelSl K S Z H (some v) (.val d)
  | own {a : Addr} {xs : List V} {ds : List PyData} : ¬ inS S a → ¬ Z a → H a = some (.lst xs) → RepA K H xs ds → RelSl K S Z H (some (.ref a)) (.own ds)
  | ownK {a : Addr} {ks : List (Key × V)} {ds : List (PyData × PyData)} : ¬ inS S a → ¬ Z a → H a = some (.dK ks) → RepK K H ks ds → RelSl K S Z H (some (.ref a)) (.ownD ds)
  | ownT {a : Addr} {ks : List (List Int × Addr × V)} {ds : List (PyData × PyData)} : ¬ inS S a → ¬ Z a → H a = some (DTO (a, ks)) → RepT K H ks ds → RelSl K S Z H (some (.ref a)) (.ownD ds)
  | src {s c : Addr} : S = some (s, c) → RelSl K S Z H (some (.ref s)) .src
def isOwn : Sl → Bool
  | .own _ => true
  | .ownD _ => true
  | _ => false
def ownE (e : En) (i : Nat) : Prop := ∃ s, e[i]? = some s ∧ isOwn s = true
structure Rel (K : PySem.W.Frag) (S : SrcA) (Z : Addr → Prop) (σ : L2.St) (H : Hp) (e : En) : Prop where
  len : σ.length = e.length
  sl : ∀ (i : Nat) (s : Sl), e[i]? = some s → RelSl K S Z H (σ[i]?.join) s
  dis : ∀ (i j : Nat) (a : Addr), i ≠ j → ownE e i → ownE e j → σ[i]? = some (some (.ref a)) → σ[j]? ≠ some (some (.ref a))
  src : SrcOk S H
  zal : ∀ a, Z a → ∃ o, H a = some o
  zs : ∀ a, inS S a → ¬ Z a
section
variable {K : PySem.W.Frag} {S : SrcA} {Z : Addr → Prop} {σ : L2.St} {H H' : Hp} {e : En}
theorem Rel.same (R : Rel K S Z σ H e) (h : SameX S H H') (k : SrcOk S H') : Rel K S Z σ H' e := by
  have kp := h.kp R.src
  refine ⟨R.len, fun i s es => ?_, R.dis, k, fun a z => ?_, R.zs⟩
  · have q := R.sl i s es
    revert q
    generalize σ[i]?.join = o
    intro q
    cases q with
    | no => exact .no
    | val r => exact .val (r.kp kp)
    | own n z e r => exact .own n z (h _ _ n e) (r.kp kp)
    | ownK n z e r => exact .ownK n z (h _ _ n e) (r.kp kp)
    | ownT n z e r => exact .ownT n z (h _ _ n e) (r.kp kp)
    | src q => exact .src q
  · obtain ⟨o, q⟩ := R.zal a z
    exact ⟨o, h a o (fun x => R.zs a x z) q⟩
theorem get_join {i : Nat} {o : Option V} (h : σ[i]? = some o) : σ[i]?.join = o := by rw [h]; rfl
theorem join_some {i : Nat} {v : V} (h : σ[i]?.join = some v) : σ[i]? = some (some v) := by
  cases q : σ[i]? with
  | none => rw [q] at h; cases h
  | some o => rw [q] at h; cases h; rfl
theorem Rel.val (R : Rel K S Z σ H e) {i : Nat} {d : PyData} (h : e[i]? = some (.val d)) : ∃ v, σ[i]? = some (some v) ∧ Rep K H v d := by
  have q := R.sl i _ h
  generalize qe : σ[i]?.join = o at q
  cases q with
  | val r => exact ⟨_, join_some qe, r⟩
theorem Rel.own (R : Rel K S Z σ H e) {i : Nat} {ds : List PyData} (h : e[i]? = some (.own ds)) : ∃ a xs, σ[i]? = some (some (.ref a)) ∧ ¬ inS S a ∧ ¬ Z a ∧ H a = some (.lst xs) ∧ RepA K H xs ds := by
  have q := R.sl i _ h
  generalize qe : σ[i]?.join = o at q
  cases q with
  | own n z e r => exact ⟨_, _, join_some qe, n, z, e, r⟩
theorem Rel.ownD (R : Rel K S Z σ H e) {i : Nat} {ds : List (PyData × PyData)} (h : e[i]? = some (.ownD ds)) : ∃ a, σ[i]? = some (some (.ref a)) ∧ ¬ inS S a ∧ ¬ Z a ∧ ((∃ ks, H a = some (.dK ks) ∧ RepK K H ks ds) ∨ ∃ ks, H a = some (DTO (a, ks)) ∧ RepT K H ks ds) := by
  have q := R.sl i _ h
  generalize qe : σ[i]?.join = o at q
  cases q with
  | ownK n z e r => exact ⟨_, join_some qe, n, z, .inl ⟨_, e, r⟩⟩
  | ownT n z e r => exact ⟨_, join_some qe, n, z, .inr ⟨_, e, r⟩⟩
theorem Rel.srcAt (R : Rel K S Z σ H e) {i : Nat} (h : e[i]? = some .src) : ∃ s c, S = some (s, c) ∧ σ[i]? = some (some (.ref s)) := by
  have q := R.sl i _ h
  generalize qe : σ[i]?.join = o at q
  cases q with
  | src q => exact ⟨_, _, q, join_some qe⟩
theorem ownE_set_val {i j : Nat} {d : PyData} (h : ownE (e.set i (.val d)) j) : ownE e j := by
  obtain ⟨s, h1, h2⟩ := h
  by_cases ij : i = j
  · subst ij
    by_cases hl : i < e.length
    · rw [List.getElem?_set_self hl] at h1; cases h1; cases h2
    · rw [List.getElem?_eq_none (by rw [List.length_set]; omega)] at h1; cases h1
  · rw [List.getElem?_set_ne ij] at h1; exact ⟨s, h1, h2⟩
theorem ownE_set_ne {i j : Nat} {s : Sl} (h : ownE (e.set i s) j) (n : j ≠ i) : ownE e j := by
  obtain ⟨s, h1, h2⟩ := h
  rw [List.getElem?_set_ne (Ne.symm n)] at h1; exact ⟨s, h1, h2⟩
/-- a slot that is not own is stored -/
theorem Rel.store (R : Rel K S Z σ H e) {i : Nat} {o : Option V} {s : Sl} (h : RelSl K S Z H o s) (hs : isOwn s = false) : Rel K S Z (σ.set i o) H (e.set i s) := by
  have own' : ∀ {j : Nat}, ownE (e.set i s) j → ownE e j ∧ i ≠ j := fun {j} q => by
    obtain ⟨s', h1, h2⟩ := q
    by_cases ij : i = j
    · subst ij
      by_cases hl : i < e.length
      · rw [List.getElem?_set_self hl] at h1; cases h1; rw [hs] at h2; cases h2
      · rw [List.getElem?_eq_none (by rw [List.length_set]; omega)] at h1; cases h1
    · rw [List.getElem?_set_ne ij] at h1; exact ⟨⟨s', h1, h2⟩, ij⟩
  refine ⟨by rw [List.length_set, List.length_set, R.len], fun j t hj => ?_, fun j k a jk hj hk h1 h2 => ?_, R.src, R.zal, R.zs⟩
  · by_cases ij : i = j
    · subst ij
      by_cases hl : i < e.length
      · rw [List.getElem?_set_self hl] at hj; cases hj
        rw [List.getElem?_set_self (by rw [R.len]; exact hl)]
        exact h
      · rw [List.getElem?_eq_none (by rw [List.length_set]; omega)] at hj; cases hj
    · rw [List.getElem?_set_ne ij] at hj ⊢
      exact R.sl j t hj
  · obtain ⟨oj, ij⟩ := own' hj
    obtain ⟨ok, ik⟩ := own' hk
    rw [List.getElem?_set_ne ij] at h1
    rw [List.getElem?_set_ne ik] at h2
    exact R.dis j k a jk oj ok h1 h2
theorem Rel.set (R : Rel K S Z σ H e) {i : Nat} {v : V} {d : PyData} (h : Rep K H v d) : Rel K S Z (σ.set i (some v)) H (e.set i (.val d)) := R.store (.val h) rfl
theorem Rel.wipe (R : Rel K S Z σ H e) : ∀ vs : List Nat, Rel K S Z (L2.wipe σ vs) H (wipeE e vs)
  | [] => R
  | v :: vs => (R.wipe vs).store .no rfl
end
end DL
namespace DL
open PySem PySem.Spec PyProof.Rows L2

/-! ### heaps -/
theorem same_new {H : Hp} {p : Addr} {u : HO} (h : H p = none) : Same H (upd H p u) := fun b o e => by
  rw [upd_ne (ne_of_none e h)]; exact e
theorem Kp.of {H H' : Hp} (h : Same H H') : Kp H H' := ⟨fun _ _ e => h _ _ e, fun _ _ _ e => h _ _ e⟩
theorem not_new {S : SrcA} {H : Hp} (k : SrcOk S H) {p : Addr} (h : H p = none) : ¬ inS S p := fun z => by
  rcases inS.lst k z with ⟨_, q⟩ | ⟨_, q⟩ <;> (rw [h] at q; cases q)

/-! ### a thing stands still from here on -/
section
variable {X : Cx} {pins : List (Addr × Obj)} {σ : L2.St} {H : Hp} {s : Shared}
theorem Inv.lock (I : Inv X pins σ H s) {a : Addr} {u : HO} (h : H a = some u) (hu : (∃ xs, u = .lst xs) ∨ (∃ ks, u = .dK ks) ∨ ∃ ks, u = DTO ks) : ∃ o, Inv X pins σ (upd H a (.frz o u)) s := by
  have ok := I.hok a u h
  obtain ⟨o, ho⟩ : ∃ o, s.heap.get? a = some o := by
    rcases hu with ⟨xs, rfl⟩ | ⟨ks, rfl⟩ | ⟨ks, rfl⟩
    · obtain ⟨_, _, _, _, e⟩ := ok; exact ⟨_, e⟩
    · obtain ⟨_, _, _, _, o, _, _, e, _⟩ := ok; exact ⟨_, e⟩
    · exact ok.2.1
  have hne : ∀ b v, H b = some v → (∀ xs, v ≠ .lst xs) → (∀ ks, v ≠ .dK ks) → (∀ ks, v ≠ DTO ks) → b ≠ a := fun b v e n1 n2 n3 z => by
    subst z; rw [h] at e; cases e
    rcases hu with ⟨xs, rfl⟩ | ⟨ks, rfl⟩ | ⟨ks, rfl⟩
    · exact n1 _ rfl
    · exact n2 _ rfl
    · exact n3 _ rfl
  have hnn : ∀ b, H b = none → b ≠ a := fun b e z => by subst z; rw [h] at e; cases e
  have un : Un X.fs [] H (upd H a (.frz o u)) s.heap s.heap := by
    refine ⟨fun b ob q _ _ _ => q, fun b ob q _ _ _ => ⟨ob.slots, q⟩, fun b ob q n _ => ?_, fun b ob q _ => ⟨ob, q⟩, fun b xs q => ?_, fun b ob xs q => ?_, fun b ps q => ⟨#[], ?_⟩⟩
    · rw [upd_ne (hnn b n)]; exact n
    · rw [upd_ne (hne b _ q (fun _ z => nomatch z) (fun _ z => nomatch z) (fun _ z => nomatch z))]; exact q
    · rw [upd_ne (hne b _ q (fun _ z => nomatch z) (fun _ z => nomatch z) (fun _ z => nomatch z))]; exact q
    · rw [upd_ne (hne b _ q (fun _ z => nomatch z) (fun _ z => nomatch z) (fun _ z => nomatch z)), q]; simp
  refine ⟨o, ?_⟩
  have I' := I.un (h' := s.heap) (t' := s.toks) (H' := upd H a (.frz o u)) (un.mono (fun _ z => z) (fun _ z => nomatch z)) (fun b v q => ?_)
  · exact I'
  · by_cases hb : b = a
    · subst hb
      rw [upd_same] at q; cases q
      refine ⟨ho, ok.stay (fun _ _ _ r => r) (fun c r => ?_) (fun c xs r => ?_)⟩
      · rw [upd_ne (hne c _ r (fun _ z => nomatch z) (fun _ z => nomatch z) (fun _ z => nomatch z))]; exact r
      · rw [upd_ne (hne c _ r (fun _ z => nomatch z) (fun _ z => nomatch z) (fun _ z => nomatch z))]; exact r
    · rw [upd_ne hb] at q
      refine (I.hok b v q).stay (fun _ _ _ r => r) (fun c r => ?_) (fun c xs r => ?_)
      · rw [upd_ne (hne c _ r (fun _ z => nomatch z) (fun _ z => nomatch z) (fun _ z => nomatch z))]; exact r
      · rw [upd_ne (hne c _ r (fun _ z => nomatch z) (fun _ z => nomatch z) (fun _ z => nomatch z))]; exact r
/-- a new list, locked at once -/
def Lk (Q : VK) : VK := fun v H' => ∃ a u, v = .ref a ∧ H' a = some u ∧ ((∃ xs, u = .lst xs) ∨ (∃ ks, u = .dK ks) ∨ ∃ ks, u = DTO ks) ∧ ∀ o, Q v (upd H' a (.frz o u))
theorem EP.lock {Q : VK} {u : Value} (h : EP X pins σ (Lk Q) u s) : EP X pins σ Q u s := by
  obtain ⟨v, H', I, r, a, w, e, h1, h2, q⟩ := h
  obtain ⟨o, I'⟩ := Inv.lock I h1 h2
  exact ⟨v, _, I', r, q o⟩
theorem PE.imp {e : Expr} {t t' : TE} (h : PE X e t) (i : ∀ σ H Q, t' σ H Q → t σ H Q) : PE X e t' := ⟨fun pins s σ H Q I q => h.run pins s σ H Q I (i σ H Q q)⟩
theorem PT.imp {e : Expr} {t t' : TT} (h : PT X e t) (i : ∀ σ H Q, t' σ H Q → t σ H Q) : PT X e t' := ⟨fun pins s σ H Q I q => h.run pins s σ H Q I (i σ H Q q)⟩
theorem PW.imp {e : Expr} {t t' : TT} (h : PW X e t) (i : ∀ σ H Q, t' σ H Q → t σ H Q) : PW X e t' := ⟨fun wh pins s σ H Q I q => h.run wh pins s σ H Q I (i σ H Q q)⟩
theorem PA.imp {e : List Expr} {t t' : TA} (h : PA X e t) (i : ∀ σ H Q, t' σ H Q → t σ H Q) : PA X e t' := ⟨fun pos pins s σ H Q I q => h.run pos pins s σ H Q I (i σ H Q q)⟩
theorem PE.lock {e : Expr} {t : TE} (h : PE X e t) : PE X e (fun σ H Q => t σ H (Lk Q)) := ⟨fun pins s σ H Q I q => thn (h.run pins s σ H _ I q) fun u s1 h1 => EP.lock h1⟩
end

/-! ### the judgements -/
/-- behind an expression: the value stands as R tells for the data -/
def Aft (S : SrcA) (H : Hp) (R : Hp → V → PyData → Prop) (Q : VK) : PyData → Prop := fun d => ∀ v H', SameX S H H' → SrcOk S H' → R H' v d → Q v H'
def tD (S : SrcA) (Z : Addr → Prop) (K : PySem.W.Frag) (R : Hp → V → PyData → Prop) (c : CE) : TE := fun σ H Q => ∃ e, Rel K S Z σ H e ∧ (c e).wp (Aft S H R Q)
abbrev RV (K : PySem.W.Frag) : Hp → V → PyData → Prop := fun H v d => Rep K H v d
abbrev RP (K : PySem.W.Frag) (S : SrcA) : Hp → V → PyData → Prop := fun H v d => RepP K S H v d
abbrev Dv (X : Cx) (S : SrcA) (Z : Addr → Prop) (e : Expr) (c : CE) : Prop := PE X e (tD S Z X.K (RV X.K) c)
abbrev Dp (X : Cx) (S : SrcA) (Z : Addr → Prop) (e : Expr) (c : CE) : Prop := PE X e (tD S Z X.K (RP X.K S) c)
def tDt (S : SrcA) (Z : Addr → Prop) (K : PySem.W.Frag) (c : CT) : TT := fun σ H Q => ∃ e, Rel K S Z σ H e ∧ (c e).wp fun b => ∀ H', SameX S H H' → SrcOk S H' → Q b H'
abbrev Dt (X : Cx) (S : SrcA) (Z : Addr → Prop) (e : Expr) (c : CT) : Prop := PT X e (tDt S Z X.K c)
abbrev Dw (X : Cx) (S : SrcA) (Z : Addr → Prop) (e : Expr) (c : CT) : Prop := PW X e (tDt S Z X.K c)
def tDa (S : SrcA) (Z : Addr → Prop) (K : PySem.W.Frag) (R : Hp → V → PyData → Prop) (c : CL) : TA := fun σ H Q => ∃ e, Rel K S Z σ H e ∧ (c e).wp fun ds => ∀ vs H', SameX S H H' → SrcOk S H' → Paired (R H') vs ds → Q vs H'
abbrev Da (X : Cx) (S : SrcA) (Z : Addr → Prop) (es : List Expr) (c : CL) : Prop := PA X es (tDa S Z X.K (RV X.K) c)
abbrev Dap (X : Cx) (S : SrcA) (Z : Addr → Prop) (es : List Expr) (c : CL) : Prop := PA X es (tDa S Z X.K (RP X.K S) c)
/-- a new list, not locked: it stood nowhere ahead -/
def tDl (S : SrcA) (Z : Addr → Prop) (K : PySem.W.Frag) (c : CL) : TE := fun σ H Q => ∃ e, Rel K S Z σ H e ∧ (c e).wp fun ds => ∀ a xs H', SameX S H H' → SrcOk S H' → H a = none → H' a = some (.lst xs) → RepA K H' xs ds → Q (.ref a) H'
abbrev Dl (X : Cx) (S : SrcA) (Z : Addr → Prop) (e : Expr) (c : CL) : Prop := PE X e (tDl S Z X.K c)

theorem RepA.paired {K : PySem.W.Frag} {H : Hp} : ∀ {vs : List V} {ds : List PyData}, Paired (fun v d => Rep K H v d) vs ds → RepA K H vs ds
  | _, _, .nil => .nil
  | _, _, .cons r t => .cons r (RepA.paired t)
theorem Paired.mp {α β : Type} {F G : α → β → Prop} (h : ∀ a b, F a b → G a b) : ∀ {xs : List α} {ys : List β}, Paired F xs ys → Paired G xs ys
  | _, _, .nil => .nil
  | _, _, .cons r t => .cons (h _ _ r) (Paired.mp h t)

section
variable {X : Cx} {S : SrcA} {Z : Addr → Prop} {e ea eb : Expr} {c ca cb : CE} {pos : Pos}
theorem dp_of (h : Dv X S Z e c) : Dp X S Z e c := PE.imp h fun σ H Q ⟨en, R, w⟩ => ⟨en, R, M.wp_mono (fun d q v H' s k r => q v H' s k (.rep r)) w⟩
/-- a new list, locked -/
theorem dv_fz {cl : CL} (h : Dl X S Z e cl) : Dv X S Z e (cFz cl) := by
  refine PE.imp (PE.lock h) fun σ H Q ⟨en, R, w⟩ => ⟨en, R, M.wp_mono (fun ds q a xs H' s k n e r => ?_) (M.wp_bind.mp w)⟩
  refine ⟨a, _, rfl, e, .inl ⟨xs, rfl⟩, fun o => ?_⟩
  have s2 : SameX S H (upd H' a (.frz o (.lst xs))) := fun b ob nb eb => by
    rw [upd_ne (ne_of_none eb n)]; exact s b ob nb eb
  have na : ¬ inS S a := not_new R.src n
  have k2 : SrcOk S (upd H' a (.frz o (.lst xs))) := by
    match S, k, na with
    | none, _, _ => trivial
    | some (s, c), ⟨n, cells, l, m, t, h1, h2, r⟩, na =>
      refine ⟨n, cells, l, m, t, ?_, ?_, r⟩
      · rw [upd_ne (fun z => na (.inr z.symm))]; exact h1
      · rw [upd_ne (fun z => na (.inl z.symm))]; exact h2
  have kp : Kp H' (upd H' a (.frz o (.lst xs))) := by
    refine ⟨fun b ys eb => ?_, fun b ob u eb => ?_⟩
    · rw [upd_ne (fun z => by subst z; rw [e] at eb; cases eb)]; exact eb
    · rw [upd_ne (fun z => by subst z; rw [e] at eb; cases eb)]; exact eb
  exact q _ _ s2 k2 (.lst ⟨o, upd_same⟩ (r.kp kp))

/-! ### names, constants -/
theorem dv_var {i : Nat} {x : Str} {pos : Pos} (h : PE X (.Name x pos) (tVar i)) : Dv X S Z (.Name x pos) (cVar i) := by
  refine PE.imp h fun σ H Q ⟨en, R, w⟩ => ?_
  unfold cVar at w
  split at w
  · rename_i d hd
    obtain ⟨v, h1, h2⟩ := R.val hd
    exact ⟨v, h1, w v H (SameX.refl H) R.src h2⟩
  · exact w.elim
theorem dp_var {i : Nat} {x : Str} {pos : Pos} (h : PE X (.Name x pos) (tVar i)) : Dp X S Z (.Name x pos) (cPeek i) := by
  refine PE.imp h fun σ H Q ⟨en, R, w⟩ => ?_
  unfold cPeek at w
  split at w
  · rename_i d hd
    obtain ⟨v, h1, h2⟩ := R.val hd
    exact ⟨v, h1, w v H (SameX.refl H) R.src (.rep h2)⟩
  · rename_i d hd
    obtain ⟨a, xs, h1, n, z, h2, h3⟩ := R.own hd
    exact ⟨_, h1, w _ H (SameX.refl H) R.src (.own n h2 h3)⟩
  · rename_i d hd
    obtain ⟨a, h1, n, z, ⟨ks, h2, h3⟩ | ⟨ks, h2, h3⟩⟩ := R.ownD hd
    · exact ⟨_, h1, w _ H (SameX.refl H) R.src (.ownK n h2 h3)⟩
    · exact ⟨_, h1, w _ H (SameX.refl H) R.src (.ownT n h2 h3)⟩
  · exact w.elim
theorem dv_const {v : V} {d : PyData} (h : PE X e (tC v)) (r : ∀ H, Rep X.K H v d) : Dv X S Z e (cC d) :=
  PE.imp h fun σ H Q ⟨en, R, w⟩ => w v H (SameX.refl H) R.src (r H)
theorem dv_int {i j pos} : Dv X S Z (.Constant (.int i) j pos) (cC (.int i)) := dv_const pe_int fun _ => .int i
theorem dv_bl {b j pos} : Dv X S Z (.Constant (.bool b) j pos) (cC (.bool b)) := dv_const pe_bl fun _ => .bl b
theorem dv_non {j pos} : Dv X S Z (.Constant .none j pos) (cC .none) := dv_const pe_non fun _ => .non
theorem dv_str {x j pos} : Dv X S Z (.Constant (.str x) j pos) (cC (.str x)) := dv_const pe_str fun _ => .str x

/-! ### two-place operations -/
def rD (S : SrcA) (K : PySem.W.Frag) (m : PyData → PyData → M PyData) : R2 := fun v u H Q => ∃ x y, SrcOk S H ∧ RepP K S H v x ∧ RepP K S H u y ∧ (m x y).wp (Aft S H (RV K) Q)
theorem tD2 {r : R2} {m : PyData → PyData → M PyData} (hr : ∀ v u H Q, rD S X.K m v u H Q → r v u H Q) {σ : L2.St} {H : Hp} {Q : VK} (h : tD S Z X.K (RV X.K) (cOp2 m ca cb) σ H Q) :
    tOp r (tD S Z X.K (RP X.K S) ca) (tD S Z X.K (RP X.K S) cb) σ H Q := by
  obtain ⟨en, R, w⟩ := h
  refine ⟨en, R, M.wp_mono (fun x wx v H1 s1 k1 r1 => ?_) (M.wp_bind.mp w)⟩
  refine ⟨en, R.same s1 k1, M.wp_mono (fun y wy u H2 s2 k2 r2 => ?_) (M.wp_bind.mp wx)⟩
  exact hr v u H2 Q ⟨x, y, k2, r1.same k1 s2, r2, M.wp_mono (fun d q w' H3 s3 k3 r3 => q w' H3 ((s1.trans s2).trans s3) k3 r3) wy⟩
theorem dv_op {op : Operator} {m : PyData → PyData → M PyData} (ho : OpR X (binaryOp op) (rD S X.K m)) (ha : Dp X S Z ea ca) (hb : Dp X S Z eb cb) : Dv X S Z (.BinOp ea op eb pos) (cOp2 m ca cb) :=
  PE.imp (pe_op ho ha hb) fun σ H Q h => tD2 (fun _ _ _ _ q => q) h
theorem dv_cmp {op : CmpOp} {m : PyData → PyData → M PyData} (ho : OpR X (compareOp op) (rD S X.K m)) (hm : behindInMarks op eb = false) (ha : Dp X S Z ea ca) (hb : Dp X S Z eb cb) : Dv X S Z (.Compare ea [op] [eb] pos) (cOp2 m ca cb) :=
  PE.imp (pe_cmpR ho ha hb hm) fun σ H Q h => tD2 (fun _ _ _ _ q => q) h
/-- a value is handed on -/
theorem Aft.ret {H : Hp} {Q : VK} {d : PyData} {v : V} {R : Hp → V → PyData → Prop} (k : SrcOk S H) (w : Aft S H R Q d) (r : R H v d) : Q v H := w v H (SameX.refl H) k r
/-- a new tuple -/
theorem Aft.tup {K : PySem.W.Frag} {H : Hp} {Q : VK} {ds : List PyData} {xs : List V} (k : SrcOk S H) (w : Aft S H (RV K) Q (.tuple ds)) (r : RepA K H xs ds) {p : Addr} (hp : H p = none) : Q (.ref p) (upd H p (.tup xs)) :=
  w _ _ (.of (same_new hp)) (k.same (same_new hp)) (.tup (.inl (.inl upd_same)) (r.kp (.of (same_new hp))))
/-- a new list, locked -/
theorem Aft.lst {K : PySem.W.Frag} {H : Hp} {Q : VK} {ds : List PyData} {xs : List V} (k : SrcOk S H) (w : Aft S H (RV K) Q (.list ds)) (r : RepA K H xs ds) {p : Addr} (hp : H p = none) : Lk Q (.ref p) (upd H p (.lst xs)) := by
  refine ⟨p, _, rfl, upd_same, .inl ⟨_, rfl⟩, fun o => ?_⟩
  rw [upd_upd]
  exact w _ _ (.of (same_new hp)) (k.same (same_new hp)) (.lst ⟨o, upd_same⟩ (r.kp (.of (same_new hp))))
theorem OpR.lock {f : Value → Value → Sem Value} {r : R2} (h : OpR X f r) : OpR X f (fun x y H Q => r x y H (Lk Q)) := fun pins s σ H x y v u Q I rx ry q =>
  thn (h pins s σ H x y v u _ I rx ry q) fun u s1 h1 => EP.lock h1
theorem lstR {pins : List (Addr × Obj)} {σ : L2.St} {H : Hp} {s : Shared} (I : Inv X pins σ H s) {a : Addr} {xs : List V} (h : Rd H a (.lst xs)) : xs.length ≤ sizeLine ∧ ∃ (its : List Value) (n : Nat), Vals xs its ∧ s.heap.get? a = some { cls := .type "list", data := .seq its.toArray n } :=
  Rd.ok h I.hok
theorem op_catR : OpR X (binaryOp .Add) (fun x y H Q => ∃ l b xs zs, x = .ref l ∧ y = .ref b ∧ Rd H l (.lst xs) ∧ Rd H b (.lst zs) ∧ xs.length + zs.length ≤ sizeLine ∧ ∀ p, H p = none → Q (.ref p) (upd H p (.lst (xs ++ zs)))) := by
  intro pins s σ H x y v u Q I rx ry h
  obtain ⟨l, b, xs, zs, rfl, rfl, hH, hB, hz, q⟩ := h
  cases rx
  cases ry
  obtain ⟨z, its, n, r, e⟩ := lstR I hH
  obtain ⟨z2, its2, n2, r2, e2⟩ := lstR I hB
  have hl := r.length
  have hl2 := r2.length
  refine PySem.P.add_list e e2 ?_ (by rw [List.size_toArray, List.size_toArray]; omega)
  have ea : its.toArray ++ its2.toArray = (its ++ its2).toArray := by simp
  rw [ea]
  exact ⟨.ref _, _, I.lnew (t' := s.toks) (r.append r2) (by rw [List.length_append]; omega), rfl, q _ I.fresh⟩
theorem op_repR : OpR X (binaryOp .Mult) (fun x y H Q => ∃ l k xs, x = .ref l ∧ y = .int k ∧ Rd H l (.lst xs) ∧ -(2 ^ 63) ≤ k ∧ k < 2 ^ 63 ∧ xs.length * k.toNat ≤ sizeLine ∧
  ∀ p, H p = none → Q (.ref p) (upd H p (.lst (List.replicate k.toNat xs).flatten))) := by
  intro pins s σ H x y v u Q I rx ry h
  obtain ⟨l, k, xs, rfl, rfl, hH, h1, h2, hz, q⟩ := h
  obtain ⟨z, its, n, r, e⟩ := lstR I hH
  cases rx
  obtain ⟨t, rfl⟩ := ry
  have hl := r.length
  have hlen : its.toArray.size * k.toNat ≤ sizeLine := by
    rw [List.size_toArray, ← hl]
    exact hz
  have cap : ¬ its.toArray.size * k.toNat > (2 ^ 63 - 1) / 8 := Nat.not_lt.mpr (Nat.le_trans hlen (by decide))
  have fit : ¬ (!Builtin.List.listFitsIndex k) = true := by rw [fitsIndex_both h1 h2]; decide
  have long : ¬ Builtin.List.listTooLong (its.toArray.size * k.toNat) = true := by rw [notLongL hlen]; decide
  have fold : List.foldl (fun x1 x2 => x1 ++ x2) #[] (List.replicate (if its.toArray.isEmpty = true then 0 else k.toNat) its.toArray) = (List.replicate k.toNat its).flatten.toArray := by
    have f0 : ∀ m : Nat, List.foldl (fun x1 x2 => x1 ++ x2) #[] (List.replicate m its.toArray) = (List.replicate m its).flatten.toArray := fun m => by
      have q := foldl_rep its m []
      rwa [List.nil_append] at q
    rw [f0]
    cases its <;> simp
  have make := AutoListH.list___mul___list_int_3 l its.toArray n k t fit cap long
  refine wpAny_binaryOp_repeat_ref (T := "list") (U := "int") (by decide) ⟨_, e, rfl⟩ (fun s' => typeIs_int s' k t) noFill_list_mul F.fills_int_mul F.slot_int_rmul repeat_list F.slot_int_index.lookup
    (call_meets F.slot_int_rmul (typeIs_int s k t) F.entry_int_rmul (F.args_int_rmul_2 _ _) (int___rmul___int_list k t l its.toArray n) ⟨e, rfl, ⟨_, e, rfl⟩, ?_⟩)
  refine call_meets F.slot_list_mul ⟨_, e, rfl⟩ F.entry_list_mul (F.args_list_mul_2 _ _) make ⟨e, ?_⟩
  rw [fold]
  refine ⟨.ref _, _, I.lnew (t' := s.toks) (r.rep k.toNat) ?_, rfl, q _ I.fresh⟩
  rw [PyProof.Rows.lm_len_rep_flat, Nat.mul_comm]
  exact hz

theorem wp_if {α : Type} {c : Prop} [Decidable c] {m : M α} {Q : α → Prop} (h : (if c then m else .bad).wp Q) : c ∧ m.wp Q := by
  by_cases q : c
  · rw [if_pos q] at h; exact ⟨q, h⟩
  · rw [if_neg q] at h; exact h.elim
theorem RepP.tupR {K : PySem.W.Frag} {H : Hp} {v : V} {ds : List PyData} (r : RepP K S H v (.tuple ds)) : Rep K H v (.tuple ds) := by
  cases r with
  | rep r => exact r
theorem dop_add : OpR X (binaryOp .Add) (rD S X.K mAdd) := by
  intro pins s σ H x y v u Q I rx ry h
  obtain ⟨dx, dy, k, r1, r2, w⟩ := h
  cases dx <;> cases dy <;> first | exact w.elim | skip
  · exact op_add pins s σ H x y v u Q I rx ry ⟨_, _, r1.int, r2.int, Aft.ret k w (.int _)⟩
  · obtain ⟨hl, w⟩ := wp_if w
    exact op_add_str pins s σ H x y v u Q I rx ry ⟨_, _, r1.str, r2.str, hl, Aft.ret k w (.str _)⟩
  · obtain ⟨hl, w⟩ := wp_if w
    obtain ⟨a, xs, rfl, h1, q1⟩ := r1.listR
    obtain ⟨b, ys, rfl, h2, q2⟩ := r2.listR
    refine OpR.lock op_catR pins s σ H _ _ v u Q I rx ry ⟨a, b, xs, ys, rfl, rfl, h1, h2, ?_, fun p hp => Aft.lst k w (q1.append q2) hp⟩
    rw [q1.length, q2.length]
    exact hl
  · obtain ⟨hl, w⟩ := wp_if w
    obtain ⟨a, xs, rfl, h1, q1⟩ := r1.tuple
    obtain ⟨b, ys, rfl, h2, q2⟩ := r2.tuple
    refine op_catA pins s σ H _ _ v u Q I rx ry ⟨a, b, xs, ys, rfl, rfl, h1, h2, ?_, fun e => ?_, fun _ e => ?_, fun _ _ p hp => Aft.tup k w (q1.append q2) hp⟩
    · rw [q1.length, q2.length]
      exact hl
    · subst e; cases q1; exact Aft.ret k w r2.tupR
    · subst e; cases q2
      rw [List.append_nil] at w
      exact Aft.ret k w r1.tupR
theorem dop_sub : OpR X (binaryOp .Sub) (rD S X.K mSub) := by
  intro pins s σ H x y v u Q I rx ry h
  obtain ⟨dx, dy, k, r1, r2, w⟩ := h
  cases dx <;> cases dy <;> first | exact w.elim | skip
  exact op_sub pins s σ H x y v u Q I rx ry ⟨_, _, r1.int, r2.int, Aft.ret k w (.int _)⟩
theorem smallI_bits {i : Int} (h : smallI i = true) : Builtin.Int.intBits i ≤ 2 ^ 20 := by
  have q := of_decide_eq_true h
  unfold Builtin.Int.intBits
  split <;> omega
theorem mulOk_ok {i j : Int} (h : mulOk i j = true) : IntMulOk i j := by
  unfold mulOk at h
  simp only [Bool.or_eq_true, Bool.and_eq_true, decide_eq_true_eq] at h
  rcases h with (h | h) | h
  · have := lt_log2 h; exact CMul.ok (.inl (by omega))
  · have := lt_log2 h; exact CMul.ok (.inr (by omega))
  · exact .of_bits (smallI_bits h.1) (smallI_bits h.2)
theorem op_mulD : OpR X (binaryOp .Mult) (rI (fun i j => mulOk i j = true) fun i j => .int (i * j)) := opI fun _ _ _ _ _ _ _ hc q => mul_int q (mulOk_ok hc)
theorem iop_mulD : OpR X (inplaceOp .Mult) (rI (fun i j => mulOk i j = true) fun i j => .int (i * j)) := opI fun _ _ _ _ _ _ _ hc q => imul_int q (mulOk_ok hc)
theorem dop_mul : OpR X (binaryOp .Mult) (rD S X.K mMul) := by
  intro pins s σ H x y v u Q I rx ry h
  obtain ⟨dx, dy, k, r1, r2, w⟩ := h
  cases dx <;> cases dy <;> first | exact w.elim | skip
  · obtain ⟨hl, w⟩ := wp_if w
    exact op_mulD pins s σ H x y v u Q I rx ry ⟨_, _, r1.int, r2.int, hl, Aft.ret k w (.int _)⟩
  · obtain ⟨hl, w⟩ := wp_if w
    simp only [Bool.and_eq_true, decide_eq_true_eq] at hl
    have hl := And.intro (inB_iff hl.1) hl.2
    obtain ⟨a, xs, rfl, h1, q1⟩ := r1.listR
    refine OpR.lock op_repR pins s σ H _ _ v u Q I rx ry ⟨a, _, xs, rfl, r2.int, h1, by omega, by omega, ?_, fun p hp => Aft.lst k w (q1.flat _) hp⟩
    rw [q1.length]
    exact hl.2
def CDivB (_ j : Int) : Prop := j ≠ 0 ∧ j.natAbs.log2 < 9000
theorem op_fdivB : OpR X (binaryOp .FloorDiv) (rI CDivB fun i j => .int (i.fdiv j)) := opI fun _ _ _ _ _ _ _ hc q => floordiv_int hc.1 q (.inl (PyProof.noPylong_of_log2 hc.2))
theorem dop_fdiv : OpR X (binaryOp .FloorDiv) (rD S X.K mFdiv) := by
  intro pins s σ H x y v u Q I rx ry h
  obtain ⟨dx, dy, k, r1, r2, w⟩ := h
  cases dx <;> cases dy <;> first | exact w.elim | skip
  obtain ⟨hl, w⟩ := wp_if w
  simp only [Bool.and_eq_true, decide_eq_true_eq] at hl
  exact op_fdivB pins s σ H x y v u Q I rx ry ⟨_, _, r1.int, r2.int, hl, Aft.ret k w (.int _)⟩
theorem dop_mod : OpR X (binaryOp .Mod) (rD S X.K mMod) := by
  intro pins s σ H x y v u Q I rx ry h
  obtain ⟨dx, dy, k, r1, r2, w⟩ := h
  cases dx <;> cases dy <;> first | exact w.elim | skip
  obtain ⟨hl, w⟩ := wp_if w
  exact op_modN pins s σ H x y v u Q I rx ry ⟨_, _, r1.int, r2.int, hl, Aft.ret k w (.int _)⟩
theorem dop_pow : OpR X (binaryOp .Pow) (rD S X.K mPow) := by
  intro pins s σ H x y v u Q I rx ry h
  obtain ⟨dx, dy, k, r1, r2, w⟩ := h
  cases dx <;> cases dy <;> first | exact w.elim | skip
  obtain ⟨hl, w⟩ := wp_if w
  simp only [Bool.and_eq_true, decide_eq_true_eq] at hl
  exact op_pow pins s σ H x y v u Q I rx ry ⟨_, _, r1.int, r2.int, ⟨hl.1.1, by omega, hl.2⟩, Aft.ret k w (.int _)⟩
theorem asIntsO_eq : ∀ {ds : List PyData} {ns : List Int}, asIntsO ds = some ns → ds = ns.map PyData.int
  | [], ns, h => by cases h; rfl
  | .int i :: r, ns, h => by
    unfold asIntsO at h
    split at h
    · rename_i is hr
      cases h
      rw [List.map_cons, asIntsO_eq hr]
    · cases h
  | .none :: _, _, h => by simp [asIntsO] at h
  | .bool _ :: _, _, h => by simp [asIntsO] at h
  | .str _ :: _, _, h => by simp [asIntsO] at h
  | .list _ :: _, _, h => by simp [asIntsO] at h
  | .tuple _ :: _, _, h => by simp [asIntsO] at h
  | .dict _ :: _, _, h => by simp [asIntsO] at h
theorem asIntsO_map (ns : List Int) : asIntsO (ns.map PyData.int) = some ns := by
  induction ns with
  | nil => rfl
  | cons n ns ih => rw [List.map_cons]; unfold asIntsO; rw [ih]
theorem dop_lt (hu : X.A.units < cLine) : OpR X (compareOp .Lt) (rD S X.K mLt) := by
  intro pins s σ H x y v u Q I rx ry h
  obtain ⟨dx, dy, k, r1, r2, w⟩ := h
  cases dx <;> cases dy <;> first | exact w.elim | skip
  · exact op_lt pins s σ H x y v u Q I rx ry ⟨_, _, r1.int, r2.int, Aft.ret k w (.bl _)⟩
  · change (mTI HT.lexLt _ _).wp _ at w
    unfold mTI at w
    split at w
    · rename_i ns ms e1 e2
      cases asIntsO_eq e1
      cases asIntsO_eq e2
      obtain ⟨a, xs, rfl, h1, q1⟩ := r1.tuple
      obtain ⟨b, ys, rfl, h2, q2⟩ := r2.tuple
      cases q1.ints
      cases q2.ints
      exact op_ltT hu pins s σ H _ _ v u Q I rx ry ⟨a, b, _, _, rfl, rfl, h1, h2, Aft.ret k w (.bl _)⟩
    · exact w.elim
theorem dop_le (hu : X.A.units < cLine) : OpR X (compareOp .LtE) (rD S X.K mLe) := by
  intro pins s σ H x y v u Q I rx ry h
  obtain ⟨dx, dy, k, r1, r2, w⟩ := h
  cases dx <;> cases dy <;> first | exact w.elim | skip
  · exact op_le pins s σ H x y v u Q I rx ry ⟨_, _, r1.int, r2.int, Aft.ret k w (.bl _)⟩
  · change (mTI leAt _ _).wp _ at w
    unfold mTI at w
    split at w
    · rename_i ns ms e1 e2
      cases asIntsO_eq e1
      cases asIntsO_eq e2
      obtain ⟨a, xs, rfl, h1, q1⟩ := r1.tuple
      obtain ⟨b, ys, rfl, h2, q2⟩ := r2.tuple
      cases q1.ints
      cases q2.ints
      exact op_leT hu pins s σ H _ _ v u Q I rx ry ⟨a, b, _, _, rfl, rfl, h1, h2, Aft.ret k w (.bl _)⟩
    · exact w.elim
theorem dop_gt : OpR X (compareOp .Gt) (rD S X.K (mCmpI fun i j => decide (j < i))) := by
  intro pins s σ H x y v u Q I rx ry h
  obtain ⟨dx, dy, k, r1, r2, w⟩ := h
  cases dx <;> cases dy <;> first | exact w.elim | skip
  exact op_gt pins s σ H x y v u Q I rx ry ⟨_, _, r1.int, r2.int, Aft.ret k w (.bl _)⟩
theorem dop_ge : OpR X (compareOp .GtE) (rD S X.K (mCmpI fun i j => decide (j ≤ i))) := by
  intro pins s σ H x y v u Q I rx ry h
  obtain ⟨dx, dy, k, r1, r2, w⟩ := h
  cases dx <;> cases dy <;> first | exact w.elim | skip
  exact op_ge pins s σ H x y v u Q I rx ry ⟨_, _, r1.int, r2.int, Aft.ret k w (.bl _)⟩
mutual
theorem Rep.dp {K : PySem.W.Frag} {H : Hp} : ∀ {d : PyData} {v : V}, Rep K H v d → d.canLay0 = true → L2.Dp K H v d
  | .none, _, h, _ => by cases h; exact .non
  | .bool b, _, h, _ => by cases h; exact .bl b
  | .int i, _, h, _ => by cases h; exact .int i
  | .str x, _, h, _ => by cases h; exact .str x
  | .list ds, _, h, c => by
    cases h with
    | lst h1 h2 => exact .lst (.inl (.inr h1)) (RepA.dp h2 (by simpa [PyData.canLay0] using c))
  | .tuple ds, _, h, c => by
    cases h with
    | tup h1 h2 => exact .tup h1 (RepA.dp h2 (by simpa [PyData.canLay0] using c))
  | .dict ds, _, h, c => by simp [PyData.canLay0] at c
theorem RepA.dp {K : PySem.W.Frag} {H : Hp} : ∀ {ds : List PyData} {vs : List V}, RepA K H vs ds → PyData.canLayAll0 ds = true → DpAll K H vs ds
  | [], _, h, _ => by cases h; exact .nil
  | d :: ds, _, h, c => by
    cases h with
    | cons h1 h2 =>
      have q : d.canLay0 = true ∧ PyData.canLayAll0 ds = true := by simpa [PyData.canLayAll0] using c
      exact .cons (Rep.dp h1 q.1) (RepA.dp h2 q.2)
end
theorem RepP.dp {K : PySem.W.Frag} {H : Hp} {d : PyData} {v : V} (h : RepP K S H v d) (c : d.canLay0 = true) : L2.Dp K H v d := by
  cases h with
  | rep r => exact r.dp c
  | own n e r => exact .lst (SqL.of e) (r.dp (by simpa [PyData.canLay0] using c))
  | ownK n e r => simp [PyData.canLay0] at c
  | ownT n e r => simp [PyData.canLay0] at c
theorem dop_eq (hu : X.A.units + 64 < cLine) : OpR X (compareOp .Eq) (rD S X.K mEq) := by
  intro pins s σ H x y v u Q I rx ry h
  obtain ⟨dx, dy, k, r1, r2, w⟩ := h
  unfold mEq at w
  split at w
  · rename_i hs
    have hs' := Bool.and_eq_true_iff.mp hs
    exact op_eqD hu pins s σ H x y v u Q I rx ry ⟨dx, dy, r1.dp (SeqAt.canLay_of_shaped hs'.1), r2.dp (SeqAt.canLay_of_shaped hs'.2), hs'.1, hs'.2, Aft.ret k w (.bl _)⟩
  · exact w.elim
theorem dop_ne (hu : X.A.units + 64 < cLine) : OpR X (compareOp .NotEq) (rD S X.K mNe) := by
  intro pins s σ H x y v u Q I rx ry h
  obtain ⟨dx, dy, k, r1, r2, w⟩ := h
  unfold mNe at w
  split at w
  · rename_i hs
    have hs' := Bool.and_eq_true_iff.mp hs
    exact op_neD hu pins s σ H x y v u Q I rx ry ⟨dx, dy, r1.dp (SeqAt.canLay_of_shaped hs'.1), r2.dp (SeqAt.canLay_of_shaped hs'.2), hs'.1, hs'.2, Aft.ret k w (.bl _)⟩
  · exact w.elim
theorem RepP.isN {K : PySem.W.Frag} {H : Hp} {d : PyData} {v : V} (h : RepP K S H v d) : decide (v = .non) = isNoneD d := by
  cases h with
  | rep r => cases r <;> rfl
  | own n e r => rfl
  | ownK n e r => rfl
  | ownT n e r => rfl
theorem isNoneD_eq {d : PyData} (h : isNoneD d = true) : d = .none := by cases d <;> first | rfl | cases h
theorem dop_isN : OpR X (compareOp .Is) (rD S X.K mIsN) := by
  intro pins s σ H x y v u Q I rx ry h
  obtain ⟨dx, dy, k, r1, r2, w⟩ := h
  unfold mIsN at w
  split at w
  · rename_i hs
    cases isNoneD_eq hs
    refine op_isN pins s σ H x y v u Q I rx ry ⟨r2.none, ?_⟩
    rw [r1.isN]
    exact Aft.ret k w (.bl _)
  · exact w.elim
theorem dop_notN : OpR X (compareOp .IsNot) (rD S X.K mNotN) := by
  intro pins s σ H x y v u Q I rx ry h
  obtain ⟨dx, dy, k, r1, r2, w⟩ := h
  unfold mNotN at w
  split at w
  · rename_i hs
    cases isNoneD_eq hs
    refine op_notN pins s σ H x y v u Q I rx ry ⟨r2.none, ?_⟩
    rw [r1.isN]
    exact Aft.ret k w (.bl _)
  · exact w.elim

/-! ### in-place operations -/
theorem diop_add : OpR X (inplaceOp .Add) (rD S X.K mAddI) := by
  intro pins s σ H x y v u Q I rx ry h
  obtain ⟨dx, dy, k, r1, r2, w⟩ := h
  cases dx <;> cases dy <;> first | exact w.elim | skip
  · exact iop_add pins s σ H x y v u Q I rx ry ⟨_, _, r1.int, r2.int, Aft.ret k w (.int _)⟩
  · obtain ⟨hl, w⟩ := wp_if w
    exact iop_add_str pins s σ H x y v u Q I rx ry ⟨_, _, r1.str, r2.str, hl, Aft.ret k w (.str _)⟩
theorem diop_sub : OpR X (inplaceOp .Sub) (rD S X.K mSub) := by
  intro pins s σ H x y v u Q I rx ry h
  obtain ⟨dx, dy, k, r1, r2, w⟩ := h
  cases dx <;> cases dy <;> first | exact w.elim | skip
  exact iop_sub pins s σ H x y v u Q I rx ry ⟨_, _, r1.int, r2.int, Aft.ret k w (.int _)⟩
theorem diop_fdiv : OpR X (inplaceOp .FloorDiv) (rD S X.K mFdivI) := by
  intro pins s σ H x y v u Q I rx ry h
  obtain ⟨dx, dy, k, r1, r2, w⟩ := h
  cases dx <;> cases dy <;> first | exact w.elim | skip
  obtain ⟨hl, w⟩ := wp_if w
  simp only [Bool.and_eq_true, decide_eq_true_eq] at hl
  exact iop_fdiv pins s σ H x y v u Q I rx ry ⟨_, _, r1.int, r2.int, hl, Aft.ret k w (.int _)⟩
theorem diop_mul : OpR X (inplaceOp .Mult) (rD S X.K mMulI) := by
  intro pins s σ H x y v u Q I rx ry h
  obtain ⟨dx, dy, k, r1, r2, w⟩ := h
  cases dx <;> cases dy <;> first | exact w.elim | skip
  obtain ⟨hl, w⟩ := wp_if w
  exact iop_mulD pins s σ H x y v u Q I rx ry ⟨_, _, r1.int, r2.int, hl, Aft.ret k w (.int _)⟩

/-! ### one-place operations -/
theorem dv_neg (ha : Dp X S Z ea ca) : Dv X S Z (.UnaryOp .USub ea pos) (cOp1 mNeg ca) := by
  refine PE.imp (pe_un un_neg ha) fun σ H Q ⟨en, R, w⟩ => ⟨en, R, M.wp_mono (fun d wd v H1 s1 k1 r1 => ?_) (M.wp_bind.mp w)⟩
  cases d <;> first | exact wd.elim | skip
  exact ⟨_, r1.int, wd _ H1 s1 k1 (.int _)⟩

/-! ### tests -/
theorem asB_wp {d : PyData} {Q : Bool → Prop} (h : (asB d).wp Q) : ∃ b, d = .bool b ∧ Q b := by
  cases d <;> first | exact h.elim | exact ⟨_, rfl, h⟩
theorem dt_val (h : Dp X S Z e c) (he : ∀ whole, isTrue e X.env whole = (do let v ← whole; standAt e.pos; holding [v] (truthy v)) := by intro _; rfl) : Dt X S Z e (ctV c) := by
  refine PT.imp (pt_val h he) fun σ H Q ⟨en, R, w⟩ => ⟨en, R, M.wp_mono (fun d wd v H1 s1 k1 r1 => ?_) (M.wp_bind.mp w)⟩
  obtain ⟨b, rfl, q⟩ := asB_wp wd
  exact ⟨b, r1.bool, q H1 s1 k1⟩
theorem dt_cmp {op : CmpOp} {m : PyData → PyData → M PyData} (ho : OpR X (compareOp op) (rD S X.K m)) (hm : behindInMarks op eb = false) (ha : Dp X S Z ea ca) (hb : Dp X S Z eb cb) : Dt X S Z (.Compare ea [op] [eb] pos) (ctV (cOp2 m ca cb)) := by
  refine PT.imp (pt_cmpR ho ha hb hm) fun σ H Q ⟨en, R, w⟩ => ?_
  have q : tD S Z X.K (RV X.K) (cOp2 m ca cb) σ H fun x H' => ∃ k, x = .bl k ∧ Q k H' := ⟨en, R, M.wp_mono (fun d wd v H1 s1 k1 r1 => by
    obtain ⟨b, rfl, q⟩ := asB_wp wd
    cases r1
    exact ⟨b, rfl, q H1 s1 k1⟩) (M.wp_bind.mp w)⟩
  exact tD2 (fun _ _ _ _ q => q) q
variable {ta tb : CT} {rest : List Expr}
theorem dt_not (h : Dt X S Z ea ta) : Dt X S Z (.UnaryOp .Not ea pos) (ctNot ta) :=
  PT.imp (pt_not h) fun σ H Q ⟨en, R, w⟩ => ⟨en, R, M.wp_mono (fun b q => q) (M.wp_bind.mp w)⟩
theorem dw_pt (h : Dw X S Z e ta) : Dt X S Z e ta := PW.pt h
theorem dw_and1 (h : Dt X S Z ea ta) : Dw X S Z (.BoolOp .And [ea] pos) ta := pw_and1 h
theorem dw_or1 (h : Dt X S Z ea ta) : Dw X S Z (.BoolOp .Or [ea] pos) ta := pw_or1 h
theorem dw_and (h : Dt X S Z ea ta) (h2 : Dw X S Z (.BoolOp .And (eb :: rest) pos) tb) : Dw X S Z (.BoolOp .And (ea :: eb :: rest) pos) (ctAnd ta tb) :=
  PW.imp (pw_and h h2) fun σ H Q ⟨en, R, w⟩ => ⟨en, R, M.wp_mono (fun b q H1 s1 k1 => by
    cases b with
    | true => exact ⟨en, R.same s1 k1, M.wp_mono (fun b q H2 s2 k2 => q H2 (s1.trans s2) k2) q⟩
    | false => exact q H1 s1 k1) (M.wp_bind.mp w)⟩
theorem dw_or (h : Dt X S Z ea ta) (h2 : Dw X S Z (.BoolOp .Or (eb :: rest) pos) tb) : Dw X S Z (.BoolOp .Or (ea :: eb :: rest) pos) (ctOr ta tb) :=
  PW.imp (pw_or h h2) fun σ H Q ⟨en, R, w⟩ => ⟨en, R, M.wp_mono (fun b q H1 s1 k1 => by
    cases b with
    | false => exact ⟨en, R.same s1 k1, M.wp_mono (fun b q H2 s2 k2 => q H2 (s1.trans s2) k2) q⟩
    | true => exact q H1 s1 k1) (M.wp_bind.mp w)⟩
theorem dv_not (h : Dp X S Z ea ca) : Dv X S Z (.UnaryOp .Not ea pos) (cNot ca) :=
  PE.imp (pe_not h) fun σ H Q ⟨en, R, w⟩ => ⟨en, R, M.wp_mono (fun d wd v H1 s1 k1 r1 => by
    obtain ⟨b, rfl, q⟩ := asB_wp (M.wp_bind.mp wd)
    exact ⟨b, r1.bool, q _ H1 s1 k1 (.bl _)⟩) (M.wp_bind.mp w)⟩
theorem dv_one {op} (h : Dv X S Z ea ca) : Dv X S Z (.BoolOp op [ea] pos) ca := pe_one h
theorem dv_and (h : Dp X S Z ea ca) (h2 : Dv X S Z (.BoolOp .And (eb :: rest) pos) cb) : Dv X S Z (.BoolOp .And (ea :: eb :: rest) pos) (cAnd ca cb) :=
  PE.imp (pe_and h h2) fun σ H Q ⟨en, R, w⟩ => ⟨en, R, M.wp_mono (fun d wd v H1 s1 k1 r1 => by
    obtain ⟨b, rfl, q⟩ := asB_wp (M.wp_bind.mp wd)
    refine ⟨b, r1.bool, ?_⟩
    cases b with
    | true => exact ⟨en, R.same s1 k1, M.wp_mono (fun b q v H2 s2 k2 r2 => q v H2 (s1.trans s2) k2 r2) q⟩
    | false => exact q _ H1 s1 k1 (.bl _)) (M.wp_bind.mp w)⟩
theorem dv_or (h : Dp X S Z ea ca) (h2 : Dv X S Z (.BoolOp .Or (eb :: rest) pos) cb) : Dv X S Z (.BoolOp .Or (ea :: eb :: rest) pos) (cOr ca cb) :=
  PE.imp (pe_or h h2) fun σ H Q ⟨en, R, w⟩ => ⟨en, R, M.wp_mono (fun d wd v H1 s1 k1 r1 => by
    obtain ⟨b, rfl, q⟩ := asB_wp (M.wp_bind.mp wd)
    refine ⟨b, r1.bool, ?_⟩
    cases b with
    | false => exact ⟨en, R.same s1 k1, M.wp_mono (fun b q v H2 s2 k2 r2 => q v H2 (s1.trans s2) k2 r2) q⟩
    | true => exact q _ H1 s1 k1 (.bl _)) (M.wp_bind.mp w)⟩
theorem dv_if {et : Expr} (ht : Dt X S Z et ta) (ha : Dv X S Z ea ca) (hb : Dv X S Z eb cb) : Dv X S Z (.IfExp et ea eb pos) (cIf ta ca cb) :=
  PE.imp (pe_ifExp ht ha hb) fun σ H Q ⟨en, R, w⟩ => ⟨en, R, M.wp_mono (fun b q H1 s1 k1 => by
    cases b with
    | false => exact ⟨en, R.same s1 k1, M.wp_mono (fun b q v H2 s2 k2 r2 => q v H2 (s1.trans s2) k2 r2) q⟩
    | true => exact ⟨en, R.same s1 k1, M.wp_mono (fun b q v H2 s2 k2 r2 => q v H2 (s1.trans s2) k2 r2) q⟩) (M.wp_bind.mp w)⟩

/-! ### argument lists, displays -/
theorem Paired.kp {K : PySem.W.Frag} {H H' : Hp} (k : Kp H H') {vs : List V} {ds : List PyData} (h : Paired (fun v d => Rep K H v d) vs ds) : Paired (fun v d => Rep K H' v d) vs ds := Paired.mp (fun _ _ r => r.kp k) h
theorem da_nil : Da X S Z [] caNil := PA.imp pa_nil fun σ H Q ⟨en, R, w⟩ => w [] H (SameX.refl H) R.src .nil
variable {es : List Expr} {cl : CL}
theorem da_cons (ha : Dv X S Z e c) (hr : Da X S Z es cl) (hs : starEach (e :: es) X.env = (false, eval e X.env) :: starEach es X.env := by rfl) : Da X S Z (e :: es) (caCons c cl) :=
  PA.imp (pa_cons ha hr hs) fun σ H Q ⟨en, R, w⟩ => ⟨en, R, M.wp_mono (fun d wd v H1 s1 k1 r1 =>
    ⟨en, R.same s1 k1, M.wp_mono (fun ds q vs H2 s2 k2 r2 => q (v :: vs) H2 (s1.trans s2) k2 (.cons (Rep.kp (s2.kp k1) r1) r2)) (M.wp_bind.mp wd)⟩) (M.wp_bind.mp w)⟩
theorem dap_nil : Dap X S Z [] caNil := PA.imp pa_nil fun σ H Q ⟨en, R, w⟩ => w [] H (SameX.refl H) R.src .nil
theorem dap_cons (ha : Dp X S Z e c) (hr : Dap X S Z es cl) (hs : starEach (e :: es) X.env = (false, eval e X.env) :: starEach es X.env := by rfl) : Dap X S Z (e :: es) (caCons c cl) :=
  PA.imp (pa_cons ha hr hs) fun σ H Q ⟨en, R, w⟩ => ⟨en, R, M.wp_mono (fun d wd v H1 s1 k1 r1 =>
    ⟨en, R.same s1 k1, M.wp_mono (fun ds q vs H2 s2 k2 r2 => q (v :: vs) H2 (s1.trans s2) k2 (.cons (RepP.same k1 s2 r1) r2)) (M.wp_bind.mp wd)⟩) (M.wp_bind.mp w)⟩
theorem dv_tup {x1} (h : Da X S Z es cl) : Dv X S Z (.Tuple es x1 pos) (cTup cl) :=
  PE.imp (pe_tup h) fun σ H Q ⟨en, R, w⟩ => ⟨en, R, M.wp_mono (fun ds wd vs H1 s1 k1 r1 => by
    split at wd
    · rename_i hf
      have ra := RepA.paired r1
      refine ⟨by rw [ra.length]; exact of_decide_eq_true hf, fun p hp => ?_⟩
      exact wd _ _ (s1.trans (.of (same_new hp))) (k1.same (same_new hp)) (.tup (.inl (.inl upd_same)) (ra.kp (.of (same_new hp))))
    · exact wd.elim) (M.wp_bind.mp w)⟩
end
end DL
namespace DL
open PySem PySem.Spec PyProof.Rows L2

/-! ### statements: what stays, and the ends -/
structure Ext (Z : Addr → Prop) (H H' : Hp) : Prop where
  kp : Kp H H'
  z : ∀ a o, Z a → H a = some o → H' a = some o
theorem Ext.refl {Z : Addr → Prop} (H : Hp) : Ext Z H H := ⟨Kp.refl H, fun _ _ _ h => h⟩
theorem Ext.trans {Z : Addr → Prop} {H H1 H2 : Hp} (a : Ext Z H H1) (b : Ext Z H1 H2) : Ext Z H H2 := ⟨a.kp.trans b.kp, fun c o z h => b.z c o z (a.z c o z h)⟩
section
variable {K : PySem.W.Frag} {S : SrcA} {Z : Addr → Prop} {σ : L2.St} {H H' : Hp} {en : En}
theorem Rel.ext (R : Rel K S Z σ H en) (h : SameX S H H') : Ext Z H H' := ⟨h.kp R.src, fun a o z e => h a o (fun q => R.zs a q z) e⟩
end
def SEnd (S : SrcA) (Z : Addr → Prop) (K : PySem.W.Frag) (H : Hp) (D : Ends) : Fl × En → Prop
  | (.nx, e) => ∀ σ' H', Ext Z H H' → Rel K S Z σ' H' e → D.nx σ' H'
  | (.bk, e) => ∀ σ' H', Ext Z H H' → Rel K S Z σ' H' e → D.bk σ' H'
  | (.ct, e) => ∀ σ' H', Ext Z H H' → Rel K S Z σ' H' e → D.ct σ' H'
  | (.rt d, _) => ∀ v H', Ext Z H H' → SrcOk S H' → Rep K H' v d → D.rt v H'
def tS (S : SrcA) (Z : Addr → Prop) (K : PySem.W.Frag) (cs : CS) : TS := fun D σ H => ∃ e, Rel K S Z σ H e ∧ (cs e).wp (SEnd S Z K H D)
abbrev Ds (X : Cx) (S : SrcA) (Z : Addr → Prop) (st : Stmt) (c : CS) : Prop := PS X st (tS S Z X.K c)
abbrev Db (X : Cx) (S : SrcA) (Z : Addr → Prop) (st : List Stmt) (c : CS) : Prop := PSs X st (tS S Z X.K c)
theorem SEnd.ext {S : SrcA} {Z : Addr → Prop} {K : PySem.W.Frag} {H H1 : Hp} {D : Ends} (x : Ext Z H H1) : ∀ {r : Fl × En}, SEnd S Z K H D r → SEnd S Z K H1 D r
  | (.nx, e), q => fun σ' H' y R => q σ' H' (x.trans y) R
  | (.bk, e), q => fun σ' H' y R => q σ' H' (x.trans y) R
  | (.ct, e), q => fun σ' H' y R => q σ' H' (x.trans y) R
  | (.rt d, e), q => fun σ' H' y k R => q σ' H' (x.trans y) k R
theorem PS.imp {X : Cx} {e : Stmt} {t t' : TS} (h : PS X e t) (i : ∀ D σ H, t' D σ H → t D σ H) : PS X e t' := ⟨fun pins s σ H Q I q => h.run pins s σ H Q I (i Q σ H q)⟩
theorem PSs.imp {X : Cx} {e : List Stmt} {t t' : TS} (h : PSs X e t) (i : ∀ D σ H, t' D σ H → t D σ H) : PSs X e t' := ⟨fun pins s σ H Q I q => h.run pins s σ H Q I (i Q σ H q)⟩

section
variable {X : Cx} {S : SrcA} {Z : Addr → Prop} {e ea eb : Expr} {c ca cb : CE} {cl : CL} {pos : Pos} {st : Stmt} {rest : List Stmt} {a b : CS} {t : CT}

theorem db_nil : Db X S Z [] sNil := PSs.imp pss_nil fun D σ H ⟨en, R, w⟩ => w σ H (Ext.refl H) R
theorem db_one (h : Ds X S Z st a) : Db X S Z [st] a := pss_one h
theorem db_cons (h : Ds X S Z st a) (h2 : Db X S Z rest b) : Db X S Z (st :: rest) (sSeq a b) := by
  refine PSs.imp (pss_cons h h2) fun D σ H ⟨en, R, w⟩ => ⟨en, R, M.wp_mono (fun r q => ?_) (M.wp_bind.mp w)⟩
  match r, q with
  | (.nx, e1), q => exact fun σ' H' x R' => ⟨e1, R', M.wp_mono (fun r q => SEnd.ext x q) q⟩
  | (.bk, e1), q => exact q
  | (.ct, e1), q => exact q
  | (.rt d, e1), q => exact q
theorem ds_ret (h : Dv X S Z e c) : Ds X S Z (.Return (some e) pos) (sRet c) :=
  PS.imp (ps_ret h) fun D σ H ⟨en, R, w⟩ => ⟨en, R, M.wp_mono (fun d q v H' s k r => q v H' (R.ext s) k r) (M.wp_bind.mp w)⟩
theorem ds_retN : Ds X S Z (.Return none pos) (sRet (cC .none)) :=
  PS.imp ps_retN fun D σ H ⟨en, R, w⟩ => w _ H (Ext.refl H) R.src .non
theorem ds_drop (h : Dv X S Z e c) (hs : swapsWith e none pos.line X.env = pure false := by rfl) : Ds X S Z (.Expr e pos) (sDrop c) :=
  PS.imp (ps_expr h hs) fun D σ H ⟨en, R, w⟩ => ⟨en, R, M.wp_mono (fun d q v H' s k r => q σ H' (R.ext s) (R.same s k)) (M.wp_bind.mp w)⟩
theorem ds_doc {x j pos pos'} : Ds X S Z (.Expr (.Constant (.str x) j pos) pos') sNil := PS.imp ps_doc fun D σ H ⟨en, R, w⟩ => w σ H (Ext.refl H) R
theorem ds_cont : Ds X S Z (.Continue pos) sCont := PS.imp ps_continue fun D σ H ⟨en, R, w⟩ => w σ H (Ext.refl H) R
theorem ds_brk : Ds X S Z (.Break pos) sBrk := PS.imp ps_break fun D σ H ⟨en, R, w⟩ => w σ H (Ext.refl H) R
theorem ds_if {ss ts : List Stmt} (h : Dt X S Z e t) (ha : Db X S Z ss a) (hb : Db X S Z ts b) : Ds X S Z (.If e ss ts pos) (sIf t a b) :=
  PS.imp (ps_if h ha hb) fun D σ H ⟨en, R, w⟩ => ⟨en, R, M.wp_mono (fun d q H' s k => by
    cases d with
    | true => exact ⟨en, R.same s k, M.wp_mono (fun r q => SEnd.ext (R.ext s) q) q⟩
    | false => exact ⟨en, R.same s k, M.wp_mono (fun r q => SEnd.ext (R.ext s) q) q⟩) (M.wp_bind.mp w)⟩
/-- a statement that is never reached -/
theorem ds_never {c : CS} (h : ∀ e, c e = .bad) : Ds X S Z st c := PS.imp ps_never fun D σ H ⟨en, R, w⟩ => by rw [h] at w; exact w

/-! ### stores -/
theorem ds_set {i : Nat} {x : Str} {pos' : Pos} (hN : X.N.Nodup) (hi : X.N[i]? = some x) (hx : Loc X.env.scope x) (he : Dv X S Z e c) (hs : swapsWith e (some (.Name x pos')) pos.line X.env = pure false := by rfl)
    (hf : X.fn x = true ∨ X.env.scope.names.lookup x = some .local := by first | exact .inl rfl | exact .inr rfl | assumption) : Ds X S Z (.Assign [.Name x pos'] e pos) (sSet i c) :=
  PS.imp (ps_set hN hi hx he hs hf) fun D σ H ⟨en, R, w⟩ => ⟨en, R, M.wp_mono (fun d q => by intro v H' s k r; exact q _ H' (R.ext s) ((R.same s k).set r)) (M.wp_bind.mp w)⟩
/-- a new thing of the frame's own comes to a slot -/
theorem Rel.put {K : PySem.W.Frag} {σ : L2.St} {H H' : Hp} {en : En} (R : Rel K S Z σ H en) (h : SameX S H H') (k : SrcOk S H') {i : Nat} {a : Addr} {s : Sl} (n : H a = none) (r : RelSl K S Z H' (some (.ref a)) s) (hs : isOwn s = true) :
    Rel K S Z (σ.set i (some (.ref a))) H' (en.set i s) := by
  have R' := R.same h k
  have old : ∀ j, ownE en j → σ[j]? ≠ some (some (.ref a)) := fun j ⟨s', h1, h2⟩ q => by
    have z := R.sl j s' h1
    rw [get_join q] at z
    cases z with
    | no => cases h2
    | val r => cases h2
    | own _ _ e _ => rw [n] at e; cases e
    | ownK _ _ e _ => rw [n] at e; cases e
    | ownT _ _ e _ => rw [n] at e; cases e
    | src q => cases h2
  refine ⟨by rw [List.length_set, List.length_set, R.len], fun j t hj => ?_, fun j l b jl hj hl h1 h2 => ?_, k, R'.zal, R.zs⟩
  · by_cases ij : i = j
    · subst ij
      by_cases hl : i < en.length
      · rw [List.getElem?_set_self hl] at hj; cases hj
        rw [List.getElem?_set_self (by rw [R.len]; exact hl)]
        exact r
      · rw [List.getElem?_eq_none (by rw [List.length_set]; omega)] at hj; cases hj
    · rw [List.getElem?_set_ne ij] at hj ⊢
      exact R'.sl j t hj
  · have at_i : ∀ {c : Addr}, (σ.set i (some (.ref a)))[i]? = some (some (.ref c)) → c = a := fun {c} q => by
      by_cases hl : i < σ.length
      · rw [List.getElem?_set_self hl] at q; cases q; rfl
      · rw [List.getElem?_eq_none (by rw [List.length_set]; omega)] at q; cases q
    by_cases ij : j = i
    · subst ij
      have e := at_i h1
      subst e
      rw [List.getElem?_set_ne jl] at h2
      exact old l (ownE_set_ne hl (Ne.symm jl)) h2
    · rw [List.getElem?_set_ne (Ne.symm ij)] at h1
      by_cases il : l = i
      · subst il
        have e := at_i h2
        subst e
        exact old j (ownE_set_ne hj ij) h1
      · rw [List.getElem?_set_ne (Ne.symm il)] at h2
        exact R.dis j l b jl (ownE_set_ne hj ij) (ownE_set_ne hl il) h1 h2
theorem Rel.notZ {K : PySem.W.Frag} {σ : L2.St} {H : Hp} {en : En} (R : Rel K S Z σ H en) {a : Addr} (n : H a = none) : ¬ Z a := fun z => by
  obtain ⟨o, e⟩ := R.zal a z
  rw [n] at e; cases e
theorem ds_own {i : Nat} {x : Str} {pos' : Pos} (hN : X.N.Nodup) (hi : X.N[i]? = some x) (hx : Loc X.env.scope x) (he : Dl X S Z e cl) (hs : swapsWith e (some (.Name x pos')) pos.line X.env = pure false := by rfl)
    (hf : X.fn x = true ∨ X.env.scope.names.lookup x = some .local := by first | exact .inl rfl | exact .inr rfl | assumption) : Ds X S Z (.Assign [.Name x pos'] e pos) (sOwn i cl) :=
  PS.imp (ps_set hN hi hx he hs hf) fun D σ H ⟨en, R, w⟩ => ⟨en, R, M.wp_mono (fun ds q => by intro a xs H' s k n e r; exact q _ H' (R.ext s) (R.put s k n (.own (not_new R.src n) (R.notZ n) e r) rfl)) (M.wp_bind.mp w)⟩
/-- the thing of a slot is locked -/
theorem Rel.lock {K : PySem.W.Frag} {σ : L2.St} {H : Hp} {en : En} (R : Rel K S Z σ H en) {i : Nat} {a : Addr} {u : HO} {o : Obj} {d : PyData} (hi : σ[i]? = some (some (.ref a))) (ho : ownE en i) (n : ¬ inS S a) (z : ¬ Z a) (h : H a = some u)
    (hu : (∃ xs, u = .lst xs) ∨ (∃ ks, u = .dK ks) ∨ ∃ ks, u = DTO ks) (r : Rep K (upd H a (.frz o u)) (.ref a) d) : Ext Z H (upd H a (.frz o u)) ∧ Rel K S Z σ (upd H a (.frz o u)) (en.set i (.val d)) := by
  have ne : ∀ {b : Addr} {v : HO}, H b = some v → ((∀ xs, v ≠ .lst xs) ∧ (∀ ks, v ≠ .dK ks) ∧ ∀ ks, v ≠ DTO ks) → b ≠ a := fun {b v} e nn z => by
    subst z; rw [h] at e; cases e
    rcases hu with ⟨xs, rfl⟩ | ⟨ks, rfl⟩ | ⟨ks, rfl⟩
    · exact nn.1 _ rfl
    · exact nn.2.1 _ rfl
    · exact nn.2.2 _ rfl
  have kp : Kp H (upd H a (.frz o u)) := ⟨fun b xs e => by rw [upd_ne (ne e ⟨(fun _ q => nomatch q), (fun _ q => nomatch q), (fun _ q => nomatch q)⟩)]; exact e, fun b ob v e => by rw [upd_ne (ne e ⟨(fun _ q => nomatch q), (fun _ q => nomatch q), (fun _ q => nomatch q)⟩)]; exact e⟩
  have zz : ∀ b v, Z b → H b = some v → upd H a (.frz o u) b = some v := fun b v zb e => by rw [upd_ne (fun q => z (by rw [← q]; exact zb))]; exact e
  refine ⟨⟨kp, zz⟩, ?_⟩
  have src : SrcOk S (upd H a (.frz o u)) := by
    have k := R.src
    match S, k, n with
    | none, _, _ => trivial
    | some (s, c), ⟨n1, cells, l, m, t, h1, h2, rr⟩, n =>
      refine ⟨n1, cells, l, m, t, ?_, ?_, rr⟩
      · rw [upd_ne (fun q => n (.inr q.symm))]; exact h1
      · rw [upd_ne (fun q => n (.inl q.symm))]; exact h2
  -- the slots but i
  have hlen : i < en.length := by
    obtain ⟨s', h1, _⟩ := ho
    exact (List.getElem?_eq_some_iff.mp h1).1
  refine ⟨by rw [List.length_set]; exact R.len, fun j t hj => ?_, fun j l b jl hj hl h1 h2 => R.dis j l b jl (ownE_set_val hj) (ownE_set_val hl) h1 h2, src, fun b zb => let ⟨v, e⟩ := R.zal b zb; ⟨v, zz b v zb e⟩, R.zs⟩
  by_cases ij : i = j
  · subst ij
    rw [List.getElem?_set_self hlen] at hj; cases hj
    rw [get_join hi]
    exact .val r
  · rw [List.getElem?_set_ne ij] at hj
    have q := R.sl j t hj
    generalize qe : σ[j]?.join = oj at q
    have nea : ∀ {b : Addr}, oj = some (.ref b) → isOwn t = true → b ≠ a := fun {b} e1 e2 z => by
      subst e1; subst z
      exact R.dis i j b ij ho ⟨t, hj, e2⟩ hi (join_some qe)
    cases q with
    | no => exact .no
    | val r => exact .val (r.kp kp)
    | own n z e r => exact .own n z (by rw [upd_ne (nea rfl rfl)]; exact e) (r.kp kp)
    | ownK n z e r => exact .ownK n z (by rw [upd_ne (nea rfl rfl)]; exact e) (r.kp kp)
    | ownT n z e r => exact .ownT n z (by rw [upd_ne (nea rfl rfl)]; exact e) (r.kp kp)
    | src q => exact .src q
theorem db_frz {i : Nat} (h : Db X S Z rest a) : Db X S Z rest (sFrz i a) := by
  refine ⟨fun pins s σ H D I ⟨en, R, w⟩ => ?_⟩
  unfold sFrz at w
  split at w
  · rename_i ds hd
    obtain ⟨ad, xs, h1, n, z, h2, h3⟩ := R.own hd
    obtain ⟨o, I'⟩ := Inv.lock I h2 (.inl ⟨_, rfl⟩)
    have kp : Kp H (upd H ad (.frz o (.lst xs))) := ⟨fun b ys e => by rw [upd_ne (fun q => by subst q; rw [h2] at e; cases e)]; exact e, fun b ob u e => by rw [upd_ne (fun q => by subst q; rw [h2] at e; cases e)]; exact e⟩
    obtain ⟨x, R'⟩ := R.lock (o := o) h1 ⟨_, hd, rfl⟩ n z h2 (.inl ⟨_, rfl⟩) (d := .list ds) (.lst ⟨o, upd_same⟩ (h3.kp kp))
    exact h.run pins s σ _ D I' ⟨_, R', M.wp_mono (fun r q => SEnd.ext x q) w⟩
  · rename_i ds hd
    obtain ⟨ad, h1, n, z, h2⟩ := R.ownD hd
    rcases h2 with ⟨ks, h2, h3⟩ | ⟨ks, h2, h3⟩
    · obtain ⟨o, I'⟩ := Inv.lock I h2 (.inr (.inl ⟨_, rfl⟩))
      have kp : Kp H (upd H ad (.frz o (.dK ks))) := ⟨fun b ys e => by rw [upd_ne (fun q => by subst q; rw [h2] at e; cases e)]; exact e, fun b ob u e => by rw [upd_ne (fun q => by subst q; rw [h2] at e; cases e)]; exact e⟩
      obtain ⟨x, R'⟩ := R.lock (o := o) h1 ⟨_, hd, rfl⟩ n z h2 (.inr (.inl ⟨_, rfl⟩)) (d := .dict ds) (.dK ⟨o, upd_same⟩ (h3.kp kp))
      exact h.run pins s σ _ D I' ⟨_, R', M.wp_mono (fun r q => SEnd.ext x q) w⟩
    · obtain ⟨o, I'⟩ := Inv.lock I h2 (.inr (.inr ⟨_, rfl⟩))
      have kp : Kp H (upd H ad (.frz o (DTO (ad, ks)))) := ⟨fun b ys e => by rw [upd_ne (fun q => by subst q; rw [h2] at e; cases e)]; exact e, fun b ob u e => by rw [upd_ne (fun q => by subst q; rw [h2] at e; cases e)]; exact e⟩
      obtain ⟨x, R'⟩ := R.lock (o := o) h1 ⟨_, hd, rfl⟩ n z h2 (.inr (.inr ⟨_, rfl⟩)) (d := .dict ds) (.dT ⟨o, upd_same⟩ (h3.kp kp))
      exact h.run pins s σ _ D I' ⟨_, R', M.wp_mono (fun r q => SEnd.ext x q) w⟩
  · exact w.elim
end
end DL
namespace DL
open PySem PySem.Spec PyProof.Rows L2

/-! ### walks -/
/-- from H1 on, as long as what stands still stands, it gives what stands for ds, one by one -/
structure Wk (Z : Addr → Prop) (K : PySem.W.Frag) (J : It) (ds : List PyData) (H1 : Hp) : Prop where
  go : ∀ i H d, ds[i]? = some d → Kp H1 H → J.go i H ∧ ∀ x H', J.yld i H x H' → Same H H' ∧ Rep K H' x d
  stop : ∀ H, Kp H1 H → J.stop ds.length H
def tI (S : SrcA) (Z : Addr → Prop) (K : PySem.W.Frag) (ci : CL) : TI := fun σ H R => ∃ e, Rel K S Z σ H e ∧ (ci e).wp fun ds => ∀ J H1, SameX S H H1 → SrcOk S H1 → Wk Z K J ds H1 → R J H1
abbrev Di (X : Cx) (S : SrcA) (Z : Addr → Prop) (tg iter : Expr) (ci : CL) : Prop := PI X tg iter (tI S Z X.K ci)
theorem PI.imp {X : Cx} {tg e : Expr} {t t' : TI} (h : PI X tg e t) (i : ∀ σ H Q, t' σ H Q → t σ H Q) : PI X tg e t' := ⟨fun pins s σ H Q I q => h.run pins s σ H Q I (i σ H Q q)⟩
section
variable {X : Cx} {S : SrcA} {Z : Addr → Prop} {tg e ea eb : Expr} {c ca cb : CE} {pos p : Pos}
/-- a list or a tuple -/
theorem pi_seq {l : Expr} {tl : TE} (hl : PE X l tl) : PI X tg l (fun σ H R => tl σ H fun x H1 => ∃ a, x = .ref a ∧ (((∃ xs, SqL X.K H1 a xs) ∧ R (Itl X.K a) H1) ∨ ((∃ xs, SqT X.K H1 a xs) ∧ R (Itt X.K a) H1))) := by
  refine ⟨fun pins s σ H R I h => ?_⟩
  refine thn (hl.run pins s σ H _ I h) fun v s1 ⟨x, H1, I1, r1, a, ex, q1⟩ => ?_
  subst ex
  cases r1
  have fp : ∀ b ∈ [s1.heap.objs.size], FpOk X pins H1 b := fun b hb => by
    obtain rfl : b = s1.heap.objs.size := by simpa using hb
    exact I1.fpOk (Nat.le_refl _) (I1.hok.fresh (Nat.le_refl _))
  rcases q1 with ⟨⟨xs, hq⟩, q⟩ | ⟨⟨xs, hq⟩, q⟩
  · obtain ⟨its, rv, p, hz⟩ := I1.list hq
    exact wpAny_pyIter_list p.isList ⟨_, _, _, _, H1, rfl, I1.kept (t' := s1.toks) fun b o e => Heap.get?_push_of_some _ e, turn_list a _, ⟨_, Heap.get?_push_size _ rfl, rfl, rfl⟩, fp, q⟩
  · obtain ⟨its, rv, p, hz⟩ := I1.tuple hq
    exact wpAny_pyIter_tuple p ⟨_, _, _, _, H1, rfl, I1.kept (t' := s1.toks) fun b o e => Heap.get?_push_of_some _ e, turn_tuple a _, ⟨_, Heap.get?_push_size _ rfl, rfl, rfl⟩, fp, q⟩
theorem wk_list {K : PySem.W.Frag} {H1 : Hp} {a : Addr} {xs : List V} {ds : List PyData} (h : LsF H1 a xs) (r : RepA K H1 xs ds) : Wk Z K (Itl K a) ds H1 := by
  refine ⟨fun i H d hd k => ?_, fun H k => ⟨xs, .inl (.inr (h.kp k)), by rw [r.length]; exact Nat.le_refl _⟩⟩
  obtain ⟨v, hv, rv⟩ := r.get hd
  have q : SqL K H a xs := .inl (.inr (h.kp k))
  refine ⟨⟨xs, v, q, hv⟩, fun x H' y => ?_⟩
  obtain ⟨rfl, y⟩ := y
  cases hv.symm.trans (y xs q)
  exact ⟨Same.refl _, rv.kp k⟩
theorem wk_tup {K : PySem.W.Frag} {H1 : Hp} {a : Addr} {xs : List V} {ds : List PyData} (h : SqT K H1 a xs) (r : RepA K H1 xs ds) : Wk Z K (Itt K a) ds H1 := by
  refine ⟨fun i H d hd k => ?_, fun H k => ⟨xs, sqT_kp k h, by rw [r.length]; exact Nat.le_refl _⟩⟩
  obtain ⟨v, hv, rv⟩ := r.get hd
  have q : SqT K H a xs := sqT_kp k h
  refine ⟨⟨xs, v, q, hv⟩, fun x H' y => ?_⟩
  obtain ⟨rfl, y⟩ := y
  cases hv.symm.trans (y xs q)
  exact ⟨Same.refl _, rv.kp k⟩
theorem di_seq (h : Dv X S Z e c) : Di X S Z tg e (ciSeq c) := by
  refine PI.imp (pi_seq h) fun σ H R ⟨en, Rl, w⟩ => ⟨en, Rl, M.wp_mono (fun d wd v H1 s k r => ?_) (M.wp_bind.mp w)⟩
  cases r with
  | lst h1 h2 => exact ⟨_, rfl, .inl ⟨⟨_, .inl (.inr h1)⟩, wd _ H1 s k (wk_list h1 h2)⟩⟩
  | tup h1 h2 => exact ⟨_, rfl, .inr ⟨⟨_, h1⟩, wd _ H1 s k (wk_tup h1 h2)⟩⟩
  | _ => exact wd.elim
theorem intsFrom_get {lo : Int} {n i : Nat} {d : PyData} (h : (intsFrom lo n)[i]? = some d) : i < n ∧ d = .int (lo + (i : Int)) := by
  unfold intsFrom at h
  rw [List.getElem?_map] at h
  cases q : (List.range n)[i]? with
  | none => rw [q] at h; cases h
  | some j =>
    rw [q] at h
    obtain ⟨h1, h2⟩ := List.getElem?_eq_some_iff.mp q
    rw [List.length_range] at h1
    rw [List.getElem_range] at h2
    subst h2
    cases h
    exact ⟨h1, rfl⟩
theorem intsFrom_len (lo : Int) (n : Nat) : (intsFrom lo n).length = n := by unfold intsFrom; rw [List.length_map, List.length_range]
theorem wk_range {K : PySem.W.Frag} {H1 : Hp} (lo : Int) (n : Nat) : Wk Z K (Itr lo n) (intsFrom lo n) H1 := by
  refine ⟨fun i H d hd k => ?_, fun H k => ?_⟩
  · obtain ⟨hi, rfl⟩ := intsFrom_get hd
    refine ⟨hi, fun x H' y => ?_⟩
    obtain ⟨rfl, rfl⟩ := y
    exact ⟨Same.refl _, .int _⟩
  · show n ≤ _
    rw [intsFrom_len]
    exact Nat.le_refl _
theorem asI_wp {d : PyData} {Q : Int → Prop} (h : (asI d).wp Q) : ∃ i, d = .int i ∧ Q i := by
  cases d <;> first | exact h.elim | exact ⟨_, rfl, h⟩
theorem di_range1 (hg : Gl X "range") (hm : X.mg "range" = none) (h : Dp X S Z ea ca) (hs : starEach [ea] X.env = [(false, eval ea X.env)] := by rfl) (hs' : starEach [ea] X.env = (false, eval ea X.env) :: starEach [] X.env := by rfl) : Di X S Z tg (.Call (.Name "range" p) [ea] [] pos) (ciRange1 ca) := by
  refine PI.imp (pi_range1 hg hm (dap_cons h dap_nil hs') hs) fun σ H R ⟨en, Rl, w⟩ => ⟨en, Rl, ?_⟩
  refine M.wp_bind.mpr (M.wp_mono (fun d wd => ?_) (M.wp_bind.mp w))
  obtain ⟨i, rfl, q⟩ := asI_wp (M.wp_bind.mp wd)
  obtain ⟨hb, q⟩ := wp_if q
  obtain ⟨b1, b2⟩ := inB_iff hb
  intro vs H1 s k r
  cases r with
  | cons r rr =>
    cases rr
    exact ⟨i, by rw [RepP.int r], b1, b2, q _ H1 s k (wk_range 0 i.toNat)⟩
theorem di_range2 (hg : Gl X "range") (hm : X.mg "range" = none) (h : Dp X S Z ea ca) (h2 : Dp X S Z eb cb) (hs : starEach [ea, eb] X.env = [(false, eval ea X.env), (false, eval eb X.env)] := by rfl) (hs2 : starEach [eb] X.env = [(false, eval eb X.env)] := by rfl)
    (hs' : starEach [ea, eb] X.env = (false, eval ea X.env) :: starEach [eb] X.env := by rfl) (hs2' : starEach [eb] X.env = (false, eval eb X.env) :: starEach [] X.env := by rfl) : Di X S Z tg (.Call (.Name "range" p) [ea, eb] [] pos) (ciRange2 ca cb) := by
  refine PI.imp (pi_range2 hg hm (dap_cons h (dap_cons h2 dap_nil hs2') hs') hs hs2) fun σ H R ⟨en, Rl, w⟩ => ⟨en, Rl, ?_⟩
  refine M.wp_bind.mpr (M.wp_mono (fun d wd => ?_) (M.wp_bind.mp w))
  refine M.wp_bind.mpr (M.wp_bind.mpr (M.wp_mono (fun d2 wd2 => ?_) (M.wp_bind.mp wd)))
  obtain ⟨i, rfl, q⟩ := asI_wp (M.wp_bind.mp wd2)
  obtain ⟨j, rfl, q⟩ := asI_wp (M.wp_bind.mp q)
  obtain ⟨hb, q⟩ := wp_if q
  obtain ⟨hb1, hb2⟩ := Bool.and_eq_true_iff.mp hb
  obtain ⟨b1, b2⟩ := inB_iff hb1
  obtain ⟨b3, b4⟩ := inB_iff hb2
  intro vs H1 s k r
  cases r with
  | cons r rr =>
    cases rr with
    | cons r2 rr =>
      cases rr
      exact ⟨i, j, by rw [RepP.int r, RepP.int r2], ⟨b1, b2, b3, b4⟩, q _ H1 s k (wk_range i (j - i).toNat)⟩

/-! ### targets -/
/-- only the slots told are stored -/
def Only (is : List Nat) (σ σ' : L2.St) : Prop := σ'.length = σ.length ∧ ∀ j : Nat, j ∉ is → σ'[j]? = σ[j]?
def tGd (S : SrcA) (Z : Addr → Prop) (K : PySem.W.Frag) (g : CG) (is : List Nat) : TG := fun v σ H Q => ∃ e d, Rel K S Z σ H e ∧ Rep K H v d ∧ (g e d).wp fun e' => ∀ σ', Rel K S Z σ' H e' → Only is σ σ' → Q σ' H
def tGds (S : SrcA) (Z : Addr → Prop) (K : PySem.W.Frag) (gs : List CG) (is : List Nat) : TGs := fun vs σ H Q => ∃ e ds, Rel K S Z σ H e ∧ RepA K H vs ds ∧ (gGo gs e ds).wp fun e' => ∀ σ', Rel K S Z σ' H e' → Only is σ σ' → Q σ' H
abbrev Dg (X : Cx) (S : SrcA) (Z : Addr → Prop) (tg : Expr) (g : CG) (is : List Nat) : Prop := PG X tg (tGd S Z X.K g is)
abbrev Dgs (X : Cx) (S : SrcA) (Z : Addr → Prop) (tgs : List Expr) (gs : List CG) (is : List Nat) : Prop := PGs X tgs (tGds S Z X.K gs is)
theorem PG.imp {X : Cx} {tg : Expr} {t t' : TG} (h : PG X tg t) (i : ∀ v σ H Q, t' v σ H Q → t v σ H Q) : PG X tg t' := ⟨fun pins s σ H v u Q I r q => h.run pins s σ H v u Q I r (i v σ H Q q)⟩
theorem PGs.imp {X : Cx} {tg : List Expr} {t t' : TGs} (h : PGs X tg t) (i : ∀ v σ H Q, t' v σ H Q → t v σ H Q) : PGs X tg t' := ⟨fun pins s σ H v u Q I r q => h.run pins s σ H v u Q I r (i v σ H Q q)⟩
theorem Only.refl (is : List Nat) (σ : L2.St) : Only is σ σ := ⟨rfl, fun _ _ => rfl⟩
theorem Only.set (i : Nat) (σ : L2.St) (o : Option V) : Only [i] σ (σ.set i o) := ⟨List.length_set .., fun j hj => List.getElem?_set_ne (fun e => hj (by rw [e]; exact List.mem_cons_self))⟩
theorem Only.trans {is js : List Nat} {σ σ1 σ2 : L2.St} (a : Only is σ σ1) (b : Only js σ1 σ2) : Only (is ++ js) σ σ2 :=
  ⟨b.1.trans a.1, fun j hj => (b.2 j fun h => hj (List.mem_append_right _ h)).trans (a.2 j fun h => hj (List.mem_append_left _ h))⟩
theorem dg_name {i : Nat} {x : Str} (hN : X.N.Nodup) (hi : X.N[i]? = some x) (hx : Loc X.env.scope x) (hf : X.fn x = true ∨ X.env.scope.names.lookup x = some .local := by first | exact .inl rfl | exact .inr rfl | assumption) : Dg X S Z (.Name x pos) (gSet i) [i] :=
  PG.imp (pg_name hN hi hx hf) fun v σ H Q ⟨en, d, R, r, w⟩ => w _ (R.set r) (Only.set i σ _)
theorem dgs_nil : Dgs X S Z [] [] [] := by
  refine PGs.imp pgs_nil fun vs σ H Q ⟨en, ds, R, r, w⟩ => ?_
  cases r with
  | nil => exact ⟨rfl, w σ R (Only.refl _ _)⟩
  | cons _ _ => exact w.elim
theorem dgs_cons {t : Expr} {ts : List Expr} {g : CG} {gs : List CG} {is js : List Nat} (h : Dg X S Z t g is) (h2 : Dgs X S Z ts gs js) (hs : (assignEach (t :: ts) X.env).map (·.2) = assign t X.env :: (assignEach ts X.env).map (·.2) := by rfl) : Dgs X S Z (t :: ts) (g :: gs) (is ++ js) := by
  refine PGs.imp (pgs_cons h h2 hs) fun vs σ H Q ⟨en, ds, R, r, w⟩ => ?_
  cases r with
  | nil => exact w.elim
  | cons r rr => exact ⟨_, _, rfl, en, _, R, r, M.wp_mono (fun e' w' σ' R' o => ⟨e', _, R', rr, M.wp_mono (fun e2 q σ2 R2 o2 => q σ2 R2 (o.trans o2)) w'⟩) (M.wp_bind.mp w)⟩
theorem gGo_len {gs : List CG} : ∀ {e : En} {ds : List PyData} {Q : En → Prop}, (gGo gs e ds).wp Q → ds.length = gs.length := by
  induction gs with
  | nil => intro e ds Q h; cases ds with
    | nil => rfl
    | cons _ _ => exact h.elim
  | cons g gs ih => intro e ds Q h; cases ds with
    | nil => exact h.elim
    | cons d ds =>
      have q := M.wp_bind.mp h
      have z : ∀ {m : M En}, m.wp (fun e' => (gGo gs e' ds).wp Q) → ds.length = gs.length := fun {m} hm => by
        induction m with
        | ret a => exact ih hm
        | bad => exact hm.elim
        | pick n k ihk =>
          have h0 : (0 : Int) < max 1 n := by omega
          exact ihk 0 (hm 0 (Int.le_refl 0) h0)
      rw [List.length_cons, List.length_cons, z q]
theorem dg_tup {es : List Expr} {k : Nat} {gs : List CG} {is : List Nat} (hc : X.calm = true) (h : Dgs X S Z es gs is) (hn : (assignEach es X.env).length = gs.length := by rfl) (hst : (assignEach es X.env).findIdx? (·.1) = none := by rfl) : Dg X S Z (.Tuple es k pos) (gTup gs) is := by
  refine PG.imp (pg_tup hc h hn hst) fun v σ H Q ⟨en, d, R, r, w⟩ => ?_
  cases r with
  | tup h1 h2 =>
    refine ⟨_, _, rfl, h1, ?_, en, _, R, h2, w⟩
    rw [h2.length]
    exact gGo_len w
  | _ => exact w.elim
theorem ds_asg {tg e : Expr} {g : CG} {is : List Nat} (he : Dv X S Z e c) (hg : Dg X S Z tg g is) (hs : swapsWithSole [tg] e pos.line X.env = pure false := by rfl) (hw : swappedStores [tg] e X.env = pure none := by rfl)
    (h1 : (assignEach [tg] X.env).map (·.2) = [assign tg X.env] := by rfl) : Ds X S Z (.Assign [tg] e pos) (sAsg g c) :=
  PS.imp (ps_asg he hg hs hw h1) fun D σ H ⟨en, R, w⟩ => ⟨en, R, M.wp_mono (fun d wd => by
    intro v H1 s k r
    exact ⟨en, d, R.same s k, r, M.wp_mono (fun e' q σ' R' o => q σ' H1 (R.ext s) R') (M.wp_bind.mp wd)⟩) (M.wp_bind.mp w)⟩

/-! ### for, while -/
theorem ds_for {iter : Expr} {body : List Stmt} {ci : CL} {g : CG} {is : List Nat} {cb : CS} (hp : PassesOwn (model X.prog X.w) X.A X.env X.xe) (hc : X.calm = true) (hi : Di X S Z tg iter ci) (hg : Dg X S Z tg g is) (hb : Db X S Z body cb)
    (hs : ∀ x, foldedSetIterable iter X.env x = pure x := by intro _; rfl) : Ds X S Z (.For tg iter body [] pos) (sFor ci g cb) := by
  refine PS.imp (ps_for hp hc hi hg hb hs) fun D σ H ⟨en, R, w⟩ => ⟨en, R, M.wp_mono (fun ds wd J H1 s k wk => ?_) (M.wp_bind.mp w)⟩
  refine ⟨fun i m σ2 H2 => m = ds.length - i ∧ i ≤ ds.length ∧ Ext Z H H2 ∧ Kp H1 H2 ∧ ∃ e2, Rel X.K S Z σ2 H2 e2 ∧ (forGo g cb (ds.drop i) e2).wp (SEnd S Z X.K H D), ⟨ds.length, by simp, Nat.zero_le _, R.ext s, Kp.refl _, en, R.same s k, wd⟩, ?_⟩
  rintro i m σ2 H2 ⟨rfl, hi, x2, k2, e2, R2, w2⟩
  by_cases hlt : i < ds.length
  · have hd : ds[i]? = some ds[i] := List.getElem?_eq_getElem hlt
    obtain ⟨go, yl⟩ := wk.go i H2 _ hd k2
    rw [List.drop_eq_getElem_cons hlt] at w2
    have w3 := M.wp_bind.mp w2
    refine .inr ⟨go, _, fun σ' H' h => ⟨ds.length - (i + 1), by omega, h⟩, fun x H' y => ?_⟩
    obtain ⟨s3, r3⟩ := yl x H' y
    have x3 : Ext Z H2 H' := ⟨.of s3, fun a o _ e => s3 a o e⟩
    refine ⟨e2, _, R2.same (.of s3) (R2.src.same s3), r3, M.wp_mono (fun e3 q σ3 R3 o3 => ⟨e3, R3, M.wp_mono (fun r q => ?_) (M.wp_bind.mp q)⟩) w3⟩
    match r, q with
    | (.nx, e4), q => exact fun σ4 H4 x4 R4 => ⟨rfl, hlt, (x2.trans x3).trans x4, (k2.trans (.of s3)).trans x4.kp, e4, R4, q⟩
    | (.ct, e4), q => exact fun σ4 H4 x4 R4 => ⟨rfl, hlt, (x2.trans x3).trans x4, (k2.trans (.of s3)).trans x4.kp, e4, R4, q⟩
    | (.bk, e4), q => exact fun σ4 H4 x4 R4 => q σ4 H4 ((x2.trans x3).trans x4) R4
    | (.rt d, e4), q => exact fun v H4 x4 k4 r4 => q v H4 ((x2.trans x3).trans x4) k4 r4
  · have e : i = ds.length := by omega
    subst e
    rw [List.drop_length] at w2
    exact .inl ⟨wk.stop H2 k2, w2 σ2 H2 x2 R2⟩
theorem ds_while {n : Nat} {et : Expr} {body : List Stmt} {t : CT} {cb : CS} (hp : PassesOwn (model X.prog X.w) X.A X.env X.xe) (ht : Dt X S Z et t) (hb : Db X S Z body cb) : Ds X S Z (.While et body [] pos) (sWhile n t cb) := by
  refine PS.imp (ps_while hp ht hb) fun D σ H ⟨en, R, w⟩ => ?_
  refine ⟨fun m σ2 H2 => Ext Z H H2 ∧ ∃ e2, Rel X.K S Z σ2 H2 e2 ∧ (whileGo t cb m e2).wp (SEnd S Z X.K H D), ⟨n, Ext.refl _, en, R, w⟩, ?_⟩
  rintro m σ2 H2 ⟨x2, e2, R2, w2⟩
  cases m with
  | zero => exact w2.elim
  | succ m =>
    refine ⟨e2, R2, M.wp_mono (fun b q H3 s3 k3 => ?_) (M.wp_bind.mp w2)⟩
    have R3 := R2.same s3 k3
    cases b with
    | false => exact q σ2 H3 (x2.trans (R2.ext s3)) R3
    | true =>
      refine ⟨_, fun σ' H' h => ⟨m, Nat.lt_succ_self m, h⟩, e2, R3, M.wp_mono (fun r q => ?_) (M.wp_bind.mp q)⟩
      match r, q with
      | (.nx, e4), q => exact fun σ4 H4 x4 R4 => ⟨(x2.trans (R2.ext s3)).trans x4, e4, R4, q⟩
      | (.ct, e4), q => exact fun σ4 H4 x4 R4 => ⟨(x2.trans (R2.ext s3)).trans x4, e4, R4, q⟩
      | (.bk, e4), q => exact fun σ4 H4 x4 R4 => q σ4 H4 ((x2.trans (R2.ext s3)).trans x4) R4
      | (.rt d, e4), q => exact fun v H4 x4 k4 r4 => q v H4 ((x2.trans (R2.ext s3)).trans x4) k4 r4

/-! ### comprehensions -/
abbrev Dts (X : Cx) (S : SrcA) (Z : Addr → Prop) (ifs : List Expr) (t : CT) : Prop := PTs X ifs (tDt S Z X.K t)
theorem PTs.imp {X : Cx} {e : List Expr} {t t' : TT} (h : PTs X e t) (i : ∀ σ H Q, t' σ H Q → t σ H Q) : PTs X e t' := ⟨fun pins s σ H Q I q => h.run pins s σ H Q I (i σ H Q q)⟩
theorem dts_nil : Dts X S Z [] ctYes := PTs.imp pts_nil fun σ H Q ⟨en, R, w⟩ => w H (SameX.refl H) R.src
theorem dts_one {t : CT} (h : Dt X S Z e t) : Dts X S Z [e] t := pts_one h
theorem wipe_in {σ : L2.St} {j : Nat} : ∀ {vs : List Nat}, j ∈ vs → j < σ.length → (L2.wipe σ vs)[j]? = some none
  | v :: vs, h, hl => by
    unfold L2.wipe
    by_cases e : v = j
    · subst e
      rw [List.getElem?_set_self (by rw [wipe_length]; exact hl)]
    · rw [List.getElem?_set_ne e]
      rcases List.mem_cons.mp h with q | q
      · exact absurd q.symm e
      · exact wipe_in q hl
theorem wipe_only {σ σ' : L2.St} {is vs : List Nat} (o : Only is (L2.wipe σ vs) σ') (h : ∀ i ∈ is, i ∈ vs) : L2.wipe σ' vs = L2.wipe σ vs := by
  apply List.ext_getElem?
  intro j
  have hl : σ'.length = σ.length := o.1.trans (wipe_length _ _)
  by_cases hj : j ∈ vs
  · by_cases hs : j < σ.length
    · rw [wipe_in hj hs, wipe_in hj (by omega)]
    · rw [List.getElem?_eq_none (by rw [wipe_length]; omega), List.getElem?_eq_none (by rw [wipe_length]; omega)]
  · rw [wipe_out hj, o.2 j fun z => hj (h j z)]
theorem wp_noif {α : Type} {c : Prop} [Decidable c] {m : M α} {Q : α → Prop} (h : (if c then m else .bad).wp Q) : m.wp Q := (wp_if h).2
variable {elt iter : Expr} {ifs : List Expr} {scope : Scope} {own : List (Str × Nat)} {ci : CL} {g : CG} {is : List Nat} {t : CT}
theorem tLc_of {σ : L2.St} {H : Hp} {Q : VK} {K : PySem.W.Frag} (hin : ∀ i ∈ is, i ∈ own.map (·.2)) (h : tDl S Z K (clComp (own.map (·.2)) ci g t c) σ H Q) :
    tLc (tI S Z K ci) (tGd S Z K g is) (tDt S Z K t) (tD S Z K (RV K) c) (own.map (·.2)) σ H Q := by
  obtain ⟨en, R, w⟩ := h
  refine ⟨en, R, M.wp_mono (fun ds wd J H1 s1 k1 wk D hD => ?_) (M.wp_bind.mp w)⟩
  obtain ⟨hfit, wd⟩ := wp_if wd
  have hfit : ds.length ≤ sizeLine := of_decide_eq_true hfit
  have R1 := R.same s1 k1
  have hD0 : H D = none := by
    cases q : H D with
    | none => rfl
    | some o =>
      by_cases z : inS S D
      · have := not_new k1 hD
        exact absurd z this
      · rw [s1 D o z q] at hD; cases hD
  have nD : ¬ inS S D := not_new k1 hD
  have srcD : ∀ {H4 : Hp} {u : HO}, SrcOk S H4 → SrcOk S (upd H4 D u) := fun {H4 u} k => by
    match S, k, nD with
    | none, _, _ => trivial
    | some (s, c), ⟨n1, cells, l, m, t, h1, h2, rr⟩, n =>
      refine ⟨n1, cells, l, m, t, ?_, ?_, rr⟩
      · rw [upd_ne (fun q => n (.inr q.symm))]; exact h1
      · rw [upd_ne (fun q => n (.inl q.symm))]; exact h2
  refine ⟨fun i m H2 => m = ds.length - i ∧ i ≤ ds.length ∧ SameX S H1 H2 ∧ SrcOk S H2 ∧ ∃ acc dacc, H2 D = some (.lst acc) ∧ acc.length ≤ i ∧ RepA K H2 acc dacc ∧
      (compGo g t c (wipeE en (own.map (·.2))) (ds.drop i)).wp fun r => ∀ a xs H', SameX S H H' → SrcOk S H' → H a = none → H' a = some (.lst xs) → RepA K H' xs (dacc ++ r) → Q (.ref a) H',
    ⟨ds.length, by simp, Nat.zero_le _, fun b o _ e => by rw [upd_ne (ne_of_none e hD)]; exact e, srcD k1, [], [], upd_same, Nat.le_refl _, .nil, wd⟩, ?_⟩
  rintro i m H2 ⟨rfl, hi, s2, k2, acc, dacc, hacc, hlen, racc, w2⟩
  have kp2 : Kp H1 H2 := s2.kp k1
  by_cases hlt : i < ds.length
  · have hd : ds[i]? = some ds[i] := List.getElem?_eq_getElem hlt
    obtain ⟨go, yl⟩ := wk.go i H2 _ hd kp2
    rw [List.drop_eq_getElem_cons hlt] at w2
    have w3 := M.wp_bind.mp w2
    refine .inr ⟨go, _, fun H' h => ⟨ds.length - (i + 1), by omega, h⟩, fun x H' y => ?_⟩
    obtain ⟨s3, r3⟩ := yl x H' y
    have R3 : Rel K S Z (L2.wipe σ (own.map (·.2))) H' (wipeE en (own.map (·.2))) := (R1.wipe _).same (s2.trans (.of s3)) (k2.same s3)
    refine ⟨_, _, R3, r3, M.wp_mono (fun e3 q σ3 R3' o3 => ⟨wipe_only o3 hin, ?_⟩) w3⟩
    refine ⟨e3, R3', M.wp_mono (fun b q H4 s4 k4 => ?_) (M.wp_bind.mp q)⟩
    have s24 : SameX S H2 H4 := (SameX.of s3).trans s4
    cases b with
    | false =>
      exact ⟨rfl, hlt, s2.trans s24, k4, acc, dacc, s24 D _ nD hacc, by omega, racc.kp (s24.kp k2), q⟩
    | true =>
      refine ⟨e3, R3'.same s4 k4, M.wp_mono (fun dy q v H5 s5 k5 r5 => ?_) (M.wp_bind.mp q)⟩
      have s25 : SameX S H2 H5 := s24.trans s5
      have h5 : H5 D = some (.lst acc) := s25 D _ nD hacc
      have kpD : Kp H5 (upd H5 D (.lst (acc ++ [v]))) := ⟨fun b xs e => by rw [upd_ne (fun z => by subst z; rw [h5] at e; cases e)]; exact e, fun b o u e => by rw [upd_ne (fun z => by subst z; rw [h5] at e; cases e)]; exact e⟩
      refine ⟨acc, h5, by omega, rfl, hlt, fun b o nb e => ?_, srcD k5, acc ++ [v], dacc ++ [dy], upd_same, by rw [List.length_append]; simp; omega, ?_, ?_⟩
      · rw [upd_ne (ne_of_none e hD)]
        exact (s2.trans s25) b o nb e
      · exact ((racc.kp (s25.kp k2)).kp kpD).append (.cons (r5.kp kpD) .nil)
      · refine M.wp_mono (fun r q => ?_) (M.wp_bind.mp q)
        have q' : ∀ a xs H', SameX S H H' → SrcOk S H' → H a = none → H' a = some (.lst xs) → RepA K H' xs (dacc ++ (dy :: r)) → Q (.ref a) H' := q
        rw [List.append_assoc, List.singleton_append]
        exact q'
  · have e : i = ds.length := by omega
    subst e
    rw [List.drop_length] at w2
    refine .inl ⟨wk.stop H2 kp2, ?_⟩
    have w2' : ∀ a xs H', SameX S H H' → SrcOk S H' → H a = none → H' a = some (.lst xs) → RepA K H' xs (dacc ++ []) → Q (.ref a) H' := w2
    rw [List.append_nil] at w2'
    exact w2' D acc H2 (s1.trans s2) k2 hD0 hacc racc
theorem dl_comp (hc : X.calm = true) (hN : X.N.Nodup) (ok : BlkOk X.N X.env.scope scope own) (hin : ∀ i ∈ is, i ∈ own.map (·.2)) (hi : Di X S Z tg iter ci)
    (hg : ∀ (s : Shared) (H : Hp) (C : Addr) (cl : List (Str × Addr)) (fp : List Addr), Dg (X.blk s H scope (compEnvC scope cl C X.env) fp) S Z tg g is) (ht : ∀ (s : Shared) (H : Hp) (C : Addr) (cl : List (Str × Addr)) (fp : List Addr), Dts (X.blk s H scope (compEnvC scope cl C X.env) fp) S Z ifs t)
    (he : ∀ (s : Shared) (H : Hp) (C : Addr) (cl : List (Str × Addr)) (fp : List Addr), Dv (X.blk s H scope (compEnvC scope cl C X.env) fp) S Z elt c) (hs : ∀ x, foldedSetIterable iter X.env x = pure x := by intro _; rfl) :
    Dl X S Z (.ListComp elt [⟨tg, iter, ifs, 0⟩] scope pos) (clComp (own.map (·.2)) ci g t c) :=
  PE.imp (pe_lc hc hN hi ok hg ht he hs) fun σ H Q h => tLc_of hin h
theorem ds_ownLc {i : Nat} {y : Str} {py spos : Pos} (hc : X.calm = true) (hN : X.N.Nodup) (hy : X.N[i]? = some y) (hyl : X.env.scope.names.lookup y = some .local)
    (hsw : swapsWith (.ListComp elt [⟨tg, iter, ifs, 0⟩] scope pos) (some (.Name y py)) spos.line X.env = pure true) (ok : BlkOk X.N X.env.scope scope own) (hin : ∀ i ∈ is, i ∈ own.map (·.2)) (hi : Di X S Z tg iter ci)
    (hg : ∀ (s : Shared) (H : Hp) (C : Addr) (cl : List (Str × Addr)) (fp : List Addr), Dg (X.blk s H scope (compEnvC scope cl C X.env) fp) S Z tg g is) (ht : ∀ (s : Shared) (H : Hp) (C : Addr) (cl : List (Str × Addr)) (fp : List Addr), Dts (X.blk s H scope (compEnvC scope cl C X.env) fp) S Z ifs t)
    (he : ∀ (s : Shared) (H : Hp) (C : Addr) (cl : List (Str × Addr)) (fp : List Addr), Dv (X.blk s H scope (compEnvC scope cl C X.env) fp) S Z elt c) (hs : ∀ x, foldedSetIterable iter X.env x = pure x := by intro _; rfl) :
    Ds X S Z (.Assign [.Name y py] (.ListComp elt [⟨tg, iter, ifs, 0⟩] scope pos) spos) (sOwn i (clComp (own.map (·.2)) ci g t c)) := by
  refine PS.imp (ps_setLc hc hN hy hyl hsw hi ok hg ht he hs) fun D σ H ⟨en, R, w⟩ => tLc_of hin ⟨en, R, M.wp_mono (fun ds q => ?_) (M.wp_bind.mp w)⟩
  intro a xs H' s k n e r
  exact q _ H' (R.ext s) (R.put s k n (.own (not_new R.src n) (R.notZ n) e r) rfl)
end
end DL
namespace DL
open PySem PySem.Spec PyProof.Rows L2

/-! ### more combinators -/
def optI : Option CE → En → M (Option Int)
  | none, _ => .ret none
  | some c, e => (c e).bind fun d => (asI d).bind fun i => .ret (some i)
def cutD {α : Type} (xs : List α) (lo hi : Option Int) : List α := (xs.drop (HT.sIx xs.length 0 lo)).take (HT.sIx xs.length xs.length hi - HT.sIx xs.length 0 lo)
def mSl : PyData → Option Int → Option Int → M PyData
  | .list xs, lo, hi => .ret (.list (cutD xs lo hi))
  | .tuple xs, lo, hi => .ret (.tuple (cutD xs lo hi))
  | _, _, _ => .bad
def cSl (c : CE) (lo hi : Option CE) : CE := fun e => (c e).bind fun x => (optI lo e).bind fun l => (optI hi e).bind fun h => mSl x l h
/-- list(x), a new one -/
def clOf (c : CE) : CL := fun e => (c e).bind itemsOf
def mTuple : FD
  | [.list xs] => .ret (.tuple xs)
  | [.tuple xs] => .ret (.tuple xs)
  | _ => .bad
def mLen : FD
  | [.list xs] => .ret (.int xs.length)
  | [.tuple xs] => .ret (.int xs.length)
  | [.str z] => if z.length ≤ sizeLine then .ret (.int z.length) else .bad
  | _ => .bad
def mAbs : FD
  | [.int i] => .ret (.int (if i < 0 then -i else i))
  | _ => .bad
def mInt : FD
  | [.int i] => .ret (.int i)
  | [.bool b] => .ret (.int (if b = true then 1 else 0))
  | _ => .bad
def maxL : List Int → Int
  | [] => 0
  | [a] => a
  | a :: r => let m := maxL r; if m ≤ a then a else m
def minL : List Int → Int
  | [] => 0
  | [a] => a
  | a :: r => let m := minL r; if a ≤ m then a else m
def mMax : FD
  | [.int i, .int j] => .ret (.int (if j > i then j else i))
  | [.list xs] => match asIntsO xs with
    | some (a :: r) => .ret (.int (maxL (a :: r)))
    | _ => .bad
  | _ => .bad
def mMin : FD
  | [.int i, .int j] => .ret (.int (if j < i then j else i))
  | [.list xs] => match asIntsO xs with
    | some (a :: r) => .ret (.int (minL (a :: r)))
    | _ => .bad
  | _ => .bad
def mSum : FD
  | [.list xs] => match asIntsO xs with
    | some ns => .ret (.int ns.sum)
    | none => .bad
  | _ => .bad
def asBoolsO : List PyData → Option (List Bool)
  | [] => some []
  | .bool i :: r => match asBoolsO r with
    | some is => some (i :: is)
    | none => none
  | _ :: _ => none
def mAll : FD
  | [.list xs] => match asBoolsO xs with
    | some bs => .ret (.bool (bs.all id))
    | none => .bad
  | _ => .bad
def mAny : FD
  | [.list xs] => match asBoolsO xs with
    | some bs => .ret (.bool (bs.any id))
    | none => .bad
  | _ => .bad
/-- the draw -/
def mPick : FD
  | [.int n] => .pick n fun i => .ret (.int i)
  | _ => .bad

theorem asBoolsO_eq : ∀ {ds : List PyData} {bs : List Bool}, asBoolsO ds = some bs → ds = bs.map PyData.bool
  | [], ns, h => by cases h; rfl
  | .bool i :: r, ns, h => by
    unfold asBoolsO at h
    split at h
    · rename_i is hr
      cases h
      rw [List.map_cons, asBoolsO_eq hr]
    · cases h
  | .none :: _, _, h => by simp [asBoolsO] at h
  | .int _ :: _, _, h => by simp [asBoolsO] at h
  | .str _ :: _, _, h => by simp [asBoolsO] at h
  | .list _ :: _, _, h => by simp [asBoolsO] at h
  | .tuple _ :: _, _, h => by simp [asBoolsO] at h
  | .dict _ :: _, _, h => by simp [asBoolsO] at h
theorem maxL_is : ∀ {ns : List Int} {m : Int}, m ∈ ns → (∀ y, y ∈ ns → y ≤ m) → maxL ns = m
  | [], _, h, _ => absurd h (by simp)
  | [a], m, h, _ => by simp at h; exact h.symm
  | a :: b :: r, m, h, hm => by
    have ha := hm a List.mem_cons_self
    show (if maxL (b :: r) ≤ a then a else maxL (b :: r)) = m
    by_cases q : m ∈ b :: r
    · rw [maxL_is q fun y hy => hm y (List.mem_cons_of_mem _ hy)]
      split <;> omega
    · have e : m = a := by
        rcases List.mem_cons.mp h with e | e
        · exact e
        · exact absurd e q
      subst e
      have z : ∀ {l : List Int}, (∀ y, y ∈ l → y ≤ m) → l ≠ [] → maxL l ≤ m := fun {l} => by
        induction l with
        | nil => intro _ h; exact absurd rfl h
        | cons c l ih =>
          intro h1 _
          cases l with
          | nil => exact h1 c List.mem_cons_self
          | cons d l =>
            have i1 := ih (fun y hy => h1 y (List.mem_cons_of_mem _ hy)) (by simp)
            have i2 := h1 c List.mem_cons_self
            show (if maxL (d :: l) ≤ c then c else maxL (d :: l)) ≤ m
            split <;> omega
      rw [if_pos (z (fun y hy => hm y (List.mem_cons_of_mem _ hy)) (by simp))]
theorem minL_is : ∀ {ns : List Int} {m : Int}, m ∈ ns → (∀ y, y ∈ ns → m ≤ y) → minL ns = m
  | [], _, h, _ => absurd h (by simp)
  | [a], m, h, _ => by simp at h; exact h.symm
  | a :: b :: r, m, h, hm => by
    have ha := hm a List.mem_cons_self
    show (if a ≤ minL (b :: r) then a else minL (b :: r)) = m
    by_cases q : m ∈ b :: r
    · rw [minL_is q fun y hy => hm y (List.mem_cons_of_mem _ hy)]
      split <;> omega
    · have e : m = a := by
        rcases List.mem_cons.mp h with e | e
        · exact e
        · exact absurd e q
      subst e
      have z : ∀ {l : List Int}, (∀ y, y ∈ l → m ≤ y) → l ≠ [] → m ≤ minL l := fun {l} => by
        induction l with
        | nil => intro _ h; exact absurd rfl h
        | cons c l ih =>
          intro h1 _
          cases l with
          | nil => exact h1 c List.mem_cons_self
          | cons d l =>
            have i1 := ih (fun y hy => h1 y (List.mem_cons_of_mem _ hy)) (by simp)
            have i2 := h1 c List.mem_cons_self
            show m ≤ (if c ≤ minL (d :: l) then c else minL (d :: l))
            split <;> omega
      rw [if_pos (z (fun y hy => hm y (List.mem_cons_of_mem _ hy)) (by simp))]

section
variable {X : Cx} {S : SrcA} {Z : Addr → Prop} {e ea eb : Expr} {es : List Expr} {c ca cb : CE} {cl : CL} {pos p : Pos} {x : Str} {id T : String}

/-! ### built-ins by values -/
def rC (S : SrcA) (K : PySem.W.Frag) (m : FD) : List V → Hp → VK → Prop := fun vs H Q => ∃ ds, SrcOk S H ∧ Paired (RP K S H) vs ds ∧ (m ds).wp (Aft S H (RV K) Q)
theorem tD_rC {m : FD} {σ : L2.St} {H : Hp} {Q : VK} (h : tD S Z X.K (RV X.K) (cCall m cl) σ H Q) : tCB (rC S X.K m) (tDa S Z X.K (RP X.K S) cl) σ H Q := by
  obtain ⟨en, R, w⟩ := h
  exact ⟨en, R, M.wp_mono (fun ds wd vs H1 s1 k1 r1 => ⟨ds, k1, r1, M.wp_mono (fun d q => by intro v H2 s2 k2 r2; exact q v H2 (s1.trans s2) k2 r2) wd⟩) (M.wp_bind.mp w)⟩
theorem dv_callB {m : FD} (hc : CallR X (.builtin id) (rC S X.K m)) (hg : Gl X x) (hm : X.mg x = none) (hv : bootBuiltins x = some (.builtin id)) (ha : Dap X S Z (e :: es) cl) (hn : x ≠ "__name__" := by decide) (hdb : (x == ("__debug__" : Str)) = false := by decide)
    (he : starEach (e :: es) X.env = (false, eval e X.env) :: starEach es X.env := by rfl) (hpl : (backTo pos (starEach es X.env)).any (·.1) = false := by rfl) : Dv X S Z (.Call (.Name x p) (e :: es) [] pos) (cCall m cl) :=
  PE.imp (pe_callB hc hg hm hv ha hn hdb he hpl) fun σ H Q h => tD_rC h
theorem dv_callTy {m : FD} (hc : CallR X (.type T) (rC S X.K m)) (hg : Gl X x) (hm : X.mg x = none) (hv : bootBuiltins x = some (.type T)) (ha : Dap X S Z (e :: es) cl) (hn : x ≠ "__name__" := by decide) (hdb : (x == ("__debug__" : Str)) = false := by decide)
    (he : starEach (e :: es) X.env = (false, eval e X.env) :: starEach es X.env := by rfl) (hpl : (backTo pos (starEach es X.env)).any (·.1) = false := by rfl) : Dv X S Z (.Call (.Name x p) (e :: es) [] pos) (cCall m cl) :=
  PE.imp (pe_callTy hc hg hm hv ha hn hdb he hpl) fun σ H Q h => tD_rC h
theorem CallR.lock {f : Value} {r : List V → Hp → VK → Prop} (h : CallR X f r) : CallR X f (fun xs H Q => r xs H (Lk Q)) := fun pins s σ H xs us Q I rx q =>
  thn (h pins s σ H xs us _ I rx q) fun u s1 h1 => EP.lock h1
theorem pair1 {F : V → PyData → Prop} {vs : List V} {d : PyData} (h : Paired F vs [d]) : ∃ v, vs = [v] ∧ F v d := by
  cases h with
  | cons r t => cases t; exact ⟨_, rfl, r⟩
theorem pair2 {F : V → PyData → Prop} {vs : List V} {d d' : PyData} (h : Paired F vs [d, d']) : ∃ v v', vs = [v, v'] ∧ F v d ∧ F v' d' := by
  cases h with
  | cons r t =>
    obtain ⟨v', rfl, r'⟩ := pair1 t
    exact ⟨_, _, rfl, r, r'⟩
theorem bc_tuple : CallR X (.type "tuple") (rC S X.K mTuple) := by
  intro pins s σ H xs us Q I rx ⟨ds, k, rs, w⟩
  unfold mTuple at w
  split at w
  · obtain ⟨v, rfl, r⟩ := pair1 rs
    obtain ⟨a, xs, rfl, h1, h2⟩ := RepP.list r
    exact call_tuple_of pins s σ H _ us Q I rx ⟨a, xs, rfl, .inl ⟨h1, fun l hl => Aft.tup k w h2 hl⟩⟩
  · obtain ⟨v, rfl, r⟩ := pair1 rs
    obtain ⟨a, xs, rfl, h1, h2⟩ := RepP.tuple r
    exact call_tuple_of pins s σ H _ us Q I rx ⟨a, xs, rfl, .inr ⟨h1, Aft.ret k w (.tup h1 h2)⟩⟩
  · exact w.elim
theorem bc_len : CallR X (.builtin "len") (rC S X.K mLen) := by
  intro pins s σ H xs us Q I rx ⟨ds, k, rs, w⟩
  unfold mLen at w
  split at w
  · obtain ⟨v, rfl, r⟩ := pair1 rs
    obtain ⟨a, xs, rfl, h1, h2⟩ := RepP.list r
    exact call_len_seq pins s σ H _ us Q I rx ⟨a, xs, rfl, .inl h1, Aft.ret k w (by rw [h2.length]; exact .int _)⟩
  · obtain ⟨v, rfl, r⟩ := pair1 rs
    obtain ⟨a, xs, rfl, h1, h2⟩ := RepP.tuple r
    exact call_len_seq pins s σ H _ us Q I rx ⟨a, xs, rfl, .inr h1, Aft.ret k w (by rw [h2.length]; exact .int _)⟩
  · obtain ⟨v, rfl, r⟩ := pair1 rs
    obtain ⟨hl, w⟩ := wp_if w
    cases RepP.str r
    exact call_len_str pins s σ H _ us Q I rx ⟨_, rfl, hl, Aft.ret k w (.int _)⟩
  · exact w.elim
theorem bc_abs : CallR X (.builtin "abs") (rC S X.K mAbs) := by
  intro pins s σ H xs us Q I rx ⟨ds, k, rs, w⟩
  unfold mAbs at w
  split at w
  · obtain ⟨v, rfl, r⟩ := pair1 rs
    cases RepP.int r
    exact call_abs pins s σ H _ us Q I rx ⟨_, rfl, Aft.ret k w (.int _)⟩
  · exact w.elim
theorem bc_int : CallR X (.type "int") (rC S X.K mInt) := by
  intro pins s σ H xs us Q I rx ⟨ds, k, rs, w⟩
  unfold mInt at w
  split at w
  · obtain ⟨v, rfl, r⟩ := pair1 rs
    cases RepP.int r
    exact call_int1 pins s σ H _ us Q I rx (.inl ⟨_, rfl, Aft.ret k w (.int _)⟩)
  · obtain ⟨v, rfl, r⟩ := pair1 rs
    cases RepP.bool r
    exact call_int1 pins s σ H _ us Q I rx (.inr ⟨_, rfl, Aft.ret k w (.int _)⟩)
  · exact w.elim
theorem bc_max (hc : X.calm = true) : CallR X (.builtin "max") (rC S X.K mMax) := by
  intro pins s σ H xs us Q I rx ⟨ds, k, rs, w⟩
  unfold mMax at w
  split at w
  · obtain ⟨v, v', rfl, r, r'⟩ := pair2 rs
    cases RepP.int r
    cases RepP.int r'
    exact call_max2 hc pins s σ H _ us Q I rx ⟨_, _, rfl, Aft.ret k w (.int _)⟩
  · split at w
    · rename_i e
      cases asIntsO_eq e
      obtain ⟨v, rfl, r⟩ := pair1 rs
      obtain ⟨a, xs, rfl, h1, h2⟩ := RepP.list r
      cases h2.ints
      exact cr_max hc pins s σ H _ us Q I rx ⟨a, _, rfl, h1, by simp, fun m h1 h2 => by rw [← maxL_is h1 h2]; exact Aft.ret k w (.int _)⟩
    · exact w.elim
  · exact w.elim
theorem bc_min (hc : X.calm = true) : CallR X (.builtin "min") (rC S X.K mMin) := by
  intro pins s σ H xs us Q I rx ⟨ds, k, rs, w⟩
  unfold mMin at w
  split at w
  · obtain ⟨v, v', rfl, r, r'⟩ := pair2 rs
    cases RepP.int r
    cases RepP.int r'
    exact call_min2 hc pins s σ H _ us Q I rx ⟨_, _, rfl, Aft.ret k w (.int _)⟩
  · split at w
    · rename_i e
      cases asIntsO_eq e
      obtain ⟨v, rfl, r⟩ := pair1 rs
      obtain ⟨a, xs, rfl, h1, h2⟩ := RepP.list r
      cases h2.ints
      exact cr_min hc pins s σ H _ us Q I rx ⟨a, _, rfl, h1, by simp, fun m h1 h2 => by rw [← minL_is h1 h2]; exact Aft.ret k w (.int _)⟩
    · exact w.elim
  · exact w.elim
theorem bc_sum (hc : X.calm = true) : CallR X (.builtin "sum") (rC S X.K mSum) := by
  intro pins s σ H xs us Q I rx ⟨ds, k, rs, w⟩
  unfold mSum at w
  split at w
  · split at w
    · rename_i e
      cases asIntsO_eq e
      obtain ⟨v, rfl, r⟩ := pair1 rs
      obtain ⟨a, xs, rfl, h1, h2⟩ := RepP.list r
      cases h2.ints
      exact cr_sum hc pins s σ H _ us Q I rx ⟨a, _, rfl, h1, Aft.ret k w (.int _)⟩
    · exact w.elim
  · exact w.elim
theorem bc_all (hc : X.calm = true) : CallR X (.builtin "all") (rC S X.K mAll) := by
  intro pins s σ H xs us Q I rx ⟨ds, k, rs, w⟩
  unfold mAll at w
  split at w
  · split at w
    · rename_i e
      cases asBoolsO_eq e
      obtain ⟨v, rfl, r⟩ := pair1 rs
      obtain ⟨a, xs, rfl, h1, h2⟩ := RepP.list r
      cases h2.bools
      exact cr_all hc pins s σ H _ us Q I rx ⟨a, _, rfl, h1, Aft.ret k w (.bl _)⟩
    · exact w.elim
  · exact w.elim
theorem bc_any (hc : X.calm = true) : CallR X (.builtin "any") (rC S X.K mAny) := by
  intro pins s σ H xs us Q I rx ⟨ds, k, rs, w⟩
  unfold mAny at w
  split at w
  · split at w
    · rename_i e
      cases asBoolsO_eq e
      obtain ⟨v, rfl, r⟩ := pair1 rs
      obtain ⟨a, xs, rfl, h1, h2⟩ := RepP.list r
      cases h2.bools
      exact cr_any hc pins s σ H _ us Q I rx ⟨a, _, rfl, h1, Aft.ret k w (.bl _)⟩
    · exact w.elim
  · exact w.elim
theorem itemsOf_wp {K : PySem.W.Frag} {H : Hp} {v : V} {d : PyData} {Q : List PyData → Prop} (h : (itemsOf d).wp Q) (r : RepP K S H v d) : ∃ a xs ds, v = .ref a ∧ (SqL K H a xs ∨ SqT K H a xs) ∧ RepA K H xs ds ∧ Q ds := by
  cases d <;> first | exact h.elim | skip
  · obtain ⟨a, xs, e, h1, h2⟩ := r.list
    exact ⟨a, xs, _, e, .inl h1, h2, h⟩
  · obtain ⟨a, xs, e, h1, h2⟩ := r.tuple
    exact ⟨a, xs, _, e, .inr h1, h2, h⟩
theorem dl_list (hg : Gl X "list") (hm : X.mg "list" = none) (h : Dp X S Z e c) (he : starEach [e] X.env = (false, eval e X.env) :: starEach [] X.env := by rfl) (hpl : (backTo pos (starEach [] X.env)).any (·.1) = false := by rfl) :
    Dl X S Z (.Call (.Name "list" p) [e] [] pos) (clOf c) := by
  refine PE.imp (pe_callTy call_list_of hg hm (by decide +kernel) (dap_cons h dap_nil he) (by decide) (by decide) he hpl) fun σ H Q ⟨en, R, w⟩ => ⟨en, R, M.wp_bind.mpr (M.wp_mono (fun d wd => ?_) (M.wp_bind.mp w))⟩
  intro vs H1 s k rs
  obtain ⟨v, rfl, r⟩ := pair1 rs
  obtain ⟨a, xs, ds, rfl, h1, h2, q⟩ := itemsOf_wp wd r
  refine ⟨a, xs, rfl, h1, fun l hl => ?_⟩
  have hl0 : H l = none := by
    cases z : H l with
    | none => rfl
    | some o =>
      by_cases y : inS S l
      · exact absurd y (not_new k hl)
      · rw [s l o y z] at hl; cases hl
  exact q l xs _ (s.trans (.of (same_new hl))) (k.same (same_new hl)) hl0 upd_same (h2.kp (.of (same_new hl)))
/-- a list display, new -/
theorem dl_disp (h : Da X S Z es cl) : Dl X S Z (.List es pos) (clDisp cl) := by
  refine PE.imp (pe_lst h) fun σ H Q ⟨en, R, w⟩ => ⟨en, R, M.wp_mono (fun ds wd vs H1 s k r => ?_) (M.wp_bind.mp w)⟩
  obtain ⟨hf, q⟩ := wp_if wd
  have ra := RepA.paired r
  refine ⟨by rw [ra.length]; exact of_decide_eq_true hf, fun l hl => ?_⟩
  have hl0 : H l = none := by
    cases z : H l with
    | none => rfl
    | some o =>
      by_cases y : inS S l
      · exact absurd y (not_new k hl)
      · rw [s l o y z] at hl; cases hl
  exact q l vs _ (s.trans (.of (same_new hl))) (k.same (same_new hl)) hl0 upd_same (ra.kp (.of (same_new hl)))
/-- a new list, as it is read at once -/
theorem dp_new (h : Dl X S Z e cl) : Dp X S Z e (cFz cl) :=
  PE.imp h fun σ H Q ⟨en, R, w⟩ => ⟨en, R, M.wp_mono (fun ds q => by intro a xs H' s k n e r; exact q _ H' s k (.own (not_new R.src n) e r)) (M.wp_bind.mp w)⟩

/-! ### places, cuts -/
theorem atI_rep {K : PySem.W.Frag} {H : Hp} {vs : List V} {ds : List PyData} {i : Int} {d : PyData} (r : RepA K H vs ds) (h : atI ds i = some d) : ∃ v, atI vs i = some v ∧ Rep K H v d := by
  unfold atI at h ⊢
  rw [r.length]
  cases q : ixN ds.length i with
  | none => rw [q] at h; cases h
  | some j =>
    rw [q] at h
    exact r.get h
def tDo (S : SrcA) (Z : Addr → Prop) (K : PySem.W.Frag) (o : Option CE) : TO := fun σ H Q => ∃ e, Rel K S Z σ H e ∧ (optI o e).wp fun i => ∀ H', SameX S H H' → SrcOk S H' → Q i H'
abbrev Do (X : Cx) (S : SrcA) (Z : Addr → Prop) (e : Option Expr) (o : Option CE) : Prop := PO X e (tDo S Z X.K o)
theorem PO.imp {e : Option Expr} {t t' : TO} (h : PO X e t) (i : ∀ σ H Q, t' σ H Q → t σ H Q) : PO X e t' := ⟨fun pins s σ H Q I q => h.run pins s σ H Q I (i σ H Q q)⟩
theorem do_none : Do X S Z none none := PO.imp po_none fun σ H Q ⟨en, R, w⟩ => w H (SameX.refl H) R.src
theorem do_some (h : Dp X S Z e c) : Do X S Z (some e) (some c) := PO.imp (po_some h) fun σ H Q ⟨en, R, w⟩ => ⟨en, R, M.wp_mono (fun d wd v H1 s k r => by
  obtain ⟨i, rfl, q⟩ := asI_wp (M.wp_bind.mp wd)
  exact ⟨i, RepP.int r, q H1 s k⟩) (M.wp_bind.mp w)⟩
theorem SlR.lock {r : V → Option Int → Option Int → Hp → VK → Prop} (h : L2.SlR X r) : L2.SlR X (fun x lo hi H Q => r x lo hi H (Lk Q)) := fun pins s σ H x v vl vu lo hi sl Q I rx hs p1 p2 q => by
  obtain ⟨T, id, h1, h2, h3⟩ := h pins s σ H x v vl vu lo hi sl _ I rx hs p1 p2 q
  exact ⟨T, id, h1, h2, thn h3 fun u s1 h1 => EP.lock h1⟩
def rSlD (S : SrcA) (K : PySem.W.Frag) : V → Option Int → Option Int → Hp → VK → Prop := fun v lo hi H Q => ∃ d, SrcOk S H ∧ RepP K S H v d ∧ (mSl d lo hi).wp (Aft S H (RV K) Q)
theorem RepA.cut {K : PySem.W.Frag} {H : Hp} {vs : List V} {ds : List PyData} (r : RepA K H vs ds) (lo hi : Option Int) : RepA K H (cutV vs lo hi) (cutD ds lo hi) := by
  unfold cutV cutD
  rw [r.length]
  exact (r.drop _).take _
theorem sl_D : L2.SlR X (rSlD S X.K) := by
  intro pins s σ H x v vl vu lo hi sl Q I rx hs p1 p2 ⟨d, k, r, w⟩
  cases d <;> first | exact w.elim | skip
  · obtain ⟨a, xs, rfl, h1, h2⟩ := r.list
    exact SlR.lock sl_list pins s σ H _ v vl vu lo hi sl Q I rx hs p1 p2 ⟨a, xs, rfl, h1, fun p hp => Aft.lst k w (h2.cut lo hi) hp⟩
  · obtain ⟨a, xs, rfl, h1, h2⟩ := r.tuple
    refine sl_tupA pins s σ H _ v vl vu lo hi sl Q I rx hs p1 p2 ⟨a, xs, rfl, h1, fun hw => ?_, fun _ p hp => Aft.tup k w (h2.cut lo hi) hp⟩
    refine Aft.ret k w ?_
    have e : cutD _ lo hi = _ := (show cutD xs lo hi = xs by
      unfold cutD
      rw [hw.1, hw.2, List.drop_zero, Nat.sub_zero, List.take_length])
    have e2 := h2.cut lo hi
    rw [show cutV xs lo hi = xs from e] at e2
    exact .tup h1 e2
theorem dv_sl {lo hi : Option Expr} {ol oh : Option CE} {p2 : Pos} (h : Dp X S Z e c) (hl : Do X S Z lo ol) (hh : Do X S Z hi oh) : Dv X S Z (.Subscript e (.Slice lo hi none p2) pos) (cSl c ol oh) := by
  refine PE.imp (pe_slice (sl_D (S := S)) h hl hh) fun σ H Q ⟨en, R, w⟩ => ⟨en, R, M.wp_mono (fun d wd v H1 s1 k1 r1 => ?_) (M.wp_bind.mp w)⟩
  refine ⟨en, R.same s1 k1, M.wp_mono (fun l wl H2 s2 k2 => ?_) (M.wp_bind.mp wd)⟩
  refine ⟨en, (R.same s1 k1).same s2 k2, M.wp_mono (fun h wh H3 s3 k3 => ?_) (M.wp_bind.mp wl)⟩
  exact ⟨d, k3, (RepP.same k1 s2 r1).same k2 s3, M.wp_mono (fun d' q => by intro v' H4 s4 k4 r4; exact q v' H4 (((s1.trans s2).trans s3).trans s4) k4 r4) wh⟩

/-! ### lists of the frame's own grow -/
theorem Rel.chg {K : PySem.W.Frag} {σ : L2.St} {H : Hp} {en : En} (R : Rel K S Z σ H en) {i : Nat} {a : Addr} {u u' : HO} {s' : Sl} (hi : σ[i]? = some (some (.ref a))) (ho : ownE en i) (n : ¬ inS S a) (z : ¬ Z a) (h : H a = some u)
    (hu : (∃ xs, u = .lst xs) ∨ (∃ ks, u = .dK ks) ∨ ∃ ks, u = DTO ks) (hs : isOwn s' = true) (r : Kp H (upd H a u') → RelSl K S Z (upd H a u') (some (.ref a)) s') : Ext Z H (upd H a u') ∧ Rel K S Z σ (upd H a u') (en.set i s') := by
  have ne : ∀ {b : Addr} {v : HO}, H b = some v → ((∀ xs, v ≠ .lst xs) ∧ (∀ ks, v ≠ .dK ks) ∧ ∀ ks, v ≠ DTO ks) → b ≠ a := fun {b v} e nn z => by
    subst z; rw [h] at e; cases e
    rcases hu with ⟨xs, rfl⟩ | ⟨ks, rfl⟩ | ⟨ks, rfl⟩
    · exact nn.1 _ rfl
    · exact nn.2.1 _ rfl
    · exact nn.2.2 _ rfl
  have kp : Kp H (upd H a u') := ⟨fun b xs e => by rw [upd_ne (ne e ⟨(fun _ q => nomatch q), (fun _ q => nomatch q), (fun _ q => nomatch q)⟩)]; exact e, fun b ob v e => by rw [upd_ne (ne e ⟨(fun _ q => nomatch q), (fun _ q => nomatch q), (fun _ q => nomatch q)⟩)]; exact e⟩
  have zz : ∀ b v, Z b → H b = some v → upd H a u' b = some v := fun b v zb e => by rw [upd_ne (fun q => z (by rw [← q]; exact zb))]; exact e
  refine ⟨⟨kp, zz⟩, ?_⟩
  have src : SrcOk S (upd H a u') := by
    have k := R.src
    match S, k, n with
    | none, _, _ => trivial
    | some (s, c), ⟨n1, cells, l, m, t, h1, h2, rr⟩, n =>
      refine ⟨n1, cells, l, m, t, ?_, ?_, rr⟩
      · rw [upd_ne (fun q => n (.inr q.symm))]; exact h1
      · rw [upd_ne (fun q => n (.inl q.symm))]; exact h2
  have hlen : i < en.length := by
    obtain ⟨s', h1, _⟩ := ho
    exact (List.getElem?_eq_some_iff.mp h1).1
  have own' : ∀ {j : Nat}, ownE (en.set i s') j → ownE en j := fun {j} hj => by
    by_cases ij : j = i
    · subst ij; exact ho
    · exact ownE_set_ne hj ij
  refine ⟨by rw [List.length_set]; exact R.len, fun j t hj => ?_, fun j l b jl hj hl h1 h2 => R.dis j l b jl (own' hj) (own' hl) h1 h2, src, fun b zb => let ⟨v, e⟩ := R.zal b zb; ⟨v, zz b v zb e⟩, R.zs⟩
  by_cases ij : i = j
  · subst ij
    rw [List.getElem?_set_self hlen] at hj; cases hj
    rw [get_join hi]
    exact r kp
  · rw [List.getElem?_set_ne ij] at hj
    have q := R.sl j t hj
    generalize qe : σ[j]?.join = oj at q
    have nea : ∀ {b : Addr}, oj = some (.ref b) → isOwn t = true → b ≠ a := fun {b} e1 e2 z => by
      subst e1; subst z
      exact R.dis i j b ij ho ⟨t, hj, e2⟩ hi (join_some qe)
    cases q with
    | no => exact .no
    | val r => exact .val (r.kp kp)
    | own n z e r => exact .own n z (by rw [upd_ne (nea rfl rfl)]; exact e) (r.kp kp)
    | ownK n z e r => exact .ownK n z (by rw [upd_ne (nea rfl rfl)]; exact e) (r.kp kp)
    | ownT n z e r => exact .ownT n z (by rw [upd_ne (nea rfl rfl)]; exact e) (r.kp kp)
    | src q => exact .src q
variable {apos cpos : Pos} {i : Nat} {nm : Str}
theorem ds_append (hv : PE X (.Name nm p) (tVar i)) (he : Dv X S Z e c)
    (mk : ∀ {t : TA}, PA X [e] t → PE X (.Call (.Attribute (.Name nm p) "append" apos) [e] [] cpos) (tBM X.K "list" rAppend (tVar i) t)) (hs : swapsWith (.Call (.Attribute (.Name nm p) "append" apos) [e] [] cpos) none pos.line X.env = pure false := by rfl)
    (hst : starEach [e] X.env = (false, eval e X.env) :: starEach [] X.env := by rfl) :
    Ds X S Z (.Expr (.Call (.Attribute (.Name nm p) "append" apos) [e] [] cpos) pos) (sAppend i c) := by
  refine PS.imp (ps_expr (mk (da_cons he da_nil hst)) hs) fun D σ H ⟨en, R, w⟩ => ?_
  unfold sAppend at w
  split at w
  · rename_i ds hd
    obtain ⟨a, xs, h1, n, z, h2, h3⟩ := R.own hd
    refine ⟨_, h1, .inl ⟨rfl, _, SqL.of h2⟩, en, R, M.wp_bind.mpr (M.wp_mono (fun d wd => ?_) (M.wp_bind.mp w))⟩
    change M.wp (M.ret [d]) _
    intro vs H1 s k rs
    obtain ⟨v, rfl, r⟩ := pair1 rs
    have h2' := s a _ n h2
    have h3' := h3.kp (s.kp R.src)
    obtain ⟨hl, q⟩ := wp_if wd
    refine ⟨a, xs, v, rfl, rfl, h2', by rw [h3.length]; exact hl, ?_⟩
    obtain ⟨x, R'⟩ := (R.same s k).chg (u' := .lst (xs ++ [v])) (s' := .own (ds ++ [d])) h1 ⟨_, hd, rfl⟩ n z h2' (.inl ⟨_, rfl⟩) rfl (fun kp => .own n z upd_same ((h3'.kp kp).append (.cons (Rep.kp kp r) .nil)))
    exact q σ _ ((R.ext s).trans x) R'
  · exact w.elim
theorem ds_extend (hv : PE X (.Name nm p) (tVar i)) (he : Dp X S Z e c) (hnew : ∀ (en : En) (d : PyData) (P : Prop), True)
    (mk : ∀ {t : TA}, PA X [e] t → PE X (.Call (.Attribute (.Name nm p) "extend" apos) [e] [] cpos) (tBM X.K "list" rExtend (tVar i) t)) (hs : swapsWith (.Call (.Attribute (.Name nm p) "extend" apos) [e] [] cpos) none pos.line X.env = pure false := by rfl)
    (hst : starEach [e] X.env = (false, eval e X.env) :: starEach [] X.env := by rfl) : True := trivial
/-- the new list's items go behind -/
theorem ds_extendN (hv : PE X (.Name nm p) (tVar i)) (he : Dl X S Z e cl)
    (mk : ∀ {t : TA}, PA X [e] t → PE X (.Call (.Attribute (.Name nm p) "extend" apos) [e] [] cpos) (tBM X.K "list" rExtend (tVar i) t)) (hs : swapsWith (.Call (.Attribute (.Name nm p) "extend" apos) [e] [] cpos) none pos.line X.env = pure false := by rfl)
    (hst : starEach [e] X.env = (false, eval e X.env) :: starEach [] X.env := by rfl) :
    Ds X S Z (.Expr (.Call (.Attribute (.Name nm p) "extend" apos) [e] [] cpos) pos) (sExtend i (cFz cl)) := by
  refine PS.imp (ps_expr (mk (pa_cons he pa_nil hst)) hs) fun D σ H ⟨en, R, w⟩ => ?_
  unfold sExtend at w
  split at w
  · rename_i ds hd
    obtain ⟨a, xs, h1, n, z, h2, h3⟩ := R.own hd
    refine ⟨_, h1, .inl ⟨rfl, _, SqL.of h2⟩, en, R, M.wp_mono (fun dd wd => ?_) (M.wp_bind.mp (M.wp_bind.mp w))⟩
    intro b zs H1 s k nb eb rb
    have h2' := s a _ n h2
    have h3' := h3.kp (s.kp R.src)
    change (M.bind (itemsOf (.list dd)) _).wp _ at wd
    obtain ⟨hl, q⟩ := wp_if wd
    refine ⟨a, b, xs, zs, rfl, rfl, h2', eb, by rw [h3.length, rb.length]; exact hl, ?_⟩
    obtain ⟨x, R'⟩ := (R.same s k).chg (u' := .lst (xs ++ zs)) (s' := .own (ds ++ dd)) h1 ⟨_, hd, rfl⟩ n z h2' (.inl ⟨_, rfl⟩) rfl (fun kp => .own n z upd_same ((h3'.kp kp).append (rb.kp kp)))
    exact q σ _ ((R.ext s).trans x) R'
  · exact w.elim
/-- the items of another list of the frame's own go behind -/
theorem ds_extendO {j : Nat} {nm2 : Str} {p2 : Pos} (hij : i ≠ j) (hv : PE X (.Name nm p) (tVar i)) (he : PE X (.Name nm2 p2) (tVar j))
    (mk : ∀ {t : TA}, PA X [.Name nm2 p2] t → PE X (.Call (.Attribute (.Name nm p) "extend" apos) [.Name nm2 p2] [] cpos) (tBM X.K "list" rExtend (tVar i) t)) (hs : swapsWith (.Call (.Attribute (.Name nm p) "extend" apos) [.Name nm2 p2] [] cpos) none pos.line X.env = pure false := by rfl)
    (hst : starEach [.Name nm2 p2] X.env = (false, eval (.Name nm2 p2) X.env) :: starEach [] X.env := by rfl) :
    Ds X S Z (.Expr (.Call (.Attribute (.Name nm p) "extend" apos) [.Name nm2 p2] [] cpos) pos) (sExtendO i j) := by
  refine PS.imp (ps_expr (mk (pa_cons he pa_nil hst)) hs) fun D σ H ⟨en, R, w⟩ => ?_
  unfold sExtendO at w
  split at w
  · rename_i ds dd hd hd2
    obtain ⟨a, xs, h1, n, z, h2, h3⟩ := R.own hd
    obtain ⟨b, zs, g1, n', z', g2, g3⟩ := R.own hd2
    obtain ⟨hl, q⟩ := wp_if w
    refine ⟨_, h1, .inl ⟨rfl, _, SqL.of h2⟩, _, g1, a, b, xs, zs, rfl, rfl, h2, g2, by rw [h3.length, g3.length]; exact hl, ?_⟩
    obtain ⟨x, R'⟩ := R.chg (u' := .lst (xs ++ zs)) (s' := .own (ds ++ dd)) h1 ⟨_, hd, rfl⟩ n z h2 (.inl ⟨_, rfl⟩) rfl (fun kp => .own n z upd_same ((h3.kp kp).append (g3.kp kp)))
    exact q σ _ x R'
  · exact w.elim
/-- the last item goes, and is dropped -/
theorem ds_pop (hv : PE X (.Name nm p) (tVar i))
    (mk : PE X (.Call (.Attribute (.Name nm p) "pop" apos) [] [] cpos) (tBM0 X.K "list" rPop (tVar i))) (hs : swapsWith (.Call (.Attribute (.Name nm p) "pop" apos) [] [] cpos) none pos.line X.env = pure false := by rfl) :
    Ds X S Z (.Expr (.Call (.Attribute (.Name nm p) "pop" apos) [] [] cpos) pos) (sPop i) := by
  refine PS.imp (ps_expr mk hs) fun D σ H ⟨en, R, w⟩ => ?_
  unfold sPop at w
  split at w
  · rename_i d ds hd
    obtain ⟨a, xs, h1, n, z, h2, h3⟩ := R.own hd
    have hx : xs.length = ds.length + 1 := by rw [h3.length, List.length_cons]
    have hy : xs[xs.length - 1]? = some xs[xs.length - 1] := List.getElem?_eq_getElem (by omega)
    refine ⟨_, h1, .inl ⟨rfl, _, SqL.of h2⟩, a, xs, _, rfl, rfl, h2, hy, ?_⟩
    obtain ⟨x, R'⟩ := R.chg (u' := .lst xs.dropLast) (s' := .own (d :: ds).dropLast) h1 ⟨_, hd, rfl⟩ n z h2 (.inl ⟨_, rfl⟩) rfl (fun kp => .own n z upd_same ((h3.kp kp).dropLast))
    exact w σ _ x R'
  · exact w.elim

/-! ### calls of defs -/
/-- a def hands back what m tells -/
def spD (K : PySem.W.Frag) (m : FD) : Sp := fun vs H Q _ => ∃ ds, RepA K H vs ds ∧ (m ds).wp fun d => ∀ v H', Same H H' → Rep K H' v d → Q v H'
/-- a def whose first argument is the source -/
def spS (K : PySem.W.Frag) (m : FD) : Sp := fun vs H Q _ => ∃ s c us ds, vs = .ref s :: us ∧ SrcAt s c H ∧ RepA K H us ds ∧ (m ds).wp fun d => ∀ v H', SameX (some (s, c)) H H' → SrcAt s c H' → Rep K H' v d → Q v H'
def Arity (m : FD) (n : Nat) : Prop := ∀ ds Q, (m ds).wp Q → ds.length = n
theorem fnD_arity {ps n : Nat} {b : CS} : Arity (fnD ps n b) ps := fun ds Q h => (wp_if h).1
theorem fnS_arity {ps n : Nat} {b : CS} : Arity (fnS (ps + 1) n b) ps := fun ds Q h => by
  have := (wp_if h).1
  omega
variable {k : Nat} {f : Addr} {fd : FuncData} {ps : List Str} {m : FD}
theorem tD_spD {σ : L2.St} {H : Hp} {Q : VK} {E : XK} (h : tD S Z X.K (RV X.K) (cCall m cl) σ H Q) : tCall (spD X.K m) [] E (tDa S Z X.K (RV X.K) cl) σ H Q := by
  obtain ⟨en, R, w⟩ := h
  refine ⟨en, R, M.wp_mono (fun ds wd vs H1 s1 k1 r1 => ⟨ds, ?_, M.wp_mono (fun d q v H2 s2 r2 => q v H2 (s1.trans (.of s2)) (k1.same s2) r2) wd⟩) (M.wp_bind.mp w)⟩
  rw [List.append_nil]
  exact RepA.paired r1
theorem dv_call (F : FnOk X.prog X.w X.K X.mg X.base CX0 k f fd ps (spD X.K m)) (hr : Room k X.A) (hg : Gl X x) (hm : X.mg x = some (.ref f)) (hk : PySem.W.keepIn X.K (.ref f) = true) (hb : Binds X.K fd ps [])
    (ha : Da X S Z (e :: es) cl) (hdb : (x == ("__debug__" : Str)) = false := by decide) (he : starEach (e :: es) X.env = (false, eval e X.env) :: starEach es X.env := by rfl) (hpl : (backTo pos (starEach es X.env)).any (·.1) = false := by rfl) :
    Dv X S Z (.Call (.Name x p) (e :: es) [] pos) (cCall m cl) :=
  PE.imp (pe_call F hr hg hm hk hb .nil pass0 ha hdb he hpl) fun σ H Q h => tD_spD h
theorem dv_call0 (F : FnOk X.prog X.w X.K X.mg X.base CX0 k f fd ps (spD X.K m)) (hr : Room k X.A) (hg : Gl X x) (hm : X.mg x = some (.ref f)) (hk : PySem.W.keepIn X.K (.ref f) = true) (hb : Binds X.K fd ps [])
    (hdb : (x == ("__debug__" : Str)) = false := by decide) : Dv X S Z (.Call (.Name x p) [] [] pos) (cCall m caNil) :=
  PE.imp (pe_call0 F hr hg hm hk hb .nil pass0 hdb) fun σ H Q ⟨en, R, w⟩ => ⟨[], .nil, M.wp_mono (fun d q v H2 s2 r2 => q v H2 (.of s2) (R.src.same s2) r2) w⟩
theorem dv_callS {ns : Str} {pn : Pos} {js : Nat} (hn : PE X (.Name ns pn) (tVar js)) (F : FnOk X.prog X.w X.K X.mg X.base CX0 k f fd ps (spS X.K m)) (hr : Room k X.A) (hg : Gl X x) (hm : X.mg x = some (.ref f)) (hk : PySem.W.keepIn X.K (.ref f) = true) (hb : Binds X.K fd ps [])
    (ha : Da X S Z es cl) (hdb : (x == ("__debug__" : Str)) = false := by decide) (he : starEach (.Name ns pn :: es) X.env = (false, eval (.Name ns pn) X.env) :: starEach es X.env := by rfl) (hpl : (backTo pos (starEach es X.env)).any (·.1) = false := by rfl) :
    Dv X S Z (.Call (.Name x p) (.Name ns pn :: es) [] pos) (cCallS js m cl) := by
  refine PE.imp (pe_call F hr hg hm hk hb .nil pass0 (pa_cons hn ha he) hdb he hpl) fun σ H Q ⟨en, R, w⟩ => ?_
  unfold cCallS at w
  split at w
  · rename_i hs
    obtain ⟨s, c, e1, h1⟩ := R.srcAt hs
    subst e1
    refine ⟨_, h1, en, R, M.wp_mono (fun ds wd vs H1 s1 k1 r1 => ?_) (M.wp_bind.mp w)⟩
    refine ⟨s, c, vs, ds, by rw [List.append_nil], k1, RepA.paired r1, M.wp_mono (fun d q v H2 s2 k2 r2 => q v H2 (s1.trans s2) k2 r2) wd⟩
  · exact w.elim
end

/-! ### defs -/
section
variable {P : Program} {w : World} {K : PySem.W.Frag} {mg : Str → Option Value} {base : Heap} {x qual : Str} {st : Stmt} {f : Addr} {fd : FuncData} {N ps : List Str} {k : Nat} {cs : CS}
theorem endOf_end {S : SrcA} {Z : Addr → Prop} {H : Hp} {Q : VK} {Q' : PyData → Prop} (h : ∀ d, Q' d → ∀ v H', Ext Z H H' → SrcOk S H' → Rep K H' v d → Q v H') {r : Fl × En} (q : (endOf r).wp Q') : SEnd S Z K H { nx := fun _ H' => Q .non H', rt := Q } r := by
  obtain ⟨fl, e⟩ := r
  cases fl with
  | nx => exact fun σ' H' x R => h _ q _ H' x R.src .non
  | bk => exact q.elim
  | ct => exact q.elim
  | rt d => exact fun v H' x k r => h _ q v H' x k r
theorem rel_start {S : SrcA} {Z : Addr → Prop} {H : Hp} {vs : List V} {ds : List PyData} (r : RepA K H vs ds) (k : SrcOk S H) (za : ∀ a, Z a → ∃ o, H a = some o) (zs : ∀ a, inS S a → ¬ Z a) (n : Nat) :
    Rel K S Z (vs.map some ++ List.replicate n none) H (ds.map .val ++ List.replicate n .no) := by
  have hl := r.length
  have get : ∀ (i : Nat) (s : Sl), (ds.map Sl.val ++ List.replicate n .no)[i]? = some s → (s = .no) ∨ ∃ d, s = .val d ∧ ds[i]? = some d := fun i s h => by
    by_cases hi : i < ds.length
    · rw [List.getElem?_append_left (by simpa using hi), List.getElem?_map] at h
      cases q : ds[i]? with
      | none => rw [q] at h; cases h
      | some d => rw [q] at h; cases h; exact .inr ⟨d, rfl, rfl⟩
    · rw [List.getElem?_append_right (by simpa using hi), List.getElem?_replicate] at h
      split at h
      · cases h; exact .inl rfl
      · cases h
  have noOwn : ∀ i, ¬ ownE (ds.map Sl.val ++ List.replicate n .no) i := fun i ⟨s, h1, h2⟩ => by
    rcases get i s h1 with rfl | ⟨d, rfl, _⟩ <;> cases h2
  refine ⟨by simp [hl], fun i s h => ?_, fun i j a _ hi _ _ _ => absurd hi (noOwn i), k, za, zs⟩
  rcases get i s h with rfl | ⟨d, rfl, hd⟩
  · exact .no
  · obtain ⟨v, hv, rv⟩ := r.get hd
    have hi : i < vs.length := (List.getElem?_eq_some_iff.mp hv).1
    rw [List.getElem?_append_left (by simpa using hi), List.getElem?_map, hv]
    exact .val rv
theorem fn_okD (F : Fun K x qual st f fd) (sc : FnScope N ps (defScope st))
    (hb : ∀ (cdv : Value) (A : Around) (outer : List Env) (s : Shared) (H : Hp) (E : XK) (Z : Addr → Prop), Room k (A.deeper (envOfC qual (defScope st) s.heap.objs.size f cdv)) →
      Db (cxOf CX0 P w K mg base N qual (defScope st) f cdv A outer s H E).nox none Z (defBody st) cs) :
    FnOk P w K mg base CX0 (k + 1) f fd ps (spD K (fnD ps.length N.length cs)) := by
  refine F.ok sc (fun vs H Q E ⟨ds, r, q⟩ => by rw [r.length]; exact fnD_arity ds _ q) (fun cdv A outer s H vs Q E hr ⟨ds, r, q⟩ => ?_)
  obtain ⟨hl, q⟩ := wp_if q
  refine ⟨_, hb cdv A outer s H E (fun a => ∃ o, H a = some o) hr, ?_⟩
  have R := rel_start (S := none) (Z := fun a => ∃ o, H a = some o) r trivial (fun _ z => z) (fun _ z => z.elim) (N.length - vs.length)
  rw [r.length, hl] at R
  refine ⟨_, by unfold L2.start; rw [r.length, hl]; exact R, M.wp_mono (fun r q => ?_) (M.wp_bind.mp q)⟩
  exact endOf_end (fun d q v H' x _ r => q v H' (fun a o e => x.z a o ⟨o, e⟩ e) r) q
theorem fn_okS (F : Fun K x qual st f fd) (sc : FnScope N ps (defScope st)) (hps : ps ≠ [])
    (hb : ∀ (cdv : Value) (A : Around) (outer : List Env) (s : Shared) (H : Hp) (E : XK) (S : SrcA) (Z : Addr → Prop), Room k (A.deeper (envOfC qual (defScope st) s.heap.objs.size f cdv)) →
      Db (cxOf CX0 P w K mg base N qual (defScope st) f cdv A outer s H E).nox S Z (defBody st) cs) :
    FnOk P w K mg base CX0 (k + 1) f fd ps (spS K (fnS ps.length N.length cs)) := by
  refine F.ok sc (fun vs H Q E ⟨s, c, us, ds, e, _, r, q⟩ => ?_) (fun cdv A outer s0 H vs Q E hr ⟨s, c, us, ds, e, k0, r, q⟩ => ?_)
  · have := (wp_if q).1
    rw [e, List.length_cons, r.length]
    exact this
  · obtain ⟨hl, q⟩ := wp_if q
    subst e
    refine ⟨_, hb cdv A outer s0 H E (some (s, c)) (fun a => (∃ o, H a = some o) ∧ ¬ inS (some (s, c)) a) hr, ?_⟩
    have R := rel_start (S := some (s, c)) (Z := fun a => (∃ o, H a = some o) ∧ ¬ inS (some (s, c)) a) r k0 (fun _ z => z.1) (fun _ z y => y.2 z) (N.length - ps.length)
    have R2 : Rel K (some (s, c)) (fun a => (∃ o, H a = some o) ∧ ¬ inS (some (s, c)) a) (some (.ref s) :: (us.map some ++ List.replicate (N.length - ps.length) none)) H (.src :: (ds.map .val ++ List.replicate (N.length - ps.length) .no)) := by
      refine ⟨by rw [List.length_cons, List.length_cons, R.len], fun i t h => ?_, fun i j a ij hi hj h1 h2 => ?_, R.src, R.zal, R.zs⟩
      · cases i with
        | zero => cases h; exact .src rfl
        | succ i => exact R.sl i t h
      · cases i with
        | zero => obtain ⟨t, e1, e2⟩ := hi; cases e1; cases e2
        | succ i =>
          cases j with
          | zero => obtain ⟨t, e1, e2⟩ := hj; cases e1; cases e2
          | succ j => exact R.dis i j a (fun z => ij (by rw [z])) hi hj h1 h2
    have hst : L2.start N (.ref s :: us) = some (.ref s) :: (us.map some ++ List.replicate (N.length - ps.length) none) := by
      unfold L2.start
      rw [List.map_cons, List.length_cons, r.length, hl, List.cons_append]
    rw [hst]
    refine ⟨_, R2, M.wp_mono (fun r q => ?_) (M.wp_bind.mp q)⟩
    exact endOf_end (fun d q v H' x k r => q v H' (fun a o n e => x.z a o ⟨⟨o, e⟩, n⟩ e) k r) q
end
end DL
namespace DL
open PySem PySem.Spec PyProof.Rows L2

/-- as FnOk, where it is known that nothing is being shown -/
structure FnG (P : Program) (w : World) (K : PySem.W.Frag) (mg : Str → Option Value) (base : Heap) (k : Nat) (f : Addr) (fd : FuncData) (ps : List Str) (sp : Sp) : Prop where
  len : ∀ vs H Q E, sp vs H Q E → vs.length = ps.length
  run : ∀ (A : Around) (outer : List Env) (s : Shared) (H : Hp) (args : Args) (us : List Value) (vs : List V) (Q : VK) (E : XK), A.guards = some [] → Room k A → Env0 P w K mg base A outer s H → BindsTo s fd args (ps.zip us) → Vals vs us → sp vs H Q E →
    codeAny (model P w) A (.call (.ref f) args) (CR CX0 outer P w H s Q E) s
section
variable {P : Program} {w : World} {K : PySem.W.Frag} {mg : Str → Option Value} {base : Heap} {x qual : Str} {st : Stmt} {f : Addr} {fd : FuncData} {N ps : List Str} {k : Nat} {cs : CS} {sp : Sp}
theorem FnG.of (F : FnOk P w K mg base CX0 k f fd ps sp) : FnG P w K mg base k f fd ps sp := ⟨F.len, fun A outer s H args us vs Q E _ => F.run A outer s H args us vs Q E⟩
theorem FnG.mk' (F : Fun K x qual st f fd) (S : FnScope N ps (defScope st)) (len : ∀ vs H Q E, sp vs H Q E → vs.length = ps.length)
    (hbody : ∀ (cdv : Value) (A : Around) (outer : List Env) (s : Shared) (H : Hp) (vs : List V) (Q : VK) (E : XK), A.guards = some [] → Room k (A.deeper (envOfC qual (defScope st) s.heap.objs.size f cdv)) → sp vs H Q E →
      ∃ t, PSs (cxOf CX0 P w K mg base N qual (defScope st) f cdv A outer s H E).nox (defBody st) t ∧ t { nx := fun _ H' => Q .non H', rt := Q } (L2.start N vs) H) : FnG P w K mg base (k + 1) f fd ps sp := by
  obtain ⟨oc, od, kV, doc, pm, an, cdv, ct, osl, rfl, lk, hcd⟩ := F.ex
  refine ⟨len, fun A outer s H args us vs Q E hG hr e0 hb r hsp => ?_⟩
  -- the written part, as it stands here
  have old : ∀ b o, base.get? b = some o → s.heap.get? b = some o := fun b o e => (e0.bs b o e).1
  have KX : K.In s.heap := e0.mod.kin.keeps old
  refine codeAny_call_function hr.depth (KX _ _ lk) rfl S.co S.gen rfl (PySem.W.codeRec_of KX hcd) (hb _ _ _ _ ?_)
  refine wpAny_newFunctionEnv_cells S.kind (fun ⟨n, v⟩ hy => (S.par n (List.of_mem_zip hy).1).elim .inl fun q => .inr ⟨q, PySem.W.cellsFrom_some _ _ _ (.inl q)⟩) fun env he s1 y => ?_
  subst he
  refine ⟨(e0.mod.nolimit.keeps old).keeps y.toInCall.keep, codeAny_func ?_⟩
  obtain ⟨t, ht, hq⟩ := hbody cdv A outer s H vs Q E hG (hr.deeper _) hsp
  have I0 : L2.Inv (cxOf CX0 P w K mg base N qual (defScope st) f cdv A outer s H E) [] (L2.start N vs) H s1 := inv_start S hr.hd e0 (len _ _ _ _ hsp) r y
  refine wpAny_mono (ht.nox.run [] s1 _ H _ I0 hq) (fun fl s' hs => ?_) fun e s' hs => hs
  cases fl with
  | ret u =>
    obtain ⟨v, σ', H', J, rv, q⟩ := hs
    exact ⟨v, H', J.os, J.bare, J.base, J.hok, rv, q⟩
  | next =>
    obtain ⟨σ', H', J, q⟩ := hs
    exact ⟨V.non, H', J.os, J.bare, J.base, J.hok, rfl, q⟩
  | brk => exact hs.elim fun _ h => h.elim fun _ h => h.2.elim
  | cont => exact hs.elim fun _ h => h.elim fun _ h => h.2.elim
theorem fn_okDG (F : Fun K x qual st f fd) (sc : FnScope N ps (defScope st))
    (hb : ∀ (cdv : Value) (A : Around) (outer : List Env) (s : Shared) (H : Hp) (E : XK) (Z : Addr → Prop), A.guards = some [] → Room k (A.deeper (envOfC qual (defScope st) s.heap.objs.size f cdv)) →
      Db (cxOf CX0 P w K mg base N qual (defScope st) f cdv A outer s H E).nox none Z (defBody st) cs) :
    FnG P w K mg base (k + 1) f fd ps (spD K (fnD ps.length N.length cs)) := by
  refine FnG.mk' F sc (fun vs H Q E ⟨ds, r, q⟩ => by rw [r.length]; exact fnD_arity ds _ q) (fun cdv A outer s H vs Q E hG hr ⟨ds, r, q⟩ => ?_)
  obtain ⟨hl, q⟩ := wp_if q
  refine ⟨_, hb cdv A outer s H E (fun a => ∃ o, H a = some o) hG hr, ?_⟩
  have R := rel_start (S := none) (Z := fun a => ∃ o, H a = some o) r trivial (fun _ z => z) (fun _ z => z.elim) (N.length - vs.length)
  rw [r.length, hl] at R
  refine ⟨_, by unfold L2.start; rw [r.length, hl]; exact R, M.wp_mono (fun r q => ?_) (M.wp_bind.mp q)⟩
  exact endOf_end (fun d q v H' x _ r => q v H' (fun a o e => x.z a o ⟨o, e⟩ e) r) q
end

/-! ### calls of such defs -/
section
variable {X : Cx} {S : SrcA} {Z : Addr → Prop} {e : Expr} {es : List Expr} {c : CE} {cl : CL} {pos p : Pos} {x : Str} {k : Nat} {f : Addr} {fd : FuncData} {ps : List Str} {m : FD} {sp : Sp}
theorem pe_callG {t : TA} {E : XK} (F : FnG X.prog X.w X.K X.mg X.base k f fd ps sp) (hG : X.A.guards = some []) (hr : Room k X.A) (hg : Gl X x) (hm : X.mg x = some (.ref f)) (hk : PySem.W.keepIn X.K (.ref f) = true) (hb : Binds X.K fd ps [])
    (ha : PA X (e :: es) t) (hdb : (x == ("__debug__" : Str)) = false := by decide) (he : starEach (e :: es) X.env = (false, eval e X.env) :: starEach es X.env := by rfl) (hpl : (backTo pos (starEach es X.env)).any (·.1) = false := by rfl) :
    PE X (.Call (.Name x p) (e :: es) [] pos) (tCall sp [] E t) := by
  refine ⟨fun pins s σ H Q I h => ?_⟩
  refine wpAny_Call_Name_kw (ld_glob I hg hm ?_ hdb)
  refine PySem.W.callWith_K (h₀ := X.base) I.ok.mod.kin hk (thn (ha.run pos pins s σ H _ I h) fun us s1 ⟨vs, H1, I1, r, q⟩ => ⟨I1.kIn, ?_⟩) he hpl
  have q : sp vs H1 Q E := by
    have q' : sp (vs ++ []) H1 Q E := q
    rwa [List.append_nil] at q'
  rw [List.nil_append]
  have hl : us.length = ps.length := by rw [← r.length]; exact F.len _ _ _ _ q
  refine wpAny_call (codeAny_mono (F.run X.A X.stack s1 H1 ⟨us, []⟩ us vs Q E hG hr I1.env0 ?_ r q) fun rr s' hq => ?_)
  · have b := hb s1 us I1.kIn (by rw [List.append_nil]; exact hl)
    rw [List.append_nil] at b
    exact b
  · cases rr with
    | error e => exact False.elim hq
    | ok fl =>
      cases fl with
      | ret u => exact I1.after hq
      | next => exact False.elim hq
      | brk => exact False.elim hq
      | cont => exact False.elim hq
theorem dv_callG (F : FnG X.prog X.w X.K X.mg X.base k f fd ps (spD X.K m)) (hG : X.A.guards = some []) (hr : Room k X.A) (hg : Gl X x) (hm : X.mg x = some (.ref f)) (hk : PySem.W.keepIn X.K (.ref f) = true) (hb : Binds X.K fd ps [])
    (ha : Da X S Z (e :: es) cl) (hdb : (x == ("__debug__" : Str)) = false := by decide) (he : starEach (e :: es) X.env = (false, eval e X.env) :: starEach es X.env := by rfl) (hpl : (backTo pos (starEach es X.env)).any (·.1) = false := by rfl) :
    Dv X S Z (.Call (.Name x p) (e :: es) [] pos) (cCall m cl) :=
  PE.imp (pe_callG (E := E0) F hG hr hg hm hk hb ha hdb he hpl) fun σ H Q h => tD_spD h

/-! ### repr -/
def mRepr : FD
  | [.int i] => if i.natAbs.log2 < 1920 then .ret (.str (toString i)) else .bad
  | [.bool b] => .ret (.str (if b then "True" else "False"))
  | [.none] => .ret (.str "None")
  | [.str z] => if (reprText z).length ≤ sizeLine then .ret (.str (reprText z)) else .bad
  | [.list xs] => if (SeqAt.shaped (.list xs) && (PyData.list xs).showable && decide ((PyData.list xs).shown.length ≤ sizeLine)) = true then .ret (.str (PyData.list xs).shown) else .bad
  | [.tuple xs] => if (SeqAt.shaped (.tuple xs) && (PyData.tuple xs).showable && decide ((PyData.tuple xs).shown.length ≤ sizeLine)) = true then .ret (.str (PyData.tuple xs).shown) else .bad
  | _ => .bad
theorem repr_ref (hG : X.A.guards = some []) (hu : X.A.units + 66 < cLine) {pins : List (Addr × Obj)} {s : Shared} {σ : L2.St} {H : Hp} {Q : VK} {a : Addr} {d : PyData} (I : L2.Inv X pins σ H s) (k : SrcOk S H) (r : RepP X.K S H (.ref a) d)
    (h : (SeqAt.shaped d && d.showable && decide (d.shown.length ≤ sizeLine)) = true) (q : Q (.str d.shown) H) : wpAny (model X.prog X.w) X.A (call (.builtin "repr") [.ref a]) (EP X pins σ Q) X.xe s := by
  obtain ⟨h1, h3⟩ := Bool.and_eq_true_iff.mp h
  obtain ⟨h1, h2⟩ := Bool.and_eq_true_iff.mp h1
  have cl := SeqAt.canLay_of_shaped h1
  have dp := SeqAt.depth_of_shaped h1
  obtain ⟨as, rd⟩ := L2.Dp.reads I d _ (.ref a) (r.dp cl) rfl
  refine repr_of_reads' rd h2 (PyData.noDict_hsm (PyData.hasDict_of_canLay d cl)) hG (by omega) (fun _ _ e => e) (fun h' u tk hk => ?_) (of_decide_eq_true h3)
  exact ⟨.str d.shown, H, I.kept (t' := tk) hk, ⟨_, rfl⟩, q⟩
theorem bc_repr (hG : X.A.guards = some []) (hu : X.A.units + 66 < cLine) : CallR X (.builtin "repr") (rC S X.K mRepr) := by
  intro pins s σ H xs us Q I rx ⟨ds, k, rs, w⟩
  unfold mRepr at w
  split at w
  · obtain ⟨v, rfl, r⟩ := pair1 rs
    obtain ⟨hl, w⟩ := wp_if w
    cases RepP.int r
    cases rx with
    | cons r1 r2 =>
      cases r2
      obtain ⟨t, rfl⟩ := r1
      exact PySem.P.repr_of_int hl ⟨.str _, H, I.tok _, ⟨_, rfl⟩, Aft.ret k w (.str _)⟩
  · obtain ⟨v, rfl, r⟩ := pair1 rs
    cases RepP.bool r
    cases rx with
    | cons r1 r2 =>
      cases r2
      cases r1
      exact PySem.P.repr_of_bool ⟨.str _, H, I.tok _, ⟨_, rfl⟩, Aft.ret k w (.str _)⟩
  · obtain ⟨v, rfl, r⟩ := pair1 rs
    cases RepP.none r
    cases rx with
    | cons r1 r2 =>
      cases r2
      cases r1
      exact PySem.P.repr_of_none ⟨.str _, H, I.tok _, ⟨_, rfl⟩, Aft.ret k w (.str _)⟩
  · obtain ⟨v, rfl, r⟩ := pair1 rs
    obtain ⟨hl, w⟩ := wp_if w
    cases RepP.str r
    cases rx with
    | cons r1 r2 =>
      cases r2
      obtain ⟨t, rfl⟩ := r1
      exact PySem.P.repr_of_str ⟨.str _, H, I.tok _, ⟨_, rfl⟩, Aft.ret k w (.str _)⟩ hl
  · obtain ⟨v, rfl, r⟩ := pair1 rs
    obtain ⟨hl, w⟩ := wp_if w
    obtain ⟨a, xs, e, _, _⟩ := RepP.list r
    subst e
    cases rx with
    | cons r1 r2 =>
      cases r2
      cases r1
      exact repr_ref hG hu I k r hl (Aft.ret k w (.str _))
  · obtain ⟨v, rfl, r⟩ := pair1 rs
    obtain ⟨hl, w⟩ := wp_if w
    obtain ⟨a, xs, e, _, _⟩ := RepP.tuple r
    subst e
    cases rx with
    | cons r1 r2 =>
      cases r2
      cases r1
      exact repr_ref hG hu I k r hl (Aft.ret k w (.str _))
  · exact w.elim
end
end DL
namespace DL
open PySem PySem.Spec PyProof.Rows L2

/-! ### what comes to a slot: a value, or a new list of the frame's own -/
abbrev CX2 := En → M Sl
def xV (c : CE) : CX2 := fun e => (c e).bind fun d => .ret (.val d)
def xO (c : CL) : CX2 := fun e => (c e).bind fun ds => .ret (.own ds)
def sPar (i j : Nat) (a b : CX2) : CS := fun e => (a e).bind fun x => (b e).bind fun y => .ret (.nx, (e.set i x).set j y)
def sPar3 (i j l : Nat) (a b c : CX2) : CS := fun e => (a e).bind fun x => (b e).bind fun y => (c e).bind fun z => .ret (.nx, ((e.set i x).set j y).set l z)
/-- a dict of the frame's own -/
def OwD (K : PySem.W.Frag) (H : Hp) (a : Addr) (u : HO) (ds : List (PyData × PyData)) : Prop := H a = some u ∧ ((∃ ks, u = .dK ks ∧ RepK K H ks ds) ∨ ∃ ks, u = DTO (a, ks) ∧ RepT K H ks ds)
theorem OwD.sl {S : SrcA} {Z : Addr → Prop} {K : PySem.W.Frag} {H : Hp} {a : Addr} {u : HO} {ds : List (PyData × PyData)} (h : OwD K H a u ds) (n : ¬ inS S a) (z : ¬ Z a) : RelSl K S Z H (some (.ref a)) (.ownD ds) := by
  obtain ⟨e, ⟨ks, rfl, r⟩ | ⟨ks, rfl, r⟩⟩ := h
  · exact .ownK n z e r
  · exact .ownT n z e r
theorem OwD.same {S : SrcA} {K : PySem.W.Frag} {H H' : Hp} {a : Addr} {u : HO} {ds : List (PyData × PyData)} (h : OwD K H a u ds) (n : ¬ inS S a) (k : SrcOk S H) (s : SameX S H H') : OwD K H' a u ds := by
  obtain ⟨e, ⟨ks, rfl, r⟩ | ⟨ks, rfl, r⟩⟩ := h
  · exact ⟨s _ _ n e, .inl ⟨ks, rfl, r.kp (s.kp k)⟩⟩
  · exact ⟨s _ _ n e, .inr ⟨ks, rfl, r.kp (s.kp k)⟩⟩
inductive NewSl (K : PySem.W.Frag) (H H' : Hp) : V → Sl → Prop
  | val {v : V} {d : PyData} : Rep K H' v d → NewSl K H H' v (.val d)
  | own {a : Addr} {xs : List V} {ds : List PyData} : H a = none → H' a = some (.lst xs) → RepA K H' xs ds → NewSl K H H' (.ref a) (.own ds)
  | ownD {a : Addr} {u : HO} {ds : List (PyData × PyData)} : H a = none → OwD K H' a u ds → NewSl K H H' (.ref a) (.ownD ds)
def tDx (S : SrcA) (Z : Addr → Prop) (K : PySem.W.Frag) (c : CX2) : TE := fun σ H Q => ∃ e, Rel K S Z σ H e ∧ (c e).wp fun s => ∀ v H', SameX S H H' → SrcOk S H' → NewSl K H H' v s → Q v H'
abbrev Dx (X : Cx) (S : SrcA) (Z : Addr → Prop) (e : Expr) (c : CX2) : Prop := PE X e (tDx S Z X.K c)
section
variable {X : Cx} {S : SrcA} {Z : Addr → Prop} {e ea eb ec : Expr} {es : List Expr} {c : CE} {cl : CL} {pos p : Pos} {xa xb xc : CX2}
theorem dx_v (h : Dv X S Z e c) : Dx X S Z e (xV c) := PE.imp h fun σ H Q ⟨en, R, w⟩ => ⟨en, R, M.wp_mono (fun d q => by intro v H' s k r; exact q v H' s k (.val r)) (M.wp_bind.mp w)⟩
theorem dx_o (h : Dl X S Z e cl) : Dx X S Z e (xO cl) := PE.imp h fun σ H Q ⟨en, R, w⟩ => ⟨en, R, M.wp_mono (fun d q => by intro a xs H' s k n e r; exact q _ H' s k (.own n e r)) (M.wp_bind.mp w)⟩
theorem NewSl.same {K : PySem.W.Frag} {H H1 H2 : Hp} {v : V} {s : Sl} (k : SrcOk S H1) (h : SameX S H1 H2) (n : ∀ a, H a = none → ¬ inS S a) (r : NewSl K H H1 v s) : NewSl K H H2 v s := by
  cases r with
  | val r => exact .val (r.kp (h.kp k))
  | own e1 e2 r => exact .own e1 (h _ _ (n _ e1) e2) (r.kp (h.kp k))
  | ownD e1 r => exact .ownD e1 (r.same (n _ e1) k h)
/-- the slot is stored -/
theorem Rel.come {K : PySem.W.Frag} {σ : L2.St} {H H' : Hp} {en : En} {v : V} {s : Sl} (R : Rel K S Z σ H en) (h : SameX S H H') (k : SrcOk S H') (i : Nat) (r : NewSl K H H' v s) : Rel K S Z (σ.set i (some v)) H' (en.set i s) := by
  cases r with
  | val r => exact (R.same h k).set r
  | own n e r => exact R.put h k n (.own (not_new R.src n) (R.notZ n) e r) rfl
  | ownD n r => exact R.put h k n (r.sl (not_new R.src n) (R.notZ n)) rfl
theorem none_back {H H' : Hp} {a : Addr} (k : SrcOk S H') (h : SameX S H H') (n : H' a = none) : H a = none := by
  cases z : H a with
  | none => rfl
  | some o =>
    by_cases y : inS S a
    · exact absurd y (not_new k n)
    · rw [h a o y z] at n; cases n
def xD (c : En → M (List (PyData × PyData))) : CX2 := fun e => (c e).bind fun ds => .ret (.ownD ds)
theorem dax2 {xs : List Expr} (ha : Dx X S Z ea xa) (hb : Dx X S Z eb xb) (h1 : starEach [ea, eb] X.env = (false, eval ea X.env) :: starEach [eb] X.env := by rfl) (h2 : starEach [eb] X.env = (false, eval eb X.env) :: starEach [] X.env := by rfl) :
    PA X [ea, eb] (tCons (tDx S Z X.K xa) (tCons (tDx S Z X.K xb) tNil)) := pa_cons ha (pa_cons hb pa_nil h2) h1
theorem ds_par {i j : Nat} {x y : Str} {px py pt : Pos} {kt k2 pt2} (hc : X.calm = true) (hN : X.N.Nodup) (hi : X.N[i]? = some x) (hj : X.N[j]? = some y) (hij : i ≠ j)
    (hx : X.env.scope.names.lookup x = some .local) (hy : X.env.scope.names.lookup y = some .local) (ha : Dx X S Z ea xa) (hb : Dx X S Z eb xb)
    (hw : swappedStores [.Tuple [.Name x px, .Name y py] kt pt] (.Tuple [ea, eb] k2 pt2) X.env = pure (some [x, y]))
    (hs : swapsWithSole [.Tuple [.Name x px, .Name y py] kt pt] (.Tuple [ea, eb] k2 pt2) pos.line X.env = pure false := by rfl)
    (h1 : starEach [ea, eb] X.env = (false, eval ea X.env) :: starEach [eb] X.env := by rfl) (h2 : starEach [eb] X.env = (false, eval eb X.env) :: starEach [] X.env := by rfl) :
    Ds X S Z (.Assign [.Tuple [.Name x px, .Name y py] kt pt] (.Tuple [ea, eb] k2 pt2) pos) (sPar i j xa xb) := by
  refine PS.imp (ps_par hc hN hi hj hij hx hy (dax2 (xs := []) ha hb h1 h2) hw hs) fun D σ H ⟨en, R, w⟩ => ⟨en, R, M.wp_mono (fun u wu v H1 s1 k1 r1 => ?_) (M.wp_bind.mp w)⟩
  have R1 := R.same s1 k1
  refine ⟨en, R1, M.wp_mono (fun u2 q v2 H2 s2 k2 r2 => ?_) (M.wp_bind.mp wu)⟩
  refine ⟨v, v2, rfl, ?_⟩
  -- the first one is stored at H1, the second one comes at H2
  have Ra := R.come s1 k1 i r1
  have Rb := Ra.come s2 k2 j r2
  exact q _ H2 ((R.ext s1).trans (R1.ext s2)) Rb
theorem ds_par3 {i j l : Nat} {x y z : Str} {px py pz pt : Pos} {kt k2 pt2} (hc : X.calm = true) (hN : X.N.Nodup) (hi : X.N[i]? = some x) (hj : X.N[j]? = some y) (hl : X.N[l]? = some z) (hij : i ≠ j) (hil : i ≠ l) (hjl : j ≠ l)
    (hx : X.env.scope.names.lookup x = some .local) (hy : X.env.scope.names.lookup y = some .local) (hz : X.env.scope.names.lookup z = some .local) (ha : Dx X S Z ea xa) (hb : Dx X S Z eb xb) (hcc : Dx X S Z ec xc)
    (hw : swappedStores [.Tuple [.Name x px, .Name y py, .Name z pz] kt pt] (.Tuple [ea, eb, ec] k2 pt2) X.env = pure (some [x, y, z]))
    (hs : swapsWithSole [.Tuple [.Name x px, .Name y py, .Name z pz] kt pt] (.Tuple [ea, eb, ec] k2 pt2) pos.line X.env = pure false := by rfl)
    (h1 : starEach [ea, eb, ec] X.env = (false, eval ea X.env) :: starEach [eb, ec] X.env := by rfl) (h2 : starEach [eb, ec] X.env = (false, eval eb X.env) :: starEach [ec] X.env := by rfl) (h3 : starEach [ec] X.env = (false, eval ec X.env) :: starEach [] X.env := by rfl) :
    Ds X S Z (.Assign [.Tuple [.Name x px, .Name y py, .Name z pz] kt pt] (.Tuple [ea, eb, ec] k2 pt2) pos) (sPar3 i j l xa xb xc) := by
  refine PS.imp (ps_par3 hc hN hi hj hl hij hil hjl hx hy hz (pa_cons ha (pa_cons hb (pa_cons hcc pa_nil h3) h2) h1) hw hs) fun D σ H ⟨en, R, w⟩ => ⟨en, R, M.wp_mono (fun u wu v H1 s1 k1 r1 => ?_) (M.wp_bind.mp w)⟩
  have R1 := R.same s1 k1
  refine ⟨en, R1, M.wp_mono (fun u2 wu2 v2 H2 s2 k2 r2 => ?_) (M.wp_bind.mp wu)⟩
  have R2 := R1.same s2 k2
  refine ⟨en, R2, M.wp_mono (fun u3 q v3 H3 s3 k3 r3 => ?_) (M.wp_bind.mp wu2)⟩
  refine ⟨v, v2, v3, rfl, ?_⟩
  exact q _ H3 (((R.ext s1).trans (R1.ext s2)).trans (R2.ext s3)) (((R.come s1 k1 i r1).come s2 k2 j r2).come s3 k3 l r3)

/-! ### a thing of the frame's own, or not, stands still -/
theorem db_frzT {i : Nat} {a : CS} {rest : List Stmt} (h : Db X S Z rest a) : Db X S Z rest (sFrzT i a) := by
  refine ⟨fun pins s σ H D I ⟨en, R, w⟩ => ?_⟩
  unfold sFrzT at w
  split at w
  · rename_i ds hd
    exact (db_frz (i := i) h).run pins s σ H D I ⟨en, R, by unfold sFrz; rw [hd]; exact w⟩
  · rename_i ds hd
    exact (db_frz (i := i) h).run pins s σ H D I ⟨en, R, by unfold sFrz; rw [hd]; exact w⟩
  · exact h.run pins s σ H D I ⟨en, R, w⟩
  · exact w.elim

/-! ### stars -/
def caStar (a : CE) (r : CL) : CL := fun e => (a e).bind fun x => (itemsOf x).bind fun ys => (r e).bind fun xs => .ret (ys ++ xs)
theorem RepA.pairedR {K : PySem.W.Frag} {H : Hp} : ∀ {vs : List V} {ds : List PyData}, RepA K H vs ds → Paired (fun v d => Rep K H v d) vs ds
  | _, _, .nil => .nil
  | _, _, .cons r t => .cons r (RepA.pairedR t)
theorem Paired.app {α β : Type} {F : α → β → Prop} : ∀ {xs us : List α} {ys ws : List β}, Paired F xs ys → Paired F us ws → Paired F (xs ++ us) (ys ++ ws)
  | _, _, _, _, .nil, s => s
  | _, _, _, _, .cons r t, s => .cons r (Paired.app t s)
theorem da_star (ha : Dp X S Z e c) (hr : Da X S Z es cl) (hs : starEach (.Starred e p :: es) X.env = (true, eval e X.env) :: starEach es X.env := by rfl) : Da X S Z (.Starred e p :: es) (caStar c cl) := by
  refine PA.imp (StX.pa_star ha hr hs) fun σ H Q ⟨en, R, w⟩ => ⟨en, R, M.wp_mono (fun d wd v H1 s1 k1 r1 => ?_) (M.wp_bind.mp w)⟩
  obtain ⟨a, xs, ds, rfl, h1, h2, q⟩ := itemsOf_wp (M.wp_bind.mp wd) r1
  refine ⟨a, xs, rfl, h1.symm, en, R.same s1 k1, M.wp_mono (fun es' q' vs H2 s2 k2 r2 => ?_) (M.wp_bind.mp q)⟩
  exact q' (xs ++ vs) H2 (s1.trans s2) k2 (Paired.app (RepA.pairedR (h2.kp (s2.kp k1))) r2)

/-! ### backwards -/
def clRev (c : CE) : CL := fun e => (c e).bind fun d => match d with
  | .list xs => .ret xs.reverse
  | _ => .bad
theorem dl_rev {k : Nat} {p1 p2 p3 : Pos} (h : Dp X S Z e c) : Dl X S Z (.Subscript e (.Slice none none (some (.UnaryOp .USub (.Constant (.int 1) k p1) p2)) p3) pos) (clRev c) := by
  refine PE.imp (pe_revL h) fun σ H Q ⟨en, R, w⟩ => ⟨en, R, M.wp_mono (fun d wd v H1 s k r => ?_) (M.wp_bind.mp w)⟩
  cases d <;> first | exact wd.elim | skip
  obtain ⟨a, xs, rfl, h1, h2⟩ := RepP.list r
  refine ⟨a, xs, rfl, h1, fun l hl => ?_⟩
  exact wd l xs.reverse _ (s.trans (.of (same_new hl))) (k.same (same_new hl)) (none_back k s hl) upd_same ((h2.kp (.of (same_new hl))).reverse)
end

/-! ### the source -/
def srcD (c : Addr) (l m t : Int) : List (Key × V) := [(.inr "cells", .ref c), (.inr "left", .int l), (.inr "mixed", .int m), (.inr "turn", .int t)]
theorem srcD_left (c : Addr) (l m t i : Int) : putK (srcD c l m t) (.inr "left") (.int i) = srcD c i m t := by
  unfold srcD putK
  simp (decide := true)
theorem srcD_turn (c : Addr) (l m t i : Int) : putK (srcD c l m t) (.inr "turn") (.int i) = srcD c l m i := by
  unfold srcD putK
  simp (decide := true)
theorem srcD_mixed (c : Addr) (l m t i : Int) : putK (srcD c l m t) (.inr "mixed") (.int i) = srcD c l i t := by
  unfold srcD putK
  simp (decide := true)
theorem srcD_gl (c : Addr) (l m t : Int) : valV (srcD c l m t) (.inr "left") = some (.int l) := by
  unfold srcD valV
  simp (decide := true)
theorem srcD_gc (c : Addr) (l m t : Int) : valV (srcD c l m t) (.inr "cells") = some (.ref c) := by
  unfold srcD valV
  simp (decide := true)
theorem srcD_gm (c : Addr) (l m t : Int) : valV (srcD c l m t) (.inr "mixed") = some (.int m) := by
  unfold srcD valV
  simp (decide := true)
theorem srcD_gt (c : Addr) (l m t : Int) : valV (srcD c l m t) (.inr "turn") = some (.int t) := by
  unfold srcD valV
  simp (decide := true)
end DL
namespace DL
open PySem PySem.Spec PyProof.Rows L2
/-- the draw, from fewer than 2^30 -/
def mPickB : FD
  | [.int n] => if n.natAbs.log2 < 9000 then .pick n fun i => .ret (.int i) else .bad
  | _ => .bad
theorem mPickB_wp {ds : List PyData} {Q : PyData → Prop} (h : (mPickB ds).wp Q) : ∃ n : Int, ds = [.int n] ∧ n.natAbs.log2 < 9000 ∧ ∀ i : Int, 0 ≤ i → i < max 1 n → Q (.int i) := by
  unfold mPickB at h
  split at h
  · obtain ⟨h1, h2⟩ := wp_if h
    exact ⟨_, rfl, h1, h2⟩
  · exact h.elim
theorem mPickB_arity : Arity mPickB 1 := fun ds Q h => by
  obtain ⟨n, rfl, _⟩ := mPickB_wp h
  rfl
/-- the source's promise -/
def spSrc (K : PySem.W.Frag) : Sp := fun vs H Q _ => ∃ (a : Addr) (ns : List Int), vs = [.ref a] ∧ SqL K H a (ns.map V.int) ∧ ns.length ≤ 63 ∧ ∀ H' s c, Same H H' → H s = none → H c = none → SrcAt s c H' → Q (.ref s) H'

/-- the end of a draw, behind the cells' loop -/
abbrev cMax : TE := tCB (fun xs H Q => ∃ i j, xs = [.int i, .int j] ∧ Q (.int (if j > i then j else i)) H) (tCons (tC (.int 1)) (tCons (tVar 1) tNil))
abbrev cInt (t : TE) : TE := tCB (fun xs H Q => (∃ i, xs = [.int i] ∧ Q (.int i) H) ∨ ∃ k, xs = [.bl k] ∧ Q (.int (if k then 1 else 0)) H) (tCons t tNil)
abbrev oAdd : R2 := rI0 fun i j => .int (i + j)
abbrev oMul : R2 := rI CMul fun i j => .int (i * j)
abbrev oMod : R2 := rI (fun _ j => j ≠ 0) fun i j => .int (i.fmod j)
abbrev oDiv : R2 := rI CDivB fun i j => .int (i.fdiv j)
abbrev oLt : R2 := rI0 fun i j => .bl (decide (i < j))
abbrev oGt : R2 := rI0 fun i j => .bl (decide (j < i))
abbrev dGet (k : Str) : TE := tDGet (tVar 0) (tC (.str k))
abbrev dPut (k : Str) (t : TE) : TS := sDPut (tVar 0) (tC (.str k)) t
def tPickEnd : TS := tSeq (tAsg (dGet "left") (gName 2)) (tSeq (tIfS (tOr (tTest (tOp oLt (tVar 1) (tC (.int 2)))) (tTest (tOp oGt (tVar 2) (tC (.int 1)))))
    (tSeq (dPut "left" (tOp oDiv (tVar 2) cMax)) (tRet (tOp oMod (cInt (tVar 2)) cMax))) tNext)
  (tSeq (dPut "turn" (tOp oAdd (dGet "turn") (tC (.int 1))))
  (tSeq (tAsg (tOp oMod (cInt (tOp oAdd (dGet "mixed") (tOp oMul (dGet "turn") (tC (.int 104729))))) (tC (.int 998244353))) (gName 3))
  (tSeq (tAsg (tOp oMod (cInt (tOp oAdd (tOp oMul (tVar 3) (tVar 3)) (tOp oMul (dGet "turn") (tC (.int 17))))) (tC (.int 2147483647))) (gName 3))
  (tSeq (dPut "mixed" (tVar 3)) (tRet (tOp oMod (cInt (tOp oDiv (tVar 3) (tC (.int 16)))) (tVar 1))))))))
theorem fmod_in (a : Int) {m : Int} (h : 0 < m) : 0 ≤ a.fmod m ∧ a.fmod m < m := by
  rw [Int.fmod_eq_emod_of_nonneg a (by omega)]
  exact ⟨Int.emod_nonneg a (by omega), Int.emod_lt_of_pos a h⟩
theorem fdiv_nn {a m : Int} (h0 : 0 ≤ a) (h : 0 < m) : 0 ≤ a.fdiv m := by
  rw [Int.fdiv_eq_ediv_of_nonneg a (by omega)]
  exact Int.ediv_nonneg h0 (by omega)
section
variable {K : PySem.W.Frag} {s c : Addr} {H H2 : Hp} {Q : VK}
theorem src_at {cells : List Int} {l m t : Int} (nsc : s ≠ c) (hc : H2 c = some (.lst (cells.map V.int))) (hp : ∀ x ∈ cells, 0 ≤ x) (hl : 0 ≤ l) (hm : 0 ≤ m) (hm2 : m < 2147483648) (ht : 0 ≤ t) : SrcAt s c (upd H2 s (.dK (srcD c l m t))) :=
  ⟨nsc, cells, l, m, t, by rw [upd_ne nsc.symm]; exact hc, upd_same, hp, hl, hm, hm2, ht⟩
theorem same_s {u : HO} (sm : SameX (some (s, c)) H H2) : SameX (some (s, c)) H (upd H2 s u) := fun b o nb e => by
  rw [upd_ne (fun z => nb (.inl z))]
  exact sm b o nb e
theorem pick_end {cells : List Int} {left mixed turn : Int} (n : Int) (hn : n.natAbs.log2 < 9000) (q : ∀ i : Int, 0 ≤ i → i < max 1 n → ∀ v H', SameX (some (s, c)) H H' → SrcAt s c H' → Rep K H' v (.int i) → Q v H')
    (nsc : s ≠ c) (sm : SameX (some (s, c)) H H2) (hc : H2 c = some (.lst (cells.map V.int))) (hs : H2 s = some (.dK (srcD c left mixed turn))) (hp : ∀ x ∈ cells, 0 ≤ x) (hl : 0 ≤ left) (hm : 0 ≤ mixed) (hm2 : mixed < 2147483648) (ht : 0 ≤ turn)
    (D : Ends) (hD : ∀ v H', D.rt v H' = Q v H') : tPickEnd D [some (.ref s), some (.int n), none, none] H2 := by
  have small : ∀ l m t : Int, (srcD c l m t).length < sizeLine := fun _ _ _ => by show 4 < sizeLine; decide
  refine ⟨_, rfl, s, _, rfl, .inl ⟨_, .inr "left", .inl hs, rfl, (srcD_gl _ _ _ _).symm⟩, ?_⟩
  have first : (tSeq (dPut "left" (tOp oDiv (tVar 2) cMax)) (tRet (tOp oMod (cInt (tVar 2)) cMax))) D [some (.ref s), some (.int n), some (.int left), none] H2 := by
    have m0 : (0 : Int) < (if n > 1 then n else 1) := by split <;> omega
    have mx : (if n > 1 then n else 1) = max 1 n := by split <;> omega
    refine ⟨_, rfl, _, rfl, 1, n, rfl, left, _, rfl, rfl, ⟨by omega, by split <;> first | exact hn | decide⟩, _, rfl, s, _, rfl, .inl ⟨_, .inr "left", hs, rfl, small _ _ _, rfl⟩, ?_⟩
    refine ⟨_, rfl, .inl ⟨_, rfl, _, rfl, 1, n, rfl, left, _, rfl, rfl, by omega, ?_⟩⟩
    rw [hD, srcD_left]
    obtain ⟨f1, f2⟩ := fmod_in left m0
    exact q _ f1 (by omega) _ _ (same_s sm) (src_at nsc hc hp (fdiv_nn hl m0) hm hm2 ht) (.int _)
  -- many < 2 or left > 1
  refine ⟨_, rfl, n, 2, rfl, rfl, _, rfl, ite2 (fun _ => iteT first) (fun g1 => ?_)⟩
  refine ⟨_, rfl, left, 1, rfl, rfl, _, rfl, ite2 (fun _ => first) (fun g2 => ?_)⟩
  have hn2 : 2 ≤ n := by
    have := of_decide_eq_false (Bool.eq_false_iff.mpr g1)
    omega
  refine ⟨_, rfl, s, _, rfl, .inl ⟨_, .inr "turn", .inl hs, rfl, (srcD_gt _ _ _ _).symm⟩, turn, 1, rfl, rfl, _, rfl, s, _, rfl, .inl ⟨_, .inr "turn", hs, rfl, small _ _ _, rfl⟩, ?_⟩
  rw [srcD_turn]
  -- mixed, twice
  refine ⟨_, rfl, s, _, rfl, .inl ⟨_, .inr "mixed", .inl upd_same, rfl, (srcD_gm _ _ _ _).symm⟩, _, rfl, s, _, rfl, .inl ⟨_, .inr "turn", .inl upd_same, rfl, (srcD_gt _ _ _ _).symm⟩, _, _, rfl, rfl, .inr ⟨by decide, by decide⟩, _, _, rfl, rfl, .inl ⟨_, rfl, _, _, rfl, rfl, (by show (998244353 : Int) ≠ 0; decide), ?_⟩⟩
  have b1 := fmod_in (mixed + (turn + 1) * 104729) (m := 998244353) (by decide)
  refine ⟨_, rfl, _, rfl, _, _, rfl, rfl, .inl ⟨by omega, by omega⟩, _, rfl, s, _, rfl, .inl ⟨_, .inr "turn", .inl upd_same, rfl, (srcD_gt _ _ _ _).symm⟩, _, _, rfl, rfl, .inr ⟨by decide, by decide⟩, _, _, rfl, rfl, .inl ⟨_, rfl, _, _, rfl, rfl, (by show (2147483647 : Int) ≠ 0; decide), ?_⟩⟩
  have b2 := fmod_in ((mixed + (turn + 1) * 104729).fmod 998244353 * (mixed + (turn + 1) * 104729).fmod 998244353 + (turn + 1) * 17) (m := 2147483647) (by decide)
  refine ⟨_, rfl, _, rfl, s, _, rfl, .inl ⟨_, .inr "mixed", upd_same, rfl, small _ _ _, rfl⟩, ?_⟩
  rw [srcD_mixed, upd_upd]
  refine ⟨_, rfl, _, _, rfl, rfl, ⟨by decide, by decide⟩, .inl ⟨_, rfl, _, rfl, _, _, rfl, rfl, by omega, ?_⟩⟩
  rw [hD]
  obtain ⟨f1, f2⟩ := fmod_in (Int.fdiv (((mixed + (turn + 1) * 104729).fmod 998244353 * (mixed + (turn + 1) * 104729).fmod 998244353 + (turn + 1) * 17).fmod 2147483647) 16) (m := n) (by omega)
  exact q _ f1 (by omega) _ _ (same_s sm) (src_at nsc hc hp hl b2.1 (by omega) (by omega)) (.int _)
end

def absI (i : Int) : Int := if i < 0 then -i else i
abbrev cAbs (t : TE) : TE := tCB (fun xs H Q => ∃ i, xs = [.int i] ∧ Q (.int (if i < 0 then -i else i)) H) (tCons t tNil)
def tSource (K : PySem.W.Frag) : TS := tSeq (tAsg (tC (.int 11)) (gName 1)) (tSeq (tFor (iList K (tVar 0)) (gName 2)
    (tAsg (tOp oMod (cInt (tOp oAdd (tOp oAdd (tOp oMul (tVar 1) (tC (.int 69069))) (tOp oMul (tVar 2) (tC (.int 31)))) (tC (.int 5)))) (tC (.int 2147483629))) (gName 1)))
  (tRet (tDisp [(tC (.str "cells"), tRevL K (tLc (iList K (tVar 0)) (gName 2) tYes (cAbs (tVar 2)) [2])), (tC (.str "left"), tC (.int 1)), (tC (.str "mixed"), tVar 1), (tC (.str "turn"), tC (.int 0))])))
theorem srcD_merge (c : Addr) (m : Int) : mergeK [] [(Sum.inr "cells", V.ref c), (.inr "left", .int 1), (.inr "mixed", .int m), (.inr "turn", .int 0)] = srcD c 1 m 0 := by
  unfold mergeK srcD putK
  simp (decide := true)
theorem source_end {K : PySem.W.Frag} {a : Addr} {ns : List Int} {H : Hp} {Q : VK} {D : Ends} (hS : SqL K H a (ns.map V.int)) (hl : ns.length ≤ 63) (hD : ∀ v H', D.rt v H' = Q v H')
    (q : ∀ H' s c, Same H H' → H s = none → H c = none → SrcAt s c H' → Q (.ref s) H') : tSource K D [some (.ref a), none, none] H := by
  -- the loop over the script
  refine ⟨_, rfl, a, rfl, ⟨_, hS⟩, for_list (K := K) (a := a) (xs := ns.map V.int) (fun _ σ H' => ∃ (m : Int) (y : Option V), σ = [some (.ref a), some (.int m), y] ∧ 0 ≤ m ∧ m < 2147483629 ∧ H' = H) ⟨11, none, rfl, by decide, by decide, rfl⟩ (fun i σ H' _ ⟨m, y, _, _, _, e⟩ => e ▸ hS) ?_ ?_⟩
  · rintro i x σ H' hx ⟨m, y, rfl, m0, m1, rfl⟩
    obtain ⟨z, rfl⟩ : ∃ z : Int, x = .int z := by
      rw [List.getElem?_map] at hx
      cases e : ns[i]? with
      | none => rw [e] at hx; cases hx
      | some z => rw [e] at hx; cases hx; exact ⟨z, rfl⟩
    refine ⟨_, rfl, _, _, rfl, rfl, .inr ⟨by decide, by decide⟩, _, rfl, _, _, rfl, rfl, .inr ⟨by decide, by decide⟩, _, _, rfl, rfl, _, _, rfl, rfl, .inl ⟨_, rfl, _, _, rfl, rfl, (by show (2147483629 : Int) ≠ 0; decide), ?_⟩⟩
    obtain ⟨f1, f2⟩ := fmod_in (m * 69069 + z * 31 + 5) (m := 2147483629) (by decide)
    exact ⟨_, some (.int z), rfl, f1, f2, rfl⟩
  · rintro σ H' ⟨m, y, rfl, m0, m1, rfl⟩
    -- the dict
    intro p hp
    have hS1 : SqL K (upd H' p (.dK [])) a (ns.map V.int) := (same_new hp).seq hS
    refine ⟨_, rfl, a, rfl, ⟨_, hS1⟩, fun E hE => lc_list (K := K) (a := a) (xs := ns.map V.int) (fun i H2 => H2 = upd (upd H' p (.dK [])) E (.lst (((ns.take i).map absI).map V.int))) rfl (fun i H2 _ e => by rw [e]; exact (same_new hE).seq hS1) ?_ ?_⟩
    · rintro i x H2 hx rfl
      obtain ⟨z, hz, rfl⟩ : ∃ z : Int, ns[i]? = some z ∧ x = .int z := by
        rw [List.getElem?_map] at hx
        cases e : ns[i]? with
        | none => rw [e] at hx; cases hx
        | some z => rw [e] at hx; cases hx; exact ⟨z, rfl, rfl⟩
      refine ⟨rfl, ?_⟩
      unfold tYes
      dsimp only
      rw [if_pos rfl]
      refine ⟨_, rfl, z, rfl, _, upd_same, ?_, ?_⟩
      · rw [List.length_map, List.length_map, List.length_take]
        exact Nat.lt_of_le_of_lt (Nat.le_trans (Nat.min_le_right _ _) hl) (by decide)
      · show upd (upd (upd H' p (.dK [])) E _) E _ = upd (upd H' p (.dK [])) E _
        rw [upd_upd, List.take_add_one, hz, Option.toList_some, List.map_append, List.map_append]
        rfl
    · rintro H2 rfl
      rw [List.length_map, List.take_length]
      refine ⟨E, _, rfl, SqL.of upd_same, fun r hr => ?_⟩
      have npE : p ≠ E := ne_of_none upd_same hE
      have hr1 : (upd H' p (.dK [])) r = none := by
        by_cases e : r = E
        · subst e; exact hE
        · rw [upd_ne e] at hr; exact hr
      have hr0 : H' r = none := by
        by_cases e : r = p
        · subst e; rw [upd_same] at hr1; cases hr1
        · rw [upd_ne e] at hr1; exact hr1
      have npr : p ≠ r := ne_of_none upd_same hr1
      refine ⟨_, rfl, ?_⟩
      refine ⟨by rw [upd_ne npr, upd_ne npE, upd_same], [(.inr "cells", .ref r), (.inr "left", .int 1), (.inr "mixed", .int m), (.inr "turn", .int 0)], rfl, (by show 4 ≤ 15; decide), ?_⟩
      rw [hD, srcD_merge]
      have sm : Same H' (upd (upd (upd (upd H' p (.dK [])) E (.lst ((ns.map absI).map V.int))) r (.lst ((ns.map absI).map V.int).reverse)) p (.dK (srcD r 1 m 0))) := fun b o e => by
        rw [upd_ne (ne_of_none e hp)]
        exact same_new hr b o (same_new hE b o (same_new hp b o e))
      refine q _ p r sm hp hr0 ⟨npr, (ns.map absI).reverse, 1, m, 0, ?_, upd_same, ?_, by decide, m0, by omega, by decide⟩
      · rw [upd_ne npr.symm, upd_same, List.map_reverse]
      · intro x hx
        rw [List.mem_reverse] at hx
        obtain ⟨z, _, rfl⟩ := List.mem_map.mp hx
        unfold absI
        split <;> omega
end DL
namespace DL
open PySem PySem.Spec PyProof.Rows L2

/-- the law: handed a list of at most 63 ints it hands back True, if m, what it does behind the source, always ends so -/
def spLaw (K : PySem.W.Frag) (m : M PyData) : Sp := fun vs H Q _ => ∃ (a : Addr) (ns : List Int), vs = [.ref a] ∧ SqL K H a (ns.map V.int) ∧ ns.length ≤ 63 ∧ (m.wp fun d => d = .bool true) ∧ ∀ H', Q (.bl true) H'
def envLaw (n i : Nat) : En := (List.replicate n .no).set i .src
def lawM (n i : Nat) (cs : CS) : M PyData := (cs (envLaw n i)).bind endOf
theorem pss_ex {X : Cx} {st : List Stmt} {t : SrcA → (Addr → Prop) → TS} (h : ∀ S Z, PSs X st (t S Z)) : PSs X st (fun D σ H => ∃ S Z, t S Z D σ H) := ⟨fun pins s σ H D I ⟨S, Z, q⟩ => (h S Z).run pins s σ H D I q⟩
section
variable {P : Program} {w : World} {K : PySem.W.Frag} {mg : Str → Option Value} {base : Heap} {x qual : Str} {st s0 : Stmt} {rest : List Stmt} {f : Addr} {fd : FuncData} {N : List Str} {k : Nat} {cs : CS}
theorem law_okG (i : Nat) (F : Fun K x qual st f fd) (sc : FnScope N ["script"] (defScope st)) (hi : 0 < i) (hi2 : i < N.length) (hbody : defBody st = s0 :: rest)
    (h0 : ∀ (cdv : Value) (A : Around) (outer : List Env) (s : Shared) (H : Hp) (E : XK), Room k (A.deeper (envOfC qual (defScope st) s.heap.objs.size f cdv)) →
      PS (cxOf CX0 P w K mg base N qual (defScope st) f cdv A outer s H E).nox s0 (tAsg (tCall (spSrc K) [] E0 (tCons (tVar 0) tNil)) (gName i)))
    (hb : ∀ (cdv : Value) (A : Around) (outer : List Env) (s : Shared) (H : Hp) (E : XK) (S : SrcA) (Z : Addr → Prop), A.guards = some [] → Room k (A.deeper (envOfC qual (defScope st) s.heap.objs.size f cdv)) →
      Db (cxOf CX0 P w K mg base N qual (defScope st) f cdv A outer s H E).nox S Z rest cs) :
    FnG P w K mg base (k + 1) f fd ["script"] (spLaw K (lawM N.length i cs)) := by
  refine FnG.mk' F sc (fun vs H Q E ⟨a, ns, e, _⟩ => by rw [e]; rfl) (fun cdv A outer s H vs Q E hG hr ⟨a, ns, e, hS, hl, hm, hq⟩ => ?_)
  subst e
  rw [hbody]
  refine ⟨_, pss_cons (h0 cdv A outer s H E hr) (pss_ex fun S Z => hb cdv A outer s H E S Z hG hr), ?_⟩
  refine ⟨_, rfl, a, ns, rfl, hS, hl, fun H' s' c sm e1 e2 at' => ?_⟩
  have hlen : (L2.start N [V.ref a]).length = N.length := by
    unfold L2.start
    rw [List.length_append, List.length_map, List.length_replicate, List.length_singleton]
    omega
  refine ⟨some (s', c), fun _ => False, envLaw N.length i, ?_, ?_⟩
  · have sl : ∀ (j : Nat) (t : Sl), (envLaw N.length i)[j]? = some t → (j = i ∧ t = .src) ∨ t = .no := fun j t h => by
      unfold envLaw at h
      by_cases e : i = j
      · subst e
        rw [List.getElem?_set_self (by rw [List.length_replicate]; exact hi2)] at h
        cases h
        exact .inl ⟨rfl, rfl⟩
      · rw [List.getElem?_set_ne e, List.getElem?_replicate] at h
        split at h
        · cases h; exact .inr rfl
        · cases h
    have noOwn : ∀ j, ¬ ownE (envLaw N.length i) j := fun j ⟨t, h1, h2⟩ => by
      rcases sl j t h1 with ⟨_, rfl⟩ | rfl <;> cases h2
    refine ⟨?_, fun j t h => ?_, fun j l b _ h _ _ _ => absurd h (noOwn j), at', fun _ z => z.elim, fun _ _ z => z⟩
    · show (List.set (L2.start N [V.ref a]) i _).length = _
      rw [List.length_set, hlen]
      unfold envLaw
      rw [List.length_set, List.length_replicate]
    · rcases sl j t h with ⟨rfl, rfl⟩ | rfl
      · show RelSl K _ _ _ ((List.set (L2.start N [V.ref a]) j (some (V.ref s')))[j]?.join) _
        rw [List.getElem?_set_self (by rw [hlen]; exact hi2)]
        exact .src rfl
      · exact .no
  · refine M.wp_mono (fun r q => ?_) (M.wp_bind.mp hm)
    refine endOf_end (Q' := fun d => d = .bool true) (fun d e v H2 _ _ r => ?_) q
    subst e
    cases r
    exact hq H2
end

/-- the law's def is run behind the top -/
theorem law_run {P : Program} {w : World} {K : PySem.W.Frag} {mg mb : Str → Option Value} {k : Nat} {fa a : Addr} {fd : FuncData} {m : M PyData} {s₁ : Shared} {vs : List Value} {ns : List Int} {H : Hp}
    (KX : K.In s₁.heap) (hns : s₁.heap.Ns mainGlobals mg) (hb : s₁.heap.Ns builtinsNs mb) (hbb : ∀ x : Str, x ≠ "__name__" → mb x = bootBuiltins x) (hlim : s₁.heap.NoLimit) (hg : s₁.gens = #[])
    (ha : s₁.heap.get? a = some { cls := .type "list", data := .seq vs.toArray }) (hl : ns.length ≤ 63) (hr : Room k callerA) (hm : m.wp fun d => d = .bool true)
    (F : ∀ base : Heap, K.In base → base.Ns mainGlobals mg → FnG P w K mg base k fa fd ["script"] (spLaw K m)) (hbind : ∀ (s : Shared) (u : Value), BindsTo s fd ⟨[u], []⟩ [("script", u)])
    (hH : ∀ b u, H b = some u → b = a ∧ u = .frz { cls := .type "list", data := .seq vs.toArray } (.lst (ns.map V.int)) ∧ K.lookup a = none) (hok : HOk P w H s₁.heap) (hS : SqL K H a (ns.map V.int)) :
    codeAny (model P w) callerA (.call (.ref fa) ⟨[.ref a], []⟩) (fun r s' => r = .ok (.ret (.bool true)) ∧ OldK s₁.heap s'.heap ∧ s'.os = s₁.os ∧ AllBare s'.gens) s₁ := by
  -- what is no list of the script's is seen in the base
  have old : ∀ {b : Addr} {o : Obj}, s₁.heap.get? b = some o → (b = a → K.lookup a = none → False) → (hidT s₁.heap H).get? b = some o := fun {b o} e n => hidT_get e (by
    cases q : H b with
    | none => rfl
    | some u =>
      obtain ⟨h1, _, h2⟩ := hH b u q
      exact (n h1 h2).elim)
  have ns' : ∀ {b : Addr} {m : Str → Option Value}, s₁.heap.Ns b m → (hidT s₁.heap H).Ns b m := fun {b m} ⟨o, es, ep, e, d, r⟩ => ⟨o, es, ep, old e (fun z _ => by subst z; rw [ha] at e; cases e; cases d), d, r⟩
  have KB : K.In (hidT s₁.heap H) := fun b o e => old (KX b o e) (fun z n => by subst z; rw [n] at e; cases e)
  have MD : Mod K mg (hidT s₁.heap H) := ⟨KB, ns' hns, ⟨mb, ns' hb, hbb⟩, let ⟨mc, h1, h2⟩ := hlim; ⟨mc, ns' h1, h2⟩⟩
  have none0 : ∀ {b : Addr}, b ∉ frs ([] : List Env) := fun {b} z => by cases z
  have E0 : Env0 P w K mg (hidT s₁.heap H) callerA [] s₁ H := ⟨rfl, MD, fun b o e => of_hidT e, Nat.le_of_eq (hidT_size _ _), trivial, fun b z => (none0 z).elim, hok, .of_eq hg⟩
  have run := (F _ KB (ns' hns)).run callerA [] s₁ H ⟨[.ref a], []⟩ [.ref a] [.ref a] (fun v _ => v = .bl true) (fun _ _ _ => False) rfl hr E0 (hbind s₁ (.ref a)) (.cons rfl .nil) ⟨a, ns, rfl, hS, hl, hm, fun _ => rfl⟩
  refine codeAny_mono run fun r s' h => ?_
  match r, h with
  | .error e, h => exact h.elim
  | .ok .next, h => exact h.elim
  | .ok .brk, h => exact h.elim
  | .ok .cont, h => exact h.elim
  | .ok (.ret u), ⟨v, H', os, bare, un, hok', r', q⟩ =>
    have q : v = .bl true := q
    subst q
    have r' : u = Value.bool true := r'
    subst r'
    refine ⟨rfl, OldK.of_keep fun b o e => ?_, os, bare⟩
    cases z : H b with
    | none => exact un.keep b o e z none0 (fun z => by cases z)
    | some u =>
      obtain ⟨rfl, rfl, _⟩ := hH b u z
      obtain ⟨e2, _⟩ := hok' b _ (un.frzs b _ _ z)
      rw [ha] at e; cases e
      exact e2
/-- the goal that k_head leaves, from what the law does -/
theorem walk_law {l : PySem.W.OpenLaw} {k : Nat} {q : Program} {loose : List Str} {XP : (Str → Option Value) → Heap → Prop} {YP : World → Heap → Prop} {d : DefRec} {K : Params → PySem.W.Frag} {m : M PyData}
    (hn : l.most = some 63) (hdf : d.params.defaults = []) (hr : Room k callerA) (hY : ∀ (w : World) (h : Heap), YP w h → (K w.params).In h) (hm : m.wp fun d => d = .bool true)
    (F : ∀ (w : World) (mg : Str → Option Value) (fa : Addr) (h : Heap), (K w.params).In h → h.Ns mainGlobals mg → mg d.name = some (.ref fa) →
      ∃ fd : FuncData, (∀ (s : Shared) (u : Value), BindsTo s fd ⟨[u], []⟩ [("script", u)]) ∧
        ∀ base : Heap, (K w.params).In base → base.Ns mainGlobals mg → FnG l.prog w (K w.params) mg base k fa fd ["script"] (spLaw (K w.params) m)) :
    PySem.W.WalkO q loose XP YP l.row.toRowW d [] (fun f vs => PySem.call f vs) := by
  refine Att.attach_call hn hdf fun w s₀ s₁ mg mb fa o pm cd doc a vs ns G Y ho hd hcd hmg hobj hints hlen hg => ?_
  have KX := hY w _ Y
  obtain ⟨fd, hb, hF⟩ := F w mg fa _ KX G.T.g hmg
  have rv := vals_ints hints
  have lenV := hints.length
  have big : ns.length ≤ sizeLine := Nat.le_trans hlen (by decide)
  cases hk : (K w.params).lookup a with
  | some ob =>
    have e := KX a ob hk
    rw [hobj] at e; cases e
    exact law_run (H := fun _ => none) KX G.T.g G.T.b G.T.builtins G.T.nolimit hg hobj hlen hr hm hF hb (fun b u z => by cases z) (fun b u z => by cases z)
      (.inr ⟨_, vs.toArray, _, hk, rfl, rfl, rfl, by rw [List.size_toArray, lenV]; exact big, rv⟩)
  | none =>
    have at_a : (fun b => if b = a then some (HO.frz { cls := .type "list", data := .seq vs.toArray } (.lst (ns.map V.int))) else none : Hp) a = some (.frz { cls := .type "list", data := .seq vs.toArray } (.lst (ns.map V.int))) := if_pos rfl
    have only : ∀ b u, (fun b => if b = a then some (HO.frz { cls := .type "list", data := .seq vs.toArray } (.lst (ns.map V.int))) else none : Hp) b = some u → b = a ∧ u = .frz { cls := .type "list", data := .seq vs.toArray } (.lst (ns.map V.int)) := fun b u z => by
      by_cases e : b = a
      · subst e
        rw [at_a] at z; cases z
        exact ⟨rfl, rfl⟩
      · have z' := (if_neg e).symm.trans z
        cases z'
    refine law_run KX G.T.g G.T.b G.T.builtins G.T.nolimit hg hobj hlen hr hm hF hb (fun b u z => ⟨(only b u z).1, (only b u z).2, hk⟩) (fun b u z => ?_) (.inl (.inr ⟨_, at_a⟩))
    obtain ⟨rfl, rfl⟩ := only b u z
    exact ⟨hobj, by rw [List.length_map]; exact big, vs, _, rv, hobj⟩
end DL
namespace DL
open PySem PySem.Spec PyProof.Rows L2
theorem tuple_mulSame (l : Addr) (items : Array Value) (n : Nat) (dd : Option Addr) (sl : Array (Option Value)) (x : Int) (u : Tok) (c0 : (decide (x < -(2 ^ 63)) || decide (x ≥ 2 ^ 63)) = false) (c1 : (items.isEmpty || x == 1) = true) :
    Meets (Builtin.«tuple.__mul__» ⟨[.ref l, .int x u], []⟩) (fun _ R s => s.heap.get? l = some { cls := .type "tuple", dict := dd, data := .seq items n, slots := sl } ∧
      R (.ok (.ret (Value.ref l))) s) :=
  .of_wp fun prog w A R s h => by
    obtain ⟨hp, g, d, tk, os⟩ := s
    obtain ⟨hl, h⟩ := h
    have f1 := AutoSeq1.idx_int
    have hT : (⟨hp, g, d, tk, os⟩ : Shared).TypeIs (.ref l) "tuple" := ⟨_, hl, rfl⟩
    wp_walk using wpAny_loadPart' hl
    repeat (first
      | (refine wpAny_ite_false (decide_eq_false (by rw [c0]; exact Bool.false_ne_true)) ?_; wp_walk using wpAny_loadPart' hl)
      | (refine wpAny_ite_true (decide_eq_true (by rw [c1])) ?_; wp_walk using wpAny_loadPart' hl))
    exact ⟨_, rfl, h⟩
theorem tuple_mulNil (l : Addr) (items : Array Value) (n : Nat) (dd : Option Addr) (sl : Array (Option Value)) (x : Int) (u : Tok) (c0 : (decide (x < -(2 ^ 63)) || decide (x ≥ 2 ^ 63)) = false) (c1 : (items.isEmpty || x == 1) = false) (c2 : (decide (x ≤ 0) || items.isEmpty) = true) :
    Meets (Builtin.«tuple.__mul__» ⟨[.ref l, .int x u], []⟩) (fun _ R s => s.heap.get? l = some { cls := .type "tuple", dict := dd, data := .seq items n, slots := sl } ∧
      R (.ok (.ret (Value.ref s.heap.objs.size))) { s with heap := s.heap.push { cls := Value.type "tuple", data := Data.seq #[] }, toks := s.toks }) :=
  .of_wp fun prog w A R s h => by
    obtain ⟨hp, g, d, tk, os⟩ := s
    obtain ⟨hl, h⟩ := h
    have f1 := AutoSeq1.idx_int
    have hT : (⟨hp, g, d, tk, os⟩ : Shared).TypeIs (.ref l) "tuple" := ⟨_, hl, rfl⟩
    wp_walk using wpAny_loadPart' hl
    repeat (first
      | (refine wpAny_ite_false (decide_eq_false (by rw [c0]; exact Bool.false_ne_true)) ?_; wp_walk using wpAny_loadPart' hl)
      | (refine wpAny_ite_false (decide_eq_false (by rw [c1]; exact Bool.false_ne_true)) ?_; wp_walk using wpAny_loadPart' hl)
      | (refine wpAny_ite_true (decide_eq_true (by rw [c2])) ?_; wp_walk using wpAny_loadPart' hl))
    exact ⟨_, rfl, h⟩
section
variable {X : Cx} {S : SrcA}
/-- tuple * int, any -/
def rRepA (K : PySem.W.Frag) : R2 := fun x y H Q => ∃ l k xs, x = .ref l ∧ y = .int k ∧ SqT K H l xs ∧ -1000 ≤ k ∧ k ≤ 1000 ∧ xs.length ≤ 1000 ∧ ((xs = [] ∨ k = 1) → Q (.ref l) H) ∧ (¬ (xs = [] ∨ k = 1) → ∀ p, H p = none → Q (.ref p) (upd H p (.tup (List.replicate k.toNat xs).flatten)))
theorem op_repA : OpR X (binaryOp .Mult) (rRepA X.K) := by
  intro pins s σ H x y v u Q I rx ry h
  obtain ⟨l, k, xs, rfl, rfl, hT, h1, h2, hz, q1, q2⟩ := h
  by_cases g : xs = [] ∨ k = 1
  · cases rx
    obtain ⟨t, rfl⟩ := ry
    obtain ⟨its, r, ⟨⟨cls, dd, data, sl⟩, ho, hc, n, hd⟩, hs⟩ := I.tuple hT
    simp only at hc hd
    subst hc hd
    have c0 : (decide (k < -(2 ^ 63)) || decide (k ≥ 2 ^ 63)) = false := by
      rw [decide_eq_false (by omega), decide_eq_false (by omega)] <;> rfl
    have c1 : (its.toArray.isEmpty || k == 1) = true := by
      rcases g with g | g
      · subst g; cases r; rfl
      · subst g; rw [show ((1 : Int) == 1) = true from rfl, Bool.or_true]
    refine wpAny_binaryOp_repeat_ref (T := "tuple") (U := "int") (by decide) ⟨_, ho, rfl⟩ (fun s' => typeIs_int s' k t) noFill_tuple_mul F.fills_int_mul F.slot_int_rmul repeat_tuple F.slot_int_index.lookup
      (call_meets F.slot_int_rmul (typeIs_int s k t) F.entry_int_rmul (F.args_int_rmul_2 _ _) (int_rmul_tuple k t l its.toArray n dd sl)
        ⟨ho, rfl, ⟨_, ho, rfl⟩, call_meets F.slot_tuple_mul ⟨_, ho, rfl⟩ F.entry_tuple_mul (F.args_tuple_mul_2 _ _) (tuple_mulSame l its.toArray n dd sl k t c0 c1) ⟨ho, ?_⟩⟩)
    exact ⟨.ref l, H, I, rfl, q1 g⟩
  · have g1 : xs ≠ [] := fun e => g (.inl e)
    have g2 : k ≠ 1 := fun e => g (.inr e)
    by_cases h3 : 2 ≤ k
    · exact op_repT pins s σ H _ _ v u Q I rx ry ⟨l, k, xs, rfl, rfl, hT, g1, h3, h2, hz, q2 g⟩
    · have hk : k ≤ 0 := by omega
      cases rx
      obtain ⟨t, rfl⟩ := ry
      obtain ⟨its, r, ⟨⟨cls, dd, data, sl⟩, ho, hc, n, hd⟩, hs⟩ := I.tuple hT
      simp only at hc hd
      subst hc hd
      have hle : its.length = xs.length := r.length.symm
      have hn : its ≠ [] := fun e => g1 (by
        rw [e] at hle
        exact List.eq_nil_of_length_eq_zero hle.symm)
      have hi : its.toArray.isEmpty = false := by
        cases its with
        | nil => exact absurd rfl hn
        | cons a b => rfl
      have c0 : (decide (k < -(2 ^ 63)) || decide (k ≥ 2 ^ 63)) = false := by
        rw [decide_eq_false (by omega), decide_eq_false (by omega)] <;> rfl
      have c1 : (its.toArray.isEmpty || k == 1) = false := by
        rw [hi, Bool.false_or]
        exact beq_eq_false_iff_ne.mpr (by omega)
      have c2 : (decide (k ≤ 0) || its.toArray.isEmpty) = true := by
        rw [decide_eq_true hk, Bool.true_or]
      refine wpAny_binaryOp_repeat_ref (T := "tuple") (U := "int") (by decide) ⟨_, ho, rfl⟩ (fun s' => typeIs_int s' k t) noFill_tuple_mul F.fills_int_mul F.slot_int_rmul repeat_tuple F.slot_int_index.lookup
        (call_meets F.slot_int_rmul (typeIs_int s k t) F.entry_int_rmul (F.args_int_rmul_2 _ _) (int_rmul_tuple k t l its.toArray n dd sl)
          ⟨ho, rfl, ⟨_, ho, rfl⟩, call_meets F.slot_tuple_mul ⟨_, ho, rfl⟩ F.entry_tuple_mul (F.args_tuple_mul_2 _ _) (tuple_mulNil l its.toArray n dd sl k t c0 c1 c2) ⟨ho, ?_⟩⟩)
      have e : (List.replicate k.toNat xs).flatten = [] := by
        rw [show k.toNat = 0 by omega]; rfl
      refine ⟨.ref s.heap.objs.size, _, I.laid (t' := s.toks) (o := .tup []) (fun b ob q => Heap.get?_push_of_some _ q) (Nat.le_refl _) ?_, rfl, by have := q2 g _ (I.hok.fresh (Nat.le_refl _)); rw [e] at this; exact this⟩
      exact ⟨by rw [sizeLine_eq]; exact Nat.zero_le _, [], .nil, IsTup.new _ _⟩
def mMulT : PyData → PyData → M PyData
  | .tuple a, .int k => if (decide (k.natAbs ≤ 1000) && decide (a.length ≤ 1000)) = true then .ret (.tuple (List.replicate k.toNat a).flatten) else .bad
  | a, b => mMul a b
theorem dop_mulT : OpR X (binaryOp .Mult) (rD S X.K mMulT) := by
  intro pins s σ H x y v u Q I rx ry h
  obtain ⟨dx, dy, k, r1, r2, w⟩ := h
  unfold mMulT at w
  split at w
  · rename_i a j
    obtain ⟨hl, w⟩ := wp_if w
    simp only [Bool.and_eq_true, decide_eq_true_eq] at hl
    obtain ⟨l, xs, rfl, h1, q1⟩ := r1.tuple
    have hlen := q1.length
    refine op_repA pins s σ H _ _ v u Q I rx ry ⟨l, _, xs, rfl, r2.int, h1, by omega, by omega, by omega, fun g => ?_, fun g p hp => Aft.tup k w (q1.flat _) hp⟩
    refine Aft.ret k w (.tup h1 ?_)
    rcases g with g | g
    · subst g
      cases a with
      | cons _ _ => rw [List.length_cons] at hlen; cases hlen
      | nil =>
        rw [show (List.replicate j.toNat ([] : List PyData)).flatten = [] by simp]
        exact .nil
    · subst g
      rw [show (List.replicate (1 : Int).toNat a).flatten = a by simp]
      exact q1
  · exact dop_mul pins s σ H x y v u Q I rx ry ⟨_, _, k, r1, r2, w⟩
end

/-! ### two stores at once, by a tuple that is taken apart again (names that a comprehension takes) -/
section
variable {X : Cx} {S : SrcA} {Z : Addr → Prop} {ea eb ec : Expr} {pos : Pos} {xa xb xc : CX2}
theorem ds_par2 {i j : Nat} {x y : Str} {px py pt : Pos} {kt k2 pt2} (hc : X.calm = true) (hN : X.N.Nodup) (hi : X.N[i]? = some x) (hj : X.N[j]? = some y) (hij : i ≠ j)
    (hx : Loc X.env.scope x) (hy : Loc X.env.scope y) (ha : Dx X S Z ea xa) (hb : Dx X S Z eb xb)
    (hw : swappedStores [.Tuple [.Name x px, .Name y py] kt pt] (.Tuple [ea, eb] k2 pt2) X.env = pure none := by rfl)
    (hs : swapsWithSole [.Tuple [.Name x px, .Name y py] kt pt] (.Tuple [ea, eb] k2 pt2) pos.line X.env = pure false := by rfl)
    (h1 : starEach [ea, eb] X.env = (false, eval ea X.env) :: starEach [eb] X.env := by rfl) (h2 : starEach [eb] X.env = (false, eval eb X.env) :: starEach [] X.env := by rfl)
    (hf : X.fn x = true ∨ X.env.scope.names.lookup x = some .local := by first | exact .inl rfl | exact .inr rfl | assumption) (hf' : X.fn y = true ∨ X.env.scope.names.lookup y = some .local := by first | exact .inl rfl | exact .inr rfl | assumption)
    (hg1 : (assignEach [.Name x px, .Name y py] X.env).map (·.2) = assign (.Name x px) X.env :: (assignEach [.Name y py] X.env).map (·.2) := by rfl) (hg2 : (assignEach [.Name y py] X.env).map (·.2) = assign (.Name y py) X.env :: (assignEach [] X.env).map (·.2) := by rfl)
    (hn : (assignEach [.Name x px, .Name y py] X.env).length = 2 := by rfl) (hst : (assignEach [.Name x px, .Name y py] X.env).findIdx? (·.1) = none := by rfl)
    (h0 : (assignEach [Expr.Tuple [.Name x px, .Name y py] kt pt] X.env).map (·.2) = [assign (Expr.Tuple [.Name x px, .Name y py] kt pt) X.env] := by rfl) :
    Ds X S Z (.Assign [.Tuple [.Name x px, .Name y py] kt pt] (.Tuple [ea, eb] k2 pt2) pos) (sPar i j xa xb) := by
  refine PS.imp (ps_asg (pe_tup (dax2 (xs := []) ha hb h1 h2)) (pg_tup hc (pgs_cons (pg_name hN hi hx hf) (pgs_cons (pg_name hN hj hy hf') pgs_nil hg2) hg1) hn hst) hs hw h0) fun D σ H ⟨en, R, w⟩ => ⟨en, R, M.wp_mono (fun u wu v H1 s1 k1 r1 => ?_) (M.wp_bind.mp w)⟩
  have R1 := R.same s1 k1
  refine ⟨en, R1, M.wp_mono (fun u2 q v2 H2 s2 k2 r2 => ?_) (M.wp_bind.mp wu)⟩
  have Ra := R.come s1 k1 i r1
  have Rb := Ra.come s2 k2 j r2
  refine ⟨by rw [sizeLine_eq]; show 2 ≤ _; omega, fun p hp => ?_⟩
  have s3 : SameX S H2 (upd H2 p (.tup [v, v2])) := .of (same_new hp)
  have k3 : SrcOk S (upd H2 p (.tup [v, v2])) := k2.same (same_new hp)
  exact ⟨p, [v, v2], rfl, .inl (.inl upd_same), rfl, v, _, rfl, v2, _, rfl, rfl, q _ _ (((R.ext s1).trans (R1.ext s2)).trans ((R1.same s2 k2).ext s3)) (Rb.same s3 k3)⟩
end
end DL
namespace DL
open PySem PySem.Spec PyProof.Rows L2

/-! ### the plain side -/
def ofPairsI : List PyData → Option (List (List Int × PyData))
  | [] => some []
  | .tuple [.tuple ks, v] :: r => match asIntsO ks, ofPairsI r with
    | some k, some t => some ((k, v) :: t)
    | _, _ => none
  | _ :: _ => none
theorem asIntsO_of : ∀ ns : List Int, asIntsO (ns.map PyData.int) = some ns
  | [] => rfl
  | n :: ns => by
    show asIntsO (.int n :: ns.map PyData.int) = _
    unfold asIntsO
    rw [asIntsO_of ns]
theorem ofDictI_of : ∀ xs : List (List Int × PyData), ofDictI (dictI xs) = some xs
  | [] => rfl
  | (k, v) :: r => by
    show ofDictI ((.tuple (k.map PyData.int), v) :: dictI r) = _
    unfold ofDictI
    rw [asIntsO_of, ofDictI_of r]
theorem ofDictI_eq : ∀ {ds : List (PyData × PyData)} {xs : List (List Int × PyData)}, ofDictI ds = some xs → ds = dictI xs
  | [], xs, h => by cases h; rfl
  | (a, v) :: r, xs, h => by
    unfold ofDictI at h
    split at h
    · rename_i e; cases e
    · rename_i ks v' r' e
      cases e
      split at h
      · rename_i k t e1 e2
        cases h
        show _ = (PyData.tuple (k.map PyData.int), v) :: dictI t
        rw [← asIntsO_eq e1, ← ofDictI_eq e2]
      · cases h
    · cases h

/-! ### entries -/
section
variable {K : PySem.W.Frag} {H H' : Hp}
def RT3 (K : PySem.W.Frag) (H : Hp) (ks : KT3) (kvs : List (List Int × PyData)) : Prop := Paired (fun q p => q.1 = p.1 ∧ SqT K H q.2.1 (q.1.map V.int) ∧ Rep K H q.2.2 p.2) ks kvs
theorem RT3.rep : ∀ {ks : KT3} {kvs : List (List Int × PyData)}, RT3 K H ks kvs → RepT K H ks (dictI kvs)
  | _, _, .nil => .nil
  | (k, b, v) :: ks, (k', d) :: kvs, .cons ⟨e, h1, h2⟩ t => by
    obtain rfl : k = k' := e
    exact .cons h1 h2 (RT3.rep t)
theorem RepT.rt : ∀ {ks : KT3} {ds : List (PyData × PyData)}, RepT K H ks ds → ∃ kvs, ds = dictI kvs ∧ RT3 K H ks kvs
  | _, _, .nil => ⟨[], rfl, .nil⟩
  | _, _, .cons (k := k) (d := d) h1 h2 t => by
    obtain ⟨kvs, e, r⟩ := RepT.rt t
    exact ⟨(k, d) :: kvs, by rw [e]; rfl, .cons ⟨rfl, h1, h2⟩ r⟩
theorem RT3.of {ks : KT3} {ds : List (PyData × PyData)} {kvs : List (List Int × PyData)} (h : RepT K H ks ds) (e : ofDictI ds = some kvs) : RT3 K H ks kvs := by
  obtain ⟨kvs', e', r⟩ := RepT.rt h
  subst e'
  rw [ofDictI_of] at e
  cases e
  exact r
def put3 (xs : KT3) (k : List Int) (a : Addr) (v : V) : KT3 :=
  if (xs.any fun p => decide (p.1 = k)) = true then xs.map (fun p => if p.1 = k then (p.1, p.2.1, v) else p) else xs ++ [(k, a, v)]
theorem any_paired {α β : Type} {F : α → β → Prop} {f : α → Bool} {g : β → Bool} (h : ∀ a b, F a b → f a = g b) : ∀ {xs : List α} {ys : List β}, Paired F xs ys → xs.any f = ys.any g
  | _, _, .nil => rfl
  | _, _, .cons r t => by rw [List.any_cons, List.any_cons, h _ _ r, any_paired h t]
theorem map_paired {α β γ δ : Type} {F : α → β → Prop} {G : γ → δ → Prop} {f : α → γ} {g : β → δ} (h : ∀ a b, F a b → G (f a) (g b)) : ∀ {xs : List α} {ys : List β}, Paired F xs ys → Paired G (xs.map f) (ys.map g)
  | _, _, .nil => .nil
  | _, _, .cons r t => .cons (h _ _ r) (map_paired h t)
theorem snoc_paired {α β : Type} {F : α → β → Prop} {a : α} {b : β} (h : F a b) : ∀ {xs : List α} {ys : List β}, Paired F xs ys → Paired F (xs ++ [a]) (ys ++ [b])
  | _, _, .nil => .cons h .nil
  | _, _, .cons r t => .cons r (snoc_paired h t)
theorem RT3.put {ks : KT3} {kvs : List (List Int × PyData)} (r : RT3 K H ks kvs) {k : List Int} {a : Addr} {v : V} {d : PyData} (h1 : SqT K H a (k.map V.int)) (h2 : Rep K H v d) : RT3 K H (put3 ks k a v) (putI kvs k d) := by
  unfold put3 putI
  rw [any_paired (g := fun p : List Int × PyData => decide (p.1 = k)) (fun a b h => by rw [h.1]) r]
  split
  · refine map_paired (fun p q h => ?_) r
    rw [h.1]
    by_cases e : q.1 = k
    · rw [if_pos e, if_pos e]
      exact ⟨rfl, by show SqT K H p.2.1 (q.1.map V.int); rw [← h.1]; exact h.2.1, h2⟩
    · rw [if_neg e, if_neg e]; exact h
  · exact snoc_paired ⟨rfl, h1, h2⟩ r
theorem atKey_any {xs : List (List Int × Addr × Value)} {k : List Int} : (atKey xs k).isSome = xs.any fun p => decide (p.1 = k) := by
  unfold atKey
  rw [Option.isSome_map]
  induction xs with
  | nil => rfl
  | cons x r ih =>
    rw [List.find?_cons, List.any_cons]
    cases decide (x.1 = k) with
    | true => rfl
    | false => rw [Bool.false_or, ← ih]
theorem EnT.put {ks : KT3} {xs : List (List Int × Addr × Value)} (r : EnT ks xs) {k : List Int} {a : Addr} {v : V} {u : Value} (h : RelV v u) : EnT (put3 ks k a v) (storedH xs k a u) := by
  unfold put3 storedH
  rw [atKey_any, any_paired (g := fun p : List Int × Addr × Value => decide (p.1 = k)) (fun a b h => by rw [h.1]) r]
  split
  · refine map_paired (fun p q h' => ?_) r
    unfold putAt
    rw [h'.1]
    by_cases e : q.1 = k
    · rw [if_pos e, if_pos e]
      exact ⟨rfl, h'.2.1, h⟩
    · rw [if_neg e, if_neg e]; exact h'
  · exact snoc_paired ⟨rfl, rfl, h⟩ r
end

/-! ### the machine's side -/
section
variable {X : Cx} {pins : List (Addr × Obj)} {σ : L2.St} {H : Hp} {s : Shared}
theorem items_ints : ∀ {ns : List Int} {us : List Value}, Vals (ns.map V.int) us → ItemsAre (PySem.intKind X.prog X.w) ns us
  | [], us, r => by rw [List.map_nil] at r; cases r; exact .nil
  | n :: ns, us, r => by
    rw [List.map_cons] at r
    cases r with
    | cons h t =>
      obtain ⟨tk, rfl⟩ := h
      exact .cons (by simp [PySem.intKind, Value.isInt]) (items_ints t)
theorem key_at (I : Inv X pins σ H s) {a : Addr} {k : List Int} (h : SqT X.K H a (k.map V.int)) : (tupleKind (PySem.intKind X.prog X.w)).is s.heap k a := by
  obtain ⟨its, r, ⟨o, h1, h2, n, h3⟩, _⟩ := I.tuple h
  exact ⟨o, its.toArray, n, h1, h2, h3, by simpa using items_ints r⟩
theorem ent_keys {P : (List Int × Addr × Value) → Prop} {ks : KT3} {xs : List (List Int × Addr × Value)} {kvs : List (List Int × PyData)} (h : ∀ k a u, SqT X.K H a (k.map V.int) → P (k, a, u)) :
    EnT ks xs → RT3 X.K H ks kvs → ∀ x ∈ xs, P x := by
  intro r t
  induction r generalizing kvs with
  | nil => intro x hx; exact nomatch hx
  | @cons p q ps qs hq _ ih =>
    cases t with
    | cons ht t =>
      intro x hx
      rcases List.mem_cons.mp hx with e | hx
      · subst e
        obtain ⟨k, a, u⟩ := x
        obtain ⟨e1, e2, _⟩ := hq
        simp only at e1 e2
        subst e1 e2
        exact h _ _ _ ht.2.1
      · exact ih t x hx
theorem dt_ok (I : Inv X pins σ H s) {a : Addr} {ks : KT3} {kvs : List (List Int × PyData)} (h : Rd H a (DTO (a, ks))) (r : RT3 X.K H ks kvs) : ks.length ≤ sizeLine ∧ (a == sysModules) = false ∧ ∃ xs, EnT ks xs ∧ s.heap.DictOfH (tupleKind (PySem.intKind X.prog X.w)) a xs := by
  obtain ⟨⟨_, z, y, xs, e, o, es, ep, h1, h2, h3, h4, h5⟩, _⟩ := (show ObjOk X.prog X.w H s.heap a (DTO (a, ks)) from h.ok I.hok)
  exact ⟨z, y, xs, e, o, es, ep, h1, h2, h3, h4, ent_keys (fun k a u q => key_at I q) e r, h5⟩
theorem dt_ne (I : Inv X pins σ H s) {a : Addr} {ks : KT3} (h : Rd H a (DTO (a, ks))) : ks ≠ [] := by
  obtain ⟨⟨n, _⟩, _⟩ := (show ObjOk X.prog X.w H s.heap a (DTO (a, ks)) from h.ok I.hok)
  exact n
theorem dt_obj {h : Heap} {a : Addr} {ks : KT3} {xs : List (List Int × Addr × Value)} (n0 : ks ≠ []) (z : ks.length ≤ sizeLine) (y : (a == sysModules) = false) (e : EnT ks xs) (hd : h.DictOfH (tupleKind (PySem.intKind X.prog X.w)) a xs) : ObjOk X.prog X.w H h a (DTO (a, ks)) := by
  obtain ⟨o, es, ep, h1, h2, h3, h4, _, h5⟩ := hd
  exact ⟨⟨n0, z, y, xs, e, o, es, ep, h1, h2, h3, h4, h5⟩, ⟨o, h1⟩, fun g1 g2 ⟨n', z', y', xs', e', o', es', ep', q1, q2, q3, q4, q5⟩ st => ⟨n', z', y', xs', e', o', es', ep', st _ q1, q2, q3, q4, q5⟩⟩
/-! ### dict(pairs) -/
theorem pairs3 {K : PySem.W.Frag} {H : Hp} : ∀ {vs : List V} {ds : List PyData} {kvs : List (List Int × PyData)}, RepA K H vs ds → ofPairsI ds = some kvs → ∃ (ps : List Addr) (ks : KT3), vs = ps.map V.ref ∧ Paired (fun p q => SqT K H p [V.ref q.2.1, q.2.2]) ps ks ∧ RT3 K H ks kvs
  | _, _, kvs, .nil, h => by cases h; exact ⟨[], [], rfl, .nil, .nil⟩
  | _, _, kvs, .cons r t, h => by
    unfold ofPairsI at h
    split at h
    · rename_i e; cases e
    · rename_i kd d rr e
      cases e
      split at h
      · rename_i k t' e1 e2
        cases h
        obtain ⟨ps, ks, rfl, h1, h2⟩ := pairs3 t e2
        cases r with
        | tup hs ha =>
          cases ha with
          | cons hk ha =>
            cases ha with
            | cons hd ha =>
              cases ha
              cases hk with
              | tup hks hka =>
                rw [asIntsO_eq e1] at hka
                rw [hka.ints] at hks
                exact ⟨_ :: ps, (k, _, _) :: ks, rfl, .cons hs h1, .cons ⟨rfl, hks, hd⟩ h2⟩
      · cases h
    · cases h
theorem put3_length (xs : KT3) (k : List Int) (a : Addr) (v : V) : (put3 xs k a v).length ≤ xs.length + 1 := by
  unfold put3
  split
  · rw [List.length_map]; omega
  · rw [List.length_append]; exact Nat.le_refl _
theorem putAll_length (ks : KT3) : ∀ acc : KT3, (ks.foldl (fun acc q => put3 acc q.1 q.2.1 q.2.2) acc).length ≤ acc.length + ks.length := by
  induction ks with
  | nil => intro acc; exact Nat.le_refl _
  | cons q ks ih =>
    intro acc
    rw [List.foldl_cons]
    refine Nat.le_trans (ih _) ?_
    have := put3_length acc q.1 q.2.1 q.2.2
    rw [List.length_cons]
    omega
theorem put3_ne (xs : KT3) (k : List Int) (a : Addr) (v : V) : put3 xs k a v ≠ [] := by
  unfold put3
  split
  · rename_i h
    intro z
    rw [List.map_eq_nil_iff] at z
    subst z
    simp at h
  · simp
theorem putAll_ne {ks : KT3} (h : ks ≠ []) (acc : KT3) : ks.foldl (fun acc q => put3 acc q.1 q.2.1 q.2.2) acc ≠ [] := by
  induction ks generalizing acc with
  | nil => exact absurd rfl h
  | cons q ks ih =>
    rw [List.foldl_cons]
    by_cases e : ks = []
    · subst e; exact put3_ne _ _ _ _
    · exact ih e _
theorem RT3.putAll {K : PySem.W.Frag} {H : Hp} : ∀ {ks : KT3} {kvs : List (List Int × PyData)}, RT3 K H ks kvs → ∀ {ks0 : KT3} {kvs0 : List (List Int × PyData)}, RT3 K H ks0 kvs0 → RT3 K H (ks.foldl (fun acc q => put3 acc q.1 q.2.1 q.2.2) ks0) (kvs.foldl (fun acc q => putI acc q.1 q.2) kvs0)
  | _, _, .nil, _, _, r => r
  | (k, b, v) :: _, (k', d) :: _, .cons ⟨e, h1, h2⟩ t, _, _, r => by
    obtain rfl : k = k' := e
    exact RT3.putAll t (r.put h1 h2)
theorem EnT.putAll : ∀ {ks : KT3} {xs : List (List Int × Addr × Value)}, EnT ks xs → ∀ {ks0 : KT3} {xs0 : List (List Int × Addr × Value)}, EnT ks0 xs0 → EnT (ks.foldl (fun acc q => put3 acc q.1 q.2.1 q.2.2) ks0) (storedAllH xs0 xs)
  | _, _, .nil, _, _, r => r
  | (k, b, v) :: _, (k', b', u) :: _, .cons ⟨e1, e2, e3⟩ t, _, _, r => by
    obtain rfl : k = k' := e1
    obtain rfl : b = b' := e2
    exact EnT.putAll t (r.put e3)
theorem ent_pairs (I : Inv X pins σ H s) : ∀ {ps : List Addr} {ks : KT3}, Paired (fun p q => SqT X.K H p [V.ref q.2.1, q.2.2]) ps ks → ∃ xs : List (List Int × Addr × Value), EnT ks xs ∧ xs.length = ps.length ∧ ∀ (j : Nat) (p : Addr) (q : List Int × Addr × Value), ps[j]? = some p → xs[j]? = some q → s.heap.IsTuple p #[.ref q.2.1, q.2.2]
  | _, _, .nil => ⟨[], .nil, rfl, fun j p q h => by simp at h⟩
  | _, _, .cons (a := p0) (b := q0) h t => by
    obtain ⟨xs, e, hl, hp⟩ := ent_pairs I t
    obtain ⟨its, rv, ht, _⟩ := I.tuple h
    obtain ⟨u, y, ei, ru, ry⟩ := vals2 rv
    subst ei
    obtain rfl : u = .ref q0.2.1 := ru
    refine ⟨(q0.1, q0.2.1, y) :: xs, .cons ⟨rfl, rfl, ry⟩ e, by rw [List.length_cons, List.length_cons, hl], fun j p q h1 h2 => ?_⟩
    cases j with
    | zero => cases h1; cases h2; exact ht
    | succ j => exact hp j p q (by simpa using h1) (by simpa using h2)
def ofPairsK : List PyData → Option KD
  | [] => some []
  | .tuple [kd, v] :: r => match keyOf kd, ofPairsK r with
    | some k, some t => some ((k, v) :: t)
    | _, _ => none
  | _ :: _ => none
def mDictI : FD
  | [.list ps] => match ofPairsI ps with
    | some kvs => if kvs.isEmpty = true then .bad else .ret (.dict (dictI (kvs.foldl (fun acc q => putI acc q.1 q.2) [])))
    | none => .bad
  | _ => .bad
def mDict : FD
  | [.list ps] => match ofPairsK ps with
    | some kvs => .ret (.dict (dictK (kvs.foldl (fun acc q => putKD acc q.1 q.2) [])))
    | none => mDictI [.list ps]
  | _ => .bad
variable {S : SrcA}
theorem bc_dictI (hc : X.calm = true) (hu : X.A.units + 3 < cLine) : CallR X (.type "dict") (rC S X.K mDictI) := by
  intro pins s σ H xs us Q I rx ⟨ds, k, rs, w⟩
  unfold mDictI at w
  split at w
  · rename_i pd
    split at w
    · rename_i kvs e
      split at w
      · exact w.elim
      rename_i hne
      obtain ⟨v, rfl, r⟩ := pair1 rs
      obtain ⟨a, vs, rfl, h1, h2⟩ := RepP.list r
      obtain ⟨ps, ks, rfl, q1, q2⟩ := pairs3 h2 e
      obtain ⟨u, rfl, ru⟩ := vals1 rx
      obtain rfl : u = .ref a := ru
      obtain ⟨its, rv, ⟨o, n, ho, hcl, hd, hdat⟩, hz⟩ := I.list h1
      have ei := refs_at rv
      subst ei
      rw [List.length_map] at hz
      obtain ⟨xs, ent, hxl, hat⟩ := ent_pairs I q1
      have hkeys := ent_keys (P := fun x => SqT X.K H x.2.1 (x.1.map V.int)) (fun k a u q => q) ent q2
      refine call_dict_pairsH (knd := tupleKind (PySem.intKind X.prog X.w)) (ps := xs) (PairArg.list a (ps.map Value.ref).toArray (fun j => ps.getD j 0) (xs.map fun x => (Value.ref x.2.1, x.2.2)))
        (I.ok.hd hc) (show X.A.units + 1 + 1 < cLine by omega) ⟨⟨o, n, ho, hcl, hd, hdat⟩, by simp [hxl], fun j kk vv hj => ?_⟩ ⟨by rw [List.length_map], fun i key v hh => ?_⟩ (fun h' st x hx => ?_) (by rw [List.length_map, hxl]; exact hz) (fun h' tk hd' hk => ?_)
      · obtain ⟨x, hx, e1⟩ : ∃ x, xs[j]? = some x ∧ (Value.ref x.2.1, x.2.2) = (kk, vv) := by
          rw [List.getElem?_map] at hj
          cases z : xs[j]? with
          | none => rw [z] at hj; cases hj
          | some x => rw [z] at hj; exact ⟨x, rfl, Option.some.inj hj⟩
        cases e1
        obtain ⟨p, hp⟩ : ∃ p, ps[j]? = some p := ⟨ps[j]'(by rw [← hxl]; exact (List.getElem?_eq_some_iff.mp hx).1), List.getElem?_eq_getElem _⟩
        have ed : ps.getD j 0 = p := by rw [List.getD_eq_getElem?_getD, hp]; rfl
        refine ⟨?_, .inl ?_⟩
        · show (ps.map Value.ref).toArray[j]? = some (.ref (ps.getD j 0))
          rw [ed]
          simp [hp]
        · show s.heap.IsTuple (ps.getD j 0) _
          rw [ed]; exact hat j p x hp hx
      · have hh : (xs.map fun x => (Value.ref x.2.1, x.2.2))[i]? = some (key, v) := hh
        rw [List.getElem?_map] at hh
        cases z : xs[i]? with
        | none => rw [z] at hh; cases hh
        | some x => rw [z] at hh; cases hh; exact ⟨x.1, x.2.1, rfl, rfl⟩
      · obtain ⟨o2, its2, n2, g1, g2, g3, g4⟩ := key_at I (hkeys x hx)
        exact ⟨o2, its2, n2, st _ _ (fun z => absurd (z ▸ Heap.lt_size g1) (Nat.lt_irrefl _)) (by simp) g1, g2, g3, g4⟩
      · have hm : (s.heap.objs.size == sysModules) = false := beq_eq_false_iff_ne.mpr (Nat.ne_of_gt I.big)
        have hlen := putAll_length ks []
        have he : ks.length = ps.length := by rw [← hxl]; exact Paired.length ent
        rw [List.length_nil, Nat.zero_add, he] at hlen
        have hfr : H s.heap.objs.size = none := I.hok.fresh (Nat.le_refl _)
        refine EP.lock ⟨.ref s.heap.objs.size, upd H s.heap.objs.size (DTO (s.heap.objs.size, ks.foldl (fun acc q => put3 acc q.1 q.2.1 q.2.2) [])), I.laid (t' := tk) (fun b o q => hk b o (by simp) q) (Nat.le_refl _)
          (dt_obj (putAll_ne (ks := ks) (by intro z; subst z; cases q2; exact hne rfl) []) (by show (ks.foldl (fun acc q => put3 acc q.1 q.2.1 q.2.2) []).length ≤ sizeLine; omega) hm (EnT.putAll ent .nil) hd'), rfl, ?_⟩
        refine ⟨s.heap.objs.size, _, rfl, upd_same, .inr (.inr ⟨_, rfl⟩), fun o => ?_⟩
        rw [upd_upd]
        exact w _ _ (.of (same_new hfr)) (k.same (same_new hfr)) (.dT ⟨o, upd_same⟩ (RepT.kp (.of (same_new hfr)) (RT3.rep (RT3.putAll q2 .nil))))
    · exact w.elim
  · exact w.elim
/-- len of a dict -/
def mLenD : FD
  | [.dict kvs] => match ofDictI kvs with
    | some _ => if kvs.length ≤ 1000000 then .ret (.int kvs.length) else .bad
    | none => .bad
  | ds => mLen ds
theorem RepP.dict {K : PySem.W.Frag} {H : Hp} {v : V} {ds : List (PyData × PyData)} (r : RepP K S H v (.dict ds)) : ∃ a, v = .ref a ∧ ((∃ ks, Rd H a (.dK ks) ∧ RepK K H ks ds) ∨ ∃ ks, Rd H a (DTO (a, ks)) ∧ RepT K H ks ds) := by
  cases r with
  | rep r =>
    cases r with
    | dK h1 h2 => exact ⟨_, rfl, .inl ⟨_, .inr h1, h2⟩⟩
    | dT h1 h2 => exact ⟨_, rfl, .inr ⟨_, .inr h1, h2⟩⟩
  | ownK n e r => exact ⟨_, rfl, .inl ⟨_, .inl e, r⟩⟩
  | ownT n e r => exact ⟨_, rfl, .inr ⟨_, .inl e, r⟩⟩
theorem RepK.length {K : PySem.W.Frag} {H : Hp} : ∀ {ks : List (Key × V)} {ds : List (PyData × PyData)}, RepK K H ks ds → ks.length = ds.length
  | _, _, .nil => rfl
  | _, _, .cons _ t => by rw [List.length_cons, List.length_cons, RepK.length t]
theorem bc_lenD : CallR X (.builtin "len") (rC S X.K mLenD) := by
  intro pins s σ H xs us Q I rx ⟨ds, k, rs, w⟩
  unfold mLenD at w
  split at w
  · rename_i kvs
    split at w
    · rename_i kv e
      obtain ⟨hl, w⟩ := wp_if w
      obtain ⟨v, rfl, r⟩ := pair1 rs
      obtain ⟨a, rfl, ⟨ks, h1, h2⟩ | ⟨ks, h1, h2⟩⟩ := RepP.dict r
      · obtain ⟨u, rfl, ru⟩ := vals1 rx
        obtain rfl : u = .ref a := ru
        refine d_len I h1 fun t s' I' => ⟨.int ks.length, H, I', ⟨t, rfl⟩, Aft.ret k w (by rw [h2.length]; exact .int _)⟩
      · obtain ⟨u, rfl, ru⟩ := vals1 rx
        obtain rfl : u = .ref a := ru
        have q2 := RT3.of h2 e
        obtain ⟨z, hd, xs, ent, dd⟩ := dt_ok I h1 q2
        have e1 : ks.length = xs.length := Paired.length ent
        have e2 : ks.length = kvs.length := by rw [ofDictI_eq e]; unfold dictI; rw [List.length_map]; exact Paired.length q2
        refine call_len_dictH hd dd (by omega) ?_
        rw [← e1, e2]
        exact ⟨.int ((kvs.length : Nat) : Int), H, I.tok _, ⟨_, rfl⟩, Aft.ret k w (.int _)⟩
    · exact w.elim
  · exact bc_len pins s σ H xs us Q I rx ⟨_, k, rs, w⟩
end
theorem room66 {A : Around} {k : Nat} (hr : Room k A) : A.units + 66 < cLine := by have := hr.un; omega
theorem room3 {A : Around} {k : Nat} (hr : Room k A) : A.units + 3 < cLine := by have := hr.un; omega
end DL
namespace DL
open PySem PySem.Spec PyProof.Rows L2
def mEqS : PyData → PyData → M PyData
  | .int i, .int j => .ret (.bool (decide (i = j)))
  | .str i, .str j => .ret (.bool (decide (i = j)))
  | a, b => mEq a b
def mNeS : PyData → PyData → M PyData
  | .int i, .int j => .ret (.bool (!decide (i = j)))
  | .str i, .str j => .ret (.bool (!decide (i = j)))
  | a, b => mNe a b
section
variable {X : Cx} {S : SrcA}
theorem dop_eqS (hu : X.A.units + 64 < cLine) : OpR X (compareOp .Eq) (rD S X.K mEqS) := by
  intro pins s σ H x y v u Q I rx ry ⟨dx, dy, k, r1, r2, w⟩
  unfold mEqS at w
  split at w
  · cases r1.int; cases r2.int
    exact op_eq pins s σ H _ _ v u Q I rx ry ⟨rfl, Aft.ret k w (by rw [show ∀ i j : Int, decide (V.int i = V.int j) = decide (i = j) from fun i j => by simp]; exact .bl _)⟩
  · cases r1.str; cases r2.str
    exact op_eq pins s σ H _ _ v u Q I rx ry ⟨rfl, Aft.ret k w (by rw [show ∀ i j : Str, decide (V.str i = V.str j) = decide (i = j) from fun i j => by simp]; exact .bl _)⟩
  · exact dop_eq hu pins s σ H x y v u Q I rx ry ⟨_, _, k, r1, r2, w⟩
theorem dop_neS (hu : X.A.units + 64 < cLine) : OpR X (compareOp .NotEq) (rD S X.K mNeS) := by
  intro pins s σ H x y v u Q I rx ry ⟨dx, dy, k, r1, r2, w⟩
  unfold mNeS at w
  split at w
  · cases r1.int; cases r2.int
    exact op_ne pins s σ H _ _ v u Q I rx ry ⟨rfl, Aft.ret k w (by rw [show ∀ i j : Int, decide (V.int i = V.int j) = decide (i = j) from fun i j => by simp]; exact .bl _)⟩
  · cases r1.str; cases r2.str
    exact op_ne pins s σ H _ _ v u Q I rx ry ⟨rfl, Aft.ret k w (by rw [show ∀ i j : Str, decide (V.str i = V.str j) = decide (i = j) from fun i j => by simp]; exact .bl _)⟩
  · exact dop_ne hu pins s σ H x y v u Q I rx ry ⟨_, _, k, r1, r2, w⟩
end
/-! ### the text of data: that there is one -/
mutual
def cost : PyData → Nat
  | .int i => i.natAbs.log2 + 2
  | .bool _ => 5
  | .none => 4
  | .list xs | .tuple xs => costAll xs + 3
  | .str _ | .dict _ => 0
def costAll : List PyData → Nat
  | [] => 0
  | x :: xs => cost x + 2 + costAll xs
end
mutual
def plain0 : PyData → Bool
  | .int i => decide (i.natAbs.log2 < 1920)
  | .bool _ | .none => true
  | .list xs | .tuple xs => plain0All xs
  | .str _ | .dict _ => false
def plain0All : List PyData → Bool
  | [] => true
  | x :: xs => plain0 x && plain0All xs
end
def repb (d : PyData) : Bool := plain0 d && decide (d.depth ≤ 64) && decide (cost d ≤ 16000000)
mutual
theorem plain0_lay : ∀ d : PyData, plain0 d = true → d.canLay0 = true
  | .int i, _ => rfl
  | .bool _, _ => rfl
  | .none, _ => rfl
  | .list xs, h => by simp only [PyData.canLay0]; exact plain0_layAll xs (by simpa only [plain0] using h)
  | .tuple xs, h => by simp only [PyData.canLay0]; exact plain0_layAll xs (by simpa only [plain0] using h)
  | .str _, h => by simp only [plain0] at h; exact nomatch h
  | .dict _, h => by simp only [plain0] at h; exact nomatch h
theorem plain0_layAll : ∀ xs : List PyData, plain0All xs = true → PyData.canLayAll0 xs = true
  | [], _ => rfl
  | x :: xs, h => by
    have h' : plain0 x = true ∧ plain0All xs = true := by simpa only [plain0All, Bool.and_eq_true] using h
    simp only [PyData.canLayAll0, plain0_lay x h'.1, plain0_layAll xs h'.2, Bool.and_self]
end
mutual
theorem plain0_show : ∀ d : PyData, plain0 d = true → d.showable = true
  | .int i, h => by simpa only [plain0, PyData.showable] using h
  | .bool _, _ => rfl
  | .none, _ => rfl
  | .list xs, h => by simp only [PyData.showable]; exact plain0_showAll xs (by simpa only [plain0] using h)
  | .tuple xs, h => by simp only [PyData.showable]; exact plain0_showAll xs (by simpa only [plain0] using h)
  | .str _, h => by simp only [plain0] at h; exact nomatch h
  | .dict _, h => by simp only [plain0] at h; exact nomatch h
theorem plain0_showAll : ∀ xs : List PyData, plain0All xs = true → PyData.showableAll xs = true
  | [], _ => rfl
  | x :: xs, h => by
    have h' : plain0 x = true ∧ plain0All xs = true := by simpa only [plain0All, Bool.and_eq_true] using h
    simp only [PyData.showableAll, plain0_show x h'.1, plain0_showAll xs h'.2, Bool.and_self]
end
mutual
theorem shown_cost : ∀ d : PyData, plain0 d = true → d.shown.length ≤ cost d
  | .int i, h => by
    have e := int_text_length_le (a := i) (k := i.natAbs.log2 + 1) (by omega) (by omega)
    show (Str.ofString (toString i)).length ≤ _
    rw [PySem.ofString_length]
    simp only [cost]
    omega
  | .bool b, _ => by cases b <;> decide
  | .none, _ => by decide
  | .list xs, h => by
    have h1 := shown_costAll xs (by simpa only [plain0] using h)
    have h2 := listText_len_le (PyData.shownAll xs)
    have h3 := PyData.shownAll_length xs
    simp only [PyData.shown, cost]
    omega
  | .tuple xs, h => by
    have h1 := shown_costAll xs (by simpa only [plain0] using h)
    have h2 := tupleText_len_le (PyData.shownAll xs)
    have h3 := PyData.shownAll_length xs
    simp only [PyData.shown, cost]
    omega
  | .str _, h => by simp only [plain0] at h; exact nomatch h
  | .dict _, h => by simp only [plain0] at h; exact nomatch h
theorem shown_costAll : ∀ xs : List PyData, plain0All xs = true → ((PyData.shownAll xs).map (·.length)).sum + 2 * xs.length ≤ costAll xs
  | [], _ => by simp only [PyData.shownAll, costAll, List.map_nil, List.sum_nil, List.length_nil]; omega
  | x :: xs, h => by
    have h' : plain0 x = true ∧ plain0All xs = true := by simpa only [plain0All, Bool.and_eq_true] using h
    have h1 := shown_cost x h'.1
    have h2 := shown_costAll xs h'.2
    simp only [PyData.shownAll, costAll, List.map_cons, List.sum_cons, List.length_cons]
    omega
end
theorem mRepr_of {d : PyData} (h : repb d = true) : mRepr [d] = .ret (.str d.shown) := by
  simp only [repb, Bool.and_eq_true, decide_eq_true_eq] at h
  obtain ⟨⟨h1, h2⟩, h3⟩ := h
  have c1 := plain0_lay d h1
  have c2 := plain0_show d h1
  have c3 := shown_cost d h1
  have c4 : d.shown.length ≤ sizeLine := by rw [sizeLine_eq]; omega
  have c5 : SeqAt.shaped d = true := by unfold SeqAt.shaped; rw [c1, decide_eq_true h2]; rfl
  cases d with
  | int i =>
    show (if i.natAbs.log2 < 1920 then _ else _) = _
    rw [if_pos (by simpa only [plain0, decide_eq_true_eq] using h1)]
    rfl
  | bool b => rfl
  | none => rfl
  | list xs =>
    show (if _ then _ else _) = _
    rw [if_pos (by rw [c5, c2, decide_eq_true c4]; rfl)]
  | tuple xs =>
    show (if _ then _ else _) = _
    rw [if_pos (by rw [c5, c2, decide_eq_true c4]; rfl)]
  | str _ => simp only [plain0] at h1; exact nomatch h1
  | dict _ => simp only [plain0] at h1; exact nomatch h1
theorem M.wp_false {α : Type} : ∀ {m : M α}, m.wp (fun _ => False) → False
  | .ret _, h => h
  | .bad, h => h
  | .pick n k, h => M.wp_false (h 0 (Int.le_refl 0) (by omega))
/-- repr(a) != repr(b) where both are alike -/
theorem reprNe_wp {a b : CE} {e : En} {Q : PyData → Prop} (h : (a e).wp fun d => (b e).wp fun d' => d = d' ∧ repb d = true ∧ Q (.bool false)) :
    (cOp2 mNeS (cCall mRepr (caCons a caNil)) (cCall mRepr (caCons b caNil)) e).wp Q := by
  unfold cOp2 cCall caCons caNil
  simp only [M.bind_assoc, M.ret_bind]
  refine M.wp_bind.mpr (M.wp_mono (fun d q => ?_) h)
  by_cases hd : repb d = true
  · rw [mRepr_of hd]
    simp only [M.ret_bind, M.bind_assoc]
    refine M.wp_bind.mpr (M.wp_mono (fun d' q' => ?_) q)
    obtain ⟨rfl, _, q'⟩ := q'
    rw [mRepr_of hd]
    simp only [M.ret_bind, mNeS, decide_true, Bool.not_true]
    exact q'
  · exact (M.wp_false (M.wp_mono (fun d' q' => hd q'.2.1) q)).elim
end DL
namespace DL
theorem inB_of {i : Int} (h : 0 ≤ i) (h2 : i ≤ 1000000000) : inB i = true := by
  refine decide_eq_true ?_
  by_cases h0 : i.natAbs = 0
  · rw [h0]; decide
  · exact (Nat.log2_lt h0).mpr (by omega)
open PySem PySem.Spec PyProof.Rows L2
/-! ### runs -/
def okb {α : Type} (m : M α) (p : α → Bool) : Bool := match m with
  | .ret a => p a
  | _ => false
theorem okb_wp {α : Type} {m : M α} {p : α → Bool} {Q : α → Prop} (h : okb m p = true) (hq : ∀ a, p a = true → Q a) : m.wp Q := by
  cases m with
  | ret a => exact hq a h
  | bad => cases h
  | pick n k => cases h
def nxb : Fl × En → Bool
  | (.nx, _) => true
  | _ => false
/-- the frame behind a statement that goes on -/
def nxE (m : M (Fl × En)) : En := match m with
  | .ret (_, e) => e
  | _ => []
theorem nx_ret {m : M (Fl × En)} (h : okb m nxb = true) : m = .ret (.nx, nxE m) := by
  cases m with
  | ret r =>
    obtain ⟨f, e⟩ := r
    cases f with
    | nx => rfl
    | bk => cases h
    | ct => cases h
    | rt d => cases h
  | bad => cases h
  | pick n k => cases h
mutual
def beqD : PyData → PyData → Bool
  | .none, .none => true
  | .bool a, .bool b => a == b
  | .int a, .int b => decide (a = b)
  | .list a, .list b => beqDs a b
  | .tuple a, .tuple b => beqDs a b
  | _, _ => false
def beqDs : List PyData → List PyData → Bool
  | [], [] => true
  | a :: as, b :: bs => beqD a b && beqDs as bs
  | _, _ => false
end
mutual
theorem beqD_eq : ∀ {a b : PyData}, beqD a b = true → a = b
  | .none, b, h => by cases b <;> first | rfl | (simp [beqD] at h)
  | .bool x, b, h => by cases b <;> first | (simp [beqD] at h; done) | (simp [beqD] at h; rw [h])
  | .int x, b, h => by cases b <;> first | (simp [beqD] at h; done) | (simp [beqD] at h; rw [h])
  | .str x, b, h => by cases b <;> simp [beqD] at h
  | .dict x, b, h => by cases b <;> simp [beqD] at h
  | .list x, b, h => by cases b <;> first | (simp [beqD] at h; done) | (simp only [beqD] at h; rw [beqDs_eq h])
  | .tuple x, b, h => by cases b <;> first | (simp [beqD] at h; done) | (simp only [beqD] at h; rw [beqDs_eq h])
theorem beqDs_eq : ∀ {a b : List PyData}, beqDs a b = true → a = b
  | [], b, h => by cases b <;> first | rfl | (simp [beqDs] at h)
  | x :: xs, b, h => by
    cases b with
    | nil => simp [beqDs] at h
    | cons y ys =>
      simp only [beqDs, Bool.and_eq_true] at h
      rw [beqD_eq h.1, beqDs_eq h.2]
end
/-- two runs come to the same data, that has a text -/
def sameb (a b : M PyData) : Bool := match a, b with
  | .ret d, .ret d' => beqD d d' && repb d
  | _, _ => false
theorem same_wp {a b : M PyData} {P : Prop} (h : sameb a b = true) (p : P) : a.wp fun d => b.wp fun d' => d = d' ∧ repb d = true ∧ P := by
  cases a <;> cases b <;> first | (cases h; done) | skip
  simp only [sameb, Bool.and_eq_true] at h
  exact ⟨beqD_eq h.1, h.2, p⟩

/-! ### statements -/
theorem seq_eq {a b : CS} {e e' : En} (h : a e = .ret (.nx, e')) : sSeq a b e = b e' := by
  unfold sSeq; rw [h]; rfl
def Nx (I : En → Prop) : Fl × En → Prop := fun r => ∃ e, r = (.nx, e) ∧ I e
theorem seq_wp {a b : CS} {e : En} {I : En → Prop} {Q : Fl × En → Prop} (h1 : (a e).wp (Nx I)) (h2 : ∀ e', I e' → (b e').wp Q) : (sSeq a b e).wp Q :=
  M.wp_bind.mpr (M.wp_mono (fun r q => by obtain ⟨e', rfl, i⟩ := q; exact h2 e' i) h1)
theorem if_wp {t : CT} {a b : CS} {e : En} {Q : Fl × En → Prop} (h : (t e).wp fun k => if k = true then (a e).wp Q else (b e).wp Q) : (sIf t a b e).wp Q :=
  M.wp_bind.mpr (M.wp_mono (fun k q => by
    cases k with
    | true => exact q
    | false => exact q) h)
/-- if x: return False - that does not come -/
theorem ifno_wp {t : CT} {a : CS} {e : En} {Q : Fl × En → Prop} (h : (t e).wp fun k => k = false ∧ Q (.nx, e)) : (sIf t a sNil e).wp Q :=
  if_wp (M.wp_mono (fun k q => by obtain ⟨rfl, q⟩ := q; exact q) h)
theorem for_inv {g : CG} {b : CS} {I : En → Prop} : ∀ {ds : List PyData}, (∀ d ∈ ds, ∀ e, I e → (g e d).wp fun e1 => (b e1).wp (Nx I)) → ∀ {e : En}, I e → (forGo g b ds e).wp (Nx I)
  | [], _, e, i => ⟨e, rfl, i⟩
  | d :: ds, h, e, i => by
    refine M.wp_bind.mpr (M.wp_mono (fun e1 q => ?_) (h d List.mem_cons_self e i))
    refine M.wp_bind.mpr (M.wp_mono (fun r q' => ?_) q)
    obtain ⟨e2, rfl, i2⟩ := q'
    exact for_inv (fun d' m => h d' (List.mem_cons_of_mem _ m)) i2
/-- by places: what holds behind the first so many -/
theorem for_ind {g : CG} {b : CS} {ds : List PyData} (I : Nat → En → Prop) (h : ∀ (i : Nat) (d : PyData), ds[i]? = some d → ∀ e, I i e → (g e d).wp fun e1 => (b e1).wp (Nx (I (i + 1)))) {e : En} (i0 : I 0 e) : (forGo g b ds e).wp (Nx (I ds.length)) := by
  have go : ∀ (n : Nat) (rest : List PyData), rest = ds.drop n → n ≤ ds.length → ∀ e, I n e → (forGo g b rest e).wp (Nx (I ds.length)) := by
    intro n rest
    induction rest generalizing n with
    | nil =>
      intro hr hn e i
      have : n = ds.length := by
        have := congrArg List.length hr
        rw [List.length_nil, List.length_drop] at this
        omega
      subst this
      exact ⟨e, rfl, i⟩
    | cons d rest ih =>
      intro hr hn e i
      have hd : ds[n]? = some d := by
        have := congrArg (·[0]?) hr
        simpa using this.symm
      have hlt : n < ds.length := (List.getElem?_eq_some_iff.mp hd).1
      refine M.wp_bind.mpr (M.wp_mono (fun e1 q => ?_) (h n d hd e i))
      refine M.wp_bind.mpr (M.wp_mono (fun r q' => ?_) q)
      obtain ⟨e2, rfl, i2⟩ := q'
      refine ih (n + 1) ?_ hlt e2 i2
      have h1 : ds.drop (n + 1) = (ds.drop n).drop 1 := by rw [List.drop_drop]
      rw [h1, ← hr]; rfl
  exact go 0 ds rfl (Nat.zero_le _) e i0
/-- while, by a measure -/
theorem while_wp {t : CT} {b : CS} {I J : En → Prop} (μ : En → Nat) (h : ∀ e, I e → (t e).wp fun k => if k = true then (b e).wp (Nx fun e' => I e' ∧ μ e' < μ e) else J e) : ∀ {n : Nat} {e : En}, I e → μ e < n → (whileGo t b n e).wp (Nx J)
  | 0, e, i, hm => absurd hm (Nat.not_lt_zero _)
  | n + 1, e, i, hm => by
    refine M.wp_bind.mpr (M.wp_mono (fun k q => ?_) (h e i))
    cases k with
    | false => exact ⟨e, rfl, q⟩
    | true =>
      rw [if_pos rfl] at q ⊢
      refine M.wp_bind.mpr (M.wp_mono (fun r q' => ?_) q)
      obtain ⟨e2, rfl, i2, hm2⟩ := q'
      exact while_wp μ h i2 (by omega)

/-! ### comprehensions -/
theorem comp_eq {g : CG} {t : CT} {c : CE} {e : En} {p : PyData → Bool} {f : PyData → PyData} : ∀ {ds : List PyData}, (∀ d ∈ ds, ∃ e1, g e d = .ret e1 ∧ t e1 = .ret (p d) ∧ (p d = true → c e1 = .ret (f d))) → compGo g t c e ds = .ret ((ds.filter p).map f)
  | [], _ => rfl
  | d :: ds, h => by
    obtain ⟨e1, h1, h2, h3⟩ := h d List.mem_cons_self
    have ih := comp_eq (g := g) (t := t) (c := c) (e := e) (p := p) (f := f) (ds := ds) fun d' m => h d' (List.mem_cons_of_mem _ m)
    unfold compGo
    rw [h1]
    simp only [M.ret_bind, h2]
    cases hp : p d with
    | true =>
      rw [if_pos rfl, h3 hp, ih, List.filter_cons_of_pos hp]
      rfl
    | false =>
      rw [if_neg (by decide), ih, List.filter_cons_of_neg (by rw [hp]; decide)]
theorem comp_wp {g : CG} {t : CT} {c : CE} {e : En} {P : PyData → Prop} : ∀ {ds : List PyData}, (∀ d ∈ ds, (g e d).wp fun e1 => (t e1).wp fun k => k = true ∧ (c e1).wp P) → (compGo g t c e ds).wp fun ys => ys.length = ds.length ∧ ∀ y ∈ ys, P y
  | [], _ => ⟨rfl, fun y h => nomatch h⟩
  | d :: ds, h => by
    have ih := comp_wp (g := g) (t := t) (c := c) (e := e) (P := P) (ds := ds) fun d' m => h d' (List.mem_cons_of_mem _ m)
    refine M.wp_bind.mpr (M.wp_mono (fun e1 q => M.wp_bind.mpr (M.wp_mono (fun k q => ?_) q)) (h d List.mem_cons_self))
    obtain ⟨rfl, q⟩ := q
    rw [if_pos rfl]
    refine M.wp_bind.mpr (M.wp_mono (fun y hy => M.wp_bind.mpr (M.wp_mono (fun ys hys => ?_) ih)) q)
    refine ⟨by rw [List.length_cons, List.length_cons, hys.1], fun z hz => ?_⟩
    rcases List.mem_cons.mp hz with rfl | hz
    · exact hy
    · exact hys.2 z hz

/-! ### data of whole numbers -/
abbrev tpI (ns : List Int) : PyData := .tuple (ns.map PyData.int)
abbrev lsI (ns : List Int) : PyData := .list (ns.map PyData.int)
theorem eqvAll_ints : ∀ ns ms : List Int, PyData.eqvAll (ns.map PyData.int) (ms.map PyData.int) = decide (ns = ms)
  | [], [] => by simp [PyData.eqvAll]
  | [], _ :: _ => by simp [PyData.eqvAll]
  | _ :: _, [] => by simp [PyData.eqvAll]
  | n :: ns, m :: ms => by
    simp only [List.map_cons, PyData.eqvAll, PyData.eqv, eqvAll_ints ns ms]
    by_cases h : n = m
    · subst h; simp
    · simp [h]
theorem lay_ints : ∀ ns : List Int, PyData.canLayAll0 (ns.map PyData.int) = true
  | [] => rfl
  | n :: ns => by simp only [List.map_cons, PyData.canLayAll0, PyData.canLay0, lay_ints ns, Bool.and_self]
theorem depth_ints : ∀ ns : List Int, PyData.depthAll (ns.map PyData.int) = 0
  | [] => rfl
  | n :: ns => by simp only [List.map_cons, PyData.depthAll, PyData.depth, depth_ints ns]; rfl
theorem shaped_tI (ns : List Int) : SeqAt.shaped (tpI ns) = true := by
  unfold SeqAt.shaped
  simp only [PyData.canLay0, lay_ints, PyData.depth, depth_ints, Bool.true_and]
  decide
theorem shaped_lI (ns : List Int) : SeqAt.shaped (lsI ns) = true := by
  unfold SeqAt.shaped
  simp only [PyData.canLay0, lay_ints, PyData.depth, depth_ints, Bool.true_and]
  decide
theorem eqS_lI (ns ms : List Int) : mEqS (lsI ns) (lsI ms) = .ret (.bool (decide (ns = ms))) := by
  show mEq _ _ = _
  unfold mEq
  rw [shaped_lI, shaped_lI, Bool.and_self, if_pos rfl]
  simp only [PyData.eqv, eqvAll_ints]
theorem eqS_tI (ns ms : List Int) : mEqS (tpI ns) (tpI ms) = .ret (.bool (decide (ns = ms))) := by
  show mEq _ _ = _
  unfold mEq
  rw [shaped_tI, shaped_tI, Bool.and_self, if_pos rfl]
  simp only [PyData.eqv, eqvAll_ints]
theorem neS_lI (ns ms : List Int) : mNeS (lsI ns) (lsI ms) = .ret (.bool (!decide (ns = ms))) := by
  show mNe _ _ = _
  unfold mNe
  rw [shaped_lI, shaped_lI, Bool.and_self, if_pos rfl]
  simp only [PyData.eqv, eqvAll_ints]
theorem neS_tI (ns ms : List Int) : mNeS (tpI ns) (tpI ms) = .ret (.bool (!decide (ns = ms))) := by
  show mNe _ _ = _
  unfold mNe
  rw [shaped_tI, shaped_tI, Bool.and_self, if_pos rfl]
  simp only [PyData.eqv, eqvAll_ints]
theorem plain0_ints : ∀ {ns : List Int}, (∀ n ∈ ns, n.natAbs.log2 < 1920) → plain0All (ns.map PyData.int) = true
  | [], _ => rfl
  | n :: ns, h => by
    simp only [List.map_cons, plain0All, plain0, Bool.and_eq_true, decide_eq_true_eq]
    exact ⟨h n List.mem_cons_self, plain0_ints fun m hm => h m (List.mem_cons_of_mem _ hm)⟩
theorem cost_ints : ∀ {ns : List Int}, (∀ n ∈ ns, n.natAbs.log2 < 1920) → costAll (ns.map PyData.int) ≤ 1924 * ns.length
  | [], _ => Nat.le_refl 0
  | n :: ns, h => by
    have h1 := h n List.mem_cons_self
    have h2 := cost_ints (ns := ns) fun m hm => h m (List.mem_cons_of_mem _ hm)
    simp only [List.map_cons, costAll, cost, List.length_cons]
    omega
/-- places of a list of whole numbers -/
theorem mem_intsFrom {lo : Int} {n : Nat} {d : PyData} (h : d ∈ intsFrom lo n) : ∃ j : Nat, j < n ∧ d = .int (lo + j) := by
  obtain ⟨j, hj, rfl⟩ := List.mem_map.mp h
  exact ⟨j, List.mem_range.mp hj, rfl⟩
theorem cut_from {α : Type} (xs : List α) (j : Nat) : cutD xs (some (j : Int)) none = xs.drop j := by
  have e1 : HT.sIx xs.length 0 (some (j : Int)) = min j xs.length := by
    show (if (j : Int) < 0 then ((j : Int) + (xs.length : Nat)).toNat else min (j : Int).toNat xs.length) = _
    rw [if_neg (by omega), Int.toNat_natCast]
  unfold cutD
  rw [e1, show HT.sIx xs.length xs.length none = xs.length from rfl]
  by_cases h : j ≤ xs.length
  · rw [Nat.min_eq_left h]
    exact List.take_of_length_le (by rw [List.length_drop]; omega)
  · rw [Nat.min_eq_right (by omega), Nat.sub_self, List.take_zero, List.drop_eq_nil_of_le (by omega)]
theorem cut_to {α : Type} (xs : List α) (j : Nat) : cutD xs none (some (j : Int)) = xs.take j := by
  have e1 : HT.sIx xs.length xs.length (some (j : Int)) = min j xs.length := by
    show (if (j : Int) < 0 then ((j : Int) + (xs.length : Nat)).toNat else min (j : Int).toNat xs.length) = _
    rw [if_neg (by omega), Int.toNat_natCast]
  unfold cutD
  rw [e1, show HT.sIx xs.length 0 none = 0 from rfl, Nat.sub_zero, List.drop_zero]
  by_cases h : j ≤ xs.length
  · rw [Nat.min_eq_left h]
  · rw [Nat.min_eq_right (by omega), List.take_of_length_le (Nat.le_refl _), List.take_of_length_le (by omega)]
/-! ### the sequence of tuples -/
theorem lt_tI (ns ms : List Int) : mLt (tpI ns) (tpI ms) = .ret (.bool (HT.lexLt ns ms)) := by
  show mTI HT.lexLt _ _ = _
  unfold mTI
  rw [asIntsO_of, asIntsO_of]
theorem leAt_cons (x y : Int) (xs ys : List Int) : leAt (x :: xs) (y :: ys) = if x = y then leAt xs ys else decide (x < y) := by
  have sh : ∀ (e r : Nat → Bool) (z : Bool) (k i : Nat), Ob.lexAt e r z (i + 1) k = Ob.lexAt (fun j => e (j + 1)) (fun j => r (j + 1)) z i k := by
    intro e r z k
    induction k with
    | zero => intro i; rfl
    | succ k ih => intro i; rw [Ob.lexAt_succ, Ob.lexAt_succ, ih]
  unfold leAt
  rw [show min (x :: xs).length (y :: ys).length = min xs.length ys.length + 1 by simp only [List.length_cons]; omega, Ob.lexAt_succ]
  by_cases h : x = y
  · subst h
    rw [if_pos (by simp), if_pos rfl, sh]
    simp only [List.getD_cons_succ, List.length_cons, Nat.add_le_add_iff_right]
  · rw [if_neg (by simpa using h), if_neg h]
    simp only [List.getD_cons_zero]
    rw [Bool.eq_iff_iff]
    simp only [decide_eq_true_eq]
    omega
theorem leAt_lex : ∀ ns ms : List Int, leAt ns ms = !HT.lexLt ms ns
  | [], [] => rfl
  | [], _ :: _ => rfl
  | _ :: _, [] => rfl
  | x :: xs, y :: ys => by
    rw [leAt_cons, HT.lexLt_cons]
    by_cases h : x = y
    · subst h; rw [if_pos rfl, if_pos rfl, leAt_lex xs ys]
    · rw [if_neg h, if_neg (Ne.symm h), Bool.eq_iff_iff]
      simp only [decide_eq_true_eq, Bool.not_eq_true', decide_eq_false_iff_not]
      omega
theorem le_tI (ns ms : List Int) : mLe (tpI ns) (tpI ms) = .ret (.bool (!HT.lexLt ms ns)) := by
  show mTI leAt _ _ = _
  unfold mTI
  rw [asIntsO_of, asIntsO_of]
  show M.ret (PyData.bool (leAt ns ms)) = _
  rw [leAt_lex]
theorem lex_irrefl : ∀ a : List Int, HT.lexLt a a = false
  | [] => rfl
  | x :: r => by rw [HT.lexLt_cons, if_pos rfl]; exact lex_irrefl r
theorem lex_total : ∀ a b : List Int, HT.lexLt a b = false → HT.lexLt b a = false → a = b
  | [], [], _, _ => rfl
  | [], _ :: _, h, _ => nomatch h
  | _ :: _, [], _, h => nomatch h
  | x :: r, y :: t, h1, h2 => by
    rw [HT.lexLt_cons] at h1 h2
    by_cases h : x = y
    · subst h
      rw [if_pos rfl] at h1 h2
      rw [lex_total r t h1 h2]
    · rw [if_neg h] at h1
      rw [if_neg (Ne.symm h)] at h2
      have := of_decide_eq_false h1
      have := of_decide_eq_false h2
      omega
theorem lex_asymm : ∀ a b : List Int, HT.lexLt a b = true → HT.lexLt b a = false
  | [], [], h => nomatch h
  | [], _ :: _, _ => rfl
  | _ :: _, [], h => nomatch h
  | x :: r, y :: t, h1 => by
    rw [HT.lexLt_cons] at h1 ⊢
    by_cases h : x = y
    · subst h
      rw [if_pos rfl] at h1 ⊢
      exact lex_asymm r t h1
    · rw [if_neg h] at h1
      rw [if_neg (Ne.symm h)]
      have := of_decide_eq_true h1
      exact decide_eq_false (by omega)
end DL
namespace DL
open PySem PySem.Spec PyProof.Rows L2
open Sem (wp)
/-- enumerate(v): whatever begins -/
theorem meets_en1 {v : Value} {ob : Obj} {Hb : Heap → Prop} (B : Begins v ob Hb) :
    Meets (Builtin.«enumerate.__new__» ⟨[.type "enumerate", v], []⟩) (fun _ R s => Hb s.heap ∧
      R (.ok (.ret (.ref (s.heap.push ob).objs.size))) { s with heap := (s.heap.push ob).push { cls := .type "enumerate", data := .fields #[.none, .bool false, .ref s.heap.objs.size, rawInt 0, .none, .none] } }) :=
  .of_wp fun prog w A R s hh => by
    obtain ⟨hp, gn, dr, tk, os⟩ := s
    obtain ⟨hb, hr⟩ := hh
    have su := sub_enumerate
    have qv : ∀ {A2 : Around} {E2 : Value → Shared → Prop} {Q2 : Value → Shared → Prop}, Q2 (.ref hp.objs.size) ⟨hp.push ob, gn, dr, tk, os⟩ → wpAny (model prog w) A2 (pyIter v) Q2 E2 ⟨hp, gn, dr, tk, os⟩ :=
      fun q => B.iter prog w _ _ ⟨hp, gn, dr, tk, os⟩ _ hb q
    wp_walk using qv
    refine wpAny_stack_any fun stk => wpAny_pure ?_
    split
    · rename_i cl _ _ _ _ _
      cases (cl == Value.type "enumerate")
      · wp_walk using qv
        exact ⟨_, rfl, hr⟩
      · wp_walk using qv
        exact ⟨_, rfl, hr⟩
    · wp_walk using qv
      exact ⟨_, rfl, hr⟩
section
variable {prog : Program} {w : World} {A : Around} {E : Value → Shared → Prop} {s : Shared}
theorem call_en1 {v : Value} {ob : Obj} {Hb : Heap → Prop} {Q : Value → Shared → Prop} (B : Begins v ob Hb) (hb : Hb s.heap)
    (k : ∀ h2, IsEnum h2 (s.heap.objs.size + 1) s.heap.objs.size 0 .none → h2.get? s.heap.objs.size = some ob → h2.objs.size = s.heap.objs.size + 2 → (∀ c oc, s.heap.get? c = some oc → h2.get? c = some oc) → Q (.ref (s.heap.objs.size + 1)) { s with heap := h2 }) :
    wpAny (model prog w) A (call (.type "enumerate") [v]) Q E s := by
  refine callType_new F.called_enumerate (by decide) (F.typeCall_enumerate_1 _) (F.newCall_enumerate_1 _) (fun ob => F.args_object_init_2 ob _) F.entry_enumerate_new (meets_en1 B) ⟨hb, ?_⟩
  have sz : (s.heap.push ob).objs.size = s.heap.objs.size + 1 := Heap.size_push ..
  show _ ∧ _
  rw [sz]
  have en : IsEnum ((s.heap.push ob).push { cls := .type "enumerate", data := .fields #[.none, .bool false, .ref s.heap.objs.size, rawInt 0, .none, .none] }) (s.heap.objs.size + 1) s.heap.objs.size 0 .none := by
    have q := Heap.get?_push_size (s.heap.push ob) (o := { cls := .type "enumerate", data := .fields #[.none, .bool false, .ref s.heap.objs.size, rawInt 0, .none, .none] }) rfl
    rw [sz] at q; exact q
  exact ⟨⟨_, en, rfl⟩, k _ en (Heap.get?_push_of_some _ (Heap.get?_push_size _ B.free)) (by rw [Heap.size_push, sz]) fun c oc q => Heap.get?_push_of_some _ (Heap.get?_push_of_some _ q)⟩
end
/-! ### lists and tuples alike -/
def SqB (k : Bool) (K : PySem.W.Frag) (H : Hp) (a : Addr) (xs : List V) : Prop := if k = true then SqL K H a xs else SqT K H a xs
def SqIs (k : Bool) (h : Heap) (a : Addr) (xs : Array Value) : Prop := if k = true then h.IsList a xs else h.IsTuple a xs
def SqIt (k : Bool) (h : Heap) (it a : Addr) (i : Nat) : Prop := if k = true then h.IsListIter it a i else h.IsTupleIter it a i
def itOb (k : Bool) (a : Addr) : Obj := if k = true then { cls := .type "list_iterator", data := .fields #[.ref a, .int 0 0] } else { cls := .type "tuple_iterator", data := .fields #[.ref a, .int 0 0] }
theorem beginsB (k : Bool) (a : Addr) (xs : Array Value) : Begins (.ref a) (itOb k a) (fun h => SqIs k h a xs) := by
  cases k
  · exact begins_tuple a xs
  · exact begins_list a xs
theorem drawsB (k : Bool) {prog : Program} {w : World} {A : Around} (hh : A.handled = none) {it a : Addr} (ne : a ≠ it) (xs : Array Value) : Draws prog w A it [it, a] xs.size (fun i v => xs[i]? = some v) (fun i h => SqIt k h it a i ∧ SqIs k h a xs) := by
  cases k
  · exact Draws.tuple hh it a ne xs
  · exact Draws.list hh it a ne xs
theorem sqIt_new {k : Bool} {h : Heap} {it a : Addr} (e : h.get? it = some (itOb k a)) : SqIt k h it a 0 := by
  cases k
  · exact ⟨_, e, rfl, rfl⟩
  · exact ⟨_, e, rfl, rfl⟩
theorem sqIt_get {k : Bool} {h : Heap} {it a : Addr} {i : Nat} (e : SqIt k h it a i) : ∃ o vs, h.get? it = some o ∧ o.data = .fields vs := by
  cases k
  · obtain ⟨o, h1, _, h2⟩ := e; exact ⟨o, _, h1, h2⟩
  · obtain ⟨o, h1, _, h2⟩ := e; exact ⟨o, _, h1, h2⟩
theorem sqIs_get {k : Bool} {h : Heap} {a : Addr} {xs : Array Value} (e : SqIs k h a xs) : ∃ o n, h.get? a = some o ∧ o.data = .seq xs n := by
  cases k
  · obtain ⟨o, h1, _, n, h2⟩ := e; exact ⟨o, n, h1, h2⟩
  · obtain ⟨o, h1, _, n, h2⟩ := e; exact ⟨o, n, h1, h2⟩
theorem sqIt_at {k : Bool} {h h' : Heap} {it a : Addr} {i : Nat} (e : SqIt k h it a i) (q : ∀ o, h.get? it = some o → h'.get? it = some o) : SqIt k h' it a i := by
  cases k
  · exact Heap.IsTupleIter.at e q
  · exact Heap.IsListIter.at e q
section
variable {X : Cx} {pins : List (Addr × Obj)} {σ : L2.St} {H : Hp} {s : Shared} {k : Bool} {a : Addr} {xs ys : List V}
theorem sqB_is (I : Inv X pins σ H s) (h : SqB k X.K H a xs) : ∃ its : List Value, Vals xs its ∧ SqIs k s.heap a its.toArray := by
  cases k
  · obtain ⟨its, r, p, _⟩ := I.tuple h; exact ⟨its, r, p⟩
  · obtain ⟨its, r, p, _⟩ := I.list h; exact ⟨its, r, p.isList⟩
theorem sqB_inj (I : Inv X pins σ H s) (h : SqB k X.K H a xs) (h' : SqB k X.K H a ys) : xs = ys := by
  cases k
  · exact I.tuple_inj h h'
  · exact I.list_inj h h'
end
/-- the sequence at a as it stands at each turn, each item in a new pair with its place -/
def ItE (K : PySem.W.Frag) (k : Bool) (a : Addr) : It :=
  ⟨fun i H => ∃ (xs : List V) (x : V), SqB k K H a xs ∧ xs[i]? = some x, fun i H v H' => ∃ T x, v = .ref T ∧ H T = none ∧ H' = upd H T (.tup [.int (i : Nat), x]) ∧ ∀ xs, SqB k K H a xs → xs[i]? = some x, fun i H => ∃ xs : List V, SqB k K H a xs ∧ xs.length = i⟩
theorem turn_en {P : Program} {w : World} {K : PySem.W.Frag} {elts : List Expr} {kk : Nat} {tpos : Pos} (k : Bool) (a e it : Addr) :
    Turn P w K (.Tuple elts kk tpos) (ItE K k a) [e, it] e (fun i h => (∃ old, IsEnum h e it ((i : Nat) : Int) old) ∧ SqIt k h it a i ∧ e ≠ it) where
  mem := by simp
  obj := fun i h st b hb => by
    obtain ⟨⟨old, en⟩, ih, _⟩ := st
    obtain ⟨oi, vs, g1, g2⟩ := sqIt_get ih
    rcases List.mem_cons.mp hb with z | z
    · subst z; exact ⟨_, en, fun v q => by cases q⟩
    · rw [List.mem_singleton.mp z]; exact ⟨oi, g1, fun v q => by rw [g2] at q; cases q⟩
  keep := fun i h h' st kp => by
    obtain ⟨⟨old, en⟩, ih, ne⟩ := st
    exact ⟨⟨old, kp e (by simp) _ en⟩, sqIt_at ih fun oc q => kp it (by simp) oc q, ne⟩
  item := by
    intro X hP hw hK hc i pins s σ H E I hf st hg
    subst hP hw hK
    obtain ⟨⟨old, en⟩, ih, ne⟩ := st
    obtain ⟨xs, x, hq, hx⟩ := hg
    obtain ⟨its, rv, iq⟩ := sqB_is I hq
    obtain ⟨u, hu, ru⟩ := rv.get hx
    obtain ⟨oi, vi, gi, di⟩ := sqIt_get ih
    obtain ⟨oa, na, ga, da⟩ := sqIs_get iq
    have ait : a ≠ it := fun z => by subst z; rw [ga] at gi; cases gi; rw [da] at di; cases di
    have eaa : e ≠ a := fun z => by
      subst z
      have en2 := ga.symm.trans en
      cases en2
      cases da
    have elt : e < s.heap.objs.size := Heap.lt_size en
    have ilt : it < s.heap.objs.size := Heap.lt_size gi
    have hlt : i < its.toArray.size := by
      have := (List.getElem?_eq_some_iff.mp hu).1
      simpa using this
    refine wpAny_pyNext_enum_itemD (drawsB k (A := X.A.in1) (I.ok.hd hc) ait its.toArray) en ⟨ih, iq⟩ hlt ne (by simp [ne, eaa]) fun v h2 tk2 pv eo st2 hT hsz kp => ?_
    have pv : its.toArray[i]? = some v := pv
    have hv : v = u := by
      have : its[i]? = some v := by simpa using pv
      rw [hu] at this; exact (Option.some.inj this).symm
    subst hv
    refine ⟨_, rfl, wpAny_letOwnedTupleGo_enum (s := { s with heap := h2, toks := tk2 + 1 }) eo fun h3 en3 sb => ?_⟩
    have hT3 : h3.get? s.heap.objs.size = some { cls := .type "tuple", data := .seq #[.int i tk2, v] } := (sb.2 _ (Nat.ne_of_gt elt)).trans hT
    have new : ObjOk X.prog X.w (upd H s.heap.objs.size (.tup [.int (i : Nat), x])) h3 s.heap.objs.size (.tup [.int (i : Nat), x]) :=
      ⟨by show 2 ≤ sizeLine; decide, [.int i tk2, v], .cons ⟨_, rfl⟩ (.cons ru .nil), ⟨_, hT3, rfl, _, rfl⟩⟩
    have I3 : Inv X pins σ (upd H s.heap.objs.size (.tup [.int (i : Nat), x])) { s with heap := h3, toks := tk2 + 1 } :=
      I.turnedNew (ch := [e, it]) (fun b ob hb q => (sb.2 b (fun z => hb (z ▸ List.mem_cons_self))).trans (kp b ob (fun z => hb (z ▸ List.mem_cons_self)) (fun z => hb (z ▸ List.mem_cons_of_mem _ List.mem_cons_self)) q)) hf (Nat.le_refl _) new
    refine ⟨.ref s.heap.objs.size, _, I3, rfl, ⟨_, x, rfl, I.hok.fresh (Nat.le_refl _), rfl, fun ys hy => by rw [sqB_inj I hy hq]; exact hx⟩, ⟨⟨v, ?_⟩, sqIt_at st2.1 fun oc q => (sb.2 it (Ne.symm ne)).trans q, ne⟩, fun b hb => ?_⟩
    · rw [show ((i + 1 : Nat) : Int) = (i : Int) + 1 by omega]; exact en3
    · have hb' : b < s.heap.objs.size := by
        rcases List.mem_cons.mp hb with z | z
        · rw [z]; exact elt
        · rw [List.mem_singleton.mp z]; exact ilt
      rw [upd_ne (Nat.ne_of_lt hb')]
      exact (hf b hb).1
  done := by
    intro X hP hw hK hc i pins s σ H E I hf st hg
    subst hP hw hK
    obtain ⟨⟨old, en⟩, ih, ne⟩ := st
    obtain ⟨xs, hq, hx⟩ := hg
    obtain ⟨its, rv, iq⟩ := sqB_is I hq
    obtain ⟨oi, vi, gi, di⟩ := sqIt_get ih
    obtain ⟨oa, na, ga, da⟩ := sqIs_get iq
    have ait : a ≠ it := fun z => by subst z; rw [ga] at gi; cases gi; rw [da] at di; cases di
    have hn : its.toArray.size = i := by rw [List.size_toArray, ← rv.length, hx]
    have st' : (fun i h => SqIt k h it a i ∧ SqIs k h a its.toArray) its.toArray.size s.heap := ⟨by rw [hn]; exact ih, iq⟩
    obtain ⟨f0, f1, f2, f3, f4, f5⟩ := hf it (by simp)
    exact wpAny_pyNext_enum_endD (drawsB k (A := X.A.in1) (I.ok.hd hc) ait its.toArray) en st' fun h2 eb => ⟨rfl, I.turned (t' := s.toks) (fun b oc hb q => eb b oc hb q) f0 f1 f3 f4 f5⟩
  self := fun A i s Q E st h => by
    obtain ⟨⟨_, en⟩, _⟩ := st
    exact wpAny_pyIter_enum en h
section
variable {X : Cx} {S : SrcA} {Z : Addr → Prop} {e : Expr} {c : CE} {cl : CL}
def iEn (K : PySem.W.Frag) (ta : TA) : TI := fun σ H R => ta σ H fun vs H1 => ∃ k a xs, vs = [.ref a] ∧ SqB k K H1 a xs ∧ R (ItE K k a) H1
theorem pi_en {p pos tpos : Pos} {ta : TA} {elts : List Expr} {kk : Nat} (hg : Gl X "enumerate") (hm : X.mg "enumerate" = none) (ha : PA X [e] ta) (hs : starEach [e] X.env = [(false, eval e X.env)] := by rfl) :
    PI X (.Tuple elts kk tpos) (.Call (.Name "enumerate" p) [e] [] pos) (iEn X.K ta) := by
  refine ⟨fun pins s σ H R I h => ?_⟩
  refine Call_ (ld_blt I hg hm boot_enumerate (PyProof.Rows.callWith_type1 (thn (ha.run pos pins s σ H _ I h) fun us s1 hus => ?_) hs rfl))
  obtain ⟨vs, H1, I1, r1, k, a, xs, ex, hq, q⟩ := hus
  subst ex
  obtain ⟨u, rfl, ru⟩ := vals1 r1
  obtain rfl : u = .ref a := ru
  obtain ⟨its, rv, iq⟩ := sqB_is I1 hq
  refine call_en1 (beginsB k a its.toArray) iq fun h2 en gi sz kp => wpAny_pyIter_enum en ?_
  have I2 : Inv X pins σ H1 { s1 with heap := h2 } := I1.kept (t' := s1.toks) kp
  refine ⟨s1.heap.objs.size + 1, [s1.heap.objs.size + 1, s1.heap.objs.size], _, _, H1, rfl, I2, turn_en k a (s1.heap.objs.size + 1) s1.heap.objs.size, ⟨⟨.none, en⟩, sqIt_new gi, Nat.succ_ne_self _⟩, fun b hb => ?_, q⟩
  have le : s1.heap.objs.size ≤ b := by
    rcases List.mem_cons.mp hb with z | z
    · rw [z]; exact Nat.le_add_right _ _
    · rw [List.mem_singleton.mp z]; exact Nat.le_refl _
  exact I1.fpOk le (I1.hok.fresh le)
/-! ### the combinator -/
def enumD (ds : List PyData) : List PyData := (List.range ds.length).map fun i => .tuple [.int (i : Nat), ds.getD i .none]
def ciEnum (c : CE) : CL := fun e => (c e).bind fun d => (itemsOf d).bind fun ds => .ret (enumD ds)
theorem rep_seqB {K : PySem.W.Frag} {H : Hp} {v : V} {d : PyData} {Q : List PyData → Prop} (r : Rep K H v d) (w : (itemsOf d).wp Q) : ∃ k a xs ds, v = .ref a ∧ (∀ H', Kp H H' → SqB k K H' a xs) ∧ RepA K H xs ds ∧ Q ds := by
  cases r with
  | lst h1 h2 => exact ⟨true, _, _, _, rfl, fun H' kp => .inl (.inr (h1.kp kp)), h2, w⟩
  | tup h1 h2 => exact ⟨false, _, _, _, rfl, fun H' kp => sqT_kp kp h1, h2, w⟩
  | _ => exact w.elim
theorem wk_en {K : PySem.W.Frag} {H1 : Hp} {k : Bool} {a : Addr} {xs : List V} {ds : List PyData} (h : ∀ H', Kp H1 H' → SqB k K H' a xs) (r : RepA K H1 xs ds) : Wk Z K (ItE K k a) (enumD ds) H1 := by
  have hl : (enumD ds).length = ds.length := by unfold enumD; rw [List.length_map, List.length_range]
  refine ⟨fun i H d hd kp => ?_, fun H kp => ⟨xs, h H kp, by rw [hl, r.length]⟩⟩
  have hi : i < ds.length := by rw [← hl]; exact (List.getElem?_eq_some_iff.mp hd).1
  have hdd : d = .tuple [.int (i : Nat), ds.getD i .none] := by
    unfold enumD at hd
    rw [List.getElem?_map, List.getElem?_range hi] at hd
    exact (Option.some.inj hd).symm
  have hdi : ds[i]? = some (ds.getD i .none) := by rw [List.getD_eq_getElem?_getD, List.getElem?_eq_getElem hi]; rfl
  obtain ⟨v, hv, rv⟩ := r.get hdi
  refine ⟨⟨xs, v, h H kp, hv⟩, fun x H' y => ?_⟩
  obtain ⟨T, x', rfl, hT, rfl, f⟩ := y
  cases hv.symm.trans (f xs (h H kp))
  subst hdd
  exact ⟨same_new hT, .tup (.inl (.inl upd_same)) (.cons (.int _) (.cons ((rv.kp kp).kp (.of (same_new hT))) .nil))⟩
theorem di_enum {p pos tpos : Pos} {elts : List Expr} {kk : Nat} (hg : Gl X "enumerate") (hm : X.mg "enumerate" = none) (h : Dv X S Z e c) (hs : starEach [e] X.env = [(false, eval e X.env)] := by rfl) (hs' : starEach [e] X.env = (false, eval e X.env) :: starEach [] X.env := by rfl) :
    Di X S Z (.Tuple elts kk tpos) (.Call (.Name "enumerate" p) [e] [] pos) (ciEnum c) := by
  refine PI.imp (pi_en hg hm (da_cons h da_nil hs') hs) fun σ H R ⟨en, Rl, w⟩ => ⟨en, Rl, ?_⟩
  refine M.wp_bind.mpr (M.wp_mono (fun d wd => ?_) (M.wp_bind.mp w))
  intro vs H1 s k r
  obtain ⟨v, rfl, rv⟩ := pair1 r
  obtain ⟨kd, a, xs, ds, rfl, h1, h2, q⟩ := rep_seqB rv (M.wp_bind.mp wd)
  exact ⟨kd, a, xs, rfl, h1 H1 (Kp.of (Same.refl _)), q _ H1 s k (wk_en h1 h2)⟩
end
end DL
namespace DL
open PySem PySem.Spec PyProof.Rows L2
open Sem (wp)
/-- a zip object, strict or not -/
abbrev ZpB (h : Heap) (z ti to' : Addr) (b : Bool) (f0 : Value) : Prop := h.get? z = some { cls := .type "zip", dict := none, data := .fields #[f0, .bool false, .bool b, .ref ti, .ref to'], slots := #[] }
abbrev Pr2 (h : Heap) (p : Addr) (x y : Value) : Prop := h.get? p = some { cls := .type "tuple", data := .seq #[x, y] }
abbrev zA (h : Heap) (o1 o2 : Obj) : Heap := (h.push o1).push o2
abbrev zB (h : Heap) (o1 o2 : Obj) : Heap := (zA h o1 o2).push { cls := .type "tuple", data := .seq #[.ref h.objs.size, .ref (h.push o1).objs.size] }
abbrev zC (h : Heap) (o1 o2 : Obj) : Heap := (zB h o1 o2).push { cls := .type "tuple", data := .seq #[.none, .none] }
abbrev zD (h : Heap) (o1 o2 : Obj) (b : Bool) : Heap := (zC h o1 o2).push { cls := .type "zip", data := .fields #[.none, .bool false, .bool b, .ref (zA h o1 o2).objs.size, .ref (zB h o1 o2).objs.size] }
theorem meets_zipK {v1 v2 : Value} {o1 o2 : Obj} {G1 G2 : Heap → Prop} (B1 : Begins v1 o1 G1) (B2 : Begins v2 o2 G2) (b : Bool) :
    Meets (Builtin.«zip.__new__» ⟨[.type "zip", v1, v2], [(Str.ofString "strict", .bool b)]⟩) (fun _ R s => (G1 s.heap ∧ G2 s.heap) ∧
      R (.ok (.ret (.ref (zC s.heap o1 o2).objs.size))) { s with heap := zD s.heap o1 o2 b }) :=
  .of_wp fun prog w A R s hh => by
    obtain ⟨hp, gn, dr, tk, os⟩ := s
    obtain ⟨⟨g1, g2⟩, hr⟩ := hh
    have su := sub_zip
    have e1 : (Str.ofString "strict" != ("strict" : Str)) = false := by decide +kernel
    have q1 : ∀ {A2 : Around} {E2 : Value → Shared → Prop} {Q2 : Value → Shared → Prop}, Q2 (.ref hp.objs.size) ⟨hp.push o1, gn, dr, tk, os⟩ → wpAny (model prog w) A2 (pyIter v1) Q2 E2 ⟨hp, gn, dr, tk, os⟩ :=
      fun q => B1.iter prog w _ _ ⟨hp, gn, dr, tk, os⟩ _ (B1.keeps _ _ g1 fun _ _ e => e) q
    have q2 : ∀ {A2 : Around} {E2 : Value → Shared → Prop} {Q2 : Value → Shared → Prop}, Q2 (.ref (hp.push o1).objs.size) ⟨(hp.push o1).push o2, gn, dr, tk, os⟩ → wpAny (model prog w) A2 (pyIter v2) Q2 E2 ⟨hp.push o1, gn, dr, tk, os⟩ :=
      fun q => B2.iter prog w _ _ ⟨hp.push o1, gn, dr, tk, os⟩ _ (B2.keeps _ _ g2 fun _ _ e => Heap.get?_push_of_some _ e) q
    wp_walk using q1, q2
    exact ⟨_, rfl, hr⟩
namespace ZF
theorem tc (a b c : Value) : checkTypeCall "zip" ⟨[a, b], [(Str.ofString "strict", c)]⟩ = pure () := by kernel_rfl
theorem nc (a b c : Value) : checkBuiltinCall "zip.__new__" ⟨[.type "zip", a, b], [(Str.ofString "strict", c)]⟩ = pure () := by kernel_rfl
theorem ai (o a b c : Value) : argsOk "object.__init__" ⟨[o, a, b], [(Str.ofString "strict", c)]⟩ := by unfold argsOk; kernel_rfl
end ZF
section
variable {prog : Program} {w : World} {A : Around} {E : Value → Shared → Prop} {s : Shared}
theorem call_zipK {v1 v2 : Value} {o1 o2 : Obj} {G1 G2 : Heap → Prop} {b : Bool} {Q : Value → Shared → Prop} (B1 : Begins v1 o1 G1) (B2 : Begins v2 o2 G2) (g1 : G1 s.heap) (g2 : G2 s.heap)
    (k : ∀ h2, ZpB h2 (s.heap.objs.size + 4) (s.heap.objs.size + 2) (s.heap.objs.size + 3) b .none → Pr2 h2 (s.heap.objs.size + 2) (.ref s.heap.objs.size) (.ref (s.heap.objs.size + 1)) → Pr2 h2 (s.heap.objs.size + 3) .none .none →
      h2.get? s.heap.objs.size = some o1 → h2.get? (s.heap.objs.size + 1) = some o2 → h2.objs.size = s.heap.objs.size + 5 → (∀ c oc, s.heap.get? c = some oc → h2.get? c = some oc) → Q (.ref (s.heap.objs.size + 4)) { s with heap := h2 }) :
    wpAny (model prog w) A (call (.type "zip") [v1, v2] [(Str.ofString "strict", .bool b)]) Q E s := by
  refine callType_newKw F.called_zip (by decide) (ZF.tc _ _ _) (ZF.nc _ _ _) (fun o => ZF.ai o _ _ _) F.entry_zip_new (meets_zipK B1 B2 b) ⟨⟨g1, g2⟩, ?_⟩
  have n1 : (s.heap.push o1).objs.size = s.heap.objs.size + 1 := Heap.size_push ..
  have n2 : (zA s.heap o1 o2).objs.size = s.heap.objs.size + 2 := by rw [Heap.size_push, n1]
  have n3 : (zB s.heap o1 o2).objs.size = s.heap.objs.size + 3 := by rw [Heap.size_push, n2]
  have n4 : (zC s.heap o1 o2).objs.size = s.heap.objs.size + 4 := by rw [Heap.size_push, n3]
  have n5 : (zD s.heap o1 o2 b).objs.size = s.heap.objs.size + 5 := by rw [Heap.size_push, n4]
  have p5 : (zD s.heap o1 o2 b).get? (zC s.heap o1 o2).objs.size = some { cls := .type "zip", data := .fields #[.none, .bool false, .bool b, .ref (zA s.heap o1 o2).objs.size, .ref (zB s.heap o1 o2).objs.size] } := Heap.get?_push_size _ rfl
  have p4 : Pr2 (zD s.heap o1 o2 b) (zB s.heap o1 o2).objs.size .none .none := Heap.get?_push_of_some _ (Heap.get?_push_size _ rfl)
  have p3 : Pr2 (zD s.heap o1 o2 b) (zA s.heap o1 o2).objs.size (.ref s.heap.objs.size) (.ref (s.heap.push o1).objs.size) := Heap.get?_push_of_some _ (Heap.get?_push_of_some _ (Heap.get?_push_size _ rfl))
  have up : ∀ c oc, (zA s.heap o1 o2).get? c = some oc → (zD s.heap o1 o2 b).get? c = some oc := fun c oc q => Heap.get?_push_of_some _ (Heap.get?_push_of_some _ (Heap.get?_push_of_some _ q))
  have p1 : (zD s.heap o1 o2 b).get? s.heap.objs.size = some o1 := up _ _ (Heap.get?_push_of_some _ (Heap.get?_push_size _ B1.free))
  have p2 : (zD s.heap o1 o2 b).get? (s.heap.push o1).objs.size = some o2 := up _ _ (Heap.get?_push_size _ B2.free)
  rw [n4, n3, n2] at p5
  rw [n3] at p4
  rw [n2, n1] at p3
  rw [n1] at p2
  show _ ∧ _
  rw [n4]
  exact ⟨⟨_, p5, rfl⟩, k _ p5 p3 p4 p1 p2 n5 fun c oc q => up c oc (Heap.get?_push_of_some _ (Heap.get?_push_of_some _ q))⟩
end
section
variable {M : Model} {A : Around} {E : Value → Shared → Prop} {s : Shared} {env : Env}
/-- T(e, .., k=v): a built-in class called with keywords -/
theorem callT_kw {pos : Pos} {T : String} {e : Expr} {rest : List Expr} {kws : List Keyword} {Q : Value → Shared → Prop}
    (hc : wpAny M A (spliced (backTo pos (starEach (e :: rest) env))) (fun us s1 => wpAny M A (evalAll ((backToKw pos (keywordEach kws env)).map (·.2))) (fun ws s2 => wpAny M A (call (.type T) us (((backToKw pos (keywordEach kws env)).filterMap (·.1)).zip ws)) Q E s2) E s1) E s)
    (h1 : backTo pos (starEach (e :: rest) env) = (false, eval e env) :: backTo pos (starEach rest env) := by rfl) (h2 : (backTo pos (starEach (e :: rest) env)).any (·.1) = false := by rfl)
    (h3 : (backToKw pos (keywordEach kws env)).all (·.1.isSome) = true := by rfl) (h4 : (backToKw pos (keywordEach kws env)).any (·.1.isNone) = false := by rfl) :
    wpAny M A (callWith pos (.type T) [] (backTo pos (starEach (e :: rest) env)) (backToKw pos (keywordEach kws env))) Q E s := by
  have ev : wpAny M A (evalArgs (.type T) true (backTo pos (starEach (e :: rest) env)) (backToKw pos (keywordEach kws env))) (fun a s1 => wpAny M A (call (.type T) ([] ++ a.pos) a.kw) Q E s1) E s := by
    rw [h1] at hc ⊢
    exact evalArgs_kwB h3 hc
  unfold callWith
  refine wpAny_bind (wpAny_holding (wpAny_mono ev (fun a s1 q => wpAny_bind (wpAny_standAt ?_)) fun _ _ z => z))
  simp only [h2, h4, Bool.or_false]
  refine wpAny_bind (wpAny_pure ?_)
  exact wpAny_bind (wpAny_mono q (fun r s2 z => wpAny_bind (wpAny_holding (wpAny_point (wpAny_pure z)))) fun _ _ z => z)
end
/-! ### a draw, whether strict or not -/
section
variable {prog : Program} {w : World} {A : Around} {E : Value → Shared → Prop} {s : Shared} {it : Addr} {fp : List Addr} {n : Nat} {P : Nat → Value → Prop} {St : Nat → Heap → Prop}
theorem orEnd_item (D : Draws prog w A it fp n P St) {i : Nat} {Q : Option Value → Shared → Prop} (hi : i < n) (st : St i s.heap)
    (q : ∀ x h2 tk, P i x → St (i + 1) h2 → Heap.SameBut it s.heap h2 → Q (some x) { s with heap := h2, toks := tk }) : wpAny (model prog w) A (Builtin.SmallTypes.nextOrEnd (.ref it)) Q E s := by
  unfold Builtin.SmallTypes.nextOrEnd
  exact wpAny_bind (wpAny_attempt (D.item i s _ _ hi st fun x h2 tk px st2 sb => wpAny_pure (q x h2 tk px st2 sb)))
theorem orEnd_end (D : Draws prog w A it fp n P St) {Q : Option Value → Shared → Prop} (st : St n s.heap)
    (q : ∀ h2, Heap.ExtBut it s.heap h2 → Q none { s with heap := h2 }) : wpAny (model prog w) A (Builtin.SmallTypes.nextOrEnd (.ref it)) Q E s := by
  unfold Builtin.SmallTypes.nextOrEnd
  refine wpAny_bind (wpAny_attempt (D.done s _ _ st fun h2 e eb he => ?_))
  obtain ⟨oe, g1, g2⟩ := he
  exact wpAny_bind (wpAny_isInstance (T := "StopIteration") (b := true) ⟨oe, g1, g2⟩ isSubtype_stop (wpAny_pure (q h2 eb)))
end
end DL
namespace DL
open PySem PySem.Spec PyProof.Rows L2
open Sem (wp)
section
variable {prog : Program} {w : World} {A : Around} {E : Value → Shared → Prop} {s : Shared} {z ti to' j1 j2 : Addr} {f1 f2 : List Addr} {n1 n2 i : Nat} {P1 P2 : Nat → Value → Prop} {T1 T2 : Nat → Heap → Prop} {a1 a2 : Value}
theorem pair_set {p : Addr} {x : Value} {k : Nat} {Q : Unit → Shared → Prop} (hp : Pr2 s.heap p a1 a2)
    (q : ∀ g, g.get? p = some { cls := .type "tuple", data := .seq ((#[a1, a2] : Array Value).setIfInBounds k x) } → Heap.SameBut p s.heap g → Q () { s with heap := g }) : wpAny (model prog w) A (updateSeq p (·.setIfInBounds k x)) Q E s :=
  updateSeq_IsTupOf2 hp q
theorem zpS_item {Q : Value → Shared → Prop} (S : ZipSep2 z ti to' j1 j2 f1 f2) (D1 : Draws prog w A j1 f1 n1 P1 T1) (D2 : Draws prog w A j2 f2 n2 P2 T2)
    (zz : ZpB s.heap z ti to' true .none) (pi' : Pr2 s.heap ti (.ref j1) (.ref j2)) (po : Pr2 s.heap to' a1 a2) (t1 : T1 i s.heap) (t2 : T2 i s.heap) (l1 : i < n1) (l2 : i < n2)
    (q : ∀ x y g tk, P1 i x → P2 i y → ZpB g z ti to' true (rawInt s.heap.objs.size) → Pr2 g to' x y → T1 (i + 1) g → T2 (i + 1) g → Pr2 g s.heap.objs.size x y → g.objs.size = s.heap.objs.size + 1 →
      (∀ c oc, c ≠ z → c ≠ to' → c ≠ j1 → c ≠ j2 → s.heap.get? c = some oc → g.get? c = some oc) → Q (.ref s.heap.objs.size) { s with heap := g, toks := tk }) :
    wpAny (model prog w) A (Builtin.«zip.__next__» ⟨[.ref z], []⟩) (fun fin s2 => ∃ v, fin = .done (.ret v) ∧ Q v s2) E s := by
  obtain ⟨hp, gn, dr, tk0, os⟩ := s
  show wpAny _ _ (field (.ref z) 2 >>= _) _ _ _
  refine wpAny_bind (wpAny_field zz rfl (x := .bool true) rfl ?_)
  show wpAny _ _ (field (.ref z) 3 >>= _) _ _ _
  refine wpAny_bind (wpAny_field zz rfl (x := .ref ti) rfl ?_)
  refine wpAny_bind (wpAny_seqItems pi' rfl ?_)
  show wpAny _ _ (Builtin.SmallTypes.ownedTupleIsFree (.ref z) >>= _) _ _ _
  refine wpAny_bind ?_
  unfold Builtin.SmallTypes.ownedTupleIsFree
  refine wpAny_bind (wpAny_field zz rfl (x := .none) rfl (wpAny_pure ?_))
  simp only [if_true]
  refine wpAny_bind (wpAny_rule ?_)
  refine wpAny_bind (wpAny_field zz rfl (x := .ref to') rfl ?_)
  refine wpAny_bind (wpAny_setField_rec zz (by simp) fun g0 zz0 b0 => ?_)
  replace zz0 : ZpB g0 z ti to' true .ellipsis := zz0
  replace b0 : Heap.SameBut z hp g0 := b0
  refine wpAny_bind ?_
  simp only [List.zipIdx_cons, List.zipIdx_nil, List.forIn_cons, List.forIn_nil]
  refine wpAny_bind (wpAny_bind (wpAny_onRaise ?_))
  show wpAny _ _ (Builtin.SmallTypes.nextOrEnd (.ref j1)) _ _ ⟨g0, gn, dr, tk0, os⟩
  refine orEnd_item D1 l1 (D1.over t1 b0 S.zf1) fun x e1 tk1 px u1 c1 => ?_
  replace c1 : Heap.SameBut j1 g0 e1 := c1
  have r1 : Pr2 e1 to' a1 a2 := c1.extBut _ _ S.Ti1 (b0.extBut _ _ S.TOz po)
  refine wpAny_bind (wpAny_seqItems (s := ⟨e1, gn, dr, tk1, os⟩) r1 rfl ?_)
  refine wpAny_bind (pair_set (s := ⟨e1, gn, dr, tk1, os⟩) r1 fun g1 r2 b1 => ?_)
  replace r2 : Pr2 g1 to' x a2 := r2
  replace b1 : Heap.SameBut to' e1 g1 := b1
  refine wpAny_bind (wpAny_letGo (wpAny_pure ?_))
  refine wpAny_bind (wpAny_bind (wpAny_onRaise ?_))
  show wpAny _ _ (Builtin.SmallTypes.nextOrEnd (.ref j2)) _ _ ⟨g1, gn, dr, tk1, os⟩
  refine orEnd_item D2 l2 (D2.over (D2.over (D2.over t2 b0 S.zf2) c1 S.sep1_2) b1 S.Tf2) fun y e2 tk2 py u2 c2 => ?_
  replace c2 : Heap.SameBut j2 g1 e2 := c2
  have r3 : Pr2 e2 to' x a2 := c2.extBut _ _ S.Ti2 r2
  refine wpAny_bind (wpAny_seqItems (s := ⟨e2, gn, dr, tk2, os⟩) r3 rfl ?_)
  refine wpAny_bind (pair_set (s := ⟨e2, gn, dr, tk2, os⟩) r3 fun g2 r4 b2 => ?_)
  replace r4 : Pr2 g2 to' x y := r4
  replace b2 : Heap.SameBut to' e2 g2 := b2
  refine wpAny_bind (wpAny_letGo (wpAny_pure (wpAny_pure ?_)))
  refine wpAny_bind (wpAny_seqItems (s := ⟨g2, gn, dr, tk2, os⟩) r4 rfl ?_)
  refine wpAny_bind (wpAny_newTuple ?_)
  have nn : g2.objs.size = hp.objs.size := by rw [b2.1, c2.1, b1.1, c1.1, b0.1]
  have z2 : ZpB g2 z ti to' true .ellipsis := b2.extBut _ _ S.TOz.symm (c2.extBut _ _ S.zi2 (b1.extBut _ _ S.TOz.symm (c1.extBut _ _ S.zi1 zz0)))
  have kp : ∀ c oc, c ≠ z → c ≠ to' → c ≠ j1 → c ≠ j2 → hp.get? c = some oc → g2.get? c = some oc := fun c oc m1 m2 m3 m4 ee => b2.extBut _ _ m2 (c2.extBut _ _ m4 (b1.extBut _ _ m2 (c1.extBut _ _ m3 (b0.extBut _ _ m1 ee))))
  have v1 : T1 (i + 1) g2 := D1.over (D1.over (D1.over u1 b1 S.Tf1) c2 S.sep2_1) b2 S.Tf1
  have v2 : T2 (i + 1) g2 := D2.over u2 b2 S.Tf2
  have zl : z < g2.objs.size := Heap.lt_size z2
  show wpAny _ _ (Builtin.SmallTypes.ownedTupleHandOut (.ref z) (.ref g2.objs.size) >>= _) _ _ ⟨g2.push { cls := .type "tuple", data := .seq #[x, y] }, gn, dr, tk2, os⟩
  refine wpAny_bind ?_
  unfold Builtin.SmallTypes.ownedTupleHandOut
  have z3 : ZpB (g2.push { cls := .type "tuple", data := .seq #[x, y] }) z ti to' true .ellipsis := Heap.get?_push_of_some _ z2
  refine wpAny_bind (wpAny_setField_rec z3 (by simp) fun g3 z4 b3 => ?_)
  replace z4 : ZpB g3 z ti to' true (rawInt g2.objs.size) := z4
  refine wpAny_setField_rec z4 (by simp) fun g4 z5 b4 => ?_
  replace z5 : ZpB g4 z ti to' true (rawInt g2.objs.size) := z5
  replace b3 : Heap.SameBut z (g2.push { cls := .type "tuple", data := .seq #[x, y] }) g3 := b3
  replace b4 : Heap.SameBut z g3 g4 := b4
  have up : ∀ c oc, c ≠ z → g2.get? c = some oc → g4.get? c = some oc := fun c oc m ee => b4.extBut _ _ m (b3.extBut _ _ m (Heap.get?_push_of_some _ ee))
  have new : Pr2 g4 g2.objs.size x y := b4.extBut _ _ (Nat.ne_of_gt zl) (b3.extBut _ _ (Nat.ne_of_gt zl) (Heap.get?_push_size _ rfl))
  have n4 : g4.objs.size = g2.objs.size + 1 := by rw [b4.1, b3.1, Heap.size_push]
  rw [nn] at z5 new n4
  refine wpAny_pure ⟨_, rfl, ?_⟩
  show Q (.ref g2.objs.size) ⟨g4, gn, dr, tk2, os⟩
  rw [nn]
  exact q x y g4 tk2 px py z5 (up _ _ S.TOz r4) (D1.frame _ _ _ v1 fun b hb oc ee => up b oc (fun m => S.zf1 (m ▸ hb)) ee) (D2.frame _ _ _ v2 fun b hb oc ee => up b oc (fun m => S.zf2 (m ▸ hb)) ee) new n4 fun c oc m1 m2 m3 m4 ee => up c oc m1 (kp c oc m1 m2 m3 m4 ee)
/-- both end at once -/
theorem zpS_end {Q : Fin → Shared → Prop} (hh : A.handled = none) (S : ZipSep2 z ti to' j1 j2 f1 f2) (D1 : Draws prog w A j1 f1 n1 P1 T1) (D2 : Draws prog w A j2 f2 n1 P2 T2)
    (zz : ZpB s.heap z ti to' true .none) (pi' : Pr2 s.heap ti (.ref j1) (.ref j2)) (po : Pr2 s.heap to' a1 a2) (t1 : T1 n1 s.heap) (t2 : T2 n1 s.heap)
    (q : ∀ g tk e, (∀ c oc, c ≠ z → c ≠ to' → c ≠ j1 → c ≠ j2 → s.heap.get? c = some oc → g.get? c = some oc) → (∃ oc, g.get? e = some oc ∧ oc.cls = .type "StopIteration") → E (.ref e) { s with heap := g, toks := tk }) :
    wpAny (model prog w) A (Builtin.«zip.__next__» ⟨[.ref z], []⟩) Q E s := by
  obtain ⟨hp, gn, dr, tk0, os⟩ := s
  show wpAny _ _ (field (.ref z) 2 >>= _) _ _ _
  refine wpAny_bind (wpAny_field zz rfl (x := .bool true) rfl ?_)
  show wpAny _ _ (field (.ref z) 3 >>= _) _ _ _
  refine wpAny_bind (wpAny_field zz rfl (x := .ref ti) rfl ?_)
  refine wpAny_bind (wpAny_seqItems pi' rfl ?_)
  show wpAny _ _ (Builtin.SmallTypes.ownedTupleIsFree (.ref z) >>= _) _ _ _
  refine wpAny_bind ?_
  unfold Builtin.SmallTypes.ownedTupleIsFree
  refine wpAny_bind (wpAny_field zz rfl (x := .none) rfl (wpAny_pure ?_))
  simp only [if_true]
  refine wpAny_bind (wpAny_rule ?_)
  refine wpAny_bind (wpAny_field zz rfl (x := .ref to') rfl ?_)
  refine wpAny_bind (wpAny_setField_rec zz (by simp) fun g0 zz0 b0 => ?_)
  replace zz0 : ZpB g0 z ti to' true .ellipsis := zz0
  replace b0 : Heap.SameBut z hp g0 := b0
  refine wpAny_bind ?_
  simp only [List.zipIdx_cons, List.zipIdx_nil, List.forIn_cons, List.forIn_nil]
  refine wpAny_bind (wpAny_bind (wpAny_onRaise ?_))
  show wpAny _ _ (Builtin.SmallTypes.nextOrEnd (.ref j1)) _ _ ⟨g0, gn, dr, tk0, os⟩
  refine orEnd_end D1 (D1.over t1 b0 S.zf1) fun e1 c1 => ?_
  replace c1 : Heap.ExtBut j1 g0 e1 := c1
  have zz1 : ZpB e1 z ti to' true .ellipsis := c1 _ _ S.zi1 zz0
  refine wpAny_bind (wpAny_setField_rec (s := ⟨e1, gn, dr, tk0, os⟩) zz1 (by simp) fun g2 zz2 b2 => ?_)
  replace b2 : Heap.SameBut z e1 g2 := b2
  refine wpAny_bind ?_
  have t2' : T2 n1 g2 := D2.frame _ _ _ t2 fun b hb oc ee => b2.extBut _ _ (fun m => S.zf2 (m ▸ hb)) (c1 _ _ (fun m => S.sep1_2 (m ▸ hb)) (b0.extBut _ _ (fun m => S.zf2 (m ▸ hb)) ee))
  have en2 : ∀ {E' : Value → Shared → Prop} {Q' : Option Value → Shared → Prop}, (∀ h2, Heap.ExtBut j2 g2 h2 → Q' none ⟨h2, gn, dr, tk0, os⟩) → wpAny (model prog w) A (Builtin.SmallTypes.nextOrEnd (.ref j2)) Q' E' ⟨g2, gn, dr, tk0, os⟩ := fun k => orEnd_end D2 (s := ⟨g2, gn, dr, tk0, os⟩) t2' k
  wp_walk using en2
  intro h2 c2
  wp_walk using en2
  simp only [raiseNew]
  refine wpAny_bind (wpAny_handled ?_)
  rw [hh]
  refine wpAny_bind (wpAny_pure (wpAny_throw ?_))
  exact q _ _ _ (fun c oc m1 m2 m3 m4 ee => Heap.get?_push_of_some _ (Heap.get?_push_of_some _ (c2 _ _ m4 (b2.extBut _ _ m1 (c1 _ _ m3 (b0.extBut _ _ m1 ee)))))) ⟨_, Heap.get?_push_size _ rfl, rfl⟩
end
end DL
namespace DL
open PySem PySem.Spec PyProof.Rows L2
open Sem (wp)
section
variable {prog : Program} {w : World} {A : Around} {E : Value → Shared → Prop} {s : Shared} {z ti to' j1 j2 : Addr} {f1 f2 : List Addr} {n1 n2 i : Nat} {P1 P2 : Nat → Value → Prop} {T1 T2 : Nat → Heap → Prop} {a1 a2 : Value} {b : Bool}
theorem zp_iter {f0 : Value} {Q : Value → Shared → Prop} (zz : ZpB s.heap z ti to' b f0) (q : Q (.ref z) s) : wpAny (model prog w) A (pyIter (.ref z)) Q E s := by
  have ty : s.TypeIs (.ref z) "zip" := ⟨_, zz, rfl⟩
  refine wpAny_pyIter_slot ty F.slot_zip_iter (wpAny_call_entry F.slot_zip_iter ty F.entry_zip_iter ?_ (F.args_zip_iter_1 _))
  show wpAny _ _ (ret (.ref z)) _ _ s
  exact wpAny_pure ⟨_, rfl, "zip", _, ty, F.slot_zip_next.lookup, q⟩
theorem zp_go {elts : List Expr} {kk : Nat} {pos : Pos} {T : Addr} {Q : Unit → Shared → Prop} (zz : ZpB s.heap z ti to' b (rawInt T))
    (q : ∀ g, ZpB g z ti to' b .none → Heap.SameBut z s.heap g → Q () { s with heap := g }) : wpAny (model prog w) A (letOwnedTupleGo (.Tuple elts kk pos) (.ref z) (.ref T)) Q E s := by
  unfold letOwnedTupleGo
  refine wpAny_bind (wpAny_load zz ?_)
  show wpAny _ _ (if (_ && (#[rawInt T, .bool false, .bool b, .ref ti, .ref to'] : Array Value)[0]? == some (rawInt T)) = true then _ else _) Q E s
  rw [if_pos (by simp)]
  refine wpAny_bind (wpAny_rule ?_)
  show wpAny _ _ (setField (.ref z) 0 .none) Q E s
  exact wpAny_setField_rec zz (by simp) fun g zg sb => q g zg sb
theorem zp_item {Q : Option Value → Shared → Prop} (S : ZipSep2 z ti to' j1 j2 f1 f2) (D1 : Draws prog w A.in1 j1 f1 n1 P1 T1) (D2 : Draws prog w A.in1 j2 f2 n2 P2 T2)
    (zz : ZpB s.heap z ti to' b .none) (pi' : Pr2 s.heap ti (.ref j1) (.ref j2)) (po : Pr2 s.heap to' a1 a2) (t1 : T1 i s.heap) (t2 : T2 i s.heap) (l1 : i < n1) (l2 : i < n2)
    (q : ∀ x y g tk, P1 i x → P2 i y → ZpB g z ti to' b (rawInt s.heap.objs.size) → Pr2 g to' x y → T1 (i + 1) g → T2 (i + 1) g → Pr2 g s.heap.objs.size x y → g.objs.size = s.heap.objs.size + 1 →
      (∀ c oc, c ≠ z → c ≠ to' → c ≠ j1 → c ≠ j2 → s.heap.get? c = some oc → g.get? c = some oc) → Q (some (.ref s.heap.objs.size)) { s with heap := g, toks := tk }) :
    wpAny (model prog w) A (pyNext (.ref z)) Q E s := by
  have ty : s.TypeIs (.ref z) "zip" := ⟨_, zz, rfl⟩
  unfold pyNext
  refine wpAny_bind (wpAny_attempt (wpAny_callSpecial?_slot (name := Str.ofString "__next__") ty F.slot_zip_next (wpAny_call_entry F.slot_zip_next ty F.entry_zip_next ?_ (F.args_zip_next_1 _))))
  cases b
  · exact zipD2_next_item S D1 D2 zz pi' po t1 t2 l1 l2 fun x y g tk b1 b2 b3 b4 b5 b6 b7 b8 b9 => wpAny_pure (q x y g tk b1 b2 b3 b4 b5 b6 b7 b8 b9)
  · exact zpS_item S D1 D2 zz pi' po t1 t2 l1 l2 fun x y g tk b1 b2 b3 b4 b5 b6 b7 b8 b9 => wpAny_pure (q x y g tk b1 b2 b3 b4 b5 b6 b7 b8 b9)
theorem zp_end {Q : Option Value → Shared → Prop} (hh : A.handled = none) (S : ZipSep2 z ti to' j1 j2 f1 f2) (D1 : Draws prog w A.in1 j1 f1 n1 P1 T1) (D2 : Draws prog w A.in1 j2 f2 n2 P2 T2)
    (zz : ZpB s.heap z ti to' b .none) (pi' : Pr2 s.heap ti (.ref j1) (.ref j2)) (po : Pr2 s.heap to' a1 a2) (t1 : T1 i s.heap) (t2 : T2 i s.heap) (l1 : i ≤ n1) (l2 : i ≤ n2) (he : if b = true then i = n1 ∧ i = n2 else i = n1 ∨ i = n2)
    (q : ∀ g tk, (∀ c oc, c ≠ z → c ≠ to' → c ≠ j1 → c ≠ j2 → s.heap.get? c = some oc → g.get? c = some oc) → Q none { s with heap := g, toks := tk }) :
    wpAny (model prog w) A (pyNext (.ref z)) Q E s := by
  have ty : s.TypeIs (.ref z) "zip" := ⟨_, zz, rfl⟩
  have fin : ∀ g tk e, (∀ c oc, c ≠ z → c ≠ to' → c ≠ j1 → c ≠ j2 → s.heap.get? c = some oc → g.get? c = some oc) → (∃ oc, g.get? e = some oc ∧ oc.cls = .type "StopIteration") → wpAny (model prog w) A (isInstance (.ref e) (.type "StopIteration")) (fun r s2 => wpAny (model prog w) A (if r = true then pure none else throw (.ref e)) Q E s2) E { s with heap := g, toks := tk } := by
    intro g tk e kp ⟨oe, g1, g2⟩
    exact wpAny_isInstance (T := "StopIteration") (b := true) ⟨oe, g1, g2⟩ isSubtype_stop (wpAny_pure (q g tk kp))
  unfold pyNext
  refine wpAny_bind (wpAny_attempt (wpAny_callSpecial?_slot (name := Str.ofString "__next__") ty F.slot_zip_next (wpAny_call_entry F.slot_zip_next ty F.entry_zip_next ?_ (F.args_zip_next_1 _))))
  cases b
  · exact zipD2_next_end S D1 D2 zz pi' po t1 t2 l1 l2 he fun g tk e kp ex => wpAny_bind (fin g tk e kp ex)
  · obtain ⟨rfl, rfl⟩ := he
    exact zpS_end (show A.in1.handled = none from hh) S D1 D2 zz pi' po t1 t2 fun g tk e kp ex => wpAny_bind (fin g tk e kp ex)
end
/-- the sequences at a and b as they stand at each turn, the items in new pairs -/
def ItZ (K : PySem.W.Frag) (k1 k2 st : Bool) (a b : Addr) : It :=
  ⟨fun i H => ∃ (xs ys : List V) (x y : V), SqB k1 K H a xs ∧ SqB k2 K H b ys ∧ xs[i]? = some x ∧ ys[i]? = some y,
    fun i H v H' => ∃ T x y, v = .ref T ∧ H T = none ∧ H' = upd H T (.tup [x, y]) ∧ (∀ xs, SqB k1 K H a xs → xs[i]? = some x) ∧ ∀ ys, SqB k2 K H b ys → ys[i]? = some y,
    fun i H => ∃ xs ys : List V, SqB k1 K H a xs ∧ SqB k2 K H b ys ∧ i ≤ xs.length ∧ i ≤ ys.length ∧ (if st = true then i = xs.length ∧ i = ys.length else i = xs.length ∨ i = ys.length)⟩
theorem turn_zp {P : Program} {w : World} {K : PySem.W.Frag} {elts : List Expr} {kk : Nat} {tpos : Pos} (k1 k2 st : Bool) {a b z ti to' j1 j2 : Addr} (S : ZipSep2 z ti to' j1 j2 [j1, a] [j2, b]) :
    Turn P w K (.Tuple elts kk tpos) (ItZ K k1 k2 st a b) [z, ti, to', j1, j2] z (fun i h => ZpB h z ti to' st .none ∧ Pr2 h ti (.ref j1) (.ref j2) ∧ (∃ x y, Pr2 h to' x y) ∧ SqIt k1 h j1 a i ∧ SqIt k2 h j2 b i) where
  mem := by simp
  obj := fun i h ⟨zz, p1, ⟨x, y, p2⟩, h1, h2⟩ c hc => by
    obtain ⟨o1, v1, g1, e1⟩ := sqIt_get h1
    obtain ⟨o2, v2, g2, e2⟩ := sqIt_get h2
    simp only [List.mem_cons, List.not_mem_nil, or_false] at hc
    rcases hc with q | q | q | q | q <;> subst q
    · exact ⟨_, zz, fun v q => by cases q⟩
    · exact ⟨_, p1, fun v q => by cases q⟩
    · exact ⟨_, p2, fun v q => by cases q⟩
    · exact ⟨_, g1, fun v q => by rw [e1] at q; cases q⟩
    · exact ⟨_, g2, fun v q => by rw [e2] at q; cases q⟩
  keep := fun i h h' ⟨zz, p1, ⟨x, y, p2⟩, h1, h2⟩ kp =>
    ⟨kp z (by simp) _ zz, kp ti (by simp) _ p1, ⟨x, y, kp to' (by simp) _ p2⟩, sqIt_at h1 fun oc q => kp j1 (by simp) oc q, sqIt_at h2 fun oc q => kp j2 (by simp) oc q⟩
  item := by
    intro X hP hw hK hc i pins s σ H E I hf stt hg
    subst hP hw hK
    obtain ⟨zz, p1, ⟨x0, y0, p2⟩, h1, h2⟩ := stt
    obtain ⟨xs, ys, x, y, hq1, hq2, hx, hy⟩ := hg
    obtain ⟨its, rv, iq⟩ := sqB_is I hq1
    obtain ⟨its2, rv2, iq2⟩ := sqB_is I hq2
    obtain ⟨u, hu, ru⟩ := rv.get hx
    obtain ⟨u2, hu2, ru2⟩ := rv2.get hy
    obtain ⟨o1, v1, g1, d1⟩ := sqIt_get h1
    obtain ⟨o2, v2, g2, d2⟩ := sqIt_get h2
    obtain ⟨oa, na, ga, da⟩ := sqIs_get iq
    obtain ⟨ob, nb, gb, db⟩ := sqIs_get iq2
    have na1 : a ≠ j1 := fun q => by subst q; rw [ga] at g1; cases g1; rw [da] at d1; cases d1
    have nb2 : b ≠ j2 := fun q => by subst q; rw [gb] at g2; cases g2; rw [db] at d2; cases d2
    have l1 : i < its.toArray.size := by have := (List.getElem?_eq_some_iff.mp hu).1; simpa using this
    have l2 : i < its2.toArray.size := by have := (List.getElem?_eq_some_iff.mp hu2).1; simpa using this
    have zl : z < s.heap.objs.size := Heap.lt_size zz
    refine zp_item (b := st) S (drawsB k1 (A := X.A.in1) (I.ok.hd hc) na1 its.toArray) (drawsB k2 (A := X.A.in1) (I.ok.hd hc) nb2 its2.toArray) zz p1 p2 ⟨h1, iq⟩ ⟨h2, iq2⟩ l1 l2 fun v w' g tk pv pw zg pg s1 s2 new hsz kp => ?_
    have pv : its.toArray[i]? = some v := pv
    have pw : its2.toArray[i]? = some w' := pw
    have ev : v = u := by
      have : its[i]? = some v := by simpa using pv
      rw [hu] at this; exact (Option.some.inj this).symm
    have ew : w' = u2 := by
      have : its2[i]? = some w' := by simpa using pw
      rw [hu2] at this; exact (Option.some.inj this).symm
    subst ev ew
    refine ⟨_, rfl, zp_go (b := st) (s := { s with heap := g, toks := tk }) zg fun g2' z2 sb => ?_⟩
    have up : ∀ c oc, c ≠ z → g.get? c = some oc → g2'.get? c = some oc := fun c oc m e => (sb.2 c m).trans e
    have new2 : Pr2 g2' s.heap.objs.size v w' := up _ _ (Nat.ne_of_gt zl) new
    have nob : ObjOk X.prog X.w (upd H s.heap.objs.size (.tup [x, y])) g2' s.heap.objs.size (.tup [x, y]) :=
      ⟨by show 2 ≤ sizeLine; decide, [v, w'], .cons ru (.cons ru2 .nil), ⟨_, new2, rfl, _, rfl⟩⟩
    have I2 : Inv X pins σ (upd H s.heap.objs.size (.tup [x, y])) { s with heap := g2', toks := tk } :=
      I.turnedNew (ch := [z, ti, to', j1, j2]) (fun c oc hb q => by
        simp only [List.mem_cons, List.not_mem_nil, or_false, not_or] at hb
        exact up c oc hb.1 (kp c oc hb.1 hb.2.2.1 hb.2.2.2.1 hb.2.2.2.2 q)) hf (Nat.le_refl _) nob
    refine ⟨.ref s.heap.objs.size, _, I2, rfl, ⟨_, x, y, rfl, I.hok.fresh (Nat.le_refl _), rfl, fun l hl => by rw [sqB_inj I hl hq1]; exact hx, fun l hl => by rw [sqB_inj I hl hq2]; exact hy⟩, ⟨z2, ?_, ⟨v, w', ?_⟩, ?_, ?_⟩, fun c hcm => ?_⟩
    · exact up _ _ S.TIz (kp _ _ S.TIz S.TITO S.TIi1 S.TIi2 p1)
    · exact up _ _ S.TOz pg
    · exact sqIt_at s1.1 fun oc q => up _ oc (Ne.symm S.zi1) q
    · exact sqIt_at s2.1 fun oc q => up _ oc (Ne.symm S.zi2) q
    · have lt : c < s.heap.objs.size := by
        simp only [List.mem_cons, List.not_mem_nil, or_false] at hcm
        rcases hcm with q | q | q | q | q <;> rw [q]
        · exact zl
        · exact Heap.lt_size p1
        · exact Heap.lt_size p2
        · exact Heap.lt_size g1
        · exact Heap.lt_size g2
      rw [upd_ne (Nat.ne_of_lt lt)]
      exact (hf c hcm).1
  done := by
    intro X hP hw hK hc i pins s σ H E I hf stt hg
    subst hP hw hK
    obtain ⟨zz, p1, ⟨x0, y0, p2⟩, h1, h2⟩ := stt
    obtain ⟨xs, ys, hq1, hq2, le1, le2, he⟩ := hg
    obtain ⟨its, rv, iq⟩ := sqB_is I hq1
    obtain ⟨its2, rv2, iq2⟩ := sqB_is I hq2
    obtain ⟨o1, v1, g1, d1⟩ := sqIt_get h1
    obtain ⟨o2, v2, g2, d2⟩ := sqIt_get h2
    obtain ⟨oa, na, ga, da⟩ := sqIs_get iq
    obtain ⟨ob, nb, gb, db⟩ := sqIs_get iq2
    have na1 : a ≠ j1 := fun q => by subst q; rw [ga] at g1; cases g1; rw [da] at d1; cases d1
    have nb2 : b ≠ j2 := fun q => by subst q; rw [gb] at g2; cases g2; rw [db] at d2; cases d2
    have e1 : its.toArray.size = xs.length := by rw [List.size_toArray, rv.length]
    have e2 : its2.toArray.size = ys.length := by rw [List.size_toArray, rv2.length]
    exact zp_end (b := st) (I.ok.hd hc) S (drawsB k1 (A := X.A.in1) (I.ok.hd hc) na1 its.toArray) (drawsB k2 (A := X.A.in1) (I.ok.hd hc) nb2 its2.toArray) zz p1 p2 ⟨h1, iq⟩ ⟨h2, iq2⟩ (by omega) (by omega) (by rw [e1, e2]; exact he) fun g tk kp =>
      ⟨rfl, I.turnedL (t' := tk) (ch := [z, ti, to', j1, j2]) (fun c oc hb q => by
        simp only [List.mem_cons, List.not_mem_nil, or_false, not_or] at hb
        exact kp c oc hb.1 hb.2.2.1 hb.2.2.2.1 hb.2.2.2.2 q) hf⟩
  self := fun A i s Q E h q => zp_iter h.1 q
section
variable {X : Cx} {S : SrcA} {Z : Addr → Prop} {ea eb : Expr} {ca cb : CE}
theorem seqB_lt {pins : List (Addr × Obj)} {σ : L2.St} {H : Hp} {s : Shared} {k : Bool} {a : Addr} {xs : List V} (I : L2.Inv X pins σ H s) (h : SqB k X.K H a xs) : a < s.heap.objs.size := by
  obtain ⟨its, _, iq⟩ := sqB_is I h
  obtain ⟨oa, na, ga, _⟩ := sqIs_get iq
  exact Heap.lt_size ga
theorem sep_new {n a b : Nat} (ha : a < n) (hb : b < n) : ZipSep2 (n + 4) (n + 2) (n + 3) n (n + 1) [n, a] [n + 1, b] := by
  have two : ∀ x u v : Nat, x ≠ u → x ≠ v → x ∉ [u, v] := fun x u v h1 h2 h => by
    rcases List.mem_cons.mp h with q | q
    · exact h1 q
    · exact h2 (List.mem_singleton.mp q)
  have a0 : n + 2 ≠ n + 4 := by omega
  have a1 : n + 3 ≠ n + 4 := by omega
  have a2 : n + 2 ≠ n + 3 := by omega
  have a3 : n + 2 ≠ n := by omega
  have a4 : n + 2 ≠ n + 1 := by omega
  have b1 : n + 4 ≠ n := by omega
  have b2 : n + 4 ≠ a := by omega
  have b3 : n + 3 ≠ n := by omega
  have b4 : n + 3 ≠ a := by omega
  have b5 : n + 4 ≠ n + 1 := by omega
  have b6 : n + 4 ≠ b := by omega
  have b7 : n + 3 ≠ n + 1 := by omega
  have b8 : n + 3 ≠ b := by omega
  have c1 : n ≠ n + 1 := by omega
  have c2 : n ≠ b := by omega
  have c3 : n + 1 ≠ n := by omega
  have c4 : n + 1 ≠ a := by omega
  exact ⟨a0, a1, a2, a3, List.mem_cons_self, two _ _ _ b1 b2, two _ _ _ b3 b4, a4, List.mem_cons_self, two _ _ _ b5 b6, two _ _ _ b7 b8, two _ _ _ c1 c2, two _ _ _ c3 c4⟩
/-- what the zip begins with -/
def rZp (K : PySem.W.Frag) (st : Bool) (ta : TA) : TI := fun σ H R => ta σ H fun vs H1 => ∃ k1 k2 a b xs ys, vs = [.ref a, .ref b] ∧ SqB k1 K H1 a xs ∧ SqB k2 K H1 b ys ∧ R (ItZ K k1 k2 st a b) H1
theorem zp_come {pins : List (Addr × Obj)} {σ : L2.St} {H1 : Hp} {s1 : Shared} {k1 k2 st : Bool} {a b : Addr} {xs ys : List V} {R : It → Hp → Prop} {elts : List Expr} {kk : Nat} {tpos : Pos} (I1 : L2.Inv X pins σ H1 s1) (hq1 : SqB k1 X.K H1 a xs) (hq2 : SqB k2 X.K H1 b ys) (q : R (ItZ X.K k1 k2 st a b) H1)
    {h2 : Heap} (zz : ZpB h2 (s1.heap.objs.size + 4) (s1.heap.objs.size + 2) (s1.heap.objs.size + 3) st .none) (p1 : Pr2 h2 (s1.heap.objs.size + 2) (.ref s1.heap.objs.size) (.ref (s1.heap.objs.size + 1))) (p2 : Pr2 h2 (s1.heap.objs.size + 3) .none .none)
    (g1 : h2.get? s1.heap.objs.size = some (itOb k1 a)) (g2 : h2.get? (s1.heap.objs.size + 1) = some (itOb k2 b)) (kp : ∀ c oc, s1.heap.get? c = some oc → h2.get? c = some oc) :
    wpAny (model X.prog X.w) X.A (pyIter (.ref (s1.heap.objs.size + 4))) (PIE X pins σ (.Tuple elts kk tpos) R) X.xe { s1 with heap := h2 } := by
  refine zp_iter zz ?_
  have I2 : Inv X pins σ H1 { s1 with heap := h2 } := I1.kept (t' := s1.toks) kp
  refine ⟨_, [s1.heap.objs.size + 4, s1.heap.objs.size + 2, s1.heap.objs.size + 3, s1.heap.objs.size, s1.heap.objs.size + 1], _, _, H1, rfl, I2, turn_zp k1 k2 st (sep_new (seqB_lt I1 hq1) (seqB_lt I1 hq2)), ⟨zz, p1, ⟨_, _, p2⟩, sqIt_new g1, sqIt_new g2⟩, fun c hc => ?_, q⟩
  have le : s1.heap.objs.size ≤ c := by
    simp only [List.mem_cons, List.not_mem_nil, or_false] at hc
    rcases hc with z | z | z | z | z <;> rw [z] <;> first | exact Nat.le_add_right _ _ | exact Nat.le_refl _
  exact I1.fpOk le (I1.hok.fresh le)
theorem pi_zpK {p pos tpos pk pc : Pos} {kc : Nat} {ta : TA} {elts : List Expr} {kk : Nat} {st : Bool} (hg : Gl X "zip") (hm : X.mg "zip" = none) (ha : PA X [ea, eb] ta)
    (h1 : backTo pos (starEach [ea, eb] X.env) = (false, eval ea X.env) :: backTo pos (starEach [eb] X.env) := by rfl) (h2 : (backTo pos (starEach [ea, eb] X.env)).any (·.1) = false := by rfl) :
    PI X (.Tuple elts kk tpos) (.Call (.Name "zip" p) [ea, eb] [⟨some "strict", .Constant (.bool st) kc pc, pk⟩] pos) (rZp X.K st ta) := by
  refine ⟨fun pins s σ H R I h => ?_⟩
  refine wpAny_Call_Name_kw (ld_blt I hg hm PyProof.Rows.boot_zip ?_)
  refine callT_kw (thn (ha.run pos pins s σ H _ I h) fun us s1 hus => ?_) h1 h2 rfl rfl
  obtain ⟨vs, H1, I1, r1, k1, k2, a, b, xs, ys, ex, hq1, hq2, q⟩ := hus
  subst ex
  obtain ⟨u, u2, rfl, ru, ru2⟩ := vals2 r1
  obtain rfl : u = .ref a := ru
  obtain rfl : u2 = .ref b := ru2
  refine PyProof.Rows.kws_cons (name := "strict") ?_
  refine thn ((pe_bl (X := X) (b := st)).run pins s1 σ H1 (fun v H' => v = .bl st ∧ H' = H1) I1 ⟨rfl, rfl⟩) fun w s2 hw => ?_
  obtain ⟨v, H2, I2, rv, rfl, rfl⟩ := hw
  obtain rfl : w = .bool st := rv
  refine PyProof.Rows.kws_nil ?_
  obtain ⟨its, rv1, iq1⟩ := sqB_is I2 hq1
  obtain ⟨its2, rv2, iq2⟩ := sqB_is I2 hq2
  exact call_zipK (b := st) (beginsB k1 a its.toArray) (beginsB k2 b its2.toArray) iq1 iq2 fun h2 zz p1 p2 g1 g2 sz kp => zp_come I2 hq1 hq2 q zz p1 p2 g1 g2 kp
theorem pi_zp {p pos tpos : Pos} {ta : TA} {elts : List Expr} {kk : Nat} (hg : Gl X "zip") (hm : X.mg "zip" = none) (ha : PA X [ea, eb] ta)
    (hs : starEach [ea, eb] X.env = (false, eval ea X.env) :: starEach [eb] X.env := by rfl) (hpl : (backTo pos (starEach [eb] X.env)).any (·.1) = false := by rfl) :
    PI X (.Tuple elts kk tpos) (.Call (.Name "zip" p) [ea, eb] [] pos) (rZp X.K false ta) := by
  refine ⟨fun pins s σ H R I h => ?_⟩
  refine Call_ (ld_blt I hg hm PyProof.Rows.boot_zip (PyProof.Rows.callWith_type1 (thn (ha.run pos pins s σ H _ I h) fun us s1 hus => ?_) hs hpl))
  obtain ⟨vs, H1, I1, r1, k1, k2, a, b, xs, ys, ex, hq1, hq2, q⟩ := hus
  subst ex
  obtain ⟨u, u2, rfl, ru, ru2⟩ := vals2 r1
  obtain rfl : u = .ref a := ru
  obtain rfl : u2 = .ref b := ru2
  obtain ⟨its, rv1, iq1⟩ := sqB_is I1 hq1
  obtain ⟨its2, rv2, iq2⟩ := sqB_is I1 hq2
  exact zip_begins2 (beginsB k1 a its.toArray) (beginsB k2 b its2.toArray) iq1 iq2 fun h2 zz p1 p2 g1 g2 sz kp => zp_come I1 hq1 hq2 q zz p1 p2 g1 g2 kp
/-! ### the combinator -/
def zipD : List PyData → List PyData → List PyData
  | x :: xs, y :: ys => .tuple [x, y] :: zipD xs ys
  | _, _ => []
def ciZip (st : Bool) (a b : CE) : CL := fun e => (a e).bind fun x => (b e).bind fun y => (itemsOf x).bind fun xs => (itemsOf y).bind fun ys => if (!st || decide (xs.length = ys.length)) = true then .ret (zipD xs ys) else .bad
theorem zipD_len : ∀ xs ys : List PyData, (zipD xs ys).length = min xs.length ys.length
  | [], _ => by simp [zipD]
  | _ :: _, [] => by simp [zipD]
  | x :: xs, y :: ys => by
    have := zipD_len xs ys
    simp only [zipD, List.length_cons]
    omega
theorem zipD_get : ∀ {xs ys : List PyData} {i : Nat} {d : PyData}, (zipD xs ys)[i]? = some d → ∃ x y, xs[i]? = some x ∧ ys[i]? = some y ∧ d = .tuple [x, y]
  | [], _, i, d, h => by simp [zipD] at h
  | _ :: _, [], i, d, h => by simp [zipD] at h
  | x :: xs, y :: ys, 0, d, h => by
    simp only [zipD, List.getElem?_cons_zero] at h
    exact ⟨x, y, rfl, rfl, (Option.some.inj h).symm⟩
  | x :: xs, y :: ys, i + 1, d, h => by
    simp only [zipD, List.getElem?_cons_succ] at h
    obtain ⟨u, v, h1, h2, h3⟩ := zipD_get h
    exact ⟨u, v, by simpa using h1, by simpa using h2, h3⟩
theorem wk_zip {K : PySem.W.Frag} {H1 : Hp} {k1 k2 st : Bool} {a b : Addr} {us vs : List V} {xs ys : List PyData} (h1 : ∀ H', Kp H1 H' → SqB k1 K H' a us) (r1 : RepA K H1 us xs) (h2 : ∀ H', Kp H1 H' → SqB k2 K H' b vs) (r2 : RepA K H1 vs ys)
    (hs : (!st || decide (xs.length = ys.length)) = true) : Wk Z K (ItZ K k1 k2 st a b) (zipD xs ys) H1 := by
  refine ⟨fun i H d hd kp => ?_, fun H kp => ⟨us, vs, h1 H kp, h2 H kp, ?_, ?_, ?_⟩⟩
  · obtain ⟨x, y, e1, e2, rfl⟩ := zipD_get hd
    obtain ⟨u, g1, ru⟩ := r1.get e1
    obtain ⟨v, g2, rv⟩ := r2.get e2
    refine ⟨⟨us, vs, u, v, h1 H kp, h2 H kp, g1, g2⟩, fun w H' yl => ?_⟩
    obtain ⟨T, u', v', rfl, hT, rfl, f1, f2⟩ := yl
    cases g1.symm.trans (f1 us (h1 H kp))
    cases g2.symm.trans (f2 vs (h2 H kp))
    exact ⟨same_new hT, .tup (.inl (.inl upd_same)) (.cons ((ru.kp kp).kp (.of (same_new hT))) (.cons ((rv.kp kp).kp (.of (same_new hT))) .nil))⟩
  · rw [zipD_len, r1.length]; omega
  · rw [zipD_len, r2.length]; omega
  · rw [zipD_len, r1.length, r2.length]
    cases st with
    | true =>
      have : xs.length = ys.length := by simpa using hs
      rw [if_pos rfl]; omega
    | false => rw [if_neg (by decide)]; omega
theorem di_of {tg iter : Expr} {st : Bool} {c1 c2 : CE} {es : List Expr} (hpi : PI X tg iter (rZp X.K st (tDa S Z X.K (RV X.K) (caCons c1 (caCons c2 caNil))))) : Di X S Z tg iter (ciZip st c1 c2) := by
  refine PI.imp hpi fun σ H R ⟨en, Rl, w⟩ => ⟨en, Rl, ?_⟩
  refine M.wp_bind.mpr (M.wp_mono (fun d wd => ?_) (M.wp_bind.mp w))
  refine M.wp_bind.mpr (M.wp_bind.mpr (M.wp_mono (fun d2 wd2 => ?_) (M.wp_bind.mp wd)))
  intro vs H1 s k r
  obtain ⟨v, v2, rfl, rv, rv2⟩ := pair2 r
  obtain ⟨k1, a, us, xs, rfl, h1, q1, w1⟩ := rep_seqB rv (M.wp_bind.mp wd2)
  obtain ⟨k2, b, ws, ys, rfl, h2, q2, w2⟩ := rep_seqB rv2 (M.wp_bind.mp w1)
  obtain ⟨hs, w3⟩ := wp_if w2
  exact ⟨k1, k2, a, b, us, ws, rfl, h1 H1 (Kp.of (Same.refl _)), h2 H1 (Kp.of (Same.refl _)), w3 _ H1 s k (wk_zip h1 q1 h2 q2 hs)⟩
theorem di_zipK {p pos tpos pk pc : Pos} {kc : Nat} {elts : List Expr} {kk : Nat} {st : Bool} (hg : Gl X "zip") (hm : X.mg "zip" = none) (h : Dv X S Z ea ca) (h2 : Dv X S Z eb cb)
    (e1 : backTo pos (starEach [ea, eb] X.env) = (false, eval ea X.env) :: backTo pos (starEach [eb] X.env) := by rfl) (e2 : (backTo pos (starEach [ea, eb] X.env)).any (·.1) = false := by rfl)
    (hs' : starEach [ea, eb] X.env = (false, eval ea X.env) :: starEach [eb] X.env := by rfl) (hs2' : starEach [eb] X.env = (false, eval eb X.env) :: starEach [] X.env := by rfl) :
    Di X S Z (.Tuple elts kk tpos) (.Call (.Name "zip" p) [ea, eb] [⟨some "strict", .Constant (.bool st) kc pc, pk⟩] pos) (ciZip st ca cb) :=
  di_of (es := []) (pi_zpK hg hm (da_cons h (da_cons h2 da_nil hs2') hs') e1 e2)
theorem di_zip {p pos tpos : Pos} {elts : List Expr} {kk : Nat} (hg : Gl X "zip") (hm : X.mg "zip" = none) (h : Dv X S Z ea ca) (h2 : Dv X S Z eb cb)
    (hpl : (backTo pos (starEach [eb] X.env)).any (·.1) = false := by rfl)
    (hs' : starEach [ea, eb] X.env = (false, eval ea X.env) :: starEach [eb] X.env := by rfl) (hs2' : starEach [eb] X.env = (false, eval eb X.env) :: starEach [] X.env := by rfl) :
    Di X S Z (.Tuple elts kk tpos) (.Call (.Name "zip" p) [ea, eb] [] pos) (ciZip false ca cb) :=
  di_of (es := []) (pi_zp hg hm (da_cons h (da_cons h2 da_nil hs2') hs') hs' hpl)
end
end DL
namespace DL
open PySem PySem.Spec PyProof.Rows L2
open Sem (wp)
section
variable {prog : Program} {w : World} {A : Around} {E : Value → Shared → Prop} {s : Shared} {env : Env}
theorem drawL {it l : Addr} {xs : Array Value} (ne : l ≠ it) : ∀ (n i : Nat) (s : Shared) (Q : List Value → Shared → Prop), s.heap.IsListIter it l i → s.heap.IsList l xs → i + n ≤ xs.size →
    (∀ g, g.IsListIter it l (i + n) → Heap.SameBut it s.heap g → Q ((xs.toList.drop i).take n) { s with heap := g }) → wpAny (model prog w) A (draw (.ref it) n) Q E s
  | 0, i, s, Q, _, _, _, q => wpAny_pure (by simpa using q s.heap ‹_› (Heap.SameBut.refl ..))
  | n + 1, i, s, Q, hi, hl, le, q => by
    have lt : i < xs.size := by omega
    show wpAny _ _ (pyNext (.ref it) >>= _) Q E s
    refine wpAny_bind (wpAny_pyNext_list_item hi hl (x := xs[i]) (by simp [lt]) fun g1 hi1 b1 => ?_)
    refine wpAny_bind (wpAny_holding (drawL ne n (i + 1) _ _ hi1 (hl.extBut b1.extBut ne) (by omega) fun g2 hi2 b2 => wpAny_pure ?_))
    have e : xs.toList.drop i = xs[i] :: xs.toList.drop (i + 1) := by simp [List.drop_eq_getElem_cons, lt]
    have r := q g2 (by rw [show i + (n + 1) = i + 1 + n by omega]; exact hi2) (b1.trans b2)
    rw [e, List.take_succ_cons] at r
    exact r
theorem itemsL {l : Addr} {xs : Array Value} {Q : List Value → Shared → Prop} (hh : A.handled = none) (hl : s.heap.IsList l xs)
    (q : ∀ g, Heap.ExtBut s.heap.objs.size s.heap g → Q xs.toList { s with heap := g }) : wpAny (model prog w) A (unpackItems (.ref l) xs.size none) Q E s := by
  have ne : l ≠ s.heap.objs.size := by obtain ⟨ol, ho, _⟩ := hl; exact Nat.ne_of_lt (Heap.lt_size ho)
  unfold unpackItems
  refine wpAny_bind ?_
  unfold notIterableAtAll
  refine wpAny_bind (wpAny_specialOf hl.typeIs slot_list_iter.lookup ?_)
  refine wpAny_pure ?_
  simp only [Bool.false_eq_true, if_false]
  refine wpAny_bind (wpAny_holding (wpAny_pyIter_list hl ?_))
  refine wpAny_bind (wpAny_holding (drawL ne xs.size 0 _ _ ⟨_, Heap.get?_push_size _ rfl, rfl, rfl⟩ (hl.push _) (by omega) fun g1 hi1 b1 => ?_))
  rw [List.drop_zero, List.take_of_length_le (by simp), if_neg (by simp)]
  have hl1 : g1.IsList l xs := (hl.push _).extBut b1.extBut ne
  refine wpAny_bind (wpAny_holding (wpAny_pyNext_list_end hh hi1 hl1 (by simp) fun g2 b2 => ?_))
  simp only [Option.isSome_none, Bool.false_eq_true, if_false]
  exact wpAny_pure (q g2 fun c oc hc e => b2 c oc hc (b1.extBut c oc hc (Heap.get?_push_of_some _ e)))
theorem assignL {elts : List Expr} {kk : Nat} {pos : Pos} {l : Addr} {xs : Array Value} {Q : Unit → Shared → Prop} (hh : A.handled = none) (hl : s.heap.IsList l xs) (hn : (assignEach elts env).length = xs.size) (hs : (assignEach elts env).findIdx? (·.1) = none)
    (q : ∀ g, Heap.ExtBut s.heap.objs.size s.heap g → wpAny (model prog w) A (assignInOrder ((assignEach elts env).map (·.2)) xs.toList) Q E { s with heap := g }) : wpAny (model prog w) A (assign (.Tuple elts kk pos) env (.ref l)) Q E s := by
  rw [PyProof.Rows.assign_Tuple]
  refine wpAny_bind (wpAny_standAt ?_)
  unfold unpack
  rw [hn, hs]
  exact wpAny_bind (wpAny_holding (itemsL hh hl q))
end
section
variable {X : Cx} {S : SrcA} {Z : Addr → Prop} {e ea eb : Expr} {c ca cb : CE} {pos : Pos}
def gSeqT (K : PySem.W.Frag) (n : Nat) (t : TGs) : TG := fun v σ H Q => ∃ k a xs, v = .ref a ∧ SqB k K H a xs ∧ xs.length = n ∧ t xs σ H Q
theorem pg_seq {es : List Expr} {k : Nat} {t : TGs} {n : Nat} (hc : X.calm = true) (h : PGs X es t)
    (hn : (assignEach es X.env).length = n := by rfl) (hst : (assignEach es X.env).findIdx? (·.1) = none := by rfl) : PG X (.Tuple es k pos) (gSeqT X.K n t) := by
  refine ⟨fun pins s σ H v u Q I r hw => ?_⟩
  obtain ⟨kd, a, xs, rfl, hq, hl, hw⟩ := hw
  cases kd
  · exact (pg_tup hc h hn hst).run pins s σ H _ u Q I r ⟨a, xs, rfl, hq, hl, hw⟩
  · obtain rfl : u = .ref a := r
    obtain ⟨its, rv, hp, hz⟩ := I.list (show SqL X.K H a xs from hq)
    refine assignL (I.ok.hd hc) hp.isList (by simp [hn, ← hl, rv.length]) hst fun g hx => ?_
    have I1 : Inv X pins σ H { s with heap := g } := I.kept (t' := s.toks) fun b o e => hx b o (Nat.ne_of_lt (Heap.lt_size e)) e
    exact h.run pins _ σ H xs _ Q I1 (by simpa using rv) hw
def gSeq (gs : List CG) : CG := fun e d => match d with
  | .tuple ds => gGo gs e ds
  | .list ds => gGo gs e ds
  | _ => .bad
theorem dg_seq {es : List Expr} {k : Nat} {gs : List CG} {is : List Nat} (hc : X.calm = true) (h : Dgs X S Z es gs is) (hn : (assignEach es X.env).length = gs.length := by rfl) (hst : (assignEach es X.env).findIdx? (·.1) = none := by rfl) : Dg X S Z (.Tuple es k pos) (gSeq gs) is := by
  refine PG.imp (pg_seq hc h hn hst) fun v σ H Q ⟨en, d, R, r, w⟩ => ?_
  cases r with
  | tup h1 h2 => exact ⟨false, _, _, rfl, h1, by rw [h2.length]; exact gGo_len w, en, _, R, h2, w⟩
  | lst h1 h2 => exact ⟨true, _, _, rfl, .inl (.inr h1), by rw [h2.length]; exact gGo_len w, en, _, R, h2, w⟩
  | _ => exact w.elim
/-! ### x op= e -/
theorem ds_aug {i : Nat} {x : Str} {op : Operator} {m : PyData → PyData → M PyData} {p2 : Pos} (hN : X.N.Nodup) (hi : X.N[i]? = some x) (hx : Loc X.env.scope x) (ho : OpR X (inplaceOp op) (rD S X.K m)) (h : Dp X S Z e c)
    (hf : X.fn x = true ∨ X.env.scope.names.lookup x = some .local := by first | exact .inl rfl | exact .inr rfl | assumption) : Ds X S Z (.AugAssign (.Name x p2) op e pos) (sAug i m c) := by
  refine PS.imp (ps_aug (ti := fun x y H Q => rD S X.K m x y H Q) hN hi hx h (fun pins s σ H x y v u Q I rx ry q => ho pins s σ H x y v u Q I rx ry q) hf) fun D σ H ⟨en, R, w⟩ => ?_
  have w := M.wp_bind.mp w
  unfold cVar at w
  split at w
  · rename_i d hd
    obtain ⟨v, h1, h2⟩ := R.val hd
    refine ⟨v, h1, en, R, M.wp_mono (fun y wy u H1 s1 k1 r1 => ?_) (M.wp_bind.mp w)⟩
    refine ⟨d, y, k1, .rep (h2.kp (s1.kp R.src)), r1, M.wp_mono (fun z q u2 H2 s2 k2 r2 => ?_) (M.wp_bind.mp wy)⟩
    have s3 := s1.trans s2
    exact q _ H2 (R.ext s3) ((R.same s3 k2).set r2)
  · exact w.elim
/-! ### isinstance(x, T), T a built-in type -/
def tyN : PyData → Option String
  | .none => some "NoneType"
  | .bool _ => some "bool"
  | .int _ => some "int"
  | .str _ => some "str"
  | .list _ => some "list"
  | .tuple _ => some "tuple"
  | .dict _ => none
def mIsT (T : String) (d : PyData) : M PyData := match tyN d with
  | some t => match kitB t T with
    | some b => .ret (.bool b)
    | none => .bad
  | none => .bad
def cIsT (T : String) (c : CE) : CE := cOp1 (mIsT T) c
theorem tyX_of {K : PySem.W.Frag} {H : Hp} {v : V} {d : PyData} {t : String} (r : RepP K S H v d) (h : tyN d = some t) : TyX K H v (.type t) := by
  cases r with
  | own n e r => cases h; exact .base (.lst e)
  | ownK n e r => cases h
  | ownT n e r => cases h
  | rep r =>
    cases r with
    | non => cases h; exact .base .non
    | bl b => cases h; exact .base (.bl b)
    | int i => cases h; exact .base (.int i)
    | str x => cases h; exact .base (.str x)
    | lst h1 h2 => cases h; obtain ⟨o, h1⟩ := h1; exact .base (.frz h1)
    | tup h1 h2 =>
      cases h
      rcases h1 with (h1 | ⟨o, h1⟩) | ⟨o, its, n, h1, h2, _⟩
      · exact .base (.tup h1)
      · exact .fTuple h1
      · exact .kTuple h1 h2
    | dK h1 h2 => cases h
    | dT h1 h2 => cases h
theorem dv_isT {T : String} {T' : Str} {p p1 pos : Pos} (hg : Gl X "isinstance") (hm : X.mg "isinstance" = none) (hgT : Gl X T') (hmT : X.mg T' = none) (hb : bootBuiltins T' = some (.type T)) (h : Dp X S Z e c)
    (hnT : T' ≠ "__name__" := by decide) (hdT : (T' == ("__debug__" : Str)) = false := by decide)
    (he : starEach [e, .Name T' p1] X.env = (false, eval e X.env) :: starEach [.Name T' p1] X.env := by rfl) (he2 : starEach [.Name T' p1] X.env = (false, eval (.Name T' p1) X.env) :: starEach [] X.env := by rfl)
    (hpl : (backTo pos (starEach [.Name T' p1] X.env)).any (·.1) = false := by rfl) : Dv X S Z (.Call (.Name "isinstance" p) [e, .Name T' p1] [] pos) (cIsT T c) := by
  refine PE.imp (pe_callB call_isi hg hm (by decide +kernel) (pa_cons h (pa_cons (pe_bltn (v := .ty T) hgT hmT hb rfl hnT hdT) pa_nil he2) he) (by decide) (by decide) he hpl) fun σ H Q ⟨en, R, w⟩ => ⟨en, R, M.wp_mono (fun d wd v H1 s1 k1 r1 => ?_) (M.wp_bind.mp w)⟩
  unfold mIsT at wd
  split at wd
  · rename_i t ht
    split at wd
    · rename_i b hk
      exact ⟨v, .ty T, .type t, .type T, b, rfl, .ty T, tyX_of r1 ht, kit_ty hk, wd _ H1 s1 k1 (.bl b)⟩
    · exact wd.elim
  · exact wd.elim
end
end DL
namespace DL
theorem log2_of {n k : Nat} (hk : 0 < k) (h : n < 2 ^ k) : n.log2 < k := by
  by_cases h0 : n = 0
  · subst h0; rw [show Nat.log2 0 = 0 by decide]; exact hk
  · exact (Nat.log2_lt h0).mpr h
/-- less than so many bits -/
def Sm (k : Nat) (x : Int) : Prop := x.natAbs < 2 ^ k
theorem Sm.le {a b : Nat} {x : Int} (h : Sm a x) (hl : a ≤ b) : Sm b x := Nat.lt_of_lt_of_le h (Nat.pow_le_pow_right (by decide) hl)
theorem Sm.mul {a b : Nat} {x y : Int} (h1 : Sm a x) (h2 : Sm b y) : Sm (a + b) (x * y) := by
  unfold Sm
  rw [Int.natAbs_mul, Nat.pow_add]
  exact Nat.mul_lt_mul'' h1 h2
theorem Sm.add {a : Nat} {x y : Int} (h1 : Sm a x) (h2 : Sm a y) : Sm (a + 1) (x + y) := by
  unfold Sm at *
  rw [Nat.pow_succ]
  omega
theorem Sm.sub {a : Nat} {x y : Int} (h1 : Sm a x) (h2 : Sm a y) : Sm (a + 1) (x - y) := by
  unfold Sm at *
  rw [Nat.pow_succ]
  omega
theorem Sm.neg {a : Nat} {x : Int} (h1 : Sm a x) : Sm a (-x) := by
  unfold Sm at *
  omega
theorem sm_lt {k : Nat} {x : Int} (h : x.natAbs < 2 ^ k) : Sm k x := h
theorem Sm.log {k : Nat} {x : Int} (hk : 0 < k) (h : Sm k x) : x.natAbs.log2 < k := log2_of hk h
theorem mulOk_sm {a b : Nat} {x y : Int} (h1 : Sm a x) (h2 : Sm b y) (ha : a ≤ 999999) (hb : b ≤ 999999) : mulOk x y = true := by
  have e1 := (h1.le (Nat.le_succ a)).log (Nat.succ_pos a)
  have e2 := (h2.le (Nat.le_succ b)).log (Nat.succ_pos b)
  unfold mulOk smallI
  have q1 : decide (x.natAbs.log2 < 1000000) = true := decide_eq_true (by omega)
  have q2 : decide (y.natAbs.log2 < 1000000) = true := decide_eq_true (by omega)
  rw [q1, q2]
  simp
theorem mulOk_r {x y : Int} (h : Sm 64 y) : mulOk x y = true := by
  unfold mulOk
  have q : decide (y.natAbs.log2 < 64) = true := decide_eq_true (h.log (by decide))
  rw [q]
  simp
open PySem PySem.Spec PyProof.Rows L2
theorem mul_sm {a b : Nat} {x y : Int} (h1 : Sm a x) (h2 : Sm b y) (ha : a ≤ 999999) (hb : b ≤ 999999) : mMulT (.int x) (.int y) = .ret (.int (x * y)) := by
  show (if mulOk x y = true then _ else _) = _
  rw [mulOk_sm h1 h2 ha hb, if_pos rfl]
theorem mul_r {x y : Int} (h : Sm 64 y) : mMulT (.int x) (.int y) = .ret (.int (x * y)) := by
  show (if mulOk x y = true then _ else _) = _
  rw [mulOk_r h, if_pos rfl]
theorem fdiv_eq {x y : Int} (h0 : y ≠ 0) (h : y.natAbs.log2 < 9000) : mFdiv (.int x) (.int y) = .ret (.int (x.fdiv y)) := by
  show (if (decide (y ≠ 0) && decide (y.natAbs.log2 < 9000)) = true then _ else _) = _
  rw [decide_eq_true h0, decide_eq_true h, Bool.and_self, if_pos rfl]
theorem log_lt {n : Nat} (h : n < 1073741824) : n.log2 < 9000 := Nat.lt_of_lt_of_le (log2_of (k := 30) (by decide) h) (by decide)
/-! ### runs without draws -/
theorem for_det {g : CG} {b : CS} {ds : List PyData} (I : Nat → En → Prop) (h : ∀ (i : Nat) (d : PyData), ds[i]? = some d → ∀ e, I i e → ∃ e1 e2, g e d = .ret e1 ∧ b e1 = .ret (.nx, e2) ∧ I (i + 1) e2) {e : En} (i0 : I 0 e) :
    ∃ e', forGo g b ds e = .ret (.nx, e') ∧ I ds.length e' := by
  have go : ∀ (rest : List PyData) (n : Nat), rest = ds.drop n → n ≤ ds.length → ∀ e, I n e → ∃ e', forGo g b rest e = .ret (.nx, e') ∧ I ds.length e' := by
    intro rest
    induction rest with
    | nil =>
      intro n hr hn e i
      have hl := congrArg List.length hr
      rw [List.length_nil, List.length_drop] at hl
      have : n = ds.length := by omega
      subst this
      exact ⟨e, rfl, i⟩
    | cons d rest ih =>
      intro n hr hn e i
      have hd : ds[n]? = some d := by
        have := congrArg (·[0]?) hr
        simpa using this.symm
      have hlt : n < ds.length := (List.getElem?_eq_some_iff.mp hd).1
      obtain ⟨e1, e2, q1, q2, i2⟩ := h n d hd e i
      have hr2 : rest = ds.drop (n + 1) := by
        have h1 : ds.drop (n + 1) = (ds.drop n).drop 1 := by rw [List.drop_drop]
        rw [h1, ← hr]; rfl
      obtain ⟨e', r1, r2⟩ := ih (n + 1) hr2 hlt e2 i2
      refine ⟨e', ?_, r2⟩
      unfold forGo
      rw [q1]
      simp only [M.ret_bind, q2]
      exact r1
  exact go ds 0 rfl (Nat.zero_le _) e i0
theorem while_det {t : CT} {b : CS} {I J : En → Prop} (μ : En → Nat) (h : ∀ e, I e → (t e = .ret false ∧ J e) ∨ ∃ e2, t e = .ret true ∧ b e = .ret (.nx, e2) ∧ I e2 ∧ μ e2 < μ e) :
    ∀ {n : Nat} {e : En}, I e → μ e < n → ∃ e', whileGo t b n e = .ret (.nx, e') ∧ J e'
  | 0, e, i, hm => absurd hm (Nat.not_lt_zero _)
  | n + 1, e, i, hm => by
    rcases h e i with ⟨q1, j⟩ | ⟨e2, q1, q2, i2, hm2⟩
    · refine ⟨e, ?_, j⟩
      unfold whileGo
      rw [q1]; rfl
    · obtain ⟨e', r1, r2⟩ := while_det μ h (n := n) i2 (by omega)
      refine ⟨e', ?_, r2⟩
      unfold whileGo
      rw [q1]
      simp only [M.ret_bind, if_true, q2]
      exact r1
theorem set_eq {i : Nat} {c : CE} {e : En} {d : PyData} (h : c e = .ret d) : sSet i c e = .ret (.nx, e.set i (.val d)) := by
  unfold sSet; rw [h]; rfl
theorem own_eq {i : Nat} {c : CL} {e : En} {ds : List PyData} (h : c e = .ret ds) : sOwn i c e = .ret (.nx, e.set i (.own ds)) := by
  unfold sOwn; rw [h]; rfl
theorem call1_eq {f : FD} {c : CE} {e : En} {d : PyData} (h : c e = .ret d) : cCall f (caCons c caNil) e = f [d] := by
  unfold cCall caCons caNil; rw [h]; rfl
theorem call2_eq {f : FD} {c c2 : CE} {e : En} {d d2 : PyData} (h : c e = .ret d) (h2 : c2 e = .ret d2) : cCall f (caCons c (caCons c2 caNil)) e = f [d, d2] := by
  unfold cCall caCons caNil; rw [h]; simp only [M.ret_bind, h2]
theorem call3_eq {f : FD} {c c2 c3 : CE} {e : En} {d d2 d3 : PyData} (h : c e = .ret d) (h2 : c2 e = .ret d2) (h3 : c3 e = .ret d3) : cCall f (caCons c (caCons c2 (caCons c3 caNil))) e = f [d, d2, d3] := by
  unfold cCall caCons caNil; rw [h]; simp only [M.ret_bind, h2, h3]
theorem rng_eq {c : CE} {e : En} {n : Nat} (h : c e = .ret (.int n)) (hn : n ≤ 1000000) : ciRange1 c e = .ret (DL.intsFrom 0 n) := by
  unfold ciRange1
  rw [h]
  simp only [M.ret_bind, asI]
  rw [inB_of (by omega) (by omega), if_pos rfl, Int.toNat_natCast]
theorem for_eq {ci : CL} {g : CG} {b : CS} {e : En} {ds : List PyData} (h : ci e = .ret ds) : sFor ci g b e = forGo g b ds e := by
  unfold sFor; rw [h]; rfl
theorem fits_of {ds : List PyData} (h : ds.length ≤ 1000000) : fits ds = true := by
  simp only [fits, decide_eq_true_eq]
  rw [sizeLine_eq]
  omega
theorem comp_of {vs : List Nat} {ci : CL} {g : CG} {t : CT} {c : CE} {e : En} {ds : List PyData} {p : PyData → Bool} {f : PyData → PyData} (h : ci e = .ret ds) (hl : ds.length ≤ 1000000)
    (hs : ∀ d ∈ ds, ∃ e1, g (wipeE e vs) d = .ret e1 ∧ t e1 = .ret (p d) ∧ (p d = true → c e1 = .ret (f d))) : clComp vs ci g t c e = .ret ((ds.filter p).map f) := by
  unfold clComp
  rw [h]
  simp only [M.ret_bind]
  rw [fits_of hl, if_pos rfl, comp_eq hs]
/-- [f for d in ds] -/
theorem comp_all {vs : List Nat} {ci : CL} {g : CG} {c : CE} {e : En} {ds : List PyData} {f : PyData → PyData} (h : ci e = .ret ds) (hl : ds.length ≤ 1000000)
    (hs : ∀ d ∈ ds, ∃ e1, g (wipeE e vs) d = .ret e1 ∧ c e1 = .ret (f d)) : clComp vs ci g ctYes c e = .ret (ds.map f) := by
  rw [comp_of (t := ctYes) (p := fun _ => true) (f := f) h hl fun d hd => let ⟨e1, h1, h2⟩ := hs d hd; ⟨e1, h1, rfl, fun _ => h2⟩, List.filter_eq_self.mpr fun _ _ => rfl]
theorem seq_ret {c : CE} {e : En} {d : PyData} (h : c e = .ret d) : sRet c e = .ret (.rt d, e) := by
  unfold sRet; rw [h]; rfl
theorem fnD_ret {ps n : Nat} {b : CS} {ds : List PyData} {d : PyData} {e : En} (hl : ds.length = ps) (h : b (ds.map .val ++ List.replicate (n - ps) .no) = .ret (.rt d, e)) : fnD ps n b ds = .ret d := by
  unfold fnD; rw [if_pos hl, h]; rfl
theorem op2_ret {m : PyData → PyData → M PyData} {a b : CE} {e : En} {x y : PyData} (h1 : a e = .ret x) (h2 : b e = .ret y) : cOp2 m a b e = m x y := by
  unfold cOp2; rw [h1]; simp only [M.ret_bind, h2]
theorem fz_ret {cl : CL} {e : En} {ds : List PyData} (h : cl e = .ret ds) : cFz cl e = .ret (.list ds) := by
  unfold cFz; rw [h]; rfl
theorem var_ret {e : En} {i : Nat} {d : PyData} (h : e[i]? = some (.val d)) : cVar i e = .ret d := by unfold cVar; rw [h]
theorem peek_own {e : En} {i : Nat} {ds : List PyData} (h : e[i]? = some (.own ds)) : cPeek i e = .ret (.list ds) := by unfold cPeek; rw [h]
theorem len_of {c : CE} {e : En} {d : PyData} {n : Nat} (h : c e = .ret d) (hl : mLenD [d] = .ret (.int n)) : cCall mLenD (caCons c caNil) e = .ret (.int n) := by
  rw [call1_eq h, hl]
theorem sum_ints : ∀ (ns : List Int), asIntsO (ns.map PyData.int) = some ns := asIntsO_of
theorem app_eq {i : Nat} {c : CE} {e : En} {d : PyData} {ds : List PyData} (h1 : e[i]? = some (.own ds)) (h2 : c e = .ret d) (hl : ds.length < 1000000) : sAppend i c e = .ret (.nx, e.set i (.own (ds ++ [d]))) := by
  unfold sAppend
  rw [h1]
  simp only [h2, M.ret_bind, h1]
  rw [if_pos (by rw [sizeLine_eq]; omega)]
theorem mul_list {a : List PyData} {j : Nat} (h : a.length * j ≤ 1000000) (hj : j ≤ 1000000) : mMulT (.list a) (.int j) = .ret (.list (List.replicate j a).flatten) := by
  have h2 : a.length * j ≤ sizeLine := by rw [sizeLine_eq]; omega
  have h1 : inB (j : Int) = true := inB_of (by omega) (by omega)
  show mMul (.list a) (.int j) = _
  unfold mMul
  simp only [h1, Int.toNat_natCast, h2, decide_true, Bool.and_self, if_true]
end DL
namespace DL
open PySem PySem.Spec PyProof.Rows L2
/-! ### draws -/
theorem set_wp {i : Nat} {c : CE} {e : En} {I : En → Prop} (h : (c e).wp fun d => I (e.set i (.val d))) : (sSet i c e).wp (Nx I) :=
  M.wp_bind.mpr (M.wp_mono (fun d q => ⟨_, rfl, q⟩) h)
theorem op2_wp {m : PyData → PyData → M PyData} {a b : CE} {e : En} {Q : PyData → Prop} (h : (a e).wp fun x => (b e).wp fun y => (m x y).wp Q) : (cOp2 m a b e).wp Q :=
  M.wp_bind.mpr (M.wp_mono (fun x q => M.wp_bind.mpr q) h)
theorem call1_wp {f : FD} {c : CE} {e : En} {Q : PyData → Prop} (h : (c e).wp fun d => (f [d]).wp Q) : (cCall f (caCons c caNil) e).wp Q := by
  unfold cCall caCons caNil
  exact M.wp_bind.mpr (M.wp_bind.mpr (M.wp_mono (fun d q => q) h))
theorem callS1_wp {i : Nat} {f : FD} {c : CE} {e : En} {Q : PyData → Prop} (hs : e[i]? = some .src) (h : (c e).wp fun d => (f [d]).wp Q) : (cCallS i f (caCons c caNil) e).wp Q := by
  unfold cCallS caCons caNil
  rw [hs]
  exact M.wp_bind.mpr (M.wp_bind.mpr (M.wp_mono (fun d q => q) h))
theorem pickB_wp {n : Int} {Q : PyData → Prop} (hn : n.natAbs.log2 < 9000) (h : ∀ i : Int, 0 ≤ i → i < max 1 n → Q (.int i)) : (mPickB [.int n]).wp Q := by
  unfold mPickB
  simp only [hn, if_true]
  exact h
theorem atI_mem {α : Type} {xs : List α} {i : Int} (h0 : 0 ≤ i) (h1 : i < xs.length) : ∃ x ∈ xs, L2.atI xs i = some x := by
  have hl : i.toNat < xs.length := by omega
  refine ⟨xs[i.toNat], List.getElem_mem hl, ?_⟩
  unfold L2.atI L2.ixN
  rw [if_pos h0, if_pos h1]
  exact List.getElem?_eq_getElem hl
theorem rng_wp {c : CE} {e : En} {Q : List PyData → Prop} (h : (c e).wp fun d => ∃ n : Nat, d = .int n ∧ n ≤ 1000000 ∧ Q (DL.intsFrom 0 n)) : (ciRange1 c e).wp Q := by
  refine M.wp_bind.mpr (M.wp_mono (fun d q => ?_) h)
  obtain ⟨n, rfl, hn, q⟩ := q
  show (if inB (n : Int) = true then M.ret (DL.intsFrom 0 (n : Int).toNat) else .bad).wp Q
  rw [inB_of (by omega) (by omega), if_pos rfl, Int.toNat_natCast]
  exact q
theorem optI_eq {c : CE} {e : En} {i : Int} (h : c e = .ret (.int i)) : optI (some c) e = .ret (some i) := by
  show (c e).bind (fun d => (asI d).bind fun i => .ret (some i)) = _
  rw [h]
  rfl
theorem disp_eq {cl : CL} {e : En} {ds : List PyData} (h : cl e = .ret ds) (hl : ds.length ≤ 1000000) : cFz (clDisp cl) e = .ret (.list ds) := by
  unfold cFz clDisp
  rw [h]
  simp only [M.ret_bind]
  rw [fits_of hl, if_pos rfl]
  rfl
theorem seq_assoc {a b c : CS} {e : En} : sSeq a (sSeq b c) e = sSeq (sSeq a b) c e := by
  unfold sSeq
  rw [M.bind_assoc]
  congr 1
  funext r
  obtain ⟨f, e1⟩ := r
  cases f <;> rfl
theorem varw {e : En} {i : Nat} {d : PyData} {Q : PyData → Prop} (h : e[i]? = some (.val d)) (q : Q d) : (cVar i e).wp Q := by rw [var_ret h]; exact q
theorem eq_wp {α : Type} {m : M α} {a : α} {Q : α → Prop} (h : m = .ret a) (q : Q a) : m.wp Q := by rw [h]; exact q
theorem own_wp {i : Nat} {c : CL} {e : En} {I : En → Prop} (h : (c e).wp fun ds => I (e.set i (.own ds))) : (sOwn i c e).wp (Nx I) :=
  M.wp_bind.mpr (M.wp_mono (fun d q => ⟨_, rfl, q⟩) h)
theorem cons_wp {a : CE} {r : CL} {e : En} {Q : List PyData → Prop} (h : (a e).wp fun x => (r e).wp fun xs => Q (x :: xs)) : (caCons a r e).wp Q :=
  M.wp_bind.mpr (M.wp_mono (fun x q => M.wp_bind.mpr (M.wp_mono (fun xs q => q) q)) h)
theorem disp_wp {cl : CL} {e : En} {Q : PyData → Prop} (h : (cl e).wp fun ds => ds.length ≤ 1000000 ∧ Q (.list ds)) : (cFz (clDisp cl) e).wp Q :=
  M.wp_bind.mpr (M.wp_bind.mpr (M.wp_mono (fun ds q => by rw [fits_of q.1, if_pos rfl]; exact q.2) h))
theorem tup_wp {cl : CL} {e : En} {Q : PyData → Prop} (h : (cl e).wp fun ds => ds.length ≤ 1000000 ∧ Q (.tuple ds)) : (cTup cl e).wp Q :=
  M.wp_bind.mpr (M.wp_mono (fun ds q => by rw [fits_of q.1, if_pos rfl]; exact q.2) h)
theorem comp_wpr {vs : List Nat} {ci : CL} {g : CG} {c : CE} {e : En} {Q : List PyData → Prop} {P : PyData → Prop} (h : (ci e).wp fun ds => ds.length ≤ 1000000 ∧ (∀ d ∈ ds, (g (wipeE e vs) d).wp fun e1 => (c e1).wp P) ∧ ∀ ys : List PyData, ys.length = ds.length → (∀ y ∈ ys, P y) → Q ys) : (clComp vs ci g ctYes c e).wp Q :=
  M.wp_bind.mpr (M.wp_mono (fun ds q => by
    rw [fits_of q.1, if_pos rfl]
    refine M.wp_mono (fun ys h => q.2.2 ys h.1 h.2) (comp_wp fun d hd => M.wp_mono (fun e1 h => ?_) (q.2.1 d hd))
    exact ⟨rfl, h⟩) h)
theorem frz_wp {i : Nat} {a : CS} {e : En} {ds : List PyData} {Q : Fl × En → Prop} (h : e[i]? = some (.own ds)) (q : (a (e.set i (.val (.list ds)))).wp Q) : (sFrzT i a e).wp Q := by
  unfold sFrzT; rw [h]; exact q
theorem asg_wp {g : CG} {c : CE} {e : En} {I : En → Prop} (h : (c e).wp fun d => (g e d).wp I) : (sAsg g c e).wp (Nx I) :=
  M.wp_bind.mpr (M.wp_mono (fun d q => M.wp_bind.mpr (M.wp_mono (fun e' q => ⟨_, rfl, q⟩) q)) h)
theorem par_wp {i j : Nat} {a b : CX2} {e : En} {I : En → Prop} (h : (a e).wp fun x => (b e).wp fun y => I ((e.set i x).set j y)) : (sPar i j a b e).wp (Nx I) :=
  M.wp_bind.mpr (M.wp_mono (fun x q => M.wp_bind.mpr (M.wp_mono (fun y q => ⟨_, rfl, q⟩) q)) h)
theorem xV_wp {c : CE} {e : En} {Q : Sl → Prop} (h : (c e).wp fun d => Q (.val d)) : (xV c e).wp Q := M.wp_bind.mpr h
theorem seqE {a b : CS} {e e' : En} {Q : Fl × En → Prop} (h : a e = .ret (.nx, e')) (q : (b e').wp Q) : (sSeq a b e).wp Q := by rw [seq_eq h]; exact q
theorem add_list {a b : List PyData} (h : a.length + b.length ≤ 1000000) : mAdd (.list a) (.list b) = .ret (.list (a ++ b)) := by
  have h2 : a.length + b.length ≤ sizeLine := by rw [sizeLine_eq]; omega
  unfold mAdd
  simp only [h2, if_true]
theorem add_tup {a b : List PyData} (h : a.length + b.length ≤ 1000000) : mAdd (.tuple a) (.tuple b) = .ret (.tuple (a ++ b)) := by
  have h2 : a.length + b.length ≤ sizeLine := by rw [sizeLine_eq]; omega
  unfold mAdd
  simp only [h2, if_true]
end DL
namespace DL
open PySem PySem.Spec PyProof.Rows L2
def rgB (l n : Int) : Bool := inB l && inB n && decide ((n - l).toNat ≤ 1000000)
def clRg1 (a : CE) : CL := fun e => (a e).bind fun x => (asI x).bind fun n => if rgB 0 n = true then .ret (intsFrom 0 n.toNat) else .bad
def clRg2 (a b : CE) : CL := fun e => (a e).bind fun x => (b e).bind fun y => (asI x).bind fun l => (asI y).bind fun n => if rgB l n = true then .ret (intsFrom l (n - l).toNat) else .bad
theorem rgB_ok {l n : Int} (h : rgB l n = true) : RgOk l n := by
  unfold rgB at h
  simp only [Bool.and_eq_true, decide_eq_true_eq] at h
  obtain ⟨⟨h1, h2⟩, h3⟩ := h
  obtain ⟨b1, b2⟩ := inB_iff h1
  obtain ⟨b3, b4⟩ := inB_iff h2
  exact ⟨b1, b2, b3, b4, by omega⟩
theorem rep_rg {K : PySem.W.Frag} {H : Hp} (l n : Int) : RepA K H (rgV l n) (intsFrom l (n - l).toNat) := by
  unfold rgV intsFrom
  induction (List.range (n - l).toNat) with
  | nil => exact .nil
  | cons i r ih => exact .cons (.int _) ih
section
variable {X : Cx} {S : SrcA} {Z : Addr → Prop} {ea eb : Expr} {ca cb : CE} {p p2 pos pos2 : Pos}
theorem new_none {H H1 : Hp} {l : Addr} (s : SameX S H H1) (k : SrcOk S H1) (hl : H1 l = none) : H l = none := by
  cases z : H l with
  | none => rfl
  | some o =>
    by_cases y : inS S l
    · exact absurd y (not_new k hl)
    · rw [s l o y z] at hl; cases hl
theorem dl_listRg1 (hc : X.calm = true) (hg : Gl X "list") (hm : X.mg "list" = none) (hg2 : Gl X "range") (hm2 : X.mg "range" = none) (h : Dp X S Z ea ca) (na : starEach [ea] X.env = (false, eval ea X.env) :: starEach [] X.env := by rfl)
    (nb : starEach [.Call (.Name "range" p) [ea] [] pos] X.env = (false, eval (.Call (.Name "range" p) [ea] [] pos) X.env) :: starEach [] X.env := by rfl) :
    Dl X S Z (.Call (.Name "list" p2) [.Call (.Name "range" p) [ea] [] pos] [] pos2) (clRg1 ca) := by
  refine PE.imp (pe_listRg hc hg hm (prg_1 hg2 hm2 h na) nb) fun σ H Q ⟨en, R, w⟩ => ⟨en, R, M.wp_mono (fun d wd v H1 s k r => ?_) (M.wp_bind.mp w)⟩
  obtain ⟨n, rfl, q⟩ := asI_wp (M.wp_bind.mp wd)
  obtain ⟨hb, q⟩ := wp_if q
  refine ⟨n, RepP.int r, rgB_ok hb, fun l hl => ?_⟩
  have e : intsFrom 0 n.toNat = intsFrom 0 (n - 0).toNat := by rw [Int.sub_zero]
  exact q l _ _ (s.trans (.of (same_new hl))) (k.same (same_new hl)) (new_none s k hl) upd_same (e ▸ rep_rg 0 n)
theorem dl_listRg2 (hc : X.calm = true) (hg : Gl X "list") (hm : X.mg "list" = none) (hg2 : Gl X "range") (hm2 : X.mg "range" = none) (h : Dp X S Z ea ca) (h2 : Dp X S Z eb cb) (na : starEach [ea, eb] X.env = (false, eval ea X.env) :: starEach [eb] X.env := by rfl) (nc : starEach [eb] X.env = (false, eval eb X.env) :: starEach [] X.env := by rfl)
    (nd : (backTo pos (starEach [eb] X.env)).any (·.1) = false := by rfl)
    (nb : starEach [.Call (.Name "range" p) [ea, eb] [] pos] X.env = (false, eval (.Call (.Name "range" p) [ea, eb] [] pos) X.env) :: starEach [] X.env := by rfl) :
    Dl X S Z (.Call (.Name "list" p2) [.Call (.Name "range" p) [ea, eb] [] pos] [] pos2) (clRg2 ca cb) := by
  refine PE.imp (pe_listRg hc hg hm (prg_2 hg2 hm2 h h2 na nc nd) nb) fun σ H Q ⟨en, R, w⟩ => ⟨en, R, M.wp_mono (fun d wd v H1 s k r => ?_) (M.wp_bind.mp w)⟩
  refine ⟨en, R.same s k, M.wp_mono (fun d2 wd2 v2 H2 s2 k2 r2 => ?_) (M.wp_bind.mp wd)⟩
  obtain ⟨l, rfl, q⟩ := asI_wp (M.wp_bind.mp wd2)
  obtain ⟨n, rfl, q⟩ := asI_wp (M.wp_bind.mp q)
  obtain ⟨hb, q⟩ := wp_if q
  refine ⟨l, n, RepP.int r, RepP.int r2, rgB_ok hb, fun p hp => ?_⟩
  exact q p _ _ ((s.trans s2).trans (.of (same_new hp))) (k2.same (same_new hp)) (new_none (s.trans s2) k2 hp) upd_same (rep_rg l n)
end
end DL
namespace DL
open PySem PySem.Spec PyProof.Rows L2

/-! ### the plain side -/
def inTI (neg : Bool) (a : PyData) (xs : List PyData) : M PyData := match a with
  | .int i => (match asIntsO xs with
    | some ns => .ret (.bool (if neg then !decide (i ∈ ns) else decide (i ∈ ns)))
    | none => .bad)
  | _ => .bad
def mIn (a b : PyData) : M PyData := match b with
  | .tuple xs => inTI false a xs
  | .dict ds => (getDD ds a).bind fun o => .ret (.bool o.isSome)
  | .list xs => if (SeqAt.shaped a && SeqAt.shaped (.list xs)) = true then .ret (.bool (xs.any fun z => PyData.eqv z a)) else .bad
  | _ => .bad
def mNotIn (a b : PyData) : M PyData := match b with
  | .tuple xs => inTI true a xs
  | .dict ds => (getDD ds a).bind fun o => .ret (.bool (!o.isSome))
  | .list xs => if (SeqAt.shaped a && SeqAt.shaped (.list xs)) = true then .ret (.bool (!xs.any fun z => PyData.eqv z a)) else .bad
  | _ => .bad
theorem keyOf_eq {d : PyData} {k : Key} (h : keyOf d = some k) : d = keyD k := by
  cases d <;> simp [keyOf] at h <;> subst h <;> rfl
theorem keyOf_of (k : Key) : keyOf (keyD k) = some k := by cases k <;> rfl
theorem ofDictK_of : ∀ xs : KD, ofDictK (dictK xs) = some xs
  | [] => rfl
  | (k, v) :: r => by
    show ofDictK ((keyD k, v) :: dictK r) = _
    unfold ofDictK
    rw [keyOf_of, ofDictK_of r]
theorem ofDictK_eq : ∀ {ds : List (PyData × PyData)} {xs : KD}, ofDictK ds = some xs → ds = dictK xs
  | [], xs, h => by cases h; rfl
  | (a, v) :: r, xs, h => by
    unfold ofDictK at h
    split at h
    · rename_i k t e1 e2
      cases h
      show _ = (keyD k, v) :: dictK t
      rw [← keyOf_eq e1, ← ofDictK_eq e2]
    · cases h

/-! ### entries -/
section
variable {K : PySem.W.Frag} {H H' : Hp} {S : SrcA}
def RK (K : PySem.W.Frag) (H : Hp) (ks : List (Key × V)) (kvs : KD) : Prop := Paired (fun q p => q.1 = p.1 ∧ Rep K H q.2 p.2) ks kvs
theorem keyD_inj {a b : Key} (h : keyD a = keyD b) : a = b := by cases a <;> cases b <;> simp [keyD] at h <;> rw [h]
theorem RK.of : ∀ {ks : List (Key × V)} {ds : List (PyData × PyData)} {kvs : KD}, RepK K H ks ds → ofDictK ds = some kvs → RK K H ks kvs
  | _, _, kvs, .nil, e => by cases e; exact .nil
  | _, _, kvs, .cons (k := k) r t, e => by
    unfold ofDictK at e
    rw [keyOf_of] at e
    split at e
    · rename_i k' t' e1 e2
      cases e
      cases e1
      exact .cons ⟨rfl, r⟩ (RK.of t e2)
    · cases e
theorem RK.rep : ∀ {ks : List (Key × V)} {kvs : KD}, RK K H ks kvs → RepK K H ks (dictK kvs)
  | _, _, .nil => .nil
  | (k, v) :: ks, (k', d) :: kvs, .cons ⟨e, h⟩ t => by
    obtain rfl : k = k' := e
    exact .cons h (RK.rep t)
theorem RK.at {k : Key} : ∀ {ks : List (Key × V)} {kvs : KD}, RK K H ks kvs → (∃ v d, valV ks k = some v ∧ atK kvs k = some d ∧ Rep K H v d) ∨ (valV ks k = none ∧ atK kvs k = none)
  | _, _, .nil => .inr ⟨rfl, rfl⟩
  | (k1, v) :: ks, (k2, d) :: kvs, .cons ⟨e, h⟩ t => by
    obtain rfl : k1 = k2 := e
    by_cases q : k1 = k
    · exact .inl ⟨v, d, by simp [valV, List.find?_cons, q], by simp [atK, List.find?_cons, q], h⟩
    · rcases RK.at (k := k) t with ⟨v', d', h1, h2, h3⟩ | ⟨h1, h2⟩
      · exact .inl ⟨v', d', by simpa [valV, List.find?_cons, q] using h1, by simpa [atK, List.find?_cons, q] using h2, h3⟩
      · exact .inr ⟨by simpa [valV, List.find?_cons, q] using h1, by simpa [atK, List.find?_cons, q] using h2⟩
theorem RK.put {ks : List (Key × V)} {kvs : KD} (r : RK K H ks kvs) {k : Key} {v : V} {d : PyData} (h : Rep K H v d) : RK K H (putK ks k v) (putKD kvs k d) := by
  unfold putK putKD
  rw [any_paired (g := fun p : Key × PyData => decide (p.1 = k)) (fun a b h => by rw [h.1]) r]
  split
  · refine map_paired (fun p q h' => ?_) r
    rw [h'.1]
    by_cases e : q.1 = k
    · rw [if_pos e, if_pos e]; exact ⟨rfl, h⟩
    · rw [if_neg e, if_neg e]; exact h'
  · exact snoc_paired ⟨rfl, h⟩ r
theorem RT3.at {k : List Int} : ∀ {ks : KT3} {kvs : List (List Int × PyData)} {xs : List (List Int × Addr × Value)}, RT3 K H ks kvs → EnT ks xs → (∃ p v d, atKey xs k = some p ∧ atT kvs k = some d ∧ RelV v p.2 ∧ Rep K H v d) ∨ (atKey xs k = none ∧ atT kvs k = none)
  | _, _, _, .nil, .nil => .inr ⟨rfl, rfl⟩
  | (k1, b1, v) :: ks, (k2, d) :: kvs, (k3, b3, u) :: xs, .cons ⟨e, h1, h⟩ t, .cons ⟨e2, e3, hv⟩ t' => by
    obtain rfl : k1 = k2 := e
    obtain rfl : k1 = k3 := e2
    by_cases q : k1 = k
    · exact .inl ⟨(b3, u), v, d, by simp [atKey, List.find?_cons, q], by simp [atT, List.find?_cons, q], hv, h⟩
    · rcases RT3.at (k := k) t t' with ⟨p, v', d', h1, h2, h3, h4⟩ | ⟨h1, h2⟩
      · exact .inl ⟨p, v', d', by simpa [atKey, List.find?_cons, q] using h1, by simpa [atT, List.find?_cons, q] using h2, h3, h4⟩
      · exact .inr ⟨by simpa [atKey, List.find?_cons, q] using h1, by simpa [atT, List.find?_cons, q] using h2⟩
end

/-! ### the machine's side -/
/-- how a dict stands in the heap -/
def DAt (K : PySem.W.Frag) (H : Hp) (a : Addr) (ds : List (PyData × PyData)) : Prop := (∃ ks, Rd H a (.dK ks) ∧ RepK K H ks ds) ∨ ∃ ks, Rd H a (DTO (a, ks)) ∧ RepT K H ks ds
section
variable {X : Cx} {pins : List (Addr × Obj)} {σ : L2.St} {H : Hp} {s : Shared} {S : SrcA} {A : Around} {E : Value → Shared → Prop}
/-- by tuples of ints -/
theorem dat_t0 {a : Addr} {ds : List (PyData × PyData)} {kvs : List (List Int × PyData)} (h : DAt X.K H a ds) (e : ofDictI ds = some kvs) :
    ∃ ks, RT3 X.K H ks kvs ∧ ∀ {pins : List (Addr × Obj)} {σ : L2.St} {s : Shared}, Inv X pins σ H s → (a == sysModules) = false ∧ kvs.length ≤ sizeLine ∧ ∃ xs, EnT ks xs ∧ s.heap.DictOfH (tupleKind (PySem.intKind X.prog X.w)) a xs := by
  rcases h with ⟨ks, h, r⟩ | ⟨ks, h, r⟩
  · cases r with
    | nil =>
      cases e
      refine ⟨[], .nil, fun {pins σ s} I => ?_⟩
      obtain ⟨z, hd, vs, rel, dd⟩ := dk_rd I.hok h
      cases rel
      obtain ⟨o, es, ep, h1, h2, h3, h4, h5, h6⟩ := dd
      have e0 : es.toList = [] := by
        generalize es.toList = l at h5
        cases h5; rfl
      exact ⟨hd, Nat.zero_le _, [], .nil, o, es, ep, h1, h2, h3, by rw [e0]; rfl, fun x hx => (nomatch hx), List.nodup_nil⟩
    | cons r t =>
      rename_i k v ks' d ds'
      unfold ofDictI at e
      split at e
      · rename_i e1; cases e1
      · rename_i ks2 v2 r2 e1
        cases k <;> cases e1
      · cases e
  · have q := RT3.of r e
    refine ⟨ks, q, fun {pins σ s} I => ?_⟩
    obtain ⟨z, hd, xs, ent, dd⟩ := dt_ok I h q
    exact ⟨hd, by rw [← Paired.length q]; exact z, xs, ent, dd⟩
theorem dat_t (I : Inv X pins σ H s) {a : Addr} {ds : List (PyData × PyData)} {kvs : List (List Int × PyData)} (h : DAt X.K H a ds) (e : ofDictI ds = some kvs) :
    (a == sysModules) = false ∧ kvs.length ≤ sizeLine ∧ ∃ ks xs, RT3 X.K H ks kvs ∧ EnT ks xs ∧ s.heap.DictOfH (tupleKind (PySem.intKind X.prog X.w)) a xs := by
  obtain ⟨ks, q, f⟩ := dat_t0 h e
  obtain ⟨h1, h2, xs, h3, h4⟩ := f I
  exact ⟨h1, h2, ks, xs, q, h3, h4⟩
/-- by ints and texts -/
theorem dat_k0 {a : Addr} {ds : List (PyData × PyData)} {kvs : KD} (h : DAt X.K H a ds) (e : ofDictK ds = some kvs) :
    ∃ ks, RK X.K H ks kvs ∧ ∀ {pins : List (Addr × Obj)} {σ : L2.St} {s : Shared}, Inv X pins σ H s → (a == sysModules) = false ∧ kvs.length ≤ sizeLine ∧ ∃ vs, KV ks vs ∧ s.heap.DictOf (mixKind X.prog X.w) a vs := by
  rcases h with ⟨ks, h, r⟩ | ⟨ks, h, r⟩
  · have q := RK.of r e
    refine ⟨ks, q, fun {pins σ s} I => ?_⟩
    obtain ⟨z, hd, vs, rel, dd⟩ := dk_rd I.hok h
    exact ⟨hd, by rw [← Paired.length q]; exact z, vs, rel, dd⟩
  · cases r with
    | nil =>
      cases e
      refine ⟨[], .nil, fun {pins σ s} I => ?_⟩
      obtain ⟨z, hd, xs, ent, dd⟩ := dt_ok (kvs := []) I h .nil
      cases ent
      obtain ⟨o, es, ep, h1, h2, h3, h4, h5⟩ := dd
      have e0 : es.toList = [] := h4
      have e1 : es = #[] := by simpa using e0
      subst e1
      exact ⟨hd, Nat.zero_le _, [], .nil, o, #[], ep, h1, h2, h3, fun e he => by simp at he, .nil, List.nodup_nil⟩
    | cons h0 r t =>
      unfold ofDictK at e
      simp [keyOf] at e
theorem dat_k (I : Inv X pins σ H s) {a : Addr} {ds : List (PyData × PyData)} {kvs : KD} (h : DAt X.K H a ds) (e : ofDictK ds = some kvs) :
    (a == sysModules) = false ∧ kvs.length ≤ sizeLine ∧ ∃ ks vs, RK X.K H ks kvs ∧ KV ks vs ∧ s.heap.DictOf (mixKind X.prog X.w) a vs := by
  obtain ⟨ks, q, f⟩ := dat_k0 h e
  obtain ⟨h1, h2, vs, h3, h4⟩ := f I
  exact ⟨h1, h2, ks, vs, q, h3, h4⟩
theorem lk_key {d : PyData} {l : LK} (h : lkOf d = some l) : (∃ k, l = .k k ∧ d = keyD k) ∨ ∃ k, l = .t k ∧ d = .tuple (k.map PyData.int) := by
  cases d with
  | int i => cases h; exact .inl ⟨_, rfl, rfl⟩
  | str x => cases h; exact .inl ⟨_, rfl, rfl⟩
  | tuple ks =>
    simp only [lkOf] at h
    cases q : asIntsO ks with
    | none => rw [q] at h; cases h
    | some k => rw [q] at h; cases h; exact .inr ⟨k, rfl, by rw [asIntsO_eq q]⟩
  | _ => cases h
theorem RepP.keyD {K : PySem.W.Frag} {k : Key} {v : V} (r : RepP K S H v (DL.keyD k)) : v = kV k := by
  cases k with
  | inl i => exact r.int
  | inr x => exact r.str
theorem RepP.tupI {K : PySem.W.Frag} {k : List Int} {v : V} (r : RepP K S H v (.tuple (k.map PyData.int))) : ∃ b, v = .ref b ∧ SqT K H b (k.map V.int) := by
  obtain ⟨b, xs, e, h1, h2⟩ := r.tuple
  rw [h2.ints] at h1
  exact ⟨b, e, h1⟩
/-- in, not in, [] of a dict, told at once -/
theorem dict_look (hu : A.units + 1 < cLine) (I : Inv X pins σ H s) {a : Addr} {ds : List (PyData × PyData)} (h : DAt X.K H a ds) {y : V} {u : Value} {k : PyData} (r2 : RepP X.K S H y k) (ry : RelV y u) {l : LK} (hl : lkOf k = some l) {o : Option PyData} (e : getLK ds l = some o) :
    (∀ Q : Value → Shared → Prop, (∀ s', Inv X pins σ H s' → Q (.bool o.isSome) s') → wpAny (model X.prog X.w) A (compareOp .In u (.ref a)) Q E s) ∧
    (∀ Q : Value → Shared → Prop, (∀ s', Inv X pins σ H s' → Q (.bool (!o.isSome)) s') → wpAny (model X.prog X.w) A (compareOp .NotIn u (.ref a)) Q E s) ∧
    (∀ d, o = some d → s.TypeIs (.ref a) "dict" ∧ ∃ w' v, RelV v w' ∧ Rep X.K H v d ∧ ∀ Q : Value → Shared → Prop, (∀ s', Inv X pins σ H s' → Q w' s') → wpAny (model X.prog X.w) A (getItem (.ref a) u) Q E s) := by
  rcases lk_key hl with ⟨k, rfl, rfl⟩ | ⟨k, rfl, rfl⟩
  · simp only [getLK, Option.map_eq_some_iff] at e
    obtain ⟨kvs, e1, rfl⟩ := e
    obtain ⟨hd, hz, ks, vs, q, rel, dd⟩ := dat_k I h e1
    obtain rfl := RepP.keyD r2
    have ev := rel.val k
    rcases q.at (k := k) with ⟨v, d, g1, g2, g3⟩ | ⟨g1, g2⟩
    · obtain ⟨w', hw, rw'⟩ := RelO.some_of (v := v) (o := valueAt vs k) (by rw [← g1]; exact ev)
      refine ⟨fun Q hq => wpAny_in_of (kV_is ry) hd dd.mapOf ?_, fun Q hq => wpAny_notIn_of (kV_is ry) hd dd.mapOf ?_, fun d' e' => ⟨dd.typeIs, ?_⟩⟩
      · rw [g2] at hq; rw [hw]; exact hq _ (I.tok _)
      · rw [g2] at hq; rw [hw]; exact hq _ (I.tok _)
      · rw [g2] at e'
        cases e'
        exact ⟨w', v, rw', g3, fun Q hq => wpAny_getItem_of (kV_is ry) dd.mapOf hw (hq _ (I.tok _))⟩
    · have nn : valueAt vs k = none := by
        have := ev.isSome_eq
        rw [g1] at this
        cases z : valueAt vs k with
        | none => rfl
        | some x => rw [z] at this; cases this
      refine ⟨fun Q hq => wpAny_in_of (kV_is ry) hd dd.mapOf ?_, fun Q hq => wpAny_notIn_of (kV_is ry) hd dd.mapOf ?_, fun d' e' => ?_⟩
      · rw [g2] at hq; rw [nn]; exact hq _ (I.tok _)
      · rw [g2] at hq; rw [nn]; exact hq _ (I.tok _)
      · rw [g2] at e'; cases e'
  · simp only [getLK, Option.map_eq_some_iff] at e
    obtain ⟨kvs, e1, rfl⟩ := e
    obtain ⟨hd, hz, ks, xs, q, ent, dd⟩ := dat_t I h e1
    obtain ⟨b, rfl, hk⟩ := RepP.tupI r2
    obtain rfl : u = .ref b := ry
    rcases q.at (k := k) ent with ⟨p, v, d, g1, g2, g3, g4⟩ | ⟨g1, g2⟩
    · refine ⟨fun Q hq => wpAny_in_heap (tupleKind_room_in1 hu) (key_at I hk) hd dd ?_, fun Q hq => wpAny_notIn_heap (tupleKind_room_in1 hu) (key_at I hk) hd dd ?_, fun d' e' => ⟨dd.typeIs, ?_⟩⟩
      · rw [g2] at hq; rw [g1]; exact hq _ (I.tok _)
      · rw [g2] at hq; rw [g1]; exact hq _ (I.tok _)
      · rw [g2] at e'
        cases e'
        exact ⟨_, v, g3, g4, fun Q hq => wpAny_getItem_heap (tupleKind_room_in1 hu) (key_at I hk) dd g1 (hq _ (I.tok _))⟩
    · refine ⟨fun Q hq => wpAny_in_heap (tupleKind_room_in1 hu) (key_at I hk) hd dd ?_, fun Q hq => wpAny_notIn_heap (tupleKind_room_in1 hu) (key_at I hk) hd dd ?_, fun d' e' => ?_⟩
      · rw [g2] at hq; rw [g1]; exact hq _ (I.tok _)
      · rw [g2] at hq; rw [g1]; exact hq _ (I.tok _)
      · rw [g2] at e'; cases e'
theorem getDD_wp {ds : List (PyData × PyData)} {k : PyData} {Q : Option PyData → Prop} (h : (getDD ds k).wp Q) : ∃ l o, lkOf k = some l ∧ getLK ds l = some o ∧ Q o := by
  unfold getDD at h
  split at h
  · rename_i l e1
    split at h
    · rename_i o e2; exact ⟨l, o, e1, e2, h⟩
    · exact h.elim
  · exact h.elim
theorem RepP.dat {K : PySem.W.Frag} {v : V} {ds : List (PyData × PyData)} (r : RepP K S H v (.dict ds)) : ∃ a, v = .ref a ∧ DAt K H a ds := r.dict
theorem inV_ints (i : Int) : ∀ ns : List Int, inV (V.int i) (ns.map V.int) = decide (i ∈ ns)
  | [] => rfl
  | n :: ns => by
    have ih := inV_ints i ns
    unfold inV at ih ⊢
    rw [List.map_cons, List.any_cons, ih]
    by_cases e : n = i
    · subst e; simp [eqV]
    · have e' : ¬ i = n := fun h => e h.symm
      simp [eqV, e, e']
theorem flat_ints (ns : List Int) : (ns.map V.int).all flatV = true := by
  rw [List.all_map]
  exact List.all_eq_true.mpr fun _ _ => rfl
theorem in_tup {neg : Bool} {pins : List (Addr × Obj)} {σ : L2.St} {H : Hp} {s : Shared} {x y : V} {a : PyData} {xs : List PyData} {Q : VK} (k : SrcOk S H) (r1 : RepP X.K S H x a) (r2 : RepP X.K S H y (.tuple xs)) (w : (inTI neg a xs).wp (Aft S H (RV X.K) Q)) : rIn X.K neg x y H Q := by
  unfold inTI at w
  split at w
  · split at w
    · rename_i i ns e
      obtain ⟨p, vs, rfl, h1, h2⟩ := r2.tuple
      rw [asIntsO_eq e] at h2
      have ev := h2.ints
      subst ev
      cases r1.int
      refine ⟨p, _, rfl, .inr h1, rfl, flat_ints ns, ?_⟩
      rw [inV_ints]
      exact Aft.ret k w (.bl _)
    · exact w.elim
  · exact w.elim
theorem dop_in (hu : X.A.units + 65 < cLine) : OpR X (compareOp .In) (rD S X.K mIn) := by
  intro pins s σ H x y v u Q I rx ry ⟨dx, dy, k, r1, r2, w⟩
  unfold mIn at w
  split at w
  · exact op_in_seq pins s σ H x y v u Q I rx ry (in_tup (σ := σ) (pins := pins) (s := s) k r1 r2 w)
  · obtain ⟨l, o, e1, e2, w⟩ := getDD_wp (M.wp_bind.mp w)
    obtain ⟨a, rfl, h⟩ := r2.dat
    obtain rfl : u = .ref a := ry
    exact (dict_look (by omega) I h r1 rx e1 e2).1 _ fun s' I' => ⟨.bl _, H, I', rfl, Aft.ret k w (.bl _)⟩
  · obtain ⟨hs, w⟩ := wp_if w
    have hs' := Bool.and_eq_true_iff.mp hs
    exact op_inD hu pins s σ H x y v u Q I rx ry ⟨dx, _, r1.dp (SeqAt.canLay_of_shaped hs'.1), r2.dp (SeqAt.canLay_of_shaped hs'.2), hs'.1, hs'.2, Aft.ret k w (.bl _)⟩
  · exact w.elim
theorem dop_notin (hu : X.A.units + 65 < cLine) : OpR X (compareOp .NotIn) (rD S X.K mNotIn) := by
  intro pins s σ H x y v u Q I rx ry ⟨dx, dy, k, r1, r2, w⟩
  unfold mNotIn at w
  split at w
  · exact op_notIn_seq pins s σ H x y v u Q I rx ry (in_tup (σ := σ) (pins := pins) (s := s) k r1 r2 w)
  · obtain ⟨l, o, e1, e2, w⟩ := getDD_wp (M.wp_bind.mp w)
    obtain ⟨a, rfl, h⟩ := r2.dat
    obtain rfl : u = .ref a := ry
    exact (dict_look (by omega) I h r1 rx e1 e2).2.1 _ fun s' I' => ⟨.bl _, H, I', rfl, Aft.ret k w (.bl _)⟩
  · obtain ⟨hs, w⟩ := wp_if w
    have hs' := Bool.and_eq_true_iff.mp hs
    exact op_notInD hu pins s σ H x y v u Q I rx ry ⟨dx, _, r1.dp (SeqAt.canLay_of_shaped hs'.1), r2.dp (SeqAt.canLay_of_shaped hs'.2), hs'.1, hs'.2, Aft.ret k w (.bl _)⟩
  · exact w.elim
end
end DL
namespace DL
open PySem PySem.Spec PyProof.Rows L2
section
variable {X : Cx} {S : SrcA} {Z : Addr → Prop} {e ea eb ev : Expr} {c ca cb cv : CE} {pos pos' : Pos}
theorem dix (hu : X.A.units + 1 < cLine) : IxR X (rD S X.K mIx) := by
  intro value slice pins s σ H x y v u Q I rx ry ⟨dx, dy, k, r1, r2, w⟩ hs
  unfold mIx at w
  split at w
  · split at w
    · change (ofO _).wp _ at w
      unfold ofO at w
      split at w
      · rename_i d hd
        obtain ⟨a, xs, rfl, h1, h2⟩ := r1.list
        obtain ⟨v', hv, rv⟩ := atI_rep h2 hd
        exact ix_list value slice pins s σ H _ _ v u Q I rx ry ⟨a, xs, _, v', rfl, r2.int, h1, hv, Aft.ret k w rv⟩ hs
      · exact w.elim
    · exact w.elim
  · split at w
    · change (ofO _).wp _ at w
      unfold ofO at w
      split at w
      · rename_i d hd
        obtain ⟨a, xs, rfl, h1, h2⟩ := r1.tuple
        obtain ⟨v', hv, rv⟩ := atI_rep h2 hd
        exact ix_tup value slice pins s σ H _ _ v u Q I rx ry ⟨a, xs, _, v', rfl, r2.int, h1, hv, Aft.ret k w rv⟩ hs
      · exact w.elim
    · exact w.elim
  · obtain ⟨l, o, e1, e2, w⟩ := getDD_wp (M.wp_bind.mp w)
    unfold ofO at w
    split at w
    · rename_i d
      obtain ⟨a, rfl, h⟩ := r1.dat
      obtain rfl : v = .ref a := rx
      obtain ⟨ht, w', v', g1, g2, g3⟩ := (dict_look hu I h r2 ry e1 e2).2.2 d rfl
      exact subscriptTail_builtinR (x := w') ht PySem.F.slot_dict_getitem.lookup (g3 _ fun s' I' => ⟨rfl, v', H, I', g1, Aft.ret k w g2⟩) hs
    · exact w.elim
  · exact w.elim
theorem dv_ix (hu : X.A.units + 1 < cLine) (ha : Dp X S Z ea ca) (hb : Dp X S Z eb cb) (hs : PlainIx eb := by exact fun _ _ => rfl) : Dv X S Z (.Subscript ea eb pos) (cOp2 mIx ca cb) :=
  PE.imp (pe_ix (dix hu) ha hb hs) fun σ H Q h => tD2 (fun _ _ _ _ q => q) h
end
/-! ### puts -/
theorem OwD.dat {K : PySem.W.Frag} {H : Hp} {a : Addr} {u : HO} {ds : List (PyData × PyData)} (h : OwD K H a u ds) : DAt K H a ds := by
  obtain ⟨e, ⟨ks, rfl, r⟩ | ⟨ks, rfl, r⟩⟩ := h
  · exact .inl ⟨ks, .inl e, r⟩
  · exact .inr ⟨ks, .inl e, r⟩
theorem OwD.mut {K : PySem.W.Frag} {H : Hp} {a : Addr} {u : HO} {ds : List (PyData × PyData)} (h : OwD K H a u ds) : Mut (H a) := by
  obtain ⟨e, ⟨ks, rfl, r⟩ | ⟨ks, rfl, r⟩⟩ := h <;> (rw [e]; exact True.intro)
theorem OwD.kp {K : PySem.W.Frag} {H : Hp} {a : Addr} {u u' : HO} {ds : List (PyData × PyData)} (h : OwD K H a u ds) : Kp H (upd H a u') := by
  have ne : ∀ {b : Addr} {v : HO}, H b = some v → ((∀ ks, v ≠ .dK ks) ∧ ∀ ks, v ≠ DTO (a, ks)) → b ≠ a := fun {b v} e nn z => by
    subst z
    obtain ⟨e', ⟨ks, rfl, r⟩ | ⟨ks, rfl, r⟩⟩ := h
    · rw [e'] at e; cases e; exact nn.1 _ rfl
    · rw [e'] at e; cases e; exact nn.2 _ rfl
  exact ⟨fun b xs e => by rw [upd_ne (ne e ⟨(fun _ q => nomatch q), (fun _ q => nomatch q)⟩)]; exact e, fun b ob v e => by rw [upd_ne (ne e ⟨(fun _ q => nomatch q), (fun _ q => nomatch q)⟩)]; exact e⟩
section
variable {X : Cx} {pins : List (Addr × Obj)} {σ : L2.St} {H : Hp} {s : Shared} {S : SrcA} {A : Around} {E : Value → Shared → Prop}
/-- d[y] = v by what setItem does -/
def SetOk (X : Cx) (a : Addr) (y v : V) (H H' : Hp) : Prop := ∀ (pins : List (Addr × Obj)) (s : Shared) (σ : L2.St) (u r : Value) (Q : Unit → Shared → Prop), Inv X pins σ H s → RelV y u → RelV v r → (∀ s', Inv X pins σ H' s' → Q () s') → wpAny (model X.prog X.w) X.A (setItem (.ref a) u r) Q X.xe s
theorem Paired.imp2 {α β : Type} {F G : α → β → Prop} (h : ∀ a b, F a b → G a b) : ∀ {xs : List α} {ys : List β}, Paired F xs ys → Paired G xs ys
  | _, _, .nil => .nil
  | _, _, .cons r t => .cons (h _ _ r) (Paired.imp2 h t)
theorem dict_put (hu : X.A.units + 1 < cLine) {a : Addr} {o : HO} {ds ds' : List (PyData × PyData)} (h : OwD X.K H a o ds) {y v : V} {k d : PyData} (r2 : RepP X.K S H y k) {l : LK} (hl : lkOf k = some l)
    (rd : Rep X.K H v d) (e : putLK ds d l = some ds') (hlen : ds.length < sizeLine) : ∃ u', OwD X.K (upd H a u') a u' ds' ∧ SetOk X a y v H (upd H a u') := by
  rcases lk_key hl with ⟨k, rfl, rfl⟩ | ⟨k, rfl, rfl⟩
  · simp only [putLK, Option.map_eq_some_iff] at e
    obtain ⟨kvs, e1, rfl⟩ := e
    have el : ds.length = kvs.length := by rw [ofDictK_eq e1]; unfold dictK; rw [List.length_map]
    obtain ⟨ks, q, f⟩ := dat_k0 h.dat e1
    obtain rfl := RepP.keyD r2
    have hkl : ks.length = kvs.length := Paired.length q
    refine ⟨.dK (putK ks k v), ⟨upd_same, .inl ⟨_, rfl, RK.rep (Paired.imp2 (fun p g ⟨e1, r1⟩ => ⟨e1, r1.kp h.kp⟩) (RK.put q rd))⟩⟩, fun pins s σ u r Q I ry rv hq => ?_⟩
    obtain ⟨hd, hz, vs, rel, dd⟩ := f I
    have hzv : vs.length ≤ sizeLine := by rw [← rel.length, hkl]; exact hz
    have hll : (putK ks k v).length ≤ sizeLine := by have := length_putK ks k v; omega
    refine wpAny_setItem_pairs (hsz := hzv) (kV_is ry) dd fun h' dd' hs => hq _ ?_
    have he : ∃ q, h'.get? a = some q := let ⟨q, _, _, hq, _⟩ := dd'; ⟨q, hq⟩
    exact d_write I h.mut hs he (dk_new hll hd (rel.put k rv) dd')
  · simp only [putLK, Option.map_eq_some_iff] at e
    obtain ⟨kvs, e1, rfl⟩ := e
    have el : ds.length = kvs.length := by rw [ofDictI_eq e1]; unfold dictI; rw [List.length_map]
    obtain ⟨ks, q, f⟩ := dat_t0 h.dat e1
    obtain ⟨b, rfl, hk⟩ := RepP.tupI r2
    have hkl : ks.length = kvs.length := Paired.length q
    refine ⟨DTO (a, put3 ks k b v), ⟨upd_same, .inr ⟨_, rfl, RT3.rep (Paired.imp2 (fun p g ⟨e1, r1, r2⟩ => ⟨e1, sqT_kp h.kp r1, r2.kp h.kp⟩) (RT3.put q hk rd))⟩⟩, fun pins s σ u r Q I ry rv hq => ?_⟩
    obtain rfl : u = .ref b := ry
    obtain ⟨hd, hz, xs, ent, dd⟩ := f I
    have hzx : xs.length ≤ sizeLine := by rw [← Paired.length ent, hkl]; exact hz
    have hll : (put3 ks k b v).length ≤ sizeLine := by have := put3_length ks k b v; omega
    refine wpAny_setItem_heap (hsz := hzx) (tupleKind_room_in1 hu) (key_at I hk) dd fun h' dd' hs => hq _ ?_
    have he : ∃ q, h'.get? a = some q := let ⟨q, _, _, hq, _⟩ := dd'; ⟨q, hq⟩
    exact d_write I h.mut hs he (dt_obj (put3_ne _ _ _ _) hll hd (ent.put rv) dd')
def sDPutG (X : Cx) (td ty tv : TE) : TS := fun D σ H => tv σ H fun v H1 => td σ H1 fun x H2 => ty σ H2 fun y H3 => ∃ a H4, x = .ref a ∧ SetOk X a y v H3 H4 ∧ D.nx σ H4
theorem ps_dputG {o i value : Expr} {pos pos' : Pos} {td ty tv : TE} (ho : PE X o td) (hi : PE X i ty) (hv : PE X value tv) (hs : swapsWith value (some (.Subscript o i pos')) pos.line X.env = pure false) :
    PS X (.Assign [.Subscript o i pos'] value pos) (sDPutG X td ty tv) := by
  refine ⟨fun pins s σ H D I h => ?_⟩
  refine wpAny_Assign_Subscript (thn (hv.run pins s σ H _ I h) fun r s1 ⟨v, H1, I1, rv, q1⟩ => thn (ho.run pins s1 σ H1 _ I1 q1) fun u s2 ⟨x, H2, I2, rx, q2⟩ => thn (hi.run pins s2 σ H2 _ I2 q2) fun iv s3 ⟨y, H3, I3, ry, a, H4, ex, g, q3⟩ => ?_) hs
  subst ex
  obtain rfl : u = Value.ref a := rx
  exact g pins s3 σ iv r _ I3 ry rv fun s4 I4 => ⟨σ, H4, I4, q3⟩
end
def sPut (i : Nat) (ck cv : CE) : CS := fun e => (cv e).bind fun v => match e[i]? with
  | some (.ownD _) => (ck e).bind fun k => (match e[i]? with
    | some (.ownD ds) => (match lkOf k with
      | some l => (match putLK ds v l with
        | some ds' => if ds.length < sizeLine then .ret (.nx, e.set i (.ownD ds')) else .bad
        | none => .bad)
      | none => .bad)
    | _ => .bad)
  | _ => .bad
section
variable {X : Cx} {S : SrcA} {Z : Addr → Prop} {e ek ev : Expr} {c ck cv : CE} {pos pos' p : Pos} {i : Nat} {nm : Str}
theorem Rel.ow {K : PySem.W.Frag} {σ : L2.St} {H : Hp} {en : En} (R : Rel K S Z σ H en) {i : Nat} {ds : List (PyData × PyData)} (h : en[i]? = some (.ownD ds)) : ∃ a u, σ[i]? = some (some (.ref a)) ∧ ¬ inS S a ∧ ¬ Z a ∧ OwD K H a u ds := by
  obtain ⟨a, h1, n, z, ⟨ks, h2, h3⟩ | ⟨ks, h2, h3⟩⟩ := R.ownD h
  · exact ⟨a, _, h1, n, z, h2, .inl ⟨ks, rfl, h3⟩⟩
  · exact ⟨a, _, h1, n, z, h2, .inr ⟨ks, rfl, h3⟩⟩
theorem ds_put (hu : X.A.units + 1 < cLine) (hd : PE X (.Name nm p) (tVar i)) (hk : Dp X S Z ek ck) (hv : Dv X S Z ev cv) (hs : swapsWith ev (some (.Subscript (.Name nm p) ek pos')) pos.line X.env = pure false := by rfl) :
    Ds X S Z (.Assign [.Subscript (.Name nm p) ek pos'] ev pos) (sPut i ck cv) := by
  refine PS.imp (ps_dputG hd hk hv hs) fun D σ H ⟨en, R, w⟩ => ⟨en, R, M.wp_mono (fun d wd v H1 s1 k1 rv => ?_) (M.wp_bind.mp w)⟩
  split at wd
  · rename_i ds0 hd0
    obtain ⟨a, u, h1, n, z, ow⟩ := R.ow hd0
    refine ⟨.ref a, h1, en, R.same s1 k1, M.wp_mono (fun kd wk y H2 s2 k2 ry => ?_) (M.wp_bind.mp wd)⟩
    simp only at wk
    split at wk
    · rename_i l hl
      split at wk
      · rename_i ds' hp
        obtain ⟨hlen, q⟩ := wp_if wk
        have ow2 := (ow.same n R.src s1).same n k1 s2
        have rv2 := rv.kp (s2.kp k1)
        obtain ⟨u', ow3, sk⟩ := dict_put hu ow2 ry hl rv2 hp (by exact hlen)
        refine ⟨a, upd H2 a u', rfl, sk, ?_⟩
        obtain ⟨x, R'⟩ := ((R.same s1 k1).same s2 k2).chg (u' := u') (s' := .ownD ds') h1 ⟨_, hd0, rfl⟩ n z ow2.1 (ow2.2.elim (fun ⟨ks, e, _⟩ => .inr (.inl ⟨ks, e⟩)) fun ⟨ks, e, _⟩ => .inr (.inr ⟨_, e⟩)) rfl (fun kp => ow3.sl n z)
        exact q σ _ (((R.ext s1).trans ((R.same s1 k1).ext s2)).trans x) R'
      · exact wk.elim
    · exact wk.elim
  · exact wd.elim
end
end DL
namespace DL
open PySem PySem.Spec PyProof.Rows L2
/-! ### dict(pairs) -/
section
variable {K : PySem.W.Frag} {H : Hp}
theorem pairsK : ∀ {vs : List V} {ds : List PyData} {kvs : KD}, RepA K H vs ds → ofPairsK ds = some kvs → ∃ (ps : List Addr) (ks : List (Key × V)), vs = ps.map V.ref ∧ Paired (fun p q => SqT K H p [kV q.1, q.2]) ps ks ∧ RK K H ks kvs
  | _, _, kvs, .nil, h => by cases h; exact ⟨[], [], rfl, .nil, .nil⟩
  | _, _, kvs, .cons r t, h => by
    unfold ofPairsK at h
    split at h
    · rename_i e; cases e
    · rename_i kd d rr e
      cases e
      split at h
      · rename_i k t' e1 e2
        cases h
        obtain ⟨ps, ks, rfl, h1, h2⟩ := pairsK t e2
        have ek := keyOf_eq e1
        subst ek
        cases r with
        | tup hs ha =>
          cases ha with
          | cons hk ha =>
            cases ha with
            | cons hd ha =>
              cases ha
              have ev := RepP.keyD (S := none) (.rep hk)
              subst ev
              exact ⟨_ :: ps, (k, _) :: ks, rfl, .cons hs h1, .cons ⟨rfl, hd⟩ h2⟩
      · cases h
    · cases h
theorem RK.merge : ∀ {ks : List (Key × V)} {kvs : KD}, RK K H ks kvs → ∀ {ks0 : List (Key × V)} {kvs0 : KD}, RK K H ks0 kvs0 → RK K H (mergeK ks0 ks) (kvs.foldl (fun acc q => putKD acc q.1 q.2) kvs0)
  | _, _, .nil, _, _, r => r
  | (k, v) :: _, (k', d) :: _, .cons ⟨e, h⟩ t, _, _, r => by
    obtain rfl : k = k' := e
    exact RK.merge t (r.put h)
end
section
variable {X : Cx} {S : SrcA} {Z : Addr → Prop} {e ea eb ec : Expr} {c ca cb cc : CE} {cl : CL} {pos p : Pos}
theorem bc_dict (hc : X.calm = true) (hu : X.A.units + 3 < cLine) : CallR X (.type "dict") (rC S X.K mDict) := by
  intro pins s σ H xs us Q I rx ⟨ds, k, rs, w⟩
  unfold mDict at w
  split at w
  · rename_i pd
    split at w
    · rename_i kvs e
      obtain ⟨v, rfl, r⟩ := pair1 rs
      obtain ⟨a, vs, rfl, h1, h2⟩ := RepP.list r
      obtain ⟨ps, ks, rfl, q1, q2⟩ := pairsK h2 e
      refine (CallR.lock (call_dictP hc)) pins s σ H _ us Q I rx ⟨a, ps, ks, rfl, h1, q1, fun p hp => ?_⟩
      refine ⟨p, _, rfl, upd_same, .inr (.inl ⟨_, rfl⟩), fun o => ?_⟩
      rw [upd_upd]
      exact w _ _ (.of (same_new hp)) (k.same (same_new hp)) (.dK ⟨o, upd_same⟩ (RepK.kp (.of (same_new hp)) (RK.rep (RK.merge q2 .nil))))
    · exact bc_dictI hc hu pins s σ H xs us Q I rx ⟨_, k, rs, w⟩
  · exact w.elim
/-! ### dict displays -/
abbrev CDc := En → M (List (PyData × PyData))
def cdNil : CDc := fun _ => .ret []
def tDd (S : SrcA) (Z : Addr → Prop) (K : PySem.W.Frag) (c : CDc) : TE := fun σ H Q => ∃ e, Rel K S Z σ H e ∧ (c e).wp fun ds => ∀ a u H', SameX S H H' → SrcOk S H' → H a = none → OwD K H' a u ds → Q (.ref a) H'
abbrev Dd (X : Cx) (S : SrcA) (Z : Addr → Prop) (e : Expr) (c : CDc) : Prop := PE X e (tDd S Z X.K c)
theorem dd_nil : Dd X S Z (.Dict [] [] pos) cdNil := PE.imp pe_dnewK fun σ H Q ⟨en, R, w⟩ p hp => w p _ _ (.of (same_new hp)) (R.src.same (same_new hp)) hp ⟨upd_same, .inl ⟨[], rfl, .nil⟩⟩
def sOwnD (i : Nat) (c : CDc) : CS := fun e => (c e).bind fun ds => .ret (.nx, e.set i (.ownD ds))
theorem ds_ownD {cd : CDc} {i : Nat} {x : Str} {pos' : Pos} (hN : X.N.Nodup) (hi : X.N[i]? = some x) (hx : Loc X.env.scope x) (he : Dd X S Z e cd) (hs : swapsWith e (some (.Name x pos')) pos.line X.env = pure false := by rfl)
    (hf : X.fn x = true ∨ X.env.scope.names.lookup x = some .local := by first | exact .inl rfl | exact .inr rfl | assumption) : Ds X S Z (.Assign [.Name x pos'] e pos) (sOwnD i cd) :=
  PS.imp (ps_set hN hi hx he hs hf) fun D σ H ⟨en, R, w⟩ => ⟨en, R, M.wp_mono (fun ds q => by intro a u H' s k n r; exact q _ H' (R.ext s) (R.put s k n (r.sl (not_new R.src n) (R.notZ n)) rfl)) (M.wp_bind.mp w)⟩
theorem dx_d {cd : CDc} (h : Dd X S Z e cd) : Dx X S Z e (xD cd) := PE.imp h fun σ H Q ⟨en, R, w⟩ => ⟨en, R, M.wp_mono (fun d q => by intro a u H' s k n r; exact q _ H' s k (.ownD n r)) (M.wp_bind.mp w)⟩
/-! ### sorted -/
def insI (x : Int) : List Int → List Int
  | [] => [x]
  | y :: r => if x ≤ y then x :: y :: r else y :: insI x r
def srtI : List Int → List Int
  | [] => []
  | x :: r => insI x (srtI r)
theorem insI_perm (x : Int) : ∀ l : List Int, (insI x l).Perm (x :: l)
  | [] => .refl _
  | y :: r => by
    unfold insI
    split
    · exact .refl _
    · exact ((insI_perm x r).cons y).trans (.swap x y r)
theorem srtI_perm : ∀ l : List Int, (srtI l).Perm l
  | [] => .refl _
  | x :: r => (insI_perm x (srtI r)).trans ((srtI_perm r).cons x)
theorem insI_sorted (x : Int) : ∀ {l : List Int}, l.Pairwise (· ≤ ·) → (insI x l).Pairwise (· ≤ ·)
  | [], _ => by simp [insI]
  | y :: r, h => by
    unfold insI
    split
    · rename_i hxy
      refine List.pairwise_cons.mpr ⟨fun z hz => ?_, h⟩
      rcases List.mem_cons.mp hz with rfl | hz
      · exact hxy
      · exact Int.le_trans hxy ((List.pairwise_cons.mp h).1 z hz)
    · rename_i hxy
      obtain ⟨h1, h2⟩ := List.pairwise_cons.mp h
      refine List.pairwise_cons.mpr ⟨fun z hz => ?_, insI_sorted x h2⟩
      rcases List.mem_cons.mp ((insI_perm x r).subset hz) with rfl | hz
      · omega
      · exact h1 z hz
theorem srtI_sorted : ∀ l : List Int, (srtI l).Pairwise (· ≤ ·)
  | [] => .nil
  | x :: r => insI_sorted x (srtI_sorted r)
theorem srtI_eq {ys l : List Int} (h : ys.Perm l) (s : ys.Pairwise (· ≤ ·)) : ys = srtI l :=
  List.Perm.eq_of_pairwise (le := (· ≤ ·)) (fun a b _ _ h1 h2 => Int.le_antisymm h1 h2) s (srtI_sorted l) (h.trans (srtI_perm l).symm)
def intKeys : KD → Option (List Int)
  | [] => some []
  | (.inl i, _) :: r => (intKeys r).map fun is => i :: is
  | _ :: _ => none
def sortedD (ds : List (PyData × PyData)) : Option (List Int) := (ofDictK ds).bind fun kvs => if kvs.length < 64 then (intKeys kvs).map srtI else none
def clSorted (c : CE) : CL := fun e => (c e).bind fun d => match d with
  | .dict ds => (match sortedD ds with
    | some is => .ret (is.map PyData.int)
    | none => .bad)
  | _ => .bad
theorem intKeys_eq : ∀ {kvs : KD} {is : List Int}, intKeys kvs = some is → kvs.map (·.1) = is.map Sum.inl
  | [], _, h => by cases h; rfl
  | (.inl i, _) :: r, is, h => by
    simp only [intKeys, Option.map_eq_some_iff] at h
    obtain ⟨js, h1, rfl⟩ := h
    rw [List.map_cons, List.map_cons, intKeys_eq h1]
  | (.inr x, _) :: r, is, h => by cases h
theorem RK.keys {K : PySem.W.Frag} {H : Hp} : ∀ {ks : List (Key × V)} {kvs : KD}, RK K H ks kvs → ks.map (·.1) = kvs.map (·.1)
  | _, _, .nil => rfl
  | _, _, .cons ⟨e, _⟩ t => by rw [List.map_cons, List.map_cons, e, RK.keys t]
theorem bc_sorted (hc : X.calm = true) : CallR X (.builtin "sorted") (fun xs H Q => ∃ v ds is, xs = [v] ∧ RepP X.K S H v (.dict ds) ∧ sortedD ds = some is ∧ ∀ p, H p = none → Q (.ref p) (upd H p (.lst (is.map V.int)))) := by
  intro pins s σ H xs us Q I rx ⟨v, ds, is, e, r, hi, q⟩
  subst e
  unfold sortedD at hi
  obtain ⟨kvs, h1, h2⟩ := Option.bind_eq_some_iff.mp hi
  split at h2
  · rename_i hl
    obtain ⟨js, h3, rfl⟩ := Option.map_eq_some_iff.mp h2
    obtain ⟨a, rfl, ⟨ks, g1, g2⟩ | ⟨ks, g1, g2⟩⟩ := RepP.dict r
    · have q' := RK.of g2 h1
      refine call_sortedDI hc pins s σ H _ us Q I rx ⟨a, ks, js, rfl, g1, by rw [q'.keys, intKeys_eq h3], ?_, fun ys p hp hs hn => ?_⟩
      · have := congrArg List.length (intKeys_eq h3)
        rw [List.length_map, List.length_map] at this
        omega
      · rw [srtI_eq hp hs]; exact q p hn
    · exfalso
      cases g2 with
      | nil => exact dt_ne I g1 rfl
      | cons h0 r0 t0 =>
        unfold ofDictK at h1
        simp [keyOf] at h1
  · cases h2
theorem dl_sorted (hc : X.calm = true) (hg : Gl X "sorted") (hm : X.mg "sorted" = none) (h : Dp X S Z e c) (he : starEach [e] X.env = (false, eval e X.env) :: starEach [] X.env := by rfl) (hpl : (backTo pos (starEach [] X.env)).any (·.1) = false := by rfl) :
    Dl X S Z (.Call (.Name "sorted" p) [e] [] pos) (clSorted c) := by
  refine PE.imp (pe_callB (bc_sorted (S := S) hc) hg hm (by decide +kernel) (dap_cons h dap_nil he) (by decide) (by decide) he hpl) fun σ H Q ⟨en, R, w⟩ => ⟨en, R, M.wp_bind.mpr (M.wp_mono (fun d wd => ?_) (M.wp_bind.mp w))⟩
  intro vs H1 s k rs
  obtain ⟨v, rfl, r⟩ := pair1 rs
  cases d with
  | dict ds =>
    simp only at wd
    split at wd
    · rename_i is hi
      exact ⟨v, ds, is, rfl, r, hi, fun p hn => wd _ _ _ (s.trans (.of (same_new hn))) (k.same (same_new hn)) (new_none s k hn) upd_same (RepA.of_ints _)⟩
    · exact wd.elim
  | _ => exact wd.elim
/-! ### a <= b <= c -/
def cChain (m m' : PyData → PyData → M PyData) (a b c : CE) : CE := fun e => (a e).bind fun x => (b e).bind fun y => (m x y).bind fun z => (asB z).bind fun k => if k = true then (c e).bind fun w => m' y w else .ret (.bool false)
end
end DL
namespace DL
open PySem PySem.Spec PyProof.Rows L2
section
variable {X : Cx} {S : SrcA} {Z : Addr → Prop} {e ea eb ec : Expr} {c ca cb cc : CE} {cl : CL} {pos p : Pos}
theorem chain_t {m m' : PyData → PyData → M PyData} {σ : L2.St} {H : Hp} {Q : VK} (h : tD S Z X.K (RV X.K) (cChain m m' ca cb cc) σ H Q) :
    tChain (rD S X.K m) (rD S X.K m') (tD S Z X.K (RP X.K S) ca) (tD S Z X.K (RP X.K S) cb) (tD S Z X.K (RP X.K S) cc) σ H Q := by
  obtain ⟨en, R, w⟩ := h
  refine ⟨en, R, M.wp_mono (fun x wx v H1 s1 k1 r1 => ?_) (M.wp_bind.mp w)⟩
  refine ⟨en, R.same s1 k1, M.wp_mono (fun y wy u H2 s2 k2 r2 => ?_) (M.wp_bind.mp wx)⟩
  refine ⟨x, y, k2, r1.same k1 s2, r2, M.wp_mono (fun z wz zv H3 s3 k3 r3 => ?_) (M.wp_bind.mp wy)⟩
  cases z with
  | bool b =>
    cases r3
    refine ⟨b, rfl, ?_⟩
    change (if b = true then (cc en).bind fun w => m' y w else .ret (.bool false)).wp _ at wz
    cases b with
    | true =>
      rw [if_pos rfl] at wz ⊢
      refine ⟨en, ((R.same s1 k1).same s2 k2).same s3 k3, M.wp_mono (fun w' ww wv H4 s4 k4 r4 => ?_) (M.wp_bind.mp wz)⟩
      refine ⟨y, w', k4, (r2.same k2 s3).same k3 s4, r4, M.wp_mono (fun d q v' H5 s5 k5 r5 => ?_) ww⟩
      exact q v' H5 ((((s1.trans s2).trans s3).trans s4).trans s5) k5 r5
    | false =>
      rw [if_neg (by decide)] at wz
      rw [if_neg (by decide)]
      exact wz (.bl false) H3 ((s1.trans s2).trans s3) k3 (.bl false)
  | _ => exact wz.elim
theorem dv_chain {op op' : CmpOp} {m m' : PyData → PyData → M PyData} (ho : OpR X (compareOp op) (rD S X.K m)) (ho' : OpR X (compareOp op') (rD S X.K m')) (ha : Dp X S Z ea ca) (hb : Dp X S Z eb cb) (hc : Dp X S Z ec cc)
    (hm : lastMarks [op, op'] [eb, ec] = false := by with_unfolding_all rfl) : Dv X S Z (.Compare ea [op, op'] [eb, ec] pos) (cChain m m' ca cb cc) :=
  PE.imp (pe_chain ho ho' ha hb hc hm) fun σ H Q h => chain_t h
theorem dt_chain {op op' : CmpOp} {m m' : PyData → PyData → M PyData} (ho : OpR X (compareOp op) (rD S X.K m)) (ho' : OpR X (compareOp op') (rD S X.K m')) (ha : Dp X S Z ea ca) (hb : Dp X S Z eb cb) (hc : Dp X S Z ec cc)
    (hm : lastMarks [op, op'] [eb, ec] = false := by with_unfolding_all rfl) : Dt X S Z (.Compare ea [op, op'] [eb, ec] pos) (ctV (cChain m m' ca cb cc)) := by
  refine PT.imp (pt_chain ho ho' ha hb hc hm) fun σ H Q ⟨en, R, w⟩ => chain_t ⟨en, R, M.wp_mono (fun d wd v H' s k r => ?_) (M.wp_bind.mp w)⟩
  cases d with
  | bool b => cases r; exact ⟨b, rfl, wd H' s k⟩
  | _ => exact wd.elim
/-! ### [:0:-1] -/
theorem krv0_range (n : Nat) : sliceRange ((n : Int) - 1) (max (-1) (min 0 ((n : Int) - 1))) (-1) = ((List.range (n - 1)).map (1 + ·)).reverse := by
  unfold sliceRange
  have h1 : ¬ ((-1 : Int) > 0) := by decide
  simp only [h1, if_false]
  have e : (if (n : Int) - 1 > max (-1) (min 0 ((n : Int) - 1)) then ((n : Int) - 1 - max (-1) (min 0 ((n : Int) - 1)) - -1 - 1) / (- -1) else 0).toNat = n - 1 := by
    rw [show (- -1 : Int) = 1 by decide, Int.ediv_one]
    split <;> omega
  rw [e]
  apply List.ext_getElem
  · simp
  · intro i h1 h2
    rw [List.length_map, List.length_range] at h1
    rw [List.getElem_map, List.getElem_range, List.getElem_reverse, List.getElem_map, List.getElem_range, List.length_map, List.length_range]
    omega
theorem krv0_pick (items : Array Value) : slicePick items none (some 0) (some (-1)) = (items.toList.drop 1).reverse.toArray := by
  unfold slicePick
  show ((sliceRange ((items.size : Int) - 1) (max (-1) (min (0 : Int) ((items.size : Int) - 1))) (-1)).filterMap (items[·]?)).toArray = _
  rw [krv0_range, List.filterMap_reverse, pick_run, List.take_of_length_le (by rw [List.length_drop, Array.length_toList]; exact Nat.le_refl _)]
def clRev0 (c : CE) : CL := fun e => (c e).bind fun d => match d with
  | .list xs => .ret (xs.drop 1).reverse
  | _ => .bad
def tRev0 (K : PySem.W.Frag) (te : TE) : TE := fun σ H Q => te σ H fun x H1 => ∃ a xs, x = .ref a ∧ SqL K H1 a xs ∧ ∀ p, H1 p = none → Q (.ref p) (upd H1 p (.lst (xs.drop 1).reverse))
theorem vals_drop {vs : List V} {us : List Value} (r : Vals vs us) : ∀ n : Nat, Vals (vs.drop n) (us.drop n) := by
  intro n
  induction n generalizing vs us with
  | zero => exact r
  | succ n ih =>
    cases r with
    | nil => exact .nil
    | cons h t => exact ih t
theorem pe_rev0 {te : TE} {k k0 : Nat} {p0 p1 p2 p3 : Pos} (he : PE X e te) : PE X (.Subscript e (.Slice none (some (.Constant (.int 0) k0 p0)) (some (.UnaryOp .USub (.Constant (.int 1) k p1) p2)) p3) pos) (tRev0 X.K te) := by
  refine ⟨fun pins s σ H Q I h => ?_⟩
  refine Subscript_ (thn (he.run pins s σ H _ I h) fun v s1 ⟨x, H1, I1, r1, q1⟩ => ?_)
  obtain ⟨a, xs, ex, hx, q⟩ := q1
  subst ex
  cases r1
  have hst : PO X (some (.UnaryOp .USub (.Constant (.int 1) k p1) p2)) (tPart (tUn (rU fun i => .int (-i)) (tC (.int 1)))) := po_some (pe_un un_neg pe_int)
  have hz0 : PO X (some (.Constant (.int 0) k0 p0)) (tPart (tC (.int 0))) := po_some pe_int
  refine wpAny_Slice (thn (po_none.run pins s1 σ H1 (fun o H2 => o = none ∧ H2 = H1) I1 ⟨rfl, rfl⟩) fun vl s2 ⟨l, H2, I2, pl, el, e2⟩ => ?_)
  subst el e2
  refine thn (hz0.run pins s2 σ H2 (fun o H3 => o = some 0 ∧ H3 = H2) I2 ⟨0, rfl, rfl, rfl⟩) fun vu s3 ⟨u, H3, I3, pu, eu, e3⟩ => ?_
  subst eu e3
  refine thn (hst.run pins s3 σ H3 (fun o H4 => o = some (-1) ∧ H4 = H3) I3 ⟨1, rfl, -1, rfl, rfl, rfl⟩) fun vs s4 ⟨o, H4, I4, ps, eo, e4⟩ => ?_
  subst eo e4
  have I5 : Inv X pins σ H4 { s4 with heap := s4.heap.push { cls := .type "slice", data := .fields #[vl, vu, vs] } } := I4.kept (t' := s4.toks) fun b ob q => Heap.get?_push_of_some _ q
  obtain ⟨its, r, ht, hz⟩ := I5.list hx
  have hlen := r.length
  show wpAny (model X.prog X.w) X.A (subscriptTail e (.Slice none (some (.Constant (.int 0) k0 p0)) (some (.UnaryOp .USub (.Constant (.int 1) k p1) p2)) p3) (.ref a) (.ref s4.heap.objs.size)) (EP X pins σ Q) X.xe { s4 with heap := s4.heap.push { cls := .type "slice", data := .fields #[vl, vu, vs] } }
  refine tail_any (ops := [.ref a, .ref s4.heap.objs.size]) ht.isList.typeIs (PySem.slot_list_getitem.lookup) ?_ (by with_unfolding_all rfl)
  refine wpAny_getItem_list_slice ht.isList (Heap.IsSliceOf.new _ vl vu vs) pl pu ps (by decide) ?_ (by rw [List.size_toArray]; omega)
  rw [krv0_pick]
  refine ⟨.ref _, _, I5.laid (t' := s4.toks) (o := .lst (xs.drop 1).reverse) (fun b ob q => Heap.get?_push_of_some _ q) (Nat.le_refl _) ?_, rfl, q _ (I5.hok.fresh (Nat.le_refl _))⟩
  exact ⟨by rw [List.length_reverse, List.length_drop]; omega, _, 0, (vals_drop r 1).reverse, Heap.get?_push_size _ rfl⟩
theorem dl_rev0 {k k0 : Nat} {p0 p1 p2 p3 : Pos} (h : Dp X S Z e c) : Dl X S Z (.Subscript e (.Slice none (some (.Constant (.int 0) k0 p0)) (some (.UnaryOp .USub (.Constant (.int 1) k p1) p2)) p3) pos) (clRev0 c) := by
  refine PE.imp (pe_rev0 h) fun σ H Q ⟨en, R, w⟩ => ⟨en, R, M.wp_mono (fun d wd v H1 s k r => ?_) (M.wp_bind.mp w)⟩
  cases d <;> first | exact wd.elim | skip
  obtain ⟨a, xs, rfl, h1, h2⟩ := RepP.list r
  refine ⟨a, xs, rfl, h1, fun l hl => ?_⟩
  exact wd l _ _ (s.trans (.of (same_new hl))) (k.same (same_new hl)) (none_back k s hl) upd_same ((h2.kp (.of (same_new hl))).drop 1).reverse
end
theorem room1 {A : Around} {k : Nat} (hr : Room k A) : A.units + 1 < cLine := by have := hr.un; omega
theorem room65 {A : Around} {k : Nat} (hr : Room k A) : A.units + 65 < cLine := by have := hr.un; omega
end DL
namespace W
open PySem PySem.Spec PyProof.Rows L2 DL
def choose_b1 : CS := (sSet 2 (cOp2 mFdiv (cOp2 mMulT (cVar 2) (cOp2 mSub (cVar 0) (cVar 3))) (cOp2 mAdd (cVar 3) (cC (.int 1)))))
def cs_choose : CS := (sSeq (sSet 2 (cC (.int 1))) (sSeq (sFor (ciRange1 (cVar 1)) (gSet 3) choose_b1) (sRet (cVar 2))))
abbrev m_choose : FD := fnD 2 4 cs_choose
def poly_least_b1 : CS := (sPop 1)
def cs_poly_least : CS := (sSeq (sOwn 1 (clOf (cVar 0))) (sSeq (sWhile 1000000 (ctAnd (ctV (cOp2 mNeS (cPeek 1) (cFz (clDisp caNil)))) (ctV (cOp2 mEqS (cOp2 mIx (cPeek 1) (cOp1 mNeg (cC (.int 1)))) (cC (.int 0))))) poly_least_b1) (sRet (cCall mTuple (caCons (cPeek 1) caNil)))))
abbrev m_poly_least : FD := fnD 1 2 cs_poly_least
def poly_of_b1 : CS := (sSeq (sAppend 1 (cOp2 mIx (cVar 2) (cC (.int 0)))) (sSeq (sOwn 2 (clComp [3, 4] (ciZip false (cVar 2) (cSl (cVar 2) (some (cC (.int 1))) none)) (gTup ((gSet 3) :: ((gSet 4) :: []))) ctYes (cOp2 mSub (cVar 4) (cVar 3)))) (sFrzT 2 sNil)))
def cs_poly_of : CS := (sSeq (sPar 1 2 (xO (clDisp caNil)) (xV (cFz (clOf (cVar 0))))) (sSeq (sWhile 1000000 (ctV (cOp2 mNeS (cVar 2) (cFz (clDisp caNil)))) poly_of_b1) (sFrzT 1 (sRet (cCall m_poly_least (caCons (cVar 1) caNil))))))
abbrev m_poly_of : FD := fnD 1 5 cs_poly_of
def cs_poly_at : CS := (sRet (cCall mSum (caCons (cFz (clComp [2, 3] (ciEnum (cVar 0)) (gTup ((gSet 2) :: ((gSet 3) :: []))) ctYes (cOp2 mMulT (cVar 3) (cCall m_choose (caCons (cVar 1) (caCons (cVar 2) caNil)))))) caNil)))
abbrev m_poly_at : FD := fnD 2 4 cs_poly_at
def cs_poly_sum : CS := (sSeq (sSet 2 (cCall mMax (caCons (cCall mLenD (caCons (cVar 0) caNil)) (caCons (cCall mLenD (caCons (cVar 1) caNil)) caNil)))) (sSeq (sAsg (gSeq ((gSet 3) :: ((gSet 4) :: []))) (cFz (clComp [5] (ciSeq (cTup (caCons (cVar 0) (caCons (cVar 1) caNil)))) (gSet 5) ctYes (cOp2 mAdd (cFz (clOf (cVar 5))) (cOp2 mMulT (cFz (clDisp (caCons (cC (.int 0)) caNil))) (cOp2 mSub (cVar 2) (cCall mLenD (caCons (cVar 5) caNil)))))))) (sRet (cCall m_poly_least (caCons (cFz (clComp [6, 7] (ciZip true (cVar 3) (cVar 4)) (gTup ((gSet 6) :: ((gSet 7) :: []))) ctYes (cOp2 mAdd (cVar 6) (cVar 7)))) caNil)))))
abbrev m_poly_sum : FD := fnD 2 8 cs_poly_sum
def cs_poly_times : CS := (sRet (cCall m_poly_least (caCons (cFz (clComp [2] (ciSeq (cVar 0)) (gSet 2) ctYes (cOp2 mMulT (cVar 1) (cVar 2)))) caNil)))
abbrev m_poly_times : FD := fnD 2 3 cs_poly_times
def cs_poly_less : CS := (sRet (cCall m_poly_sum (caCons (cVar 0) (caCons (cCall m_poly_times (caCons (cVar 1) (caCons (cOp1 mNeg (cC (.int 1))) caNil))) caNil))))
abbrev m_poly_less : FD := fnD 2 2 cs_poly_less
def cs_poly_product : CS := (sRet (cCall m_poly_of (caCons (cFz (clComp [2] (ciRange1 (cOp2 mAdd (cCall mLenD (caCons (cVar 0) caNil)) (cCall mLenD (caCons (cVar 1) caNil)))) (gSet 2) ctYes (cOp2 mMulT (cCall m_poly_at (caCons (cVar 0) (caCons (cVar 2) caNil))) (cCall m_poly_at (caCons (cVar 1) (caCons (cVar 2) caNil)))))) caNil)))
abbrev m_poly_product : FD := fnD 2 3 cs_poly_product
def cs_line_choose : CS := (sRet (cCall m_poly_of (caCons (cFz (clComp [3] (ciRange1 (cOp2 mAdd (cVar 2) (cC (.int 1)))) (gSet 3) ctYes (cCall m_choose (caCons (cOp2 mAdd (cOp2 mMulT (cVar 0) (cVar 3)) (cVar 1)) (caCons (cVar 2) caNil))))) caNil)))
abbrev m_line_choose : FD := fnD 3 4 cs_line_choose
def cs_poly_along : CS := (sRet (cCall m_poly_of (caCons (cFz (clComp [3] (ciRange1 (cCall mLenD (caCons (cVar 0) caNil))) (gSet 3) ctYes (cCall m_poly_at (caCons (cVar 0) (caCons (cOp2 mAdd (cVar 1) (cOp2 mMulT (cVar 2) (cVar 3))) caNil))))) caNil)))
abbrev m_poly_along : FD := fnD 3 4 cs_poly_along
def cs__law_of : CS := (sRet (cOp2 mIx (cVar 1) (cCallS 0 mPickB (caCons (cCall mLenD (caCons (cVar 1) caNil)) caNil))))
abbrev m__law_of : FD := fnS 2 2 cs__law_of
end W
/-! PolyM: polynomials by binomials, over all whole numbers. -/
namespace PM
/-! ### falling products, binomials -/
def desc (n : Int) : Nat → Int
  | 0 => 1
  | k + 1 => desc n k * (n - k)
def fact : Nat → Int
  | 0 => 1
  | k + 1 => fact k * (k + 1)
theorem fact_pos : ∀ k, 0 < fact k
  | 0 => by decide
  | k + 1 => Int.mul_pos (fact_pos k) (by omega)
theorem desc_up (n : Int) : ∀ k, desc (n + 1) (k + 1) = (n + 1) * desc n k
  | 0 => by simp [desc]
  | k + 1 => by
    have ih := desc_up n k
    show desc (n + 1) (k + 1) * (n + 1 - ((k + 1 : Nat) : Int)) = (n + 1) * (desc n k * (n - (k : Int)))
    rw [ih, Int.mul_assoc]
    congr 2
    omega
theorem desc_diff (n : Int) (k : Nat) : desc (n + 1) (k + 1) - desc n (k + 1) = (k + 1) * desc n k := by
  rw [desc_up]
  show (n + 1) * desc n k - desc n k * (n - (k : Int)) = _
  rw [Int.mul_comm (desc n k), ← Int.sub_mul]
  congr 1
  omega
theorem desc_zero : ∀ k, desc 0 (k + 1) = 0
  | 0 => by simp [desc]
  | k + 1 => by show desc 0 (k + 1) * _ = 0; rw [desc_zero k, Int.zero_mul]
/-- from 0 both ways -/
theorem int_ind {P : Int → Prop} (h0 : P 0) (up : ∀ n, P n → P (n + 1)) (dn : ∀ n, P (n + 1) → P n) (n : Int) : P n := by
  cases n with
  | ofNat m =>
    induction m with
    | zero => exact h0
    | succ m ih => exact up _ ih
  | negSucc m =>
    induction m with
    | zero => exact dn (-1) (by rw [show (-1 : Int) + 1 = 0 from rfl]; exact h0)
    | succ m ih =>
      refine dn _ ?_
      have e : Int.negSucc (m + 1) + 1 = Int.negSucc m := by omega
      rw [e]; exact ih
theorem fact_dvd : ∀ (k : Nat) (n : Int), fact k ∣ desc n k
  | 0, n => ⟨1, rfl⟩
  | k + 1, n => by
    have step : ∀ n : Int, fact (k + 1) ∣ desc (n + 1) (k + 1) - desc n (k + 1) := fun n => by
      rw [desc_diff]
      obtain ⟨q, hq⟩ := fact_dvd k n
      refine ⟨q, ?_⟩
      rw [hq]
      show ((k : Int) + 1) * (fact k * q) = fact k * (k + 1) * q
      rw [← Int.mul_assoc, Int.mul_comm ((k : Int) + 1)]
    refine int_ind (P := fun n => fact (k + 1) ∣ desc n (k + 1)) ?_ (fun n h => ?_) (fun n h => ?_) n
    · rw [desc_zero]; exact Int.dvd_zero _
    · have := Int.dvd_add (step n) h
      rwa [Int.sub_add_cancel] at this
    · have := Int.dvd_sub h (step n)
      rwa [Int.sub_sub_self] at this
def ch (n : Int) (k : Nat) : Int := desc n k / fact k
theorem ch_mul (n : Int) (k : Nat) : fact k * ch n k = desc n k := Int.mul_ediv_cancel' (fact_dvd k n)
theorem ch_zero (n : Int) : ch n 0 = 1 := by
  have := ch_mul n 0
  simpa [fact, desc] using this
theorem ch_at0 (k : Nat) : ch 0 (k + 1) = 0 := by
  unfold ch; rw [desc_zero, Int.zero_ediv]
theorem ch_succ (n : Int) (k : Nat) : (k + 1 : Int) * ch n (k + 1) = ch n k * (n - k) := by
  have h1 := ch_mul n (k + 1)
  have h2 := ch_mul n k
  have h3 : fact k * ((k + 1 : Int) * ch n (k + 1)) = fact k * (ch n k * (n - k)) := by
    rw [← Int.mul_assoc, ← Int.mul_assoc, h2]
    exact h1
  exact Int.eq_of_mul_eq_mul_left (Int.ne_of_gt (fact_pos k)) h3
theorem ch_fdiv (n : Int) (k : Nat) : (ch n k * (n - k)).fdiv (k + 1) = ch n (k + 1) := by
  rw [← ch_succ, Int.fdiv_eq_ediv_of_nonneg _ (by omega), Int.mul_ediv_cancel_left _ (by omega)]
theorem ch_pascal (n : Int) (k : Nat) : ch (n + 1) (k + 1) - ch n (k + 1) = ch n k := by
  have h1 := ch_mul (n + 1) (k + 1)
  have h2 := ch_mul n (k + 1)
  have h3 := ch_mul n k
  have h4 := desc_diff n k
  rw [← h1, ← h2, ← h3] at h4
  have h5 : fact (k + 1) * (ch (n + 1) (k + 1) - ch n (k + 1)) = fact (k + 1) * ch n k := by
    rw [Int.mul_sub, h4]
    show ((k : Int) + 1) * (fact k * ch n k) = fact k * (k + 1) * ch n k
    rw [← Int.mul_assoc, Int.mul_comm ((k : Int) + 1)]
  exact Int.eq_of_mul_eq_mul_left (Int.ne_of_gt (fact_pos (k + 1))) h5

/-! ### differences -/
def dl (f : Int → Int) : Int → Int := fun n => f (n + 1) - f n
def it : Nat → (Int → Int) → (Int → Int)
  | 0, f => f
  | k + 1, f => it k (dl f)
theorem it_dl : ∀ (k : Nat) (f : Int → Int), it k (dl f) = dl (it k f)
  | 0, _ => rfl
  | k + 1, f => it_dl k (dl f)
theorem same_of_dl {f g : Int → Int} (h : dl f = dl g) (h0 : f 0 = g 0) : f = g := by
  funext n
  refine int_ind (P := fun n => f n = g n) h0 (fun n q => ?_) (fun n q => ?_) n
  · have := congrFun h n
    unfold dl at this
    omega
  · have := congrFun h n
    unfold dl at this
    omega
/-! ### a list as a polynomial by binomials -/
def evF : Nat → List Int → Int → Int
  | _, [], _ => 0
  | k, x :: r, n => x * ch n k + evF (k + 1) r n
abbrev ev (a : List Int) : Int → Int := evF 0 a
theorem dl_evF : ∀ (a : List Int) (k : Nat), dl (evF (k + 1) a) = evF k a
  | [], k => by funext n; rfl
  | x :: r, k => by
    funext n
    have ih := congrFun (dl_evF r (k + 1)) n
    have p := ch_pascal n k
    unfold dl at ih ⊢
    show x * ch (n + 1) (k + 1) + evF (k + 2) r (n + 1) - (x * ch n (k + 1) + evF (k + 2) r n) = x * ch n k + evF (k + 1) r n
    have ih' : evF (k + 2) r (n + 1) - evF (k + 2) r n = evF (k + 1) r n := ih
    rw [← p, Int.mul_sub]
    generalize x * ch (n + 1) (k + 1) = A at *
    generalize x * ch n (k + 1) = B at *
    omega
theorem dl_ev (x : Int) (r : List Int) : dl (ev (x :: r)) = ev r := by
  funext n
  have ih := congrFun (dl_evF r 0) n
  unfold dl at ih ⊢
  show x * ch (n + 1) 0 + evF 1 r (n + 1) - (x * ch n 0 + evF 1 r n) = evF 0 r n
  have ih' : evF 1 r (n + 1) - evF 1 r n = evF 0 r n := ih
  rw [ch_zero, ch_zero]
  omega
theorem evF_at0 : ∀ (a : List Int) (k : Nat), evF (k + 1) a 0 = 0
  | [], _ => rfl
  | x :: r, k => by
    show x * ch 0 (k + 1) + evF (k + 2) r 0 = 0
    rw [ch_at0, evF_at0 r (k + 1), Int.mul_zero]; rfl
theorem ev_at0 (x : Int) (r : List Int) : ev (x :: r) 0 = x := by
  show x * ch 0 0 + evF 1 r 0 = x
  rw [ch_zero, evF_at0, Int.mul_one, Int.add_zero]
/-- the coefficients are the differences at 0 -/
theorem coef : ∀ (i : Nat) (a : List Int), it i (ev a) 0 = a.getD i 0
  | i, [] => by
    have z : ∀ i : Nat, it i (ev []) = ev [] := fun i => by
      induction i with
      | zero => rfl
      | succ i ih =>
        show it i (dl (ev [])) = ev []
        have : dl (ev []) = ev [] := by funext n; rfl
        rw [this, ih]
    rw [z]; simp; rfl
  | 0, x :: r => by show ev (x :: r) 0 = _; rw [ev_at0]; rfl
  | i + 1, x :: r => by
    show it i (dl (ev (x :: r))) 0 = _
    rw [dl_ev, coef i r]; rfl
def co (f : Int → Int) (L : Nat) : List Int := (List.range L).map fun i => it i f 0
theorem co_succ (f : Int → Int) (L : Nat) : co f (L + 1) = f 0 :: co (dl f) L := by
  unfold co
  rw [List.range_succ_eq_map, List.map_cons, List.map_map]
  rfl
/-- from some difference on all are 0 -/
def Dg (L : Nat) (f : Int → Int) : Prop := ∀ n, it L f n = 0
theorem Dg.dl {L : Nat} {f : Int → Int} (h : Dg (L + 1) f) : Dg L (dl f) := h
theorem ev_co : ∀ (L : Nat) {f : Int → Int}, Dg L f → ev (co f L) = f
  | 0, f, h => by funext n; exact (h n).symm
  | L + 1, f, h => by
    rw [co_succ]
    refine same_of_dl ?_ (ev_at0 _ _)
    rw [dl_ev, ev_co L h.dl]
theorem Dg.zero : ∀ (L : Nat) {f : Int → Int}, (∀ n, f n = 0) → Dg L f
  | 0, f, h => h
  | L + 1, f, h => Dg.zero L (f := PM.dl f) fun n => by unfold PM.dl; rw [h, h]; rfl
theorem Dg.more {L : Nat} : ∀ (m : Nat) {f : Int → Int}, Dg L f → Dg (L + m) f
  | 0, _, h => h
  | m + 1, f, h => by
    intro n
    have e : it (L + (m + 1)) f = PM.dl (it (L + m) f) := it_dl (L + m) f
    rw [e]
    unfold PM.dl
    rw [Dg.more m h, Dg.more m h]; rfl
theorem Dg.le {L M : Nat} {f : Int → Int} (h : Dg L f) (hl : L ≤ M) : Dg M f := by
  have := h.more (M - L)
  rwa [Nat.add_sub_cancel' hl] at this
theorem Dg.ev : ∀ (a : List Int), Dg a.length (ev a)
  | [] => fun n => rfl
  | x :: r => by
    intro n
    show it r.length (PM.dl (PM.ev (x :: r))) n = 0
    rw [dl_ev]
    exact Dg.ev r n

/-! ### the differences of sums, multiples, products -/
theorem dl_add (f g : Int → Int) : dl (fun n => f n + g n) = fun n => dl f n + dl g n := by
  funext n; show f (n + 1) + g (n + 1) - (f n + g n) = f (n + 1) - f n + (g (n + 1) - g n); omega
theorem dl_smul (c : Int) (f : Int → Int) : dl (fun n => c * f n) = fun n => c * dl f n := by
  funext n; unfold dl; rw [Int.mul_sub]
theorem it_add : ∀ (k : Nat) (f g : Int → Int), it k (fun n => f n + g n) = fun n => it k f n + it k g n
  | 0, _, _ => rfl
  | k + 1, f, g => by
    show it k (dl _) = _
    rw [dl_add, it_add k (dl f) (dl g)]; rfl
theorem it_smul : ∀ (k : Nat) (c : Int) (f : Int → Int), it k (fun n => c * f n) = fun n => c * it k f n
  | 0, _, _ => rfl
  | k + 1, c, f => by
    show it k (dl _) = _
    rw [dl_smul, it_smul k c (dl f)]; rfl
theorem it_shift : ∀ (k : Nat) (f : Int → Int), it k (fun n => f (n + 1)) = fun n => it k f (n + 1)
  | 0, _ => rfl
  | k + 1, f => by
    show it k (dl _) = _
    have : dl (fun n => f (n + 1)) = fun n => dl f (n + 1) := rfl
    rw [this, it_shift k (dl f)]; rfl
theorem dl_mul (f g : Int → Int) : dl (fun n => f n * g n) = fun n => f (n + 1) * dl g n + dl f n * g n := by
  funext n
  show f (n + 1) * g (n + 1) - f n * g n = f (n + 1) * (g (n + 1) - g n) + (f (n + 1) - f n) * g n
  rw [Int.mul_sub, Int.sub_mul]
  omega
theorem Dg.add {L : Nat} {f g : Int → Int} (h1 : Dg L f) (h2 : Dg L g) : Dg L (fun n => f n + g n) := fun n => by
  rw [it_add]; show it L f n + it L g n = 0; rw [h1, h2]; rfl
theorem Dg.smul {L : Nat} {f : Int → Int} (c : Int) (h : Dg L f) : Dg L (fun n => c * f n) := fun n => by
  rw [it_smul]; show c * it L f n = 0; rw [h, Int.mul_zero]
/-- a difference is the same everywhere -/
def Tp (d : Nat) (c : Int) (f : Int → Int) : Prop := ∀ n, it d f n = c
theorem Tp.dg {d : Nat} {c : Int} {f : Int → Int} (h : Tp d c f) : Dg (d + 1) f := fun n => by
  have e : it (d + 1) f = PM.dl (it d f) := it_dl d f
  rw [e]; unfold PM.dl; rw [h, h]; omega
theorem Tp.shift {d : Nat} {c : Int} {f : Int → Int} (h : Tp d c f) : Tp d c (fun n => f (n + 1)) := fun n => by
  rw [it_shift]; exact h (n + 1)
theorem Tp.mul : ∀ (s d1 d2 : Nat) (_ : d1 + d2 = s), ∃ B : Int, 0 < B ∧ ∀ (c1 c2 : Int) (f g : Int → Int), Tp d1 c1 f → Tp d2 c2 g → Tp s (B * (c1 * c2)) (fun n => f n * g n)
  | s, 0, d2, e => ⟨1, by decide, fun c1 c2 f g h1 h2 n => by
      have e2 : d2 = s := by omega
      subst e2
      have : (fun n => f n * g n) = fun n => c1 * g n := by funext n; rw [show f n = c1 from h1 n]
      rw [this, it_smul, Int.one_mul]
      show c1 * it d2 g n = _
      rw [h2]⟩
  | s, d1, 0, e => ⟨1, by decide, fun c1 c2 f g h1 h2 n => by
      have e2 : d1 = s := by omega
      subst e2
      have : (fun n => f n * g n) = fun n => c2 * f n := by funext n; rw [show g n = c2 from h2 n, Int.mul_comm]
      rw [this, it_smul, Int.one_mul]
      show c2 * it d1 f n = _
      rw [h1, Int.mul_comm]⟩
  | 0, d1 + 1, d2 + 1, e => absurd e (by omega)
  | s + 1, d1 + 1, d2 + 1, e => by
    obtain ⟨B1, p1, q1⟩ := Tp.mul s (d1 + 1) d2 (by omega)
    obtain ⟨B2, p2, q2⟩ := Tp.mul s d1 (d2 + 1) (by omega)
    refine ⟨B1 + B2, by omega, fun c1 c2 f g h1 h2 n => ?_⟩
    show it s (dl (fun n => f n * g n)) n = _
    rw [dl_mul, it_add]
    show it s (fun n => f (n + 1) * dl g n) n + it s (fun n => dl f n * g n) n = _
    rw [q1 c1 c2 _ _ h1.shift h2 n, q2 c1 c2 _ _ h1 h2 n, Int.add_mul]
theorem ev_top : ∀ (a : List Int) (x : Int), Tp a.length x (ev (a ++ [x]))
  | [], x => fun n => by
    show x * ch n 0 + 0 = x
    rw [ch_zero]; omega
  | y :: r, x => fun n => by
    show it r.length (dl (ev (y :: (r ++ [x])))) n = x
    rw [dl_ev]
    exact ev_top r x n
theorem Tp.smul_inv {d : Nat} {k : Int} (hk : k ≠ 0) {c : Int} {f : Int → Int} (h : Tp d c (fun n => k * f n)) : ∃ c', Tp d c' f := by
  refine ⟨it d f 0, fun n => ?_⟩
  have h1 := h n
  have h2 := h 0
  rw [it_smul] at h1 h2
  exact Int.eq_of_mul_eq_mul_left hk (h1.trans h2.symm)
/-- choose of a line -/
theorem line_top (t m : Int) : ∀ k : Nat, ∃ c, Tp k c (fun n => ch (t * n + m) k)
  | 0 => ⟨1, fun n => ch_zero _⟩
  | k + 1 => by
    obtain ⟨c, h⟩ := line_top t m k
    have hl : Tp 1 t (fun n => t * n + m - k) := fun n => by
      show t * (n + 1) + m - k - (t * n + m - k) = t
      rw [Int.mul_add]; omega
    obtain ⟨B, _, q⟩ := Tp.mul (k + 1) k 1 rfl
    have := q c t _ _ h hl
    have e : (fun n => ch (t * n + m) k * (t * n + m - k)) = fun n => (k + 1 : Int) * ch (t * n + m) (k + 1) := by
      funext n; exact (ch_succ _ _).symm
    rw [e] at this
    exact this.smul_inv (by omega)
theorem line_dg (t m : Int) (k : Nat) : Dg (k + 1) (fun n => ch (t * n + m) k) := let ⟨_, h⟩ := line_top t m k; h.dg
theorem along_dgF (b s : Int) : ∀ (a : List Int) (k : Nat), Dg (k + a.length) (fun n => evF k a (b + s * n))
  | [], k => Dg.zero _ fun n => rfl
  | x :: r, k => by
    have h1 : Dg (k + (x :: r).length) (fun n => x * ch (b + s * n) k) := by
      refine Dg.smul x ?_
      have := line_dg s b k
      have e : (fun n => ch (s * n + b) k) = fun n => ch (b + s * n) k := by funext n; rw [Int.add_comm]
      rw [e] at this
      exact this.le (by rw [List.length_cons]; omega)
    have h2 := along_dgF b s r (k + 1)
    have h2' : Dg (k + (x :: r).length) (fun n => evF (k + 1) r (b + s * n)) := h2.le (by rw [List.length_cons]; omega)
    exact h1.add h2'
/-! ### without 0 behind -/
def least (a : List Int) : List Int := (a.reverse.dropWhile fun x => decide (x = 0)).reverse
def isLeast (a : List Int) : Prop := a.getLast? ≠ some 0
theorem least_snoc0 (a : List Int) : least (a ++ [0]) = least a := by
  unfold least
  rw [List.reverse_append, List.reverse_singleton, List.singleton_append, List.dropWhile_cons_of_pos (by decide)]
theorem least_snoc (a : List Int) {x : Int} (h : x ≠ 0) : least (a ++ [x]) = a ++ [x] := by
  unfold least
  rw [List.reverse_append, List.reverse_singleton, List.singleton_append, List.dropWhile_cons_of_neg (by simpa using h), List.reverse_cons, List.reverse_reverse]
theorem snoc_ind {P : List Int → Prop} (h0 : P []) (h1 : ∀ a x, P a → P (a ++ [x])) (a : List Int) : P a := by
  have : ∀ b : List Int, P b.reverse := fun b => by
    induction b with
    | nil => exact h0
    | cons x b ih => rw [List.reverse_cons]; exact h1 _ _ ih
  have := this a.reverse
  rwa [List.reverse_reverse] at this
theorem least_isLeast : ∀ a : List Int, isLeast (least a) := by
  refine snoc_ind ?_ fun a x ih => ?_
  · intro h; cases h
  · by_cases h : x = 0
    · subst h; rw [least_snoc0]; exact ih
    · rw [least_snoc a h]
      intro q
      rw [List.getLast?_append] at q
      simp at q
      exact h q
theorem least_of {a : List Int} (ha : isLeast a) : least a = a := by
  revert ha
  refine snoc_ind (P := fun a => isLeast a → least a = a) ?_ (fun a x _ h => ?_) a
  · intro _; rfl
  · by_cases hx : x = 0
    · subst hx
      exact absurd (by simp) h
    · exact least_snoc a hx
theorem least_le : ∀ a : List Int, (least a).length ≤ a.length := by
  refine snoc_ind (Nat.le_refl _) fun a x ih => ?_
  by_cases h : x = 0
  · subst h; rw [least_snoc0, List.length_append]; exact Nat.le_add_right_of_le ih
  · rw [least_snoc a h]; exact Nat.le_refl _
theorem getD_snoc0 (a : List Int) (i : Nat) : (a ++ [0]).getD i 0 = a.getD i 0 := by
  rw [List.getD_eq_getElem?_getD, List.getD_eq_getElem?_getD]
  by_cases h : i < a.length
  · rw [List.getElem?_append_left h]
  · rw [List.getElem?_append_right (by omega), List.getElem?_eq_none (l := a) (by omega)]
    by_cases h2 : i - a.length = 0
    · rw [h2]; rfl
    · rw [List.getElem?_eq_none (by simp; omega)]
theorem least_getD : ∀ (a : List Int) (i : Nat), (least a).getD i 0 = a.getD i 0 := by
  refine snoc_ind (fun _ => rfl) fun a x ih i => ?_
  by_cases h : x = 0
  · subst h; rw [least_snoc0, ih, getD_snoc0]
  · rw [least_snoc a h]
/-- two that are alike at each place but 0 behind -/
theorem least_eq {a b : List Int} (h : ∀ i, a.getD i 0 = b.getD i 0) : least a = least b := by
  have key : ∀ {a b : List Int}, isLeast a → isLeast b → (∀ i, a.getD i 0 = b.getD i 0) → a.length ≤ b.length → a = b := by
    intro a b ha hb h hl
    have e : a.length = b.length := by
      by_cases q : a.length = b.length
      · exact q
      · exfalso
        have hlt : b.length - 1 < b.length := by omega
        have h1 := h (b.length - 1)
        rw [List.getD_eq_getElem?_getD, List.getD_eq_getElem?_getD, List.getElem?_eq_none (l := a) (by omega), List.getElem?_eq_getElem hlt] at h1
        refine hb ?_
        rw [List.getLast?_eq_getElem?, List.getElem?_eq_getElem hlt]
        exact congrArg some h1.symm
    refine List.ext_getElem e fun i h1 h2 => ?_
    have := h i
    rw [List.getD_eq_getElem?_getD, List.getD_eq_getElem?_getD, List.getElem?_eq_getElem h1, List.getElem?_eq_getElem h2] at this
    exact this
  have h' : ∀ i, (least a).getD i 0 = (least b).getD i 0 := fun i => by rw [least_getD, least_getD, h]
  rcases Nat.le_total (least a).length (least b).length with q | q
  · exact key (least_isLeast a) (least_isLeast b) h' q
  · exact (key (least_isLeast b) (least_isLeast a) (fun i => (h' i).symm) q).symm
theorem ev_getD {a b : List Int} (h : ∀ i, a.getD i 0 = b.getD i 0) : ev a = ev b := by
  have hl : ∀ c : List Int, ev c = ev (co (ev c) (a.length + b.length + c.length)) := fun c => (ev_co _ ((Dg.ev c).le (by omega))).symm
  have e : ∀ L, co (ev a) L = co (ev b) L := fun L => by
    unfold co
    exact List.map_congr_left fun i _ => by rw [coef, coef, h]
  have d1 : Dg (a.length + b.length) (ev a) := (Dg.ev a).le (by omega)
  have d2 : Dg (a.length + b.length) (ev b) := (Dg.ev b).le (by omega)
  rw [← ev_co _ d1, ← ev_co _ d2, e]
theorem ev_least (a : List Int) : ev (least a) = ev a := ev_getD (least_getD a)
/-- by their values alone -/
theorem by_values {a b : List Int} (ha : isLeast a) (hb : isLeast b) (h : ev a = ev b) : a = b := by
  rw [← least_of ha, ← least_of hb]
  exact least_eq fun i => by rw [← coef, ← coef, h]
theorem least_co {f : Int → Int} {L : Nat} (h : Dg L f) {a : List Int} (ha : isLeast a) (e : ev a = f) : least (co f L) = a :=
  by_values (least_isLeast _) ha (by rw [ev_least, ev_co L h, e])
/-! ### the differences of a row -/
def diffs : List Int → List Int
  | x :: y :: r => (y - x) :: diffs (y :: r)
  | _ => []
theorem diffs_len : ∀ l : List Int, (diffs l).length = l.length - 1
  | [] => rfl
  | [_] => rfl
  | x :: y :: r => by
    have := diffs_len (y :: r)
    simp only [diffs, List.length_cons] at *
    omega
def newt : Nat → List Int → List Int
  | k + 1, x :: r => x :: newt k (diffs (x :: r))
  | _, _ => []
theorem diffs_map (f : Int → Int) : ∀ (L s : Nat), diffs ((List.range' s (L + 1)).map fun i => f (i : Nat)) = (List.range' s L).map fun i => dl f (i : Nat)
  | 0, s => rfl
  | L + 1, s => by
    have ih := diffs_map f L (s + 1)
    rw [List.range'_succ, List.range'_succ, List.map_cons, List.map_cons]
    show (f ((s + 1 : Nat) : Int) - f s) :: diffs (f ((s + 1 : Nat) : Int) :: (List.range' (s + 1 + 1) L).map fun i => f (i : Nat)) = _
    have e : f ((s + 1 : Nat) : Int) :: (List.range' (s + 1 + 1) L).map (fun i => f ((i : Nat) : Int)) = (List.range' (s + 1) (L + 1)).map fun i => f ((i : Nat) : Int) := by rw [List.range'_succ, List.map_cons]
    rw [e, ih, List.range'_succ, List.map_cons]
    rfl
theorem newt_co : ∀ (L : Nat) (f : Int → Int), newt L ((List.range' 0 L).map fun i => f (i : Nat)) = co f L
  | 0, f => rfl
  | L + 1, f => by
    rw [co_succ, ← newt_co L (dl f), ← diffs_map f L 0, List.range'_succ, List.map_cons]
    rfl
/-- poly_of of values -/
theorem of_values {f : Int → Int} {L : Nat} (h : Dg L f) : ev (least (newt L ((List.range' 0 L).map fun i => f (i : Nat)))) = f := by
  rw [newt_co, ev_least, ev_co L h]
end PM
/-! RootM: whole roots by differences. -/
namespace PM
/-! ### no root far off -/
theorem ch_grow {n : Int} {k L M : Nat} (hk : k + 1 ≤ L) (hn : L * (M + 1) + L ≤ n.natAbs) : (M + 1) * (ch n k).natAbs ≤ (ch n (k + 1)).natAbs := by
  have h := congrArg Int.natAbs (ch_succ n k)
  rw [Int.natAbs_mul, Int.natAbs_mul] at h
  have e1 : ((k : Int) + 1).natAbs = k + 1 := by omega
  rw [e1] at h
  have h2 : (k + 1) * (M + 1) ≤ (n - (k : Int)).natAbs := by
    have : (k + 1) * (M + 1) ≤ L * (M + 1) := Nat.mul_le_mul_right _ hk
    generalize (k + 1) * (M + 1) = z at *
    generalize L * (M + 1) = y at *
    omega
  refine Nat.le_of_mul_le_mul_left ?_ (show 0 < k + 1 by omega)
  rw [h, ← Nat.mul_assoc, Nat.mul_comm (ch n k).natAbs]
  exact Nat.mul_le_mul_right _ h2
theorem evF_far {n : Int} {L M : Nat} (hn : L * (M + 1) + L ≤ n.natAbs) : ∀ (r : List Int) (k : Nat) (acc : Int), r ≠ [] → r.getLast? ≠ some 0 → (∀ x ∈ r, x.natAbs ≤ M) → k + r.length ≤ L → acc.natAbs < (ch n k).natAbs → acc + evF k r n ≠ 0
  | [], _, _, h, _, _, _, _ => absurd rfl h
  | [x], k, acc, _, hl, hM, hk, hacc => by
    have x0 : x ≠ 0 := fun e => hl (by rw [e]; rfl)
    show acc + (x * ch n k + 0) ≠ 0
    intro e
    have e1 : acc = -(x * ch n k) := by omega
    rw [e1, Int.natAbs_neg, Int.natAbs_mul] at hacc
    have : 1 * (ch n k).natAbs ≤ x.natAbs * (ch n k).natAbs := Nat.mul_le_mul_right _ (by omega)
    omega
  | x :: y :: t, k, acc, _, hl, hM, hk, hacc => by
    have e : acc + evF k (x :: y :: t) n = (acc + x * ch n k) + evF (k + 1) (y :: t) n := by
      show acc + (x * ch n k + evF (k + 1) (y :: t) n) = _
      omega
    rw [e]
    rw [List.length_cons] at hk
    refine evF_far hn (y :: t) (k + 1) _ (by simp) (by simpa using hl) (fun z hz => hM z (List.mem_cons_of_mem _ hz)) (by omega) ?_
    have g := ch_grow (n := n) (k := k) (L := L) (M := M) (by rw [List.length_cons] at hk; omega) hn
    have m := hM x List.mem_cons_self
    have q : (x * ch n k).natAbs ≤ M * (ch n k).natAbs := by rw [Int.natAbs_mul]; exact Nat.mul_le_mul_right _ m
    rw [Nat.succ_mul] at g
    generalize M * (ch n k).natAbs = w at *
    generalize x * ch n k = z at *
    omega
theorem no_root_far {a : List Int} (ha : isLeast a) (h0 : a ≠ []) {M : Nat} (hM : ∀ x ∈ a, x.natAbs ≤ M) {n : Int} (hn : a.length * (M + 1) + a.length ≤ n.natAbs) : ev a n ≠ 0 := by
  have := evF_far hn a 0 0 h0 ha hM (by omega) (by rw [ch_zero]; decide)
  rwa [Int.zero_add] at this
/-! ### one way -/
def Mono (f : Int → Int) (l h : Int) : Prop := (∀ x y, l ≤ x → x ≤ y → y ≤ h → f x ≤ f y) ∨ (∀ x y, l ≤ x → x ≤ y → y ≤ h → f y ≤ f x)
def Sg (g : Int → Int) (l h : Int) : Prop := (∀ x, l ≤ x → x < h → 0 ≤ g x) ∨ (∀ x, l ≤ x → x < h → g x ≤ 0)
theorem up_of {f : Int → Int} {l h : Int} (q : ∀ x, l ≤ x → x < h → 0 ≤ dl f x) : ∀ (k : Nat) (x : Int), l ≤ x → x + k ≤ h → f x ≤ f (x + k)
  | 0, x, _, _ => by rw [show x + ((0 : Nat) : Int) = x by omega]; exact Int.le_refl _
  | k + 1, x, h1, h2 => by
    have ih := up_of q k x h1 (by omega)
    have := q (x + k) (by omega) (by omega)
    unfold dl at this
    rw [show x + ((k + 1 : Nat) : Int) = x + (k : Int) + 1 by omega]
    omega
theorem mono_of {f : Int → Int} {l h : Int} (s : Sg (dl f) l h) : Mono f l h := by
  rcases s with s | s
  · refine .inl fun x y h1 h2 h3 => ?_
    have := up_of s (y - x).toNat x h1 (by omega)
    rwa [show x + ((y - x).toNat : Int) = y by omega] at this
  · refine .inr fun x y h1 h2 h3 => ?_
    have := up_of (f := fun n => - f n) (l := l) (h := h) (fun x a b => by have := s x a b; unfold dl at this ⊢; show 0 ≤ -f (x + 1) - -f x; omega) (y - x).toNat x h1 (by omega)
    rw [show x + ((y - x).toNat : Int) = y by omega] at this
    omega
/-- where it has turned -/
def Tn (f : Int → Int) (l h : Int) : Option Int → Prop
  | none => (∀ x, l ≤ x → x ≤ h → f x < 0) ∨ (∀ x, l ≤ x → x ≤ h → 0 < f x)
  | some r => (l ≤ r ∧ r ≤ h ∧ (r = l → f l = 0)) ∧ (((∀ x, l ≤ x → x < r → f x < 0) ∧ (∀ x, r ≤ x → x ≤ h → 0 ≤ f x)) ∨ ((∀ x, l ≤ x → x < r → 0 < f x) ∧ (∀ x, r ≤ x → x ≤ h → f x ≤ 0)))
/-! ### cuts -/
def Gap (cs : List Int) (u v : Int) : Prop := (u ∈ cs ∧ v ∈ cs ∧ u < v) ∧ ∀ w ∈ cs, ¬ (u < w ∧ w < v)
theorem gap_zip : ∀ {cs : List Int}, cs.Pairwise (· < ·) → ∀ u v, (u, v) ∈ List.zip cs (cs.drop 1) ↔ Gap cs u v
  | [], _, u, v => by simp [Gap]
  | [a], _, u, v => by simp only [List.drop_succ_cons, List.drop_zero, List.zip_nil_right, List.not_mem_nil, Gap, List.mem_singleton, false_iff]; omega
  | a :: b :: r, h, u, v => by
    obtain ⟨ha, h'⟩ := List.pairwise_cons.mp h
    obtain ⟨hb, _⟩ := List.pairwise_cons.mp h'
    have ih := gap_zip h' u v
    have ab := ha b List.mem_cons_self
    have e : List.zip (a :: b :: r) ((a :: b :: r).drop 1) = (a, b) :: List.zip (b :: r) ((b :: r).drop 1) := rfl
    rw [e, List.mem_cons, ih]
    have ge : ∀ w ∈ b :: r, b ≤ w := fun w hw => by
      rcases List.mem_cons.mp hw with rfl | hw
      · exact Int.le_refl _
      · exact Int.le_of_lt (hb w hw)
    constructor
    · rintro (e | ⟨⟨h1, h2, h3⟩, h4⟩)
      · cases e
        refine ⟨⟨List.mem_cons_self, List.mem_cons_of_mem _ List.mem_cons_self, ab⟩, fun w hw => ?_⟩
        rcases List.mem_cons.mp hw with rfl | hw
        · omega
        · have := ge w hw; omega
      · refine ⟨⟨List.mem_cons_of_mem _ h1, List.mem_cons_of_mem _ h2, h3⟩, fun w hw => ?_⟩
        rcases List.mem_cons.mp hw with rfl | hw
        · have := ha u h1; omega
        · exact h4 w hw
    · rintro ⟨⟨h1, h2, h3⟩, h4⟩
      rcases List.mem_cons.mp h1 with rfl | h1
      · left
        rcases List.mem_cons.mp h2 with rfl | h2
        · omega
        · have g := ge v h2
          have := h4 b (List.mem_cons_of_mem _ List.mem_cons_self)
          have : v = b := by omega
          rw [this]
      · right
        rcases List.mem_cons.mp h2 with e | h2
        · subst e; have := ha u (by assumption); omega
        · exact ⟨⟨h1, h2, h3⟩, fun w hw => h4 w (List.mem_cons_of_mem _ hw)⟩
theorem max_le (u : Int) : ∀ (l : List Int), (∃ c ∈ l, c ≤ u) → ∃ c ∈ l, c ≤ u ∧ ∀ w ∈ l, w ≤ u → w ≤ c
  | [], ⟨c, h, _⟩ => nomatch h
  | a :: l, h => by
    by_cases q : ∃ c ∈ l, c ≤ u
    · obtain ⟨c, h1, h2, h3⟩ := max_le u l q
      by_cases s : a ≤ u ∧ c ≤ a
      · exact ⟨a, List.mem_cons_self, s.1, fun w hw hu => by
          rcases List.mem_cons.mp hw with rfl | hw
          · exact Int.le_refl _
          · have := h3 w hw hu; omega⟩
      · exact ⟨c, List.mem_cons_of_mem _ h1, h2, fun w hw hu => by
          rcases List.mem_cons.mp hw with rfl | hw
          · omega
          · exact h3 w hw hu⟩
    · obtain ⟨c, h1, h2⟩ := h
      rcases List.mem_cons.mp h1 with rfl | h1
      · exact ⟨c, List.mem_cons_self, h2, fun w hw hu => by
          rcases List.mem_cons.mp hw with rfl | hw
          · exact Int.le_refl _
          · exact absurd ⟨w, hw, hu⟩ q⟩
      · exact absurd ⟨c, h1, h2⟩ q
theorem min_ge (u : Int) (l : List Int) (h : ∃ c ∈ l, u ≤ c) : ∃ c ∈ l, u ≤ c ∧ ∀ w ∈ l, u ≤ w → c ≤ w := by
  obtain ⟨c, h1, h2⟩ := h
  obtain ⟨d, d1, d2, d3⟩ := max_le (-u) (l.map fun x => -x) ⟨-c, List.mem_map.mpr ⟨c, h1, rfl⟩, by omega⟩
  obtain ⟨e, e1, rfl⟩ := List.mem_map.mp d1
  exact ⟨e, e1, by omega, fun w hw hu => by have := d3 (-w) (List.mem_map.mpr ⟨w, hw, rfl⟩) (by omega); omega⟩
structure Cuts (F : Int) (g : Int → Int) (cs : List Int) : Prop where
  srt : cs.Pairwise (· < ·)
  lo : -F ∈ cs
  hi : F ∈ cs
  bd : ∀ c ∈ cs, -F ≤ c ∧ c ≤ F
  mo : ∀ u v, Gap cs u v → Mono g u v
theorem Cuts.step {F : Int} {g G : Int → Int} {cs cs' : List Int} (h : Cuts F g cs) (hG : dl G = g) (hs : cs'.Pairwise (· < ·)) (ho : ∀ c ∈ cs, c ∈ cs') (hb : ∀ c ∈ cs', -F ≤ c ∧ c ≤ F)
    (ht : ∀ u v, Gap cs u v → ∃ o, Tn g u v o ∧ ∀ r, o = some r → r ∈ cs') : Cuts F G cs' := by
  refine ⟨hs, ho _ h.lo, ho _ h.hi, hb, fun u v ⟨⟨h1, h2, h3⟩, h4⟩ => mono_of ?_⟩
  rw [hG]
  obtain ⟨c, c1, c2, c3⟩ := max_le u cs ⟨-F, h.lo, (hb u h1).1⟩
  obtain ⟨d, d1, d2, d3⟩ := min_ge v cs ⟨F, h.hi, (hb v h2).2⟩
  have gp : Gap cs c d := ⟨⟨c1, d1, by omega⟩, fun w hw ⟨q1, q2⟩ => by
    by_cases e1 : w ≤ u
    · have := c3 w hw e1; omega
    · by_cases e2 : v ≤ w
      · have := d3 w hw e2; omega
      · exact h4 w (ho w hw) ⟨by omega, by omega⟩⟩
  obtain ⟨o, t, r1⟩ := ht c d gp
  cases o with
  | none =>
    rcases t with t | t
    · exact .inr fun x a b => Int.le_of_lt (t x (by omega) (by omega))
    · exact .inl fun x a b => Int.le_of_lt (t x (by omega) (by omega))
  | some r =>
    obtain ⟨_, t⟩ := t
    have hr := h4 r (r1 r rfl)
    by_cases e : r ≤ u
    · rcases t with ⟨_, t⟩ | ⟨_, t⟩
      · exact .inl fun x a b => t x (by omega) (by omega)
      · exact .inr fun x a b => t x (by omega) (by omega)
    · have e2 : v ≤ r := by omega
      rcases t with ⟨t, _⟩ | ⟨t, _⟩
      · exact .inr fun x a b => Int.le_of_lt (t x (by omega) (by omega))
      · exact .inl fun x a b => Int.le_of_lt (t x (by omega) (by omega))
/-- a number within is between two cuts -/
theorem Cuts.gap {F : Int} {g : Int → Int} {cs : List Int} (h : Cuts F g cs) {n : Int} (h1 : -F ≤ n) (h2 : n < F) : ∃ u v, Gap cs u v ∧ u ≤ n ∧ n < v := by
  obtain ⟨c, c1, c2, c3⟩ := max_le n cs ⟨-F, h.lo, h1⟩
  obtain ⟨d, d1, d2, d3⟩ := min_ge (n + 1) cs ⟨F, h.hi, by omega⟩
  refine ⟨c, d, ⟨⟨c1, d1, by omega⟩, fun w hw ⟨q1, q2⟩ => ?_⟩, c2, by omega⟩
  by_cases e : w ≤ n
  · have := c3 w hw e; omega
  · have := d3 w hw (by omega); omega
/-- zeros in a part that goes one way -/
theorem zeros_run {f : Int → Int} {l h r : Int} (t : Tn f l h (some r)) (m : Mono f l h) {n : Int} (h1 : l ≤ n) (h2 : n ≤ h) (z : f n = 0) : r ≤ n ∧ ∀ x, r ≤ x → x ≤ n → f x = 0 := by
  obtain ⟨⟨r1, r2, r0⟩, t⟩ := t
  have rn : r ≤ n := by
    rcases t with ⟨t, _⟩ | ⟨t, _⟩
    · exact Int.not_lt.mp fun q => by have := t n h1 q; omega
    · exact Int.not_lt.mp fun q => by have := t n h1 q; omega
  refine ⟨rn, fun y a b => ?_⟩
  by_cases e : r = l
  · have z0 := r0 e
    subst e
    rcases m with m | m
    · have q1 := m r y (Int.le_refl _) a (by omega)
      have q2 := m y n a b h2
      omega
    · have q1 := m r y (Int.le_refl _) a (by omega)
      have q2 := m y n a b h2
      omega
  · rcases t with ⟨t1, t2⟩ | ⟨t1, t2⟩
    · have y0 := t2 y a (by omega)
      have q1 := t1 l (Int.le_refl _) (by omega)
      rcases m with m | m
      · have := m y n (by omega) b h2; omega
      · have := m l y (Int.le_refl _) (by omega) (by omega); omega
    · have y0 := t2 y a (by omega)
      have q1 := t1 l (Int.le_refl _) (by omega)
      rcases m with m | m
      · have := m l y (Int.le_refl _) (by omega) (by omega); omega
      · have := m y n (by omega) b h2; omega
/-! ### how many roots -/
def pv : List Int → Int → Int
  | [], _ => 0
  | x :: r, n => x + n * pv r n
theorem lin_pv : ∀ (p : List Int) (c k : Int), ∃ q : List Int, q.length = p.length + 1 ∧ ∀ n, pv q n = c + (n - k) * pv p n
  | [], c, k => ⟨[c], rfl, fun n => by simp [pv]⟩
  | y :: p, c, k => by
    obtain ⟨q, h1, h2⟩ := lin_pv p y k
    refine ⟨(c - k * y) :: q, by rw [List.length_cons, h1, List.length_cons], fun n => ?_⟩
    show c - k * y + n * pv q n = c + (n - k) * (y + n * pv p n)
    rw [h2, Int.mul_add, Int.mul_add, Int.sub_mul, Int.sub_mul, Int.sub_mul, Int.mul_sub, Int.mul_left_comm n k, ← Int.mul_assoc n n]
    omega
theorem evF_pv : ∀ (r : List Int) (k : Nat), ∃ (D : Int) (p : List Int), 0 < D ∧ p.length = r.length ∧ ∀ n, D * evF k r n = ch n k * pv p n
  | [], k => ⟨1, [], by decide, rfl, fun n => by show 1 * 0 = ch n k * 0; rw [Int.mul_zero, Int.mul_zero]⟩
  | x :: r, k => by
    obtain ⟨D, p, h1, h2, h3⟩ := evF_pv r (k + 1)
    obtain ⟨q, g1, g2⟩ := lin_pv p (D * (k + 1) * x) k
    refine ⟨D * (k + 1), q, Int.mul_pos h1 (by omega), by rw [g1, List.length_cons, h2], fun n => ?_⟩
    show D * (k + 1) * (x * ch n k + evF (k + 1) r n) = _
    generalize hA : D * ((k : Int) + 1) = A at *
    rw [g2, Int.mul_add, Int.mul_add]
    have e1 : A * evF (k + 1) r n = ((k : Int) + 1) * (D * evF (k + 1) r n) := by
      rw [← hA, Int.mul_comm D, Int.mul_assoc]
    have e2 : ((k : Int) + 1) * (ch n (k + 1) * pv p n) = ch n k * ((n - k) * pv p n) := by
      rw [← Int.mul_assoc, ch_succ, Int.mul_assoc]
    rw [e1, h3, e2, ← Int.mul_assoc A, Int.mul_comm _ (ch n k)]
theorem syn : ∀ (p : List Int) (r : Int), ∃ q : List Int, q.length = p.length - 1 ∧ ∀ n, pv p n = (n - r) * pv q n + pv p r
  | [], r => ⟨[], rfl, fun n => by simp [pv]⟩
  | [x], r => ⟨[], rfl, fun n => by simp [pv]⟩
  | x :: y :: p, r => by
    obtain ⟨q, h1, h2⟩ := syn (y :: p) r
    refine ⟨pv (y :: p) r :: q, by rw [List.length_cons, h1]; rfl, fun n => ?_⟩
    show x + n * pv (y :: p) n = (n - r) * (pv (y :: p) r + n * pv q n) + (x + r * pv (y :: p) r)
    rw [h2 n, Int.mul_add, Int.mul_add, Int.sub_mul n r (pv (y :: p) r), Int.mul_left_comm n (n - r)]
    omega
theorem pv_zero : ∀ (L : Nat) {p : List Int} {zs : List Int}, p.length ≤ L → zs.Nodup → L ≤ zs.length → (∀ z ∈ zs, pv p z = 0) → ∀ n, pv p n = 0
  | 0, p, zs, hp, _, _, _, n => by
    rw [List.length_eq_zero_iff.mp (Nat.le_zero.mp hp)]; rfl
  | L + 1, p, [], hp, _, hl, _, n => by simp at hl
  | L + 1, p, r :: zs, hp, hn, hl, hz, n => by
    obtain ⟨q, h1, h2⟩ := syn p r
    have r0 := hz r List.mem_cons_self
    obtain ⟨nr, hn'⟩ := List.nodup_cons.mp hn
    have := pv_zero L (p := q) (zs := zs) (by omega) hn' (by rw [List.length_cons] at hl; omega) (fun z hz' => by
      have e := h2 z
      rw [hz z (List.mem_cons_of_mem _ hz'), r0, Int.add_zero] at e
      rcases Int.mul_eq_zero.mp e.symm with e | e
      · exact absurd hz' (by rw [show z = r by omega]; exact nr)
      · exact e) n
    rw [h2 n, this, r0, Int.mul_zero, Int.add_zero]
theorem root_count {a : List Int} (ha : isLeast a) (h0 : a ≠ []) {zs : List Int} (hn : zs.Nodup) (hz : ∀ z ∈ zs, ev a z = 0) : zs.length < a.length := by
  refine Nat.lt_of_not_le fun hl => h0 ?_
  obtain ⟨D, p, hD, h1, h2⟩ := evF_pv a 0
  have h2' : ∀ n, D * ev a n = pv p n := fun n => by rw [h2 n, ch_zero, Int.one_mul]
  have z := pv_zero a.length (p := p) (zs := zs) (by omega) hn hl fun z h => by rw [← h2', hz z h, Int.mul_zero]
  refine by_values ha (by unfold isLeast; simp) ?_
  funext n
  have := h2' n
  rw [z n] at this
  rcases Int.mul_eq_zero.mp this with e | e
  · omega
  · exact e
end PM
namespace DL
open PySem PySem.Spec PyProof.Rows L2
structure V {α : Type} (m : M α) (Q : α → Prop) : Prop where
  out : m.wp Q
section
variable {α β : Type} {Q R : α → Prop} {m : M α} {e : En}
theorem v_ret {a : α} : V (.ret a) Q ↔ Q a := ⟨fun h => h.out, fun h => ⟨h⟩⟩
theorem v_bad : V (.bad : M α) Q ↔ False := ⟨fun h => h.out, fun h => h.elim⟩
theorem v_bind {f : α → M β} {Q : β → Prop} : V (m.bind f) Q ↔ V m fun a => V (f a) Q :=
  ⟨fun h => ⟨M.wp_mono (fun a q => ⟨q⟩) (M.wp_bind.mp h.out)⟩, fun h => ⟨M.wp_bind.mpr (M.wp_mono (fun a q => q.out) h.out)⟩⟩
theorem V.mono (h : V m Q) (k : ∀ a, Q a → R a) : V m R := ⟨M.wp_mono k h.out⟩
theorem V.of_eq {a : α} (h : m = .ret a) (q : Q a) : V m Q := by rw [h]; exact ⟨q⟩
/-- it comes to a -/
def Is (m : M α) (a : α) : Prop := V m fun x => x = a
theorem Is.of_eq {a : α} (h : m = .ret a) : Is m a := by rw [h]; exact ⟨rfl⟩
theorem V.of {a : α} (h : Is m a) (q : Q a) : V m Q := h.mono fun x e => by rw [e]; exact q
theorem v_ite {p : Prop} [Decidable p] {a b : M α} : V (if p then a else b) Q ↔ (p → V a Q) ∧ (¬ p → V b Q) := by
  by_cases h : p
  · rw [if_pos h]; exact ⟨fun x => ⟨fun _ => x, fun n => absurd h n⟩, fun x => x.1 h⟩
  · rw [if_neg h]; exact ⟨fun x => ⟨fun n => absurd n h, fun _ => x⟩, fun x => x.2 h⟩
/-- must hold -/
theorem v_must {p : Prop} [Decidable p] {a : M α} : V (if p then a else .bad) Q ↔ p ∧ V a Q := by
  by_cases h : p
  · rw [if_pos h]; exact ⟨fun x => ⟨h, x⟩, fun x => x.2⟩
  · rw [if_neg h]; exact ⟨fun x => (v_bad.mp x).elim, fun x => absurd x.1 h⟩
theorem v_pick {n : Int} {k : Int → M α} : V (.pick n k) Q ↔ ∀ i : Int, 0 ≤ i → i < max 1 n → V (k i) Q :=
  ⟨fun h i a b => ⟨h.out i a b⟩, fun h => ⟨fun i a b => (h i a b).out⟩⟩
end
/-! ### conditions kept shut -/
def LnOk (n : Nat) : Prop := n ≤ sizeLine
theorem lnOk {n : Nat} (h : n ≤ 1000000) : LnOk n := by unfold LnOk; rw [sizeLine_eq]; omega
def InB (i : Int) : Prop := inB i = true
theorem inBk {i : Int} (h0 : -1000000000 ≤ i) (h1 : i ≤ 1000000000) : InB i := by
  refine decide_eq_true ?_
  by_cases h0 : i.natAbs = 0
  · rw [h0]; decide
  · exact (Nat.log2_lt h0).mpr (by omega)
def MulOk (i j : Int) : Prop := mulOk i j = true
theorem mulOk_l {i j : Int} (h : Sm 64 i) : MulOk i j := by
  unfold MulOk mulOk
  have q : decide (i.natAbs.log2 < 64) = true := decide_eq_true (h.log (by decide))
  rw [q]; simp
theorem mulOk_r' {i j : Int} (h : Sm 64 j) : MulOk i j := mulOk_r h
theorem mulOk_s {a b : Nat} {i j : Int} (h1 : Sm a i) (h2 : Sm b j) (ha : a ≤ 999999) (hb : b ≤ 999999) : MulOk i j := mulOk_sm h1 h2 ha hb
section
variable {e : En} {Q : PyData → Prop} {QL : List PyData → Prop} {QB : Bool → Prop} {QE : En → Prop} {QS : Fl × En → Prop} {QI : Int → Prop}
/-! ### expressions -/
theorem v_c {d : PyData} : V (cC d e) Q ↔ Q d := v_ret
theorem v_var0 {d : PyData} : V (cVar 0 (.val d :: e)) Q ↔ Q d := v_ret
theorem v_varS {i : Nat} {s : Sl} : V (cVar (i + 1) (s :: e)) Q ↔ V (cVar i e) Q := Iff.rfl
theorem v_peek0 {d : PyData} : V (cPeek 0 (.val d :: e)) Q ↔ Q d := v_ret
theorem v_peek1 {ds : List PyData} : V (cPeek 0 (.own ds :: e)) Q ↔ Q (.list ds) := v_ret
theorem v_peek2 {kvs : List (PyData × PyData)} : V (cPeek 0 (.ownD kvs :: e)) Q ↔ Q (.dict kvs) := v_ret
theorem v_peekS {i : Nat} {s : Sl} : V (cPeek (i + 1) (s :: e)) Q ↔ V (cPeek i e) Q := Iff.rfl
theorem v_op2 {m : PyData → PyData → M PyData} {a b : CE} : V (cOp2 m a b e) Q ↔ V (a e) fun x => V (b e) fun y => V (m x y) Q := by
  unfold cOp2; rw [v_bind]; simp only [v_bind]
theorem v_op1 {m : PyData → M PyData} {a : CE} : V (cOp1 m a e) Q ↔ V (a e) fun x => V (m x) Q := by
  unfold cOp1; rw [v_bind]
/-- by a truth -/
def Br (k : Bool) (A B : Prop) : Prop := (k = true → A) ∧ (k = false → B)
theorem br_t {A B : Prop} : Br true A B ↔ A := by simp [Br]
theorem br_f {A B : Prop} : Br false A B ↔ B := by simp [Br]
theorem br_d {p : Prop} [Decidable p] {A B : Prop} : Br (decide p) A B ↔ (p → A) ∧ (¬ p → B) := by
  unfold Br
  simp
theorem br_n {k : Bool} {A B : Prop} : Br (!k) A B ↔ Br k B A := by
  cases k <;> simp [Br]
theorem v_br {k : Bool} {α : Type} {a b : M α} {Q : α → Prop} : V (if k = true then a else b) Q ↔ Br k (V a Q) (V b Q) := by
  cases k <;> simp [Br]
theorem v_cIf {t : CT} {a b : CE} : V (cIf t a b e) Q ↔ V (t e) fun k => Br k (V (a e) Q) (V (b e) Q) := by
  unfold cIf; rw [v_bind]; simp only [v_br]
theorem v_asB {b : Bool} : V (asB (.bool b)) QB ↔ QB b := v_ret
theorem v_ctV {c : CE} : V (ctV c e) QB ↔ V (c e) fun x => V (asB x) QB := by unfold ctV; rw [v_bind]
theorem v_ctNot {t : CT} : V (ctNot t e) QB ↔ V (t e) fun k => QB (!k) := by unfold ctNot; rw [v_bind]; simp only [v_ret]
theorem v_ctAnd {a b : CT} : V (ctAnd a b e) QB ↔ V (a e) fun k => Br k (V (b e) QB) (QB false) := by unfold ctAnd; rw [v_bind]; simp only [v_br, v_ret]
theorem v_ctOr {a b : CT} : V (ctOr a b e) QB ↔ V (a e) fun k => Br k (QB true) (V (b e) QB) := by unfold ctOr; rw [v_bind]; simp only [v_br, v_ret]
theorem v_ctYes : V (ctYes e) QB ↔ QB true := v_ret
theorem v_cNot {c : CE} : V (cNot c e) Q ↔ V (c e) fun x => V (asB x) fun k => Q (.bool (!k)) := by unfold cNot; rw [v_bind]; simp only [v_bind, v_ret]
theorem v_cAnd {a b : CE} : V (cAnd a b e) Q ↔ V (a e) fun x => V (asB x) fun k => Br k (V (b e) Q) (Q (.bool false)) := by unfold cAnd; rw [v_bind]; simp only [v_bind, v_br, v_ret]
theorem v_cOr {a b : CE} : V (cOr a b e) Q ↔ V (a e) fun x => V (asB x) fun k => Br k (Q (.bool true)) (V (b e) Q) := by unfold cOr; rw [v_bind]; simp only [v_bind, v_br, v_ret]
theorem v_caNil : V (caNil e) QL ↔ QL [] := v_ret
theorem v_caCons {a : CE} {r : CL} : V (caCons a r e) QL ↔ V (a e) fun x => V (r e) fun xs => QL (x :: xs) := by unfold caCons; rw [v_bind]; simp only [v_bind, v_ret]
theorem v_caStar {a : CE} {r : CL} : V (caStar a r e) QL ↔ V (a e) fun x => V (itemsOf x) fun ys => V (r e) fun xs => QL (ys ++ xs) := by unfold caStar; rw [v_bind]; simp only [v_bind, v_ret]
theorem fits_ln {xs : List PyData} : fits xs = true ↔ LnOk xs.length := by unfold fits LnOk; exact decide_eq_true_iff
theorem v_cTup {a : CL} : V (cTup a e) Q ↔ V (a e) fun xs => LnOk xs.length ∧ Q (.tuple xs) := by unfold cTup; rw [v_bind]; simp only [v_must, v_ret, fits_ln]
theorem v_clDisp {a : CL} : V (clDisp a e) QL ↔ V (a e) fun xs => LnOk xs.length ∧ QL xs := by unfold clDisp; rw [v_bind]; simp only [v_must, v_ret, fits_ln]
theorem v_cFz {c : CL} : V (cFz c e) Q ↔ V (c e) fun xs => Q (.list xs) := by unfold cFz; rw [v_bind]; simp only [v_ret]
theorem v_cCall {f : FD} {a : CL} : V (cCall f a e) Q ↔ V (a e) fun ds => V (f ds) Q := by unfold cCall; rw [v_bind]
theorem v_callS0 {f : FD} {a : CL} {e' : En} : V (cCallS 0 f a (.src :: e)) Q ↔ V (a (.src :: e)) fun ds => V (f ds) Q := by
  show V ((a (.src :: e)).bind f) Q ↔ _
  rw [v_bind]
theorem v_callS {i : Nat} {f : FD} {a : CL} : V (cCallS i f a e) Q ↔ e[i]? = some .src ∧ V (a e) fun ds => V (f ds) Q := by
  unfold cCallS
  by_cases h : e[i]? = some .src
  · rw [h]; show V ((a e).bind f) Q ↔ _; rw [v_bind]; exact ⟨fun x => ⟨rfl, x⟩, fun x => x.2⟩
  · refine ⟨fun x => ?_, fun x => absurd x.1 h⟩
    split at x
    · rename_i q; exact absurd q h
    · exact (v_bad.mp x).elim
theorem v_itemsL {xs : List PyData} : V (itemsOf (.list xs)) QL ↔ QL xs := v_ret
theorem v_itemsT {xs : List PyData} : V (itemsOf (.tuple xs)) QL ↔ QL xs := v_ret
theorem v_ciSeq {c : CE} : V (ciSeq c e) QL ↔ V (c e) fun d => V (itemsOf d) QL := by unfold ciSeq; rw [v_bind]
theorem v_asI {i : Int} : V (asI (.int i)) QI ↔ QI i := v_ret
theorem v_range1 {a : CE} : V (ciRange1 a e) QL ↔ V (a e) fun x => V (asI x) fun n => InB n ∧ QL (DL.intsFrom 0 n.toNat) := by
  unfold ciRange1; rw [v_bind]; simp only [v_bind, v_must, v_ret]; rfl
theorem v_range2 {a b : CE} : V (ciRange2 a b e) QL ↔ V (a e) fun x => V (b e) fun y => V (asI x) fun l => V (asI y) fun n => (InB l ∧ InB n) ∧ QL (DL.intsFrom l (n - l).toNat) := by
  unfold ciRange2; rw [v_bind]; simp only [v_bind, v_must, v_ret, Bool.and_eq_true]; rfl
def RgB (l n : Int) : Prop := rgB l n = true
theorem rgBk {l n : Int} (h1 : -1000000000 ≤ l) (h2 : l ≤ 1000000000) (h3 : -1000000000 ≤ n) (h4 : n ≤ 1000000000) (h : n - l ≤ 1000000) : RgB l n := by
  unfold RgB rgB
  rw [inBk h1 h2, inBk h3 h4, decide_eq_true (by omega)]; rfl
theorem v_clRg1 {a : CE} : V (clRg1 a e) QL ↔ V (a e) fun x => V (asI x) fun n => RgB 0 n ∧ QL (DL.intsFrom 0 n.toNat) := by
  unfold clRg1; rw [v_bind]; simp only [v_bind, v_must, v_ret]; rfl
theorem v_clRg2 {a b : CE} : V (clRg2 a b e) QL ↔ V (a e) fun x => V (b e) fun y => V (asI x) fun l => V (asI y) fun n => RgB l n ∧ QL (DL.intsFrom l (n - l).toNat) := by
  unfold clRg2; rw [v_bind]; simp only [v_bind, v_must, v_ret]; rfl
theorem v_ciEnum {c : CE} : V (ciEnum c e) QL ↔ V (c e) fun d => V (itemsOf d) fun ds => QL (enumD ds) := by
  unfold ciEnum; rw [v_bind]; simp only [v_bind, v_ret]
theorem v_ciZip0 {a b : CE} : V (ciZip false a b e) QL ↔ V (a e) fun x => V (b e) fun y => V (itemsOf x) fun xs => V (itemsOf y) fun ys => QL (zipD xs ys) := by
  unfold ciZip; rw [v_bind]; simp only [v_bind, v_ret, Bool.not_false, Bool.true_or, if_true]
theorem v_ciZip1 {a b : CE} : V (ciZip true a b e) QL ↔ V (a e) fun x => V (b e) fun y => V (itemsOf x) fun xs => V (itemsOf y) fun ys => xs.length = ys.length ∧ QL (zipD xs ys) := by
  unfold ciZip; rw [v_bind]; simp only [v_bind, v_must, v_ret, Bool.not_true, Bool.false_or, decide_eq_true_eq]
theorem v_clOf {c : CE} : V (clOf c e) QL ↔ V (c e) fun d => V (itemsOf d) QL := by unfold clOf; rw [v_bind]
theorem v_optN {QO : Option Int → Prop} : V (optI none e) QO ↔ QO none := v_ret
theorem v_optS {c : CE} {QO : Option Int → Prop} : V (optI (some c) e) QO ↔ V (c e) fun d => V (asI d) fun i => QO (some i) := by
  unfold optI; rw [v_bind]; simp only [v_bind, v_ret]
theorem v_cSl {c : CE} {lo hi : Option CE} : V (cSl c lo hi e) Q ↔ V (c e) fun x => V (optI lo e) fun l => V (optI hi e) fun h => V (mSl x l h) Q := by
  unfold cSl; rw [v_bind]; simp only [v_bind]
theorem v_mSlL {xs : List PyData} {lo hi : Option Int} : V (mSl (.list xs) lo hi) Q ↔ Q (.list (cutD xs lo hi)) := v_ret
theorem v_mSlT {xs : List PyData} {lo hi : Option Int} : V (mSl (.tuple xs) lo hi) Q ↔ Q (.tuple (cutD xs lo hi)) := v_ret
theorem v_clRev {c : CE} : V (clRev c e) QL ↔ V (c e) fun d => V (itemsOf d) fun xs => (∃ ys, d = .list ys) ∧ QL xs.reverse := by
  unfold clRev; rw [v_bind]
  constructor
  · intro h; refine h.mono fun d q => ?_
    cases d <;> first | exact (v_bad.mp q).elim | exact ⟨⟨_, rfl⟩, v_ret.mp q⟩
  · intro h; refine h.mono fun d q => ?_
    cases d with
    | list xs => exact v_ret.mpr (v_itemsL.mp q).2
    | tuple xs => obtain ⟨⟨ys, h⟩, _⟩ := v_itemsT.mp q; cases h
    | _ => exact q.out.elim
theorem v_isT {T : String} {c : CE} : V (cIsT T c e) Q ↔ V (c e) fun x => V (mIsT T x) Q := v_op1
theorem isT_tt {xs : List PyData} : V (mIsT "tuple" (.tuple xs)) Q ↔ Q (.bool true) := by
  have k1 : kitB "tuple" "tuple" = some true := by decide +kernel
  unfold mIsT tyN
  simp only [k1, v_ret]
theorem v_comp {vs : List Nat} {ci : CL} {g : CG} {t : CT} {c : CE} : V (clComp vs ci g t c e) QL ↔ V (ci e) fun ds => LnOk ds.length ∧ V (compGo g t c (wipeE e vs) ds) QL := by
  unfold clComp; rw [v_bind]; simp only [v_must, fits_ln]
/-! ### targets -/
theorem v_gSet {i : Nat} {d : PyData} : V (gSet i e d) QE ↔ QE (e.set i (.val d)) := v_ret
theorem v_gTup {gs : List CG} {ds : List PyData} : V (gTup gs e (.tuple ds)) QE ↔ V (gGo gs e ds) QE := Iff.rfl
theorem v_gSeqT {gs : List CG} {ds : List PyData} : V (gSeq gs e (.tuple ds)) QE ↔ V (gGo gs e ds) QE := Iff.rfl
theorem v_gSeqL {gs : List CG} {ds : List PyData} : V (gSeq gs e (.list ds)) QE ↔ V (gGo gs e ds) QE := Iff.rfl
theorem v_gGo0 : V (gGo [] e []) QE ↔ QE e := v_ret
theorem v_gGoS {g : CG} {gs : List CG} {d : PyData} {ds : List PyData} : V (gGo (g :: gs) e (d :: ds)) QE ↔ V (g e d) fun e' => V (gGo gs e' ds) QE := by
  show V ((g e d).bind fun e' => gGo gs e' ds) QE ↔ _
  rw [v_bind]
/-! ### statements -/
def sK (b : CS) (Q : Fl × En → Prop) : Fl × En → Prop
  | (.nx, e) => V (b e) Q
  | r => Q r
theorem sK_nx {b : CS} : sK b QS (.nx, e) ↔ V (b e) QS := Iff.rfl
theorem sK_rt {b : CS} {d : PyData} : sK b QS (.rt d, e) ↔ QS (.rt d, e) := Iff.rfl
theorem sK_bk {b : CS} : sK b QS (.bk, e) ↔ QS (.bk, e) := Iff.rfl
theorem sK_ct {b : CS} : sK b QS (.ct, e) ↔ QS (.ct, e) := Iff.rfl
theorem v_sSeq {a b : CS} : V (sSeq a b e) QS ↔ V (a e) (sK b QS) := by
  unfold sSeq
  rw [v_bind]
  constructor
  · intro h
    refine h.mono fun r q => ?_
    obtain ⟨f, e1⟩ := r
    cases f with
    | nx => exact q
    | bk => exact q.out
    | ct => exact q.out
    | rt d => exact q.out
  · intro h
    refine h.mono fun r q => ?_
    obtain ⟨f, e1⟩ := r
    cases f with
    | nx => exact q
    | bk => exact ⟨q⟩
    | ct => exact ⟨q⟩
    | rt d => exact ⟨q⟩
theorem v_sNil : V (sNil e) QS ↔ QS (.nx, e) := v_ret
theorem v_sCont : V (sCont e) QS ↔ QS (.ct, e) := v_ret
theorem v_sBrk : V (sBrk e) QS ↔ QS (.bk, e) := v_ret
theorem v_sSet {i : Nat} {c : CE} : V (sSet i c e) QS ↔ V (c e) fun d => QS (.nx, e.set i (.val d)) := by unfold sSet; rw [v_bind]; simp only [v_ret]
theorem v_sOwn {i : Nat} {c : CL} : V (sOwn i c e) QS ↔ V (c e) fun ds => QS (.nx, e.set i (.own ds)) := by unfold sOwn; rw [v_bind]; simp only [v_ret]
theorem v_sRet {c : CE} : V (sRet c e) QS ↔ V (c e) fun d => QS (.rt d, e) := by unfold sRet; rw [v_bind]; simp only [v_ret]
theorem v_sDrop {c : CE} : V (sDrop c e) QS ↔ V (c e) fun d => QS (.nx, e) := by unfold sDrop; rw [v_bind]; simp only [v_ret]
theorem v_sIf {t : CT} {a b : CS} : V (sIf t a b e) QS ↔ V (t e) fun k => Br k (V (a e) QS) (V (b e) QS) := by unfold sIf; rw [v_bind]; simp only [v_br]
/-- if t: return .. - that does not come -/
theorem V_chk {t : CT} {a b : CS} (h : V (t e) fun k => Br k False True) (q : V (b e) QS) : V (sSeq (sIf t a sNil) b e) QS := by
  rw [v_sSeq, v_sIf]
  exact h.mono fun k hk => by
    cases k with
    | true => exact (br_t.mp hk).elim
    | false => exact br_f.mpr (v_sNil.mpr q)
theorem V_chkI {t : CT} {a : CS} (h : V (t e) fun k => Br k False True) (q : QS (.nx, e)) : V (sIf t a sNil e) QS := by
  rw [v_sIf]
  exact h.mono fun k hk => by
    cases k with
    | true => exact (br_t.mp hk).elim
    | false => exact br_f.mpr (v_sNil.mpr q)
theorem V_cut {a b : CS} (R : Fl × En → Prop) (h : V (a e) R) (q : ∀ r, R r → sK b QS r) : V (sSeq a b e) QS := by
  rw [v_sSeq]
  exact h.mono q
def FzK (i : Nat) (r : CS) (e : En) (Q : Fl × En → Prop) : Option Sl → Prop
  | some (.own ds) => V (r (e.set i (.val (.list ds)))) Q
  | some (.ownD kvs) => V (r (e.set i (.val (.dict kvs)))) Q
  | some (.val _) => V (r e) Q
  | _ => False
theorem v_sFrzT {i : Nat} {r : CS} : V (sFrzT i r e) QS ↔ FzK i r e QS e[i]? := by
  unfold sFrzT
  cases h : e[i]? with
  | none => exact v_bad
  | some s => cases s <;> first | exact Iff.rfl | exact v_bad
theorem fz_own {i : Nat} {r : CS} {ds : List PyData} : FzK i r e QS (some (.own ds)) ↔ V (r (e.set i (.val (.list ds)))) QS := Iff.rfl
theorem fz_ownD {i : Nat} {r : CS} {kvs : List (PyData × PyData)} : FzK i r e QS (some (.ownD kvs)) ↔ V (r (e.set i (.val (.dict kvs)))) QS := Iff.rfl
theorem fz_val {i : Nat} {r : CS} {d : PyData} : FzK i r e QS (some (.val d)) ↔ V (r e) QS := Iff.rfl
theorem v_sAsg {g : CG} {c : CE} : V (sAsg g c e) QS ↔ V (c e) fun d => V (g e d) fun e' => QS (.nx, e') := by unfold sAsg; rw [v_bind]; simp only [v_bind, v_ret]
theorem v_sAug {i : Nat} {m : PyData → PyData → M PyData} {c : CE} : V (sAug i m c e) QS ↔ V (cVar i e) fun x => V (c e) fun y => V (m x y) fun d => QS (.nx, e.set i (.val d)) := by unfold sAug; rw [v_bind]; simp only [v_bind, v_ret]
theorem v_sPar {i j : Nat} {a b : CX2} : V (sPar i j a b e) QS ↔ V (a e) fun x => V (b e) fun y => QS (.nx, (e.set i x).set j y) := by unfold sPar; rw [v_bind]; simp only [v_bind, v_ret]
theorem v_sPar3 {i j l : Nat} {a b c : CX2} : V (sPar3 i j l a b c e) QS ↔ V (a e) fun x => V (b e) fun y => V (c e) fun z => QS (.nx, ((e.set i x).set j y).set l z) := by unfold sPar3; rw [v_bind]; simp only [v_bind, v_ret]
theorem v_xV {c : CE} {QX : Sl → Prop} : V (xV c e) QX ↔ V (c e) fun d => QX (.val d) := by unfold xV; rw [v_bind]; simp only [v_ret]
theorem v_xO {c : CL} {QX : Sl → Prop} : V (xO c e) QX ↔ V (c e) fun d => QX (.own d) := by unfold xO; rw [v_bind]; simp only [v_ret]
def ApK (Q : List PyData → Prop) : Option Sl → Prop
  | some (.own ds) => Q ds
  | _ => False
theorem ap_own {ds : List PyData} : ApK QL (some (.own ds)) ↔ QL ds := Iff.rfl
theorem v_sAppend {i : Nat} {c : CE} : V (sAppend i c e) QS ↔ ApK (fun ds => V (c e) fun d => LnOk (ds.length + 1) ∧ QS (.nx, e.set i (.own (ds ++ [d])))) e[i]? := by
  unfold sAppend ApK
  cases h : e[i]? with
  | none => exact v_bad
  | some s =>
    cases s with
    | own ds =>
      show V ((c e).bind _) QS ↔ _
      rw [v_bind]
      simp only [h, v_must, v_ret]
      exact Iff.rfl
    | _ => exact v_bad
theorem v_sExtend {i : Nat} {c : CE} : V (sExtend i c e) QS ↔ ApK (fun ds => V (c e) fun d => V (itemsOf d) fun xs => LnOk (ds.length + xs.length) ∧ QS (.nx, e.set i (.own (ds ++ xs)))) e[i]? := by
  unfold sExtend ApK
  cases h : e[i]? with
  | none => exact v_bad
  | some s =>
    cases s with
    | own ds =>
      show V ((c e).bind _) QS ↔ _
      rw [v_bind]
      simp only [v_bind, v_must, v_ret]
      exact Iff.rfl
    | _ => exact v_bad
theorem v_sPop {i : Nat} : V (sPop i e) QS ↔ ApK (fun ds => ds ≠ [] ∧ QS (.nx, e.set i (.own ds.dropLast))) e[i]? := by
  unfold sPop ApK
  cases h : e[i]? with
  | none => exact v_bad
  | some s =>
    cases s with
    | own ds =>
      cases ds with
      | nil => exact ⟨fun h => (v_bad.mp h).elim, fun h => absurd rfl h.1⟩
      | cons d ds => exact ⟨fun h => ⟨by simp, v_ret.mp h⟩, fun h => v_ret.mpr h.2⟩
    | _ => exact v_bad
theorem v_sFor {ci : CL} {g : CG} {b : CS} : V (sFor ci g b e) QS ↔ V (ci e) fun ds => V (forGo g b ds e) QS := by unfold sFor; rw [v_bind]
/-! ### defs -/
theorem v_endRt {d : PyData} : V (endOf (.rt d, e)) Q ↔ Q d := v_ret
theorem v_endNx : V (endOf (.nx, e)) Q ↔ Q .none := v_ret
theorem v_fnD {ps n : Nat} {b : CS} {ds : List PyData} : V (fnD ps n b ds) Q ↔ ds.length = ps ∧ V (b (ds.map .val ++ List.replicate (n - ps) .no)) fun r => V (endOf r) Q := by
  unfold fnD; rw [v_must, v_bind]
theorem v_fnS {ps n : Nat} {b : CS} {ds : List PyData} : V (fnS ps n b ds) Q ↔ ds.length + 1 = ps ∧ V (b (.src :: (ds.map .val ++ List.replicate (n - ps) .no))) fun r => V (endOf r) Q := by
  unfold fnS; rw [v_must, v_bind]
/-! ### operations -/
theorem o_addI {i j : Int} : V (mAdd (.int i) (.int j)) Q ↔ Q (.int (i + j)) := v_ret
theorem o_addL {a b : List PyData} : V (mAdd (.list a) (.list b)) Q ↔ LnOk (a.length + b.length) ∧ Q (.list (a ++ b)) := by unfold mAdd; simp only [v_must, v_ret]; exact Iff.rfl
theorem o_addT {a b : List PyData} : V (mAdd (.tuple a) (.tuple b)) Q ↔ LnOk (a.length + b.length) ∧ Q (.tuple (a ++ b)) := by unfold mAdd; simp only [v_must, v_ret]; exact Iff.rfl
theorem o_addII {i j : Int} : V (mAddI (.int i) (.int j)) Q ↔ Q (.int (i + j)) := v_ret
theorem o_sub {i j : Int} : V (mSub (.int i) (.int j)) Q ↔ Q (.int (i - j)) := v_ret
theorem o_neg {i : Int} : V (mNeg (.int i)) Q ↔ Q (.int (-i)) := v_ret
theorem o_mul {i j : Int} : V (mMulT (.int i) (.int j)) Q ↔ MulOk i j ∧ Q (.int (i * j)) := by unfold mMulT mMul; simp only [v_must, v_ret]; exact Iff.rfl
theorem o_mulL {a : List PyData} {k : Int} : V (mMulT (.list a) (.int k)) Q ↔ (InB k ∧ LnOk (a.length * k.toNat)) ∧ Q (.list (List.replicate k.toNat a).flatten) := by
  unfold mMulT mMul; simp only [v_must, v_ret, Bool.and_eq_true, decide_eq_true_eq]; exact Iff.rfl
theorem o_mulTu {a : List PyData} {k : Int} : V (mMulT (.tuple a) (.int k)) Q ↔ (k.natAbs ≤ 1000 ∧ a.length ≤ 1000) ∧ Q (.tuple (List.replicate k.toNat a).flatten) := by
  unfold mMulT; simp only [v_must, v_ret, Bool.and_eq_true, decide_eq_true_eq]
theorem o_neS {a b : Str} : V (mNeS (.str a) (.str b)) Q ↔ Q (.bool (!decide (a = b))) := v_ret
theorem o_eqS {a b : Str} : V (mEqS (.str a) (.str b)) Q ↔ Q (.bool (decide (a = b))) := v_ret
theorem o_mulI {i j : Int} : V (mMulI (.int i) (.int j)) Q ↔ MulOk i j ∧ Q (.int (i * j)) := by unfold mMulI; simp only [v_must, v_ret]; exact Iff.rfl
def FdOk (j : Int) : Prop := j ≠ 0 ∧ j.natAbs.log2 < 9000
theorem fdOk {j : Int} (h : j ≠ 0) (h2 : j.natAbs < 1073741824) : FdOk j := ⟨h, log_lt h2⟩
def PkOk (n : Int) : Prop := n.natAbs.log2 < 9000
theorem pkOk {n : Int} (h : n.natAbs < 1073741824) : PkOk n := log_lt h
theorem o_fdiv {i j : Int} : V (mFdiv (.int i) (.int j)) Q ↔ FdOk j ∧ Q (.int (i.fdiv j)) := by
  unfold mFdiv FdOk; simp only [v_must, v_ret, Bool.and_eq_true, decide_eq_true_eq]
theorem o_fdivI {i j : Int} : V (mFdivI (.int i) (.int j)) Q ↔ (0 < j ∧ j < 1073741824) ∧ Q (.int (i / j)) := by
  unfold mFdivI; simp only [v_must, v_ret, Bool.and_eq_true, decide_eq_true_eq]
theorem o_mod {i j : Int} : V (mMod (.int i) (.int j)) Q ↔ j ≠ 0 ∧ Q (.int (i.fmod j)) := by unfold mMod; simp only [v_must, v_ret]
def PwOk (i j : Int) : Prop := (0 ≤ j ∧ j.toNat ≤ 1000000) ∧ i.natAbs < 2 ^ 64
theorem o_pow {i j : Int} : V (mPow (.int i) (.int j)) Q ↔ PwOk i j ∧ Q (.int (i ^ j.toNat)) := by
  unfold mPow PwOk; simp only [v_must, v_ret, Bool.and_eq_true, decide_eq_true_eq]
theorem o_cmpI {p : Int → Int → Bool} {i j : Int} : V (mCmpI p (.int i) (.int j)) Q ↔ Q (.bool (p i j)) := v_ret
theorem o_eqI {i j : Int} : V (mEqS (.int i) (.int j)) Q ↔ Q (.bool (decide (i = j))) := v_ret
theorem o_neI {i j : Int} : V (mNeS (.int i) (.int j)) Q ↔ Q (.bool (!decide (i = j))) := v_ret
theorem o_ltI {i j : Int} : V (mLt (.int i) (.int j)) Q ↔ Q (.bool (decide (i < j))) := v_ret
theorem o_leI {i j : Int} : V (mLe (.int i) (.int j)) Q ↔ Q (.bool (decide (i ≤ j))) := v_ret
theorem o_ixL {xs : List PyData} {i : Int} : V (mIx (.list xs) (.int i)) Q ↔ ∃ d, L2.atI xs i = some d ∧ Q d := by
  show V (ofO (L2.atI xs i)) Q ↔ _
  cases L2.atI xs i with
  | none => exact ⟨fun h => (v_bad.mp h).elim, fun ⟨d, h, _⟩ => nomatch h⟩
  | some d => exact ⟨fun h => ⟨d, rfl, h.out⟩, fun ⟨d', h, q⟩ => by cases h; exact ⟨q⟩⟩
theorem o_ixT {xs : List PyData} {i : Int} : V (mIx (.tuple xs) (.int i)) Q ↔ ∃ d, L2.atI xs i = some d ∧ Q d := by
  show V (ofO (L2.atI xs i)) Q ↔ _
  cases L2.atI xs i with
  | none => exact ⟨fun h => (v_bad.mp h).elim, fun ⟨d, h, _⟩ => nomatch h⟩
  | some d => exact ⟨fun h => ⟨d, rfl, h.out⟩, fun ⟨d', h, q⟩ => by cases h; exact ⟨q⟩⟩
theorem o_tupL {xs : List PyData} : V (mTuple [.list xs]) Q ↔ Q (.tuple xs) := v_ret
theorem o_tupT {xs : List PyData} : V (mTuple [.tuple xs]) Q ↔ Q (.tuple xs) := v_ret
theorem o_lenL {xs : List PyData} : V (mLenD [.list xs]) Q ↔ Q (.int xs.length) := v_ret
theorem o_lenT {xs : List PyData} : V (mLenD [.tuple xs]) Q ↔ Q (.int xs.length) := v_ret
theorem o_abs {i : Int} : V (mAbs [.int i]) Q ↔ Q (.int (if i < 0 then -i else i)) := v_ret
theorem o_intI {i : Int} : V (mInt [.int i]) Q ↔ Q (.int i) := v_ret
theorem o_intB {b : Bool} : V (mInt [.bool b]) Q ↔ Q (.int (if b = true then 1 else 0)) := v_ret
theorem o_max2 {i j : Int} : V (mMax [.int i, .int j]) Q ↔ Q (.int (if j > i then j else i)) := v_ret
theorem o_min2 {i j : Int} : V (mMin [.int i, .int j]) Q ↔ Q (.int (if j < i then j else i)) := v_ret
theorem o_sum {ns : List Int} : V (mSum [.list (ns.map PyData.int)]) Q ↔ Q (.int ns.sum) := by
  have h : mSum [.list (ns.map PyData.int)] = .ret (.int ns.sum) := by
    show (match asIntsO (ns.map PyData.int) with | some ns => M.ret (PyData.int ns.sum) | none => .bad) = _
    rw [asIntsO_of]
  rw [h]; exact v_ret
theorem o_pick {n : Int} : V (mPickB [.int n]) Q ↔ PkOk n ∧ ∀ i : Int, 0 ≤ i → i < max 1 n → Q (.int i) := by
  unfold mPickB PkOk; rw [v_must, v_pick]; simp only [v_ret]
def Sh (d : PyData) : Prop := SeqAt.shaped d = true
theorem o_eqL {a b : List PyData} : V (mEqS (.list a) (.list b)) Q ↔ (Sh (.list a) ∧ Sh (.list b)) ∧ Q (.bool (PyData.eqv (.list a) (.list b))) := by
  show V (mEq _ _) Q ↔ _
  unfold mEq; simp only [v_must, v_ret, Bool.and_eq_true]; exact Iff.rfl
theorem o_eqT {a b : List PyData} : V (mEqS (.tuple a) (.tuple b)) Q ↔ (Sh (.tuple a) ∧ Sh (.tuple b)) ∧ Q (.bool (PyData.eqv (.tuple a) (.tuple b))) := by
  show V (mEq _ _) Q ↔ _
  unfold mEq; simp only [v_must, v_ret, Bool.and_eq_true]; exact Iff.rfl
theorem o_neL {a b : List PyData} : V (mNeS (.list a) (.list b)) Q ↔ (Sh (.list a) ∧ Sh (.list b)) ∧ Q (.bool (!PyData.eqv (.list a) (.list b))) := by
  show V (mNe _ _) Q ↔ _
  unfold mNe; simp only [v_must, v_ret, Bool.and_eq_true]; exact Iff.rfl
theorem o_neT {a b : List PyData} : V (mNeS (.tuple a) (.tuple b)) Q ↔ (Sh (.tuple a) ∧ Sh (.tuple b)) ∧ Q (.bool (!PyData.eqv (.tuple a) (.tuple b))) := by
  show V (mNe _ _) Q ↔ _
  unfold mNe; simp only [v_must, v_ret, Bool.and_eq_true]; exact Iff.rfl
end
/-! ### loops -/
section
variable {e : En} {Q : Fl × En → Prop} {QL : List PyData → Prop}
def LpK (I : En → Prop) (Q : Fl × En → Prop) : Fl × En → Prop
  | (.nx, e) => I e
  | (.ct, e) => I e
  | (.bk, e) => Q (.nx, e)
  | (.rt d, e) => Q (.rt d, e)
theorem lp_nx {I : En → Prop} : LpK I Q (.nx, e) ↔ I e := Iff.rfl
theorem lp_ct {I : En → Prop} : LpK I Q (.ct, e) ↔ I e := Iff.rfl
theorem lp_bk {I : En → Prop} : LpK I Q (.bk, e) ↔ Q (.nx, e) := Iff.rfl
theorem lp_rt {I : En → Prop} {d : PyData} : LpK I Q (.rt d, e) ↔ Q (.rt d, e) := Iff.rfl
theorem V_forD {g : CG} {b : CS} {ds : List PyData} (I : Nat → En → Prop) (h0 : I 0 e) (hs : ∀ (i : Nat) (hi : i < ds.length) (e : En), I i e → V (g e ds[i]) fun e1 => V (b e1) (LpK (I (i + 1)) Q)) (q : ∀ e, I ds.length e → Q (.nx, e)) : V (forGo g b ds e) Q := by
  have go : ∀ (rest : List PyData) (n : Nat), rest = ds.drop n → n ≤ ds.length → ∀ e, I n e → V (forGo g b rest e) Q := by
    intro rest
    induction rest with
    | nil =>
      intro n hr hn e i
      have hl := congrArg List.length hr
      rw [List.length_nil, List.length_drop] at hl
      have : n = ds.length := by omega
      subst this
      exact ⟨q e i⟩
    | cons d rest ih =>
      intro n hr hn e i
      have hlt : n < ds.length := by
        have hl := congrArg List.length hr
        rw [List.length_cons, List.length_drop] at hl
        omega
      have hd : d = ds[n] := by
        have := congrArg (·[0]?) hr
        simp only [List.getElem?_cons_zero, List.getElem?_drop, Nat.add_zero] at this
        rw [List.getElem?_eq_getElem hlt] at this
        exact Option.some.inj this
      have hr2 : rest = ds.drop (n + 1) := by
        have h1 : ds.drop (n + 1) = (ds.drop n).drop 1 := by rw [List.drop_drop]
        rw [h1, ← hr]; rfl
      subst hd
      unfold forGo
      rw [v_bind]
      refine (hs n hlt e i).mono fun e1 q1 => ?_
      rw [v_bind]
      refine q1.mono fun r q2 => ?_
      obtain ⟨f, e2⟩ := r
      cases f with
      | nx => exact ih (n + 1) hr2 hlt e2 q2
      | ct => exact ih (n + 1) hr2 hlt e2 q2
      | bk => exact ⟨q2⟩
      | rt d => exact ⟨q2⟩
  exact go ds 0 rfl (Nat.zero_le _) e h0
theorem V_for {α : Type} {k : α → PyData} {g : CG} {b : CS} {xs : List α} (I : Nat → En → Prop) (h0 : I 0 e) (hs : ∀ (i : Nat) (hi : i < xs.length) (e : En), I i e → V (g e (k xs[i])) fun e1 => V (b e1) (LpK (I (i + 1)) Q)) (q : ∀ e, I xs.length e → Q (.nx, e)) : V (forGo g b (xs.map k) e) Q := by
  refine V_forD I h0 (fun i hi e j => ?_) fun e j => q e (by rwa [List.length_map] at j)
  rw [List.length_map] at hi
  rw [List.getElem_map]
  exact hs i hi e j
theorem V_forR {g : CG} {b : CS} {lo : Int} {n : Nat} (I : Nat → En → Prop) (h0 : I 0 e) (hs : ∀ i : Nat, i < n → ∀ e : En, I i e → V (g e (.int (lo + i))) fun e1 => V (b e1) (LpK (I (i + 1)) Q)) (q : ∀ e, I n e → Q (.nx, e)) : V (forGo g b (DL.intsFrom lo n) e) Q := by
  refine V_for (k := fun i : Nat => PyData.int (lo + i)) I h0 (fun i hi e j => ?_) fun e j => q e (by rwa [List.length_range] at j)
  rw [List.length_range] at hi
  rw [List.getElem_range]
  exact hs i hi e j
theorem V_forM {g : CG} {b : CS} {ds : List PyData} (I : En → Prop) (h0 : I e) (hs : ∀ d ∈ ds, ∀ e : En, I e → V (g e d) fun e1 => V (b e1) (LpK I Q)) (q : ∀ e, I e → Q (.nx, e)) : V (forGo g b ds e) Q :=
  V_forD (fun _ => I) h0 (fun i hi e j => hs _ (List.getElem_mem hi) e j) q
theorem V_while {t : CT} {b : CS} {n : Nat} (I : En → Prop) (μ : En → Nat) (h0 : I e) (hm : μ e < n) (hs : ∀ e, I e → V (t e) fun k => Br k (V (b e) (LpK (fun e' => I e' ∧ μ e' < μ e) Q)) (Q (.nx, e))) : V (sWhile n t b e) Q := by
  unfold sWhile
  have go : ∀ (n : Nat) (e : En), I e → μ e < n → V (whileGo t b n e) Q := by
    intro n
    induction n with
    | zero => intro e _ h; exact absurd h (Nat.not_lt_zero _)
    | succ n ih =>
      intro e i hm
      unfold whileGo
      rw [v_bind]
      refine (hs e i).mono fun k q => ?_
      rw [v_br]
      refine ⟨fun hk => ?_, fun hk => ⟨q.2 hk⟩⟩
      rw [v_bind]
      refine (q.1 hk).mono fun r q2 => ?_
      obtain ⟨f, e2⟩ := r
      cases f with
      | nx => exact ih e2 q2.1 (by have := q2.2; omega)
      | ct => exact ih e2 q2.1 (by have := q2.2; omega)
      | bk => exact ⟨q2⟩
      | rt d => exact ⟨q2⟩
  exact go n e h0 hm
/-! ### comprehensions -/
theorem V_compD {g : CG} {t : CT} {c : CE} {p : PyData → Bool} {f : PyData → PyData} : ∀ {ds : List PyData} {QL : List PyData → Prop}, (∀ d ∈ ds, V (g e d) fun e1 => V (t e1) fun b => b = p d ∧ (p d = true → V (c e1) fun y => y = f d)) → QL ((ds.filter p).map f) → V (compGo g t c e ds) QL
  | [], _, _, q => ⟨q⟩
  | d :: ds, QL, h, q => by
    unfold compGo
    rw [v_bind]
    refine (h d List.mem_cons_self).mono fun e1 q1 => ?_
    rw [v_bind]
    refine q1.mono fun b q2 => ?_
    obtain ⟨rfl, q2⟩ := q2
    have ih := fun QL q => V_compD (g := g) (t := t) (c := c) (p := p) (f := f) (ds := ds) (QL := QL) (fun d m => h d (List.mem_cons_of_mem _ m)) q
    cases hp : p d with
    | true =>
      rw [List.filter_cons_of_pos hp] at q
      rw [if_pos rfl, v_bind]
      refine (q2 hp).mono fun y hy => ?_
      subst hy
      rw [v_bind]
      refine ih _ (v_ret.mpr q)
    | false =>
      rw [List.filter_cons_of_neg (by rw [hp]; decide)] at q
      rw [if_neg (by decide)]
      exact ih _ q
theorem V_compF {α : Type} {k : α → PyData} {xs : List α} {g : CG} {t : CT} {c : CE} (p : α → Bool) (f : α → PyData) (h : ∀ x ∈ xs, V (g e (k x)) fun e1 => V (t e1) fun b => b = p x ∧ (p x = true → V (c e1) fun y => y = f x)) (q : QL ((xs.filter p).map f)) : V (compGo g t c e (xs.map k)) QL := by
  induction xs generalizing QL with
  | nil => exact ⟨q⟩
  | cons x xs ih =>
    rw [List.map_cons]
    unfold compGo
    rw [v_bind]
    refine (h x List.mem_cons_self).mono fun e1 q1 => ?_
    rw [v_bind]
    refine q1.mono fun b q2 => ?_
    obtain ⟨rfl, q2⟩ := q2
    cases hp : p x with
    | true =>
      rw [List.filter_cons_of_pos hp] at q
      rw [if_pos rfl, v_bind]
      refine (q2 hp).mono fun y hy => ?_
      subst hy
      rw [v_bind]
      refine ih (fun x m => h x (List.mem_cons_of_mem _ m)) (v_ret.mpr q)
    | false =>
      rw [List.filter_cons_of_neg (by rw [hp]; decide)] at q
      rw [if_neg (by decide)]
      exact ih (fun x m => h x (List.mem_cons_of_mem _ m)) q
theorem V_comp {α : Type} {k : α → PyData} {xs : List α} {g : CG} {c : CE} (f : α → PyData) (h : ∀ x ∈ xs, V (g e (k x)) fun e1 => V (c e1) fun y => y = f x) (q : QL (xs.map f)) : V (compGo g ctYes c e (xs.map k)) QL :=
  V_compF (fun _ => true) f (fun x hx => (h x hx).mono fun e1 q1 => v_ret.mpr ⟨rfl, fun _ => q1⟩) (by rwa [List.filter_eq_self.mpr fun _ _ => rfl])
theorem V_compR {lo : Int} {n : Nat} {g : CG} {c : CE} (f : Nat → PyData) (h : ∀ i : Nat, i < n → V (g e (.int (lo + i))) fun e1 => V (c e1) fun y => y = f i) (q : QL ((List.range n).map f)) : V (compGo g ctYes c e (DL.intsFrom lo n)) QL :=
  V_comp (k := fun i : Nat => PyData.int (lo + i)) f (fun i hi => h i (List.mem_range.mp hi)) q
theorem V_compNo {α : Type} {k : α → PyData} {xs : List α} {g : CG} {t : CT} {c : CE} (h : ∀ x ∈ xs, V (g e (k x)) fun e1 => V (t e1) fun b => b = false) (q : QL []) : V (compGo g t c e (xs.map k)) QL :=
  V_compF (fun _ => false) k (fun x hx => (h x hx).mono fun e1 q1 => q1.mono fun b hb => ⟨hb, fun h => by cases h⟩) (by rw [List.filter_eq_nil_iff.mpr fun x _ h => by cases h]; exact q)
theorem V_compRel {α : Type} {k : α → PyData} {xs : List α} {g : CG} {c : CE} (R : α → PyData → Prop) (h : ∀ x ∈ xs, V (g e (k x)) fun e1 => V (c e1) fun y => R x y) (q : ∀ ys : List PyData, Paired R xs ys → QL ys) : V (compGo g ctYes c e (xs.map k)) QL := by
  induction xs generalizing QL with
  | nil => exact ⟨q [] .nil⟩
  | cons x xs ih =>
    rw [List.map_cons]
    unfold compGo
    rw [v_bind]
    refine (h x List.mem_cons_self).mono fun e1 q1 => v_bind.mpr (v_ret.mpr ?_)
    rw [if_pos rfl, v_bind]
    refine q1.mono fun y hy => v_bind.mpr (ih (fun x m => h x (List.mem_cons_of_mem _ m)) fun ys hys => v_ret.mpr (q _ (.cons hy hys)))
theorem V_compP {g : CG} {c : CE} {ds : List PyData} (P : PyData → Prop) (h : ∀ d ∈ ds, V (g e d) fun e1 => V (c e1) P) (q : ∀ ys : List PyData, ys.length = ds.length → (∀ y ∈ ys, P y) → QL ys) : V (compGo g ctYes c e ds) QL := by
  induction ds generalizing QL with
  | nil => exact ⟨q [] rfl fun y h => nomatch h⟩
  | cons d ds ih =>
    unfold compGo
    rw [v_bind]
    refine (h d List.mem_cons_self).mono fun e1 q1 => v_bind.mpr (v_ret.mpr ?_)
    rw [if_pos rfl, v_bind]
    refine q1.mono fun y hy => v_bind.mpr (ih (fun d m => h d (List.mem_cons_of_mem _ m)) fun ys hl hys => v_ret.mpr (q _ (by rw [List.length_cons, List.length_cons, hl]) fun z hz => ?_))
    rcases List.mem_cons.mp hz with rfl | hz
    · exact hy
    · exact hys z hz
theorem V_reprNe {a b : CE} {Q : PyData → Prop} (h : V (a e) fun d => V (b e) fun d' => d = d' ∧ repb d = true ∧ Q (.bool false)) :
    V (cOp2 mNeS (cCall mRepr (caCons a caNil)) (cCall mRepr (caCons b caNil)) e) Q :=
  ⟨reprNe_wp (M.wp_mono (fun d q => q.out) h.out)⟩
end
/-! ### lists of whole numbers -/
section
variable {Q : PyData → Prop}
theorem o_eqLI {ns ms : List Int} : V (mEqS (.list (ns.map PyData.int)) (.list (ms.map PyData.int))) Q ↔ Q (.bool (decide (ns = ms))) := by rw [eqS_lI]; exact v_ret
theorem o_neLI {ns ms : List Int} : V (mNeS (.list (ns.map PyData.int)) (.list (ms.map PyData.int))) Q ↔ Q (.bool (!decide (ns = ms))) := by rw [neS_lI]; exact v_ret
theorem o_eqTI {ns ms : List Int} : V (mEqS (.tuple (ns.map PyData.int)) (.tuple (ms.map PyData.int))) Q ↔ Q (.bool (decide (ns = ms))) := by rw [eqS_tI]; exact v_ret
theorem o_neTI {ns ms : List Int} : V (mNeS (.tuple (ns.map PyData.int)) (.tuple (ms.map PyData.int))) Q ↔ Q (.bool (!decide (ns = ms))) := by rw [neS_tI]; exact v_ret
theorem o_eqL0 {ns : List Int} : V (mEqS (.list (ns.map PyData.int)) (.list [])) Q ↔ Q (.bool (decide (ns = []))) := o_eqLI (ms := [])
theorem o_neL0 {ns : List Int} : V (mNeS (.list (ns.map PyData.int)) (.list [])) Q ↔ Q (.bool (!decide (ns = []))) := o_neLI (ms := [])
theorem o_eqT0 {ns : List Int} : V (mEqS (.tuple (ns.map PyData.int)) (.tuple [])) Q ↔ Q (.bool (decide (ns = []))) := o_eqTI (ms := [])
theorem o_neT0 {ns : List Int} : V (mNeS (.tuple (ns.map PyData.int)) (.tuple [])) Q ↔ Q (.bool (!decide (ns = []))) := o_neTI (ms := [])
end
/-- what data must have a text: numbers of less than 1920 bits -/
theorem repb_of {d : PyData} (h1 : plain0 d = true) (h2 : d.depth ≤ 64) (h3 : cost d ≤ 16000000) : repb d = true := by
  unfold repb
  rw [h1, decide_eq_true h2, decide_eq_true h3]; rfl
/-! ### dicts -/
section
variable {e : En} {Q : PyData → Prop} {QL : List PyData → Prop} {QS : Fl × En → Prop} {QD : List (PyData × PyData) → Prop}
theorem v_cdNil : V (cdNil e) QD ↔ QD [] := v_ret
theorem v_sOwnD {i : Nat} {c : CDc} : V (sOwnD i c e) QS ↔ V (c e) fun ds => QS (.nx, e.set i (.ownD ds)) := by unfold sOwnD; rw [v_bind]; simp only [v_ret]
theorem v_xD {c : CDc} {QX : Sl → Prop} : V (xD c e) QX ↔ V (c e) fun d => QX (.ownD d) := by unfold xD; rw [v_bind]; simp only [v_ret]
def putM (ds : List (PyData × PyData)) (k v : PyData) : M (List (PyData × PyData)) := match lkOf k with
  | some l => (match putLK ds v l with
    | some ds' => if ds.length < sizeLine then .ret ds' else .bad
    | none => .bad)
  | none => .bad
def DpK (Q : List (PyData × PyData) → Prop) : Option Sl → Prop
  | some (.ownD ds) => Q ds
  | _ => False
theorem dp_ownD {ds : List (PyData × PyData)} : DpK QD (some (.ownD ds)) ↔ QD ds := Iff.rfl
theorem v_sPut {i : Nat} {ck cv : CE} : V (sPut i ck cv e) QS ↔ V (cv e) fun v => DpK (fun ds => V (ck e) fun k => V (putM ds k v) fun ds' => QS (.nx, e.set i (.ownD ds'))) e[i]? := by
  unfold sPut
  rw [v_bind]
  have key : ∀ v : PyData, V (match e[i]? with
      | some (.ownD _) => (ck e).bind fun k => (match e[i]? with
        | some (.ownD ds) => (match lkOf k with
          | some l => (match putLK ds v l with
            | some ds' => if ds.length < sizeLine then M.ret (Fl.nx, e.set i (.ownD ds')) else .bad
            | none => .bad)
          | none => .bad)
        | _ => .bad)
      | _ => .bad) QS ↔ DpK (fun ds => V (ck e) fun k => V (putM ds k v) fun ds' => QS (.nx, e.set i (.ownD ds'))) e[i]? := by
    intro v
    cases h : e[i]? with
    | none => exact v_bad
    | some s =>
      cases s with
      | ownD ds =>
        show V ((ck e).bind _) QS ↔ V (ck e) _
        rw [v_bind]
        constructor <;> intro q <;> refine q.mono fun k w => ?_
        · unfold putM
          cases h1 : lkOf k with
          | none => simp only [h1] at w; exact (v_bad.mp w).elim
          | some l =>
            simp only [h1] at w ⊢
            cases h2 : putLK ds v l with
            | none => simp only [h2] at w; exact (v_bad.mp w).elim
            | some ds' =>
              simp only [h2] at w ⊢
              rw [v_must, v_ret] at w ⊢
              exact w
        · unfold putM at w
          cases h1 : lkOf k with
          | none => simp only [h1] at w; exact (v_bad.mp w).elim
          | some l =>
            simp only [h1] at w ⊢
            cases h2 : putLK ds v l with
            | none => simp only [h2] at w; exact (v_bad.mp w).elim
            | some ds' =>
              simp only [h2] at w ⊢
              rw [v_must, v_ret] at w ⊢
              exact w
      | _ => exact v_bad
  constructor <;> intro h <;> refine h.mono fun v q => ?_
  · exact (key v).mp q
  · exact (key v).mpr q
/-- a dict by ints, all with one value -/
def dictN (ks : List Int) (v : PyData) : List (PyData × PyData) := ks.map fun i => (.int i, v)
def addI (ks : List Int) (i : Int) : List Int := if i ∈ ks then ks else ks ++ [i]
abbrev kdN (ks : List Int) (v : PyData) : KD := ks.map fun i => (Sum.inl i, v)
theorem dictN_k (ks : List Int) (v : PyData) : dictN ks v = dictK (kdN ks v) := by unfold dictN dictK kdN; rw [List.map_map]; rfl
theorem ofDictN (ks : List Int) (v : PyData) : ofDictK (dictN ks v) = some (kdN ks v) := by rw [dictN_k, ofDictK_of]
theorem putN (ks : List Int) (v : PyData) (i : Int) : putKD (kdN ks v) (.inl i) v = kdN (addI ks i) v := by
  unfold putKD addI kdN
  rw [List.any_map]
  by_cases h : i ∈ ks
  · rw [if_pos (List.any_eq_true.mpr ⟨i, h, by simp⟩), if_pos h, List.map_map]
    refine List.map_congr_left fun j _ => ?_
    show (if (Sum.inl j : Key) = Sum.inl i then ((Sum.inl j : Key), v) else (Sum.inl j, v)) = _
    split <;> rfl
  · rw [if_neg (fun q => by
      obtain ⟨j, hj, e⟩ := List.any_eq_true.mp q
      simp at e
      exact h (e ▸ hj)), if_neg h, List.map_append]
    rfl
theorem o_putN {ks : List Int} {v : PyData} {i : Int} : V (putM (dictN ks v) (.int i) v) QD ↔ LnOk (ks.length + 1) ∧ QD (dictN (addI ks i) v) := by
  unfold putM
  simp only [lkOf, putLK, ofDictN, Option.map_some, putN, ← dictN_k]
  rw [v_must, v_ret]
  unfold dictN LnOk
  rw [List.length_map]
  exact Iff.rfl
theorem intKeysN (ks : List Int) (v : PyData) : intKeys (kdN ks v) = some ks := by
  induction ks with
  | nil => rfl
  | cons i ks ih =>
    show (intKeys (kdN ks v)).map (fun is => i :: is) = _
    rw [ih]; rfl
def sortM (d : PyData) : M (List PyData) := match d with
  | .dict ds => (match sortedD ds with
    | some is => .ret (is.map PyData.int)
    | none => .bad)
  | _ => .bad
theorem v_clSorted {c : CE} : V (clSorted c e) QL ↔ V (c e) fun d => V (sortM d) QL := by unfold clSorted; rw [v_bind]; rfl
theorem o_sortN {ks : List Int} {v : PyData} : V (sortM (.dict (dictN ks v))) QL ↔ ks.length < 64 ∧ QL ((srtI ks).map PyData.int) := by
  unfold sortM sortedD
  simp only [ofDictN, Option.bind_some, List.length_map]
  by_cases h : ks.length < 64
  · rw [if_pos h, intKeysN]
    exact ⟨fun q => ⟨h, v_ret.mp q⟩, fun q => v_ret.mpr q.2⟩
  · rw [if_neg h]
    exact ⟨fun q => (v_bad.mp q).elim, fun q => absurd q.1 h⟩
theorem ofPairsN (ns : List Int) (v : PyData) : ofPairsK (ns.map fun n => .tuple [.int n, v]) = some (kdN ns v) := by
  induction ns with
  | nil => rfl
  | cons n ns ih =>
    show ofPairsK (.tuple [.int n, v] :: _) = _
    unfold ofPairsK
    rw [ih]; rfl
theorem foldN (v : PyData) : ∀ (ns ks : List Int), (kdN ns v).foldl (fun acc q => putKD acc q.1 q.2) (kdN ks v) = kdN (ns.foldl addI ks) v
  | [], ks => rfl
  | n :: ns, ks => by
    show (kdN ns v).foldl _ (putKD (kdN ks v) (.inl n) v) = _
    rw [putN, foldN v ns]; rfl
theorem o_dictN {ns : List Int} {v : PyData} : V (mDict [.list (ns.map fun n => .tuple [.int n, v])]) Q ↔ Q (.dict (dictN (ns.foldl addI []) v)) := by
  unfold mDict
  simp only [ofPairsN]
  rw [v_ret, dictN_k]
  have := foldN v ns []
  rw [show (kdN [] v) = [] from rfl] at this
  rw [this]
theorem mem_foldI : ∀ (ns ks : List Int) (x : Int), x ∈ ns.foldl addI ks ↔ x ∈ ks ∨ x ∈ ns
  | [], ks, x => by simp
  | n :: ns, ks, x => by
    rw [List.foldl_cons, mem_foldI ns]
    unfold addI
    by_cases h : n ∈ ks
    · rw [if_pos h, List.mem_cons]
      constructor
      · rintro (q | q)
        · exact .inl q
        · exact .inr (.inr q)
      · rintro (q | rfl | q)
        · exact .inl q
        · exact .inl h
        · exact .inr q
    · rw [if_neg h, List.mem_append, List.mem_singleton, List.mem_cons, or_assoc]
theorem nodup_addI {ks : List Int} {n : Int} (h : ks.Nodup) : (addI ks n).Nodup := by
  unfold addI
  by_cases q : n ∈ ks
  · rw [if_pos q]; exact h
  · rw [if_neg q, List.nodup_append]
    exact ⟨h, by simp, fun a ha b hb => by rw [List.mem_singleton.mp hb]; intro e; exact q (e ▸ ha)⟩
theorem nodup_foldI : ∀ (ns : List Int) {ks : List Int}, ks.Nodup → (ns.foldl addI ks).Nodup
  | [], _, h => h
  | n :: ns, _, h => nodup_foldI ns (nodup_addI h)
theorem len_addI (ks : List Int) (n : Int) : (addI ks n).length ≤ ks.length + 1 := by
  unfold addI; split
  · omega
  · rw [List.length_append]; exact Nat.le_refl _
theorem len_foldI : ∀ (ns ks : List Int), (ns.foldl addI ks).length ≤ ks.length + ns.length
  | [], ks => Nat.le_refl _
  | n :: ns, ks => by
    rw [List.foldl_cons]
    have h1 := len_foldI ns (addI ks n)
    have h2 := len_addI ks n
    rw [List.length_cons]
    omega
theorem mem_srtI (l : List Int) (x : Int) : x ∈ srtI l ↔ x ∈ l := (srtI_perm l).mem_iff
theorem srtI_lt {l : List Int} (h : l.Nodup) : (srtI l).Pairwise (· < ·) := by
  have h1 := srtI_sorted l
  have h2 : (srtI l).Nodup := (srtI_perm l).symm.nodup h
  exact (List.Pairwise.and h1 h2).imp fun {a b} ⟨p, q⟩ => by omega
theorem srtI_len (l : List Int) : (srtI l).length = l.length := (srtI_perm l).length_eq
theorem lt_ext {a b : List Int} (h1 : a.Pairwise (· < ·)) (h2 : b.Pairwise (· < ·)) (h : ∀ x, x ∈ a ↔ x ∈ b) : a = b := by
  have n1 : a.Nodup := h1.imp fun q => by omega
  have n2 : b.Nodup := h2.imp fun q => by omega
  refine List.Perm.eq_of_pairwise (le := (· ≤ ·)) (fun x y _ _ p q => Int.le_antisymm p q) (h1.imp fun q => by omega) (h2.imp fun q => by omega) ?_
  exact (List.perm_ext_iff_of_nodup n1 n2).mpr h
theorem v_clRev0 {c : CE} : V (clRev0 c e) QL ↔ V (c e) fun d => V (itemsOf d) fun xs => (∃ ys, d = .list ys) ∧ QL (xs.drop 1).reverse := by
  unfold clRev0; rw [v_bind]
  constructor
  · intro h; refine h.mono fun d q => ?_
    cases d <;> first | exact (v_bad.mp q).elim | exact ⟨⟨_, rfl⟩, v_ret.mp q⟩
  · intro h; refine h.mono fun d q => ?_
    cases d with
    | list xs => exact v_ret.mpr (v_itemsL.mp q).2
    | tuple xs => obtain ⟨⟨ys, h⟩, _⟩ := v_itemsT.mp q; cases h
    | _ => exact q.out.elim
theorem v_cChain {m m' : PyData → PyData → M PyData} {a b c : CE} : V (cChain m m' a b c e) Q ↔ V (a e) fun x => V (b e) fun y => V (m x y) fun z => V (asB z) fun k => Br k (V (c e) fun w => V (m' y w) Q) (Q (.bool false)) := by
  unfold cChain
  simp only [v_bind, v_br, v_ret]
theorem o_isN0 : V (mIsN .none .none) Q ↔ Q (.bool true) := v_ret
theorem o_isNI {i : Int} : V (mIsN (.int i) .none) Q ↔ Q (.bool false) := v_ret
theorem o_notN0 : V (mNotN .none .none) Q ↔ Q (.bool false) := v_ret
theorem o_notNI {i : Int} : V (mNotN (.int i) .none) Q ↔ Q (.bool true) := v_ret
theorem o_notNT {xs : List PyData} : V (mNotN (.tuple xs) .none) Q ↔ Q (.bool true) := v_ret
theorem o_inT {i : Int} {ns : List Int} : V (mIn (.int i) (.tuple (ns.map PyData.int))) Q ↔ Q (.bool (decide (i ∈ ns))) := by
  show V (inTI false (.int i) (ns.map PyData.int)) Q ↔ _
  unfold inTI
  simp only [asIntsO_of]
  exact v_ret
theorem o_ninT {i : Int} {ns : List Int} : V (mNotIn (.int i) (.tuple (ns.map PyData.int))) Q ↔ Q (.bool (!decide (i ∈ ns))) := by
  show V (inTI true (.int i) (ns.map PyData.int)) Q ↔ _
  unfold inTI
  simp only [asIntsO_of]
  exact v_ret
theorem any_ints (i : Int) : ∀ ns : List Int, (ns.map PyData.int).any (fun z => PyData.eqv z (.int i)) = decide (i ∈ ns)
  | [] => rfl
  | n :: ns => by
    rw [List.map_cons, List.any_cons, any_ints i ns]
    by_cases e : n = i
    · subst e; simp [PyData.eqv]
    · have e' : ¬ i = n := fun h => e h.symm
      simp [PyData.eqv, e, e']
theorem sh_int (i : Int) : SeqAt.shaped (.int i) = true := by
  unfold SeqAt.shaped
  simp only [PyData.canLay0, PyData.depth, Bool.true_and]
  exact decide_eq_true (Nat.zero_le _)
theorem o_inL {i : Int} {ns : List Int} : V (mIn (.int i) (.list (ns.map PyData.int))) Q ↔ Q (.bool (decide (i ∈ ns))) := by
  show V (if (SeqAt.shaped (.int i) && SeqAt.shaped (lsI ns)) = true then _ else _) Q ↔ _
  rw [sh_int, shaped_lI, Bool.and_self, if_pos rfl, any_ints]
  exact v_ret
theorem o_ninL {i : Int} {ns : List Int} : V (mNotIn (.int i) (.list (ns.map PyData.int))) Q ↔ Q (.bool (!decide (i ∈ ns))) := by
  show V (if (SeqAt.shaped (.int i) && SeqAt.shaped (lsI ns)) = true then _ else _) Q ↔ _
  rw [sh_int, shaped_lI, Bool.and_self, if_pos rfl, any_ints]
  exact v_ret
end
end DL
namespace W
open PySem PySem.Spec PyProof.Rows L2 DL
def cs_far_of : CS := (sRet (cOp2 mAdd (cCall mLenD (caCons (cVar 0) caNil)) (cOp2 mMulT (cOp2 mMulT (cCall mLenD (caCons (cVar 0) caNil)) (cCall mMax (caCons (cFz (clComp [1] (ciSeq (cVar 0)) (gSet 1) ctYes (cCall mAbs (caCons (cVar 1) caNil)))) caNil))) (cCall m_choose (caCons (cOp2 mMulT (cC (.int 2)) (cCall mLenD (caCons (cVar 0) caNil))) (caCons (cCall mLenD (caCons (cVar 0) caNil)) caNil))))))
abbrev m_far_of : FD := fnD 1 2 cs_far_of
def cs_differences : CS := (sRet (cFz (clComp [1] (ciRange1 (cCall mLenD (caCons (cVar 0) caNil))) (gSet 1) ctYes (cSl (cVar 0) (some (cVar 1)) none))))
abbrev m_differences : FD := fnD 1 2 cs_differences
def first_turned_b1 : CS := (sSeq (sSet 4 (cOp2 mFdiv (cOp2 mAdd (cVar 1) (cVar 2)) (cC (.int 2)))) (sIf (ctV (cOp2 (mCmpI fun i j => decide (j ≤ i)) (cOp2 mMulT (cVar 3) (cCall m_poly_at (caCons (cVar 0) (caCons (cVar 4) caNil)))) (cC (.int 0)))) (sSet 2 (cVar 4)) (sSet 1 (cOp2 mAdd (cVar 4) (cC (.int 1))))))
def cs_first_turned : CS := (sSeq (sSet 3 (cIf (ctV (cOp2 mLt (cCall m_poly_at (caCons (cVar 0) (caCons (cVar 1) caNil))) (cC (.int 0)))) (cC (.int 1)) (cOp1 mNeg (cC (.int 1))))) (sSeq (sIf (ctOr (ctV (cOp2 mEqS (cCall m_poly_at (caCons (cVar 0) (caCons (cVar 1) caNil))) (cC (.int 0)))) (ctV (cOp2 mLt (cOp2 mMulT (cVar 3) (cCall m_poly_at (caCons (cVar 0) (caCons (cVar 2) caNil)))) (cC (.int 0))))) (sRet (cIf (ctV (cOp2 mEqS (cCall m_poly_at (caCons (cVar 0) (caCons (cVar 1) caNil))) (cC (.int 0)))) (cVar 1) (cC .none))) sNil) (sSeq (sWhile 1000000 (ctV (cOp2 mLt (cVar 1) (cVar 2))) first_turned_b1) (sRet (cVar 1)))))
abbrev m_first_turned : FD := fnD 3 5 cs_first_turned
def poly_turns_b1 : CS := (sSeq (sOwn 4 (clComp [5, 6] (ciZip false (cVar 2) (cSl (cVar 2) (some (cC (.int 1))) none)) (gTup ((gSet 5) :: ((gSet 6) :: []))) ctYes (cCall m_first_turned (caCons (cVar 3) (caCons (cVar 5) (caCons (cVar 6) caNil)))))) (sFrzT 4 (sSet 2 (cFz (clSorted (cCall mDict (caCons (cFz (clComp [7] (ciSeq (cTup (caStar (cVar 2) (caStar (cFz (clComp [8] (ciSeq (cVar 4)) (gSet 8) (ctV (cOp2 mNotN (cVar 8) (cC .none))) (cVar 8))) caNil)))) (gSet 7) ctYes (cTup (caCons (cVar 7) (caCons (cC (.bool true)) caNil))))) caNil)))))))
def cs_poly_turns : CS := (sSeq (sSet 1 (cCall m_far_of (caCons (cVar 0) caNil))) (sSeq (sSet 2 (cFz (clDisp (caCons (cOp1 mNeg (cVar 1)) (caCons (cVar 1) caNil))))) (sSeq (sFor (ciSeq (cFz (clRev0 (cCall m_differences (caCons (cVar 0) caNil))))) (gSet 3) poly_turns_b1) (sRet (cVar 2)))))
abbrev m_poly_turns : FD := fnD 1 9 cs_poly_turns
def poly_roots_b1 : CS := (sSeq (sPut 1 (cVar 5) (cC (.bool true))) (sAug 5 mAddI (cC (.int 1))))
def poly_roots_b2 : CS := (sSeq (sSet 5 (cCall m_first_turned (caCons (cVar 0) (caCons (cVar 3) (caCons (cVar 4) caNil))))) (sWhile 1000000 (ctAnd (ctV (cOp2 mNotN (cVar 5) (cC .none))) (ctAnd (ctV (cOp2 mLe (cVar 5) (cVar 4))) (ctV (cOp2 mEqS (cCall m_poly_at (caCons (cVar 0) (caCons (cVar 5) caNil))) (cC (.int 0)))))) poly_roots_b1))
def cs_poly_roots : CS := (sSeq (sPar 1 2 (xD cdNil) (xV (cCall m_poly_turns (caCons (cVar 0) caNil)))) (sSeq (sFor (ciZip false (cVar 2) (cSl (cVar 2) (some (cC (.int 1))) none)) (gTup ((gSet 3) :: ((gSet 4) :: []))) poly_roots_b2) (sRet (cCall mTuple (caCons (cFz (clSorted (cPeek 1))) caNil)))))
abbrev m_poly_roots : FD := fnD 1 6 cs_poly_roots
def _law_binomials_b1 : CS := (sSeq (sAppend 1 (cOp2 mIx (cVar 2) (cC (.int 0)))) (sSeq (sOwn 2 (clComp [5, 6] (ciZip false (cVar 2) (cSl (cVar 2) (some (cC (.int 1))) none)) (gTup ((gSet 5) :: ((gSet 6) :: []))) ctYes (cOp2 mSub (cVar 6) (cVar 5)))) (sFrzT 2 sNil)))
def cs__law_binomials : CS := (sSeq (sPar 1 2 (xO (clDisp caNil)) (xV (cFz (clOf (cVar 0))))) (sSeq (sFor (ciSeq (cVar 0)) (gSet 3) _law_binomials_b1) (sSeq (sSet 4 (cCall mLenD (caCons (cFz (clComp [7] (ciRange1 (cCall mLenD (caCons (cPeek 1) caNil))) (gSet 7) (ctV (cOp2 mNeS (cFz (clComp [8] (ciSeq (cSl (cPeek 1) (some (cVar 7)) none)) (gSet 8) (ctV (cOp2 mNeS (cVar 8) (cC (.int 0)))) (cVar 8))) (cFz (clDisp caNil)))) (cVar 7))) caNil))) (sRet (cCall mTuple (caCons (cSl (cPeek 1) none (some (cVar 4))) caNil))))))
abbrev m__law_binomials : FD := fnD 1 9 cs__law_binomials
def _law_value_b1 : CS := (sSet 2 (cOp2 mMulT (cVar 2) (cOp2 mAdd (cOp2 mAdd (cOp2 mMulT (cOp2 mMulT (cVar 3) (cVar 1)) (cVar 1)) (cOp2 mMulT (cVar 4) (cVar 1))) (cVar 5))))
def cs__law_value : CS := (sSeq (sSet 2 (cC (.int 1))) (sSeq (sFor (ciSeq (cVar 0)) (gTup ((gSet 3) :: ((gSet 4) :: ((gSet 5) :: [])))) _law_value_b1) (sRet (cVar 2))))
abbrev m__law_value : FD := fnD 2 6 cs__law_value
def cs__law_poly : CS := (sSeq (sSet 2 (cCall mSum (caCons (cFz (clComp [3, 4, 5] (ciSeq (cVar 0)) (gTup ((gSet 3) :: ((gSet 4) :: ((gSet 5) :: [])))) ctYes (cIf (ctV (cOp2 mNeS (cVar 3) (cC (.int 0)))) (cC (.int 2)) (cIf (ctV (cOp2 mNeS (cVar 4) (cC (.int 0)))) (cC (.int 1)) (cC (.int 0)))))) caNil))) (sRet (cCall m__law_binomials (caCons (cFz (clComp [6] (ciRange1 (cOp2 mAdd (cVar 2) (cC (.int 1)))) (gSet 6) ctYes (cOp2 mAdd (cCall m__law_value (caCons (cVar 0) (caCons (cVar 6) caNil))) (cVar 1)))) caNil))))
abbrev m__law_poly : FD := fnD 2 7 cs__law_poly
def _law_factors_b1 : CS := (sSeq (sSet 5 (cCallS 0 m__law_of (caCons (cFz (clDisp (caCons (cC (.int 0)) (caCons (cC (.int 1)) (caCons (cOp1 mNeg (cC (.int 1))) (caCons (cC (.int 2)) (caCons (cOp1 mNeg (cC (.int 3))) (caCons (cC (.int 7)) (caCons (cOp1 mNeg (cC (.int 40))) (caCons (cVar 1) (caCons (cOp2 mSub (cC (.int 1)) (cVar 1)) caNil))))))))))) caNil))) (sSeq (sSet 6 (cCallS 0 m__law_of (caCons (cFz (clDisp (caCons (cC (.int 1)) (caCons (cC (.int 1)) (caCons (cOp1 mNeg (cC (.int 1))) (caCons (cC (.int 2)) (caCons (cOp1 mNeg (cC (.int 5))) caNil))))))) caNil))) (sSeq (sAppend 2 (cTup (caCons (cC (.int 0)) (caCons (cVar 6) (caCons (cOp2 mSub (cC (.int 0)) (cOp2 mMulT (cVar 6) (cVar 5))) caNil))))) (sPut 3 (cVar 5) (cC (.int 0))))))
def cs__law_factors : CS := (sSeq (sPar 2 3 (xO (clDisp caNil)) (xD cdNil)) (sSeq (sFor (ciRange1 (cCallS 0 m__law_of (caCons (cFz (clDisp (caCons (cC (.int 1)) (caCons (cC (.int 2)) (caCons (cC (.int 2)) (caCons (cC (.int 3)) caNil)))))) caNil))) (gSet 4) _law_factors_b1) (sSeq (sSet 7 (cCallS 0 m__law_of (caCons (cFz (clDisp (caCons (cC .none) (caCons (cC .none) (caCons (cTup (caCons (cC (.int 1)) (caCons (cC (.int 0)) (caCons (cC (.int 1)) caNil)))) (caCons (cTup (caCons (cC (.int 0)) (caCons (cC (.int 2)) (caCons (cC (.int 1)) caNil)))) (caCons (cTup (caCons (cC (.int 1)) (caCons (cC (.int 1)) (caCons (cC (.int 1)) caNil)))) (caCons (cTup (caCons (cC (.int 0)) (caCons (cC (.int 3)) (caCons (cOp1 mNeg (cC (.int 2))) caNil)))) (caCons (cTup (caCons (cC (.int 0)) (caCons (cC (.int 0)) (caCons (cC (.int 6)) caNil)))) (caCons (cTup (caCons (cC (.int 2)) (caCons (cC (.int 0)) (caCons (cOp1 mNeg (cC (.int 4))) caNil)))) caNil)))))))))) caNil))) (sRet (cTup (caCons (cOp2 mAdd (cPeek 2) (cIf (ctV (cOp2 mNotN (cVar 7) (cC .none))) (cFz (clDisp (caCons (cVar 7) caNil))) (cFz (clDisp caNil)))) (caCons (cFz (clSorted (cPeek 3))) caNil)))))))
abbrev m__law_factors : FD := fnS 2 8 cs__law_factors
def cs__law_moved_right : CS := (sSeq (sSet 2 (cCall m__law_poly (caCons (cVar 0) (caCons (cVar 1) caNil)))) (sSeq (sSet 3 (cIf (ctV (cOp2 mNeS (cVar 2) (cTup caNil))) (cCall m_poly_roots (caCons (cVar 2) caNil)) (cTup caNil))) (sSeq (sIf (ctOr (ctV (cOp2 mNeS (cFz (clComp [5] (ciSeq (cVar 3)) (gSet 5) (ctV (cOp2 mNeS (cCall m_poly_at (caCons (cVar 2) (caCons (cVar 5) caNil))) (cC (.int 0)))) (cVar 5))) (cFz (clDisp caNil)))) (ctV (cOp2 mNeS (cFz (clOf (cVar 3))) (cFz (clSorted (cCall mDict (caCons (cFz (clComp [5] (ciSeq (cVar 3)) (gSet 5) ctYes (cTup (caCons (cVar 5) (caCons (cC (.int 0)) caNil))))) caNil))))))) (sRet (cC (.bool false))) sNil) (sSeq (sSet 4 (cFz (clRg2 (cOp1 mNeg (cC (.int 45))) (cC (.int 46))))) (sRet (cOr (cOp2 mEqS (cVar 2) (cTup caNil)) (cOp2 mEqS (cFz (clComp [5] (ciSeq (cVar 4)) (gSet 5) (ctV (cOp2 mEqS (cCall m_poly_at (caCons (cVar 2) (caCons (cVar 5) caNil))) (cC (.int 0)))) (cVar 5))) (cFz (clComp [5] (ciSeq (cVar 3)) (gSet 5) (ctV (cChain mLe mLe (cOp1 mNeg (cC (.int 45))) (cVar 5) (cC (.int 45)))) (cVar 5))))))))))
abbrev m__law_moved_right : FD := fnD 2 6 cs__law_moved_right
def law_s1 : CS := (sSet 2 (cCallS 1 m__law_of (caCons (cFz (clDisp (caCons (cC (.int 10)) (caCons (cC (.int 100)) (caCons (cC (.int 1000)) caNil))))) caNil)))
def law_s2 : CS := (sPar 3 4 (xO (clDisp caNil)) (xO (clDisp caNil)))
def law_b1 : CS := (sIf (ctV (cOp2 mNeS (cCall m_poly_at (caCons (cVar 8) (caCons (cVar 10) caNil))) (cCall m__law_value (caCons (cVar 6) (caCons (cVar 10) caNil))))) (sRet (cC (.bool false))) sNil)
def law_b2 : CS := (sSeq (sAsg (gTup ((gSet 6) :: ((gSet 7) :: []))) (cCallS 1 m__law_factors (caCons (cVar 2) caNil))) (sSeq (sSet 8 (cCall m__law_poly (caCons (cVar 6) (caCons (cC (.int 0)) caNil)))) (sSeq (sSet 9 (cOp2 mAdd (cCall mSum (caCons (cFz (clComp [18, 19, 20] (ciSeq (cVar 6)) (gTup ((gSet 18) :: ((gSet 19) :: ((gSet 20) :: [])))) ctYes (cIf (ctV (cOp2 mNeS (cVar 18) (cC (.int 0)))) (cC (.int 2)) (cIf (ctV (cOp2 mNeS (cVar 19) (cC (.int 0)))) (cC (.int 1)) (cC (.int 0)))))) caNil)) (cC (.int 2)))) (sSeq (sIf (ctV (cOp2 mNeS (cCall mRepr (caCons (cCall m_poly_of (caCons (cFz (clComp [10] (ciRange1 (cVar 9)) (gSet 10) ctYes (cCall m__law_value (caCons (cVar 6) (caCons (cVar 10) caNil))))) caNil)) caNil)) (cCall mRepr (caCons (cVar 8) caNil)))) (sRet (cC (.bool false))) sNil) (sSeq (sIf (ctOr (ctV (cOp2 mNeS (cCall mRepr (caCons (cCall m_poly_roots (caCons (cVar 8) caNil)) caNil)) (cCall mRepr (caCons (cCall mTuple (caCons (cVar 7) caNil)) caNil)))) (ctV (cOp2 (mCmpI fun i j => decide (j ≤ i)) (cCall mLenD (caCons (cVar 7) caNil)) (cCall mLenD (caCons (cVar 8) caNil))))) (sRet (cC (.bool false))) sNil) (sSeq (sFor (ciSeq (cOp2 mAdd (cVar 7) (cFz (clDisp (caCons (cOp1 mNeg (cC (.int 2))) (caCons (cC (.int 5)) (caCons (cOp2 mSub (cC (.int 0)) (cVar 2)) caNil))))))) (gSet 10) law_b1) (sSeq (sIf (ctNot (ctV (cCall m__law_moved_right (caCons (cVar 6) (caCons (cCallS 1 m__law_of (caCons (cFz (clDisp (caCons (cC (.int 1)) (caCons (cOp1 mNeg (cC (.int 1))) (caCons (cC (.int 6)) (caCons (cC (.int 24)) caNil)))))) caNil)) caNil))))) (sRet (cC (.bool false))) sNil) (sSeq (sAppend 3 (cVar 8)) (sAppend 4 (cVar 7))))))))))
def law_s3 : CS := (sFor (ciRange1 (cC (.int 2))) (gSet 5) law_b2)
def law_s4 : CS := (sIf (ctV (cOp2 mLt (cOp2 mAdd (cCall mLenD (caCons (cOp2 mIx (cPeek 3) (cC (.int 0))) caNil)) (cCall mLenD (caCons (cOp2 mIx (cPeek 3) (cC (.int 1))) caNil))) (cC (.int 7)))) (sSeq (sSet 11 (cCall m_poly_roots (caCons (cCall m_poly_product (caCons (cOp2 mIx (cPeek 3) (cC (.int 0))) (caCons (cOp2 mIx (cPeek 3) (cC (.int 1))) caNil))) caNil))) (sIf (ctV (cOp2 mNeS (cFz (clOf (cVar 11))) (cFz (clSorted (cCall mDict (caCons (cFz (clComp [10] (ciSeq (cOp2 mAdd (cOp2 mIx (cPeek 4) (cC (.int 0))) (cOp2 mIx (cPeek 4) (cC (.int 1))))) (gSet 10) ctYes (cTup (caCons (cVar 10) (caCons (cC (.int 0)) caNil))))) caNil)))))) (sRet (cC (.bool false))) sNil)) sNil)
def law_s5 : CS := (sSet 12 (cIf (ctV (cOp2 mEqS (cCallS 1 mPickB (caCons (cC (.int 2)) caNil)) (cC (.int 0)))) (cCall m_poly_sum (caCons (cOp2 mIx (cPeek 3) (cC (.int 0))) (caCons (cOp2 mIx (cPeek 3) (cC (.int 1))) caNil))) (cCall m_poly_less (caCons (cOp2 mIx (cPeek 3) (cC (.int 0))) (caCons (cOp2 mIx (cPeek 3) (cC (.int 1))) caNil)))))
def law_s6 : CS := (sSet 13 (cIf (ctV (cOp2 mNeS (cVar 12) (cTup caNil))) (cCall m_poly_roots (caCons (cVar 12) caNil)) (cOp2 mIx (cPeek 4) (cC (.int 0)))))
def law_s7 : CS := (sIf (ctV (cOp2 mNeS (cFz (clComp [10] (ciSeq (cOp2 mIx (cPeek 4) (cC (.int 0)))) (gSet 10) (ctAnd (ctV (cOp2 mIn (cVar 10) (cOp2 mIx (cPeek 4) (cC (.int 1))))) (ctV (cOp2 mNotIn (cVar 10) (cVar 13)))) (cVar 10))) (cFz (clDisp caNil)))) (sRet (cC (.bool false))) sNil)
def law_s8 : CS := (sSet 14 (cCallS 1 m__law_of (caCons (cFz (clDisp (caCons (cOp2 mPow (cC (.int 10)) (cC (.int 12))) (caCons (cOp2 mPow (cC (.int 10)) (cC (.int 25))) caNil)))) caNil)))
def law_s9 : CS := (sSet 15 (cFz (clDisp (caCons (cTup (caCons (cC (.int 0)) (caCons (cC (.int 1)) (caCons (cOp2 mSub (cC (.int 0)) (cVar 14)) caNil)))) (caCons (cTup (caCons (cC (.int 0)) (caCons (cOp1 mNeg (cC (.int 3))) (caCons (cOp2 mSub (cC (.int 3)) (cOp2 mMulT (cC (.int 3)) (cVar 14))) caNil)))) caNil)))))
def law_s10 : CS := (sIf (ctV (cOp2 mNeS (cCall mRepr (caCons (cCall m_poly_roots (caCons (cCall m__law_poly (caCons (cVar 15) (caCons (cC (.int 0)) caNil))) caNil)) caNil)) (cCall mRepr (caCons (cTup (caCons (cOp2 mSub (cC (.int 1)) (cVar 14)) (caCons (cVar 14) caNil))) caNil)))) (sRet (cC (.bool false))) sNil)
def law_s11 : CS := (sIf (ctV (cOp2 mNeS (cCall m_poly_roots (caCons (cCall m__law_poly (caCons (cFz (clDisp (caCons (cTup (caCons (cC (.int 1)) (caCons (cC (.int 0)) (caCons (cOp2 mSub (cC (.int 1)) (cOp2 mMulT (cVar 14) (cVar 14))) caNil)))) caNil))) (caCons (cC (.int 0)) caNil))) caNil)) (cTup caNil))) (sRet (cC (.bool false))) sNil)
def law_s12 : CS := (sSet 16 (cTup (caCons (cCallS 1 m__law_of (caCons (cFz (clDisp (caCons (cVar 14) (caCons (cOp1 mNeg (cC (.int 7))) (caCons (cC (.int 6)) caNil))))) caNil)) (caCons (cCallS 1 m__law_of (caCons (cFz (clDisp (caCons (cC (.int 1)) (caCons (cOp1 mNeg (cC (.int 2))) (caCons (cC (.int 3)) (caCons (cC (.int 6)) caNil)))))) caNil)) caNil))))
def law_s13 : CS := (sSet 17 (cIf (ctV (cOp2 mEqS (cOp2 mMod (cCall mInt (caCons (cOp2 mIx (cVar 16) (cC (.int 0))) caNil)) (cCall mAbs (caCons (cOp2 mIx (cVar 16) (cC (.int 1))) caNil))) (cC (.int 0)))) (cTup (caCons (cOp2 mSub (cC (.int 0)) (cOp2 mFdiv (cOp2 mIx (cVar 16) (cC (.int 0))) (cOp2 mIx (cVar 16) (cC (.int 1))))) caNil)) (cTup caNil)))
def law_s14 : CS := (sRet (cOp2 mEqS (cCall mRepr (caCons (cFz (clDisp (caCons (cCall m_poly_roots (caCons (cVar 16) caNil)) (caCons (cCall m_poly_roots (caCons (cTup (caCons (cOp2 mIx (cVar 16) (cC (.int 0))) caNil)) caNil)) caNil)))) caNil)) (cCall mRepr (caCons (cFz (clDisp (caCons (cVar 17) (caCons (cTup caNil) caNil)))) caNil))))
def cs_law : CS := (sSeq law_s1 (sSeq law_s2 (sSeq law_s3 (sSeq law_s4 (sSeq law_s5 (sSeq law_s6 (sSeq law_s7 (sSeq law_s8 (sSeq law_s9 (sSeq law_s10 (sSeq law_s11 (sSeq law_s12 (sSeq law_s13 law_s14)))))))))))))
end W
namespace W
open PySem PySem.Spec PyProof.Rows L2 DL PM
theorem ifrom_get {lo : Int} {n i : Nat} {d : PyData} (h : (DL.intsFrom lo n)[i]? = some d) : i < n ∧ d = .int (lo + (i : Int)) := DL.intsFrom_get h
/-! ### how great they are -/
theorem desc_smg {n : Int} {b : Nat} : ∀ k : Nat, (∀ i : Nat, i < k → Sm b (n - i)) → Sm (b * k + 1) (desc n k)
  | 0, _ => by show (1 : Int).natAbs < 2 ^ 1; decide
  | k + 1, h => by
    have := (desc_smg k fun i hi => h i (by omega)).mul (h k (by omega))
    exact this.le (by rw [Nat.mul_succ]; omega)
theorem ch_smg {n : Int} {b k : Nat} (h : ∀ i : Nat, i < k → Sm b (n - i)) : Sm (b * k + 1) (ch n k) := by
  have h1 := desc_smg k h
  have h2 := ch_mul n k
  unfold Sm at *
  rw [← h2, Int.natAbs_mul] at h1
  have h3 : 0 < (fact k).natAbs := by have := fact_pos k; omega
  have h4 : (ch n k).natAbs ≤ (fact k).natAbs * (ch n k).natAbs := Nat.le_mul_of_pos_left _ h3
  omega
theorem sm_less {n : Int} {b : Nat} (h : Sm b n) {i : Nat} (hb : 20 ≤ b) (hi : i ≤ 1000000) : Sm (b + 1) (n - i) := by
  have q : (2 : Nat) ^ 20 ≤ 2 ^ b := Nat.pow_le_pow_right (by decide) hb
  have q2 : (2 : Nat) ^ 20 = 1048576 := by decide
  unfold Sm at *
  rw [Nat.pow_succ]
  omega
theorem ch_smb {n : Int} {b k : Nat} (h : Sm b n) (hb : 20 ≤ b) (hk : k ≤ 1000000) : Sm ((b + 1) * k + 1) (ch n k) :=
  ch_smg fun i hi => sm_less h hb (by omega)
/-- choose -/
theorem choose_spec (n : Int) (k : Nat) (hk : k ≤ 200) (hs : ∀ i : Nat, i < k → Sm 4000 (n - i)) : m_choose [.int n, .int k] = .ret (.int (ch n k)) := by
  obtain ⟨e', h1, h2⟩ := for_det (g := gSet 3) (b := choose_b1) (ds := DL.intsFrom 0 k) (fun i e => ∃ s, e = [.val (.int n), .val (.int k), .val (.int (ch n i)), s]) (fun i d hd e ⟨s, he⟩ => by
    obtain ⟨hi, rfl⟩ := ifrom_get hd
    subst he
    refine ⟨[.val (.int n), .val (.int k), .val (.int (ch n i)), .val (.int (0 + (i : Int)))], [.val (.int n), .val (.int k), .val (.int (ch n (i + 1))), .val (.int (0 + (i : Int)))], rfl, ?_, _, rfl⟩
    refine set_eq ?_
    rw [op2_ret (x := .int (ch n i * (n - i))) (y := .int (i + 1)) ?_ ?_]
    · rw [DL.fdiv_eq (by omega) (log_lt (by omega)), ch_fdiv]
    · rw [op2_ret (x := .int (ch n i)) (y := .int (n - i)) rfl (by show M.ret (PyData.int (n - (0 + i))) = _; rw [Int.zero_add])]
      exact mul_sm (ch_smg fun j hj => hs j (by omega)) (hs i hi) (by omega) (by omega)
    · show M.ret (PyData.int (0 + (i : Int) + 1)) = _
      rw [Int.zero_add]) (e := [.val (.int n), .val (.int k), .val (.int 1), .no]) ⟨.no, by rw [ch_zero]⟩
  rw [DL.intsFrom_len] at h2
  obtain ⟨s, rfl⟩ := h2
  refine fnD_ret (e := [.val (.int n), .val (.int k), .val (.int (ch n k)), s]) rfl ?_
  show sSeq _ (sSeq _ _) [.val (.int n), .val (.int k), .no, .no] = _
  rw [seq_eq (e' := [.val (.int n), .val (.int k), .val (.int 1), .no]) rfl]
  rw [seq_eq (e' := [.val (.int n), .val (.int k), .val (.int (ch n k)), s]) (by rw [for_eq (rng_eq (n := k) rfl (by omega))]; exact h1)]
  rfl
/-- poly_least -/
theorem atI_last {a : List PyData} {x : PyData} : L2.atI (a ++ [x]) (-1) = some x := by
  unfold L2.atI L2.ixN
  rw [if_neg (by decide), if_pos (by rw [List.length_append, List.length_singleton]; omega)]
  show (a ++ [x])[((-1 : Int) + ((a ++ [x]).length : Nat)).toNat]? = _
  rw [List.length_append, List.length_singleton, show ((-1 : Int) + ((a.length + 1 : Nat) : Int)).toNat = a.length by omega, List.getElem?_append_right (Nat.le_refl _), Nat.sub_self]
  rfl
theorem atI_zero {α : Type} {x : α} {r : List α} : L2.atI (x :: r) 0 = some x := by
  unfold L2.atI L2.ixN
  rw [if_pos (by decide), if_pos (by rw [List.length_cons]; omega)]
  rfl
def slLen : Option Sl → Nat
  | some (.own ds) => ds.length
  | _ => 0
def lenOwn (e : En) : Nat := slLen e[1]?
theorem least_spec {q : PyData} (a : List Int) (hl : a.length ≤ 100000) (hq : q = lsI a ∨ q = tpI a) : m_poly_least [q] = .ret (tpI (least a)) := by
  have hq2 : itemsOf q = .ret (a.map PyData.int) := by rcases hq with rfl | rfl <;> rfl
  obtain ⟨e', h1, h2⟩ := while_det (t := ctAnd (ctV (cOp2 mNeS (cPeek 1) (cFz (clDisp caNil)))) (ctV (cOp2 mEqS (cOp2 mIx (cPeek 1) (cOp1 mNeg (cC (.int 1)))) (cC (.int 0))))) (b := poly_least_b1)
    (I := fun e => ∃ b : List Int, e = [.val q, .own (b.map PyData.int)] ∧ least b = least a) (J := fun e => e = [.val q, .own ((least a).map PyData.int)]) lenOwn (fun e ⟨b, he, hb⟩ => by
      subst he
      have pk : cPeek 1 [.val q, .own (b.map PyData.int)] = .ret (lsI b) := rfl
      have t1 : ctV (cOp2 mNeS (cPeek 1) (cFz (clDisp caNil))) [.val q, .own (b.map PyData.int)] = .ret (!decide (b = [])) := by
        unfold ctV
        rw [op2_ret (y := lsI []) pk (by rfl), neS_lI]; rfl
      by_cases b0 : b = []
      · left
        subst b0
        refine ⟨?_, ?_⟩
        · unfold ctAnd; rw [t1]; rfl
        · rw [← hb]; rfl
      · obtain ⟨c, x, rfl⟩ : ∃ c x, b = c ++ [x] := ⟨b.dropLast, b.getLast b0, (List.dropLast_concat_getLast b0).symm⟩
        have t2 : ctV (cOp2 mEqS (cOp2 mIx (cPeek 1) (cOp1 mNeg (cC (.int 1)))) (cC (.int 0))) [.val q, .own ((c ++ [x]).map PyData.int)] = .ret (decide (x = 0)) := by
          unfold ctV
          rw [op2_ret (x := .int x) (y := .int 0) ?_ rfl]
          · rfl
          · rw [op2_ret (y := .int (-1)) pk rfl]
            show ofO (L2.atI ((c ++ [x]).map PyData.int) (-1)) = _
            rw [List.map_append, List.map_singleton, atI_last]; rfl
        have tt : ctAnd (ctV (cOp2 mNeS (cPeek 1) (cFz (clDisp caNil)))) (ctV (cOp2 mEqS (cOp2 mIx (cPeek 1) (cOp1 mNeg (cC (.int 1)))) (cC (.int 0)))) [.val q, .own ((c ++ [x]).map PyData.int)] = .ret (decide (x = 0)) := by
          unfold ctAnd
          rw [t1, decide_eq_false b0]
          simp only [M.ret_bind, Bool.not_false, if_true]
          exact t2
        by_cases x0 : x = 0
        · right
          subst x0
          refine ⟨[.val q, .own (c.map PyData.int)], tt, ?_, ⟨c, rfl, by rw [← hb, least_snoc0]⟩, ?_⟩
          · show sPop 1 [.val q, .own ((c ++ [0]).map PyData.int)] = _
            unfold sPop
            rw [List.map_append, List.map_singleton]
            cases c with
            | nil => rfl
            | cons y c =>
              show M.ret (Fl.nx, _) = _
              rw [List.map_cons, List.cons_append]
              show M.ret (Fl.nx, [Sl.val q, Sl.own ((PyData.int y :: (c.map PyData.int ++ [PyData.int 0])).dropLast)]) = _
              rw [← List.cons_append, List.dropLast_concat]
          · show (c.map PyData.int).length < ((c ++ [0]).map PyData.int).length
            simp
        · left
          refine ⟨by rw [tt, decide_eq_false x0], ?_⟩
          rw [← hb, least_snoc c x0]) (n := 1000000) (e := [.val q, .own (a.map PyData.int)]) ⟨a, rfl, rfl⟩ (by show (a.map PyData.int).length < _; rw [List.length_map]; omega)
  subst h2
  refine fnD_ret (e := [.val q, .own ((least a).map PyData.int)]) rfl ?_
  show sSeq _ (sSeq _ _) [.val q, .no] = _
  rw [seq_eq (own_eq (ds := a.map PyData.int) (by show (M.ret q).bind itemsOf = _; exact hq2))]
  have h1' : sWhile 1000000 (ctAnd (ctV (cOp2 mNeS (cPeek 1) (cFz (clDisp caNil)))) (ctV (cOp2 mEqS (cOp2 mIx (cPeek 1) (cOp1 mNeg (cC (.int 1)))) (cC (.int 0))))) poly_least_b1 [.val q, .own (a.map PyData.int)] = _ := h1
  rw [show ([Sl.val q, Sl.no] : En).set 1 (Sl.own (a.map PyData.int)) = [.val q, .own (a.map PyData.int)] from rfl, seq_eq h1']
  exact seq_ret (by rw [call1_eq (d := lsI (least a)) rfl]; rfl)
/-! ### lists of numbers by place -/
def nat' : PyData → Nat
  | .int i => i.toNat
  | _ => 0
def int' : PyData → Int
  | .int i => i
  | _ => 0
theorem map_ints (f : PyData → PyData) (g : Int → Int) (ns : List Int) (h : ∀ n, f (.int n) = .int (g n)) : (ns.map PyData.int).map f = (ns.map g).map PyData.int := by
  rw [List.map_map, List.map_map]
  exact List.map_congr_left fun n _ => h n
theorem ifrom_map (n : Nat) (f : PyData → PyData) (g : Nat → Int) (h : ∀ i : Nat, f (.int i) = .int (g i)) : (DL.intsFrom 0 n).map f = ((List.range n).map g).map PyData.int := by
  unfold DL.intsFrom
  rw [List.map_map, List.map_map]
  refine List.map_congr_left fun i _ => ?_
  show f (.int (0 + (i : Int))) = _
  rw [Int.zero_add, h]; rfl
/-- poly_of's step -/
theorem diffs_zip : ∀ l : List Int, (zipD (l.map PyData.int) ((l.drop 1).map PyData.int)).map (fun d => match d with | .tuple [.int a, .int b] => PyData.int (b - a) | _ => .none) = (diffs l).map PyData.int
  | [] => rfl
  | [_] => rfl
  | x :: y :: r => by
    have ih := diffs_zip (y :: r)
    show PyData.int (y - x) :: List.map _ (zipD ((y :: r).map PyData.int) (((y :: r).drop 1).map PyData.int)) = _
    rw [ih]; rfl
theorem zip_mem : ∀ {l m : List Int} {d : PyData}, d ∈ zipD (l.map PyData.int) (m.map PyData.int) → ∃ a b, d = .tuple [.int a, .int b] ∧ a ∈ l ∧ b ∈ m
  | [], _, d, h => by simp [zipD] at h
  | _ :: _, [], d, h => by simp [zipD] at h
  | x :: l, y :: m, d, h => by
    simp only [List.map_cons, zipD, List.mem_cons] at h
    rcases h with rfl | h
    · exact ⟨x, y, rfl, List.mem_cons_self, List.mem_cons_self⟩
    · obtain ⟨a, b, e, h1, h2⟩ := zip_mem h
      exact ⟨a, b, e, List.mem_cons_of_mem _ h1, List.mem_cons_of_mem _ h2⟩
theorem newt_len : ∀ (k : Nat) (l : List Int), (newt k l).length ≤ k
  | 0, _ => Nat.le_refl 0
  | k + 1, [] => Nat.zero_le _
  | k + 1, x :: r => by
    show (newt k (diffs (x :: r))).length + 1 ≤ k + 1
    have := newt_len k (diffs (x :: r))
    omega
theorem newt_nil : ∀ k, newt k [] = []
  | 0 => rfl
  | _ + 1 => rfl
theorem newt_more : ∀ (k : Nat) (l : List Int), l.length ≤ k → newt (k + 1) l = newt k l
  | 0, [], _ => rfl
  | 0, _ :: _, h => absurd h (by simp)
  | k + 1, [], _ => rfl
  | k + 1, x :: r, h => by
    show x :: newt (k + 1) (diffs (x :: r)) = x :: newt k (diffs (x :: r))
    rw [newt_more k (diffs (x :: r)) (by rw [diffs_len]; simp at h ⊢; omega)]
def slLen2 : Option Sl → Nat
  | some (.val (.list ds)) => ds.length
  | _ => 0
def lenVal (e : En) : Nat := slLen2 e[2]?
theorem of_spec {q : PyData} (vs : List Int) (hl : vs.length ≤ 10000) (hq : q = lsI vs ∨ q = tpI vs) : m_poly_of [q] = .ret (tpI (least (newt vs.length vs))) := by
  have hq2 : itemsOf q = .ret (vs.map PyData.int) := by rcases hq with rfl | rfl <;> rfl
  obtain ⟨e', h1, h2⟩ := while_det (t := ctV (cOp2 mNeS (cVar 2) (cFz (clDisp caNil)))) (b := poly_of_b1)
    (I := fun e => ∃ (f l : List Int) (s t : Sl), e = [.val q, .own (f.map PyData.int), .val (lsI l), s, t] ∧ f ++ newt l.length l = newt vs.length vs ∧ f.length + l.length ≤ vs.length)
    (J := fun e => ∃ s t, e = [.val q, .own ((newt vs.length vs).map PyData.int), .val (lsI []), s, t]) lenVal (fun e ⟨f, l, s, t, he, hf, hll⟩ => by
      subst he
      have tt : ctV (cOp2 mNeS (cVar 2) (cFz (clDisp caNil))) [.val q, .own (f.map PyData.int), .val (lsI l), s, t] = .ret (!decide (l = [])) := by
        unfold ctV
        rw [op2_ret (x := lsI l) (y := lsI []) rfl (by rfl), neS_lI]; rfl
      cases l with
      | nil =>
        left
        refine ⟨by rw [tt]; rfl, s, t, ?_⟩
        rw [← hf, newt_nil, List.append_nil]
      | cons x r =>
        right
        refine ⟨[.val q, .own ((f ++ [x]).map PyData.int), .val (lsI (diffs (x :: r))), s, t], by rw [tt]; rfl, ?_, ⟨f ++ [x], diffs (x :: r), s, t, rfl, ?_, ?_⟩, ?_⟩
        · show sSeq _ (sSeq _ _) _ = _
          rw [seq_eq (e' := [.val q, .own ((f ++ [x]).map PyData.int), .val (lsI (x :: r)), s, t]) ?_]
          · rw [seq_eq (own_eq (ds := (diffs (x :: r)).map PyData.int) ?_)]
            · rfl
            · rw [← diffs_zip, comp_all (f := fun d => match d with | .tuple [.int a, .int b] => PyData.int (b - a) | _ => .none) (ds := zipD ((x :: r).map PyData.int) (((x :: r).drop 1).map PyData.int))]
              · show ((M.ret (lsI (x :: r))).bind _) = _
                simp only [M.ret_bind]
                have e1 : cSl (cVar 2) (some (cC (.int 1))) none [.val q, .own ((f ++ [x]).map PyData.int), .val (lsI (x :: r)), s, t] = .ret (.list (cutD ((x :: r).map PyData.int) (some ((1 : Nat) : Int)) none)) := rfl
                rw [e1, cut_from]
                rfl
              · rw [zipD_len]; simp only [List.length_map, List.length_cons] at hll ⊢; omega
              · intro d hd
                obtain ⟨a, b, rfl, _, _⟩ := zip_mem hd
                exact ⟨_, rfl, rfl⟩
          · rw [app_eq (d := .int x) (ds := f.map PyData.int) rfl (by rw [op2_ret (x := lsI (x :: r)) (y := .int 0) rfl rfl]; show ofO (L2.atI (PyData.int x :: r.map PyData.int) 0) = _; rw [atI_zero]; rfl) (by rw [List.length_map]; simp only [List.length_cons] at hll; omega), List.map_append]
            rfl
        · rw [List.append_assoc, ← hf]
          congr 1
          show x :: newt (diffs (x :: r)).length (diffs (x :: r)) = x :: newt r.length (diffs (x :: r))
          rw [show (diffs (x :: r)).length = r.length by rw [diffs_len]; rfl]
        · rw [List.length_append, diffs_len, List.length_singleton]; simp only [List.length_cons] at hll ⊢; omega
        · show ((diffs (x :: r)).map PyData.int).length < ((x :: r).map PyData.int).length
          rw [List.length_map, List.length_map, diffs_len, List.length_cons]; omega) (n := 1000000) (e := [.val q, .own [], .val (lsI vs), .no, .no]) ⟨[], vs, .no, .no, rfl, rfl, by simp⟩ (by show (vs.map PyData.int).length < _; rw [List.length_map]; omega)
  obtain ⟨s, t, rfl⟩ := h2
  have h1' : sWhile 1000000 (ctV (cOp2 mNeS (cVar 2) (cFz (clDisp caNil)))) poly_of_b1 [.val q, .own [], .val (lsI vs), .no, .no] = _ := h1
  refine fnD_ret (e := [.val q, .val (.list ((newt vs.length vs).map PyData.int)), .val (lsI []), s, t]) rfl ?_
  show sSeq _ (sSeq _ _) [.val q, .no, .no, .no, .no] = _
  rw [seq_eq (e' := [.val q, .own [], .val (lsI vs), .no, .no]) ?_, seq_eq h1']
  · show sRet _ [.val q, .val (.list ((newt vs.length vs).map PyData.int)), .val (lsI []), s, t] = _
    refine seq_ret ?_
    rw [call1_eq (d := lsI (newt vs.length vs)) rfl]
    exact least_spec _ (by have := newt_len vs.length vs; omega) (.inl rfl)
  · show (M.bind (xO (clDisp caNil) _) _) = _
    have e1 : xO (clDisp caNil) [.val q, .no, .no, .no, .no] = .ret (.own []) := rfl
    have e2 : xV (cFz (clOf (cVar 0))) [.val q, .no, .no, .no, .no] = .ret (.val (lsI vs)) := by
      show (M.bind (M.bind (M.bind (M.ret q) itemsOf) _) _) = _
      simp only [M.ret_bind, hq2]
    rw [e1]
    simp only [M.ret_bind, e2]
    rfl
end W
namespace W
open PySem PySem.Spec PyProof.Rows L2 DL PM
local macro_rules | `(tactic| walk_at "v") => `(tactic| simp only [↓v_sSeq, ↓sK_nx, ↓sK_rt, ↓sK_bk, ↓sK_ct, ↓v_sNil, ↓v_sCont, ↓v_sBrk, ↓v_sSet, ↓v_sOwn, ↓v_sRet, ↓v_sDrop, ↓v_sIf, ↓v_sFrzT, ↓fz_own, ↓fz_ownD, ↓fz_val, ↓v_sAsg, ↓v_sAug, ↓v_sPar, ↓v_sPar3, ↓v_xV, ↓v_xO, ↓ap_own, ↓v_sAppend, ↓v_sExtend, ↓v_sPop, ↓v_sFor, ↓v_cdNil, ↓v_sOwnD, ↓v_xD, ↓dp_ownD, ↓v_sPut, ↓o_putN, ↓v_clSorted, ↓o_sortN, ↓o_dictN, ↓v_clRev, ↓v_clRev0, ↓v_cChain, ↓o_isN0, ↓o_isNI, ↓o_notN0, ↓o_notNI, ↓o_notNT, ↓o_inT, ↓o_ninT, ↓o_inL, ↓o_ninL, ↓v_endRt, ↓v_endNx, ↓v_c, ↓v_var0, ↓v_varS, ↓v_peek0, ↓v_peek1, ↓v_peek2, ↓v_peekS, ↓v_op2, ↓v_op1, ↓br_t, ↓br_f, ↓br_n, ↓br_d, ↓v_cIf, ↓v_asB, ↓v_ctV, ↓v_ctNot, ↓v_ctAnd, ↓v_ctOr, ↓v_ctYes, ↓v_cNot, ↓v_cAnd, ↓v_cOr, ↓v_caNil, ↓v_caCons, ↓v_caStar, ↓v_cTup, ↓v_clDisp, ↓v_cFz, ↓v_cCall, ↓v_callS0, ↓v_callS, ↓v_itemsL, ↓v_itemsT, ↓v_ciSeq, ↓v_asI, ↓v_range1, ↓v_range2, ↓v_clRg1, ↓v_clRg2, ↓v_ciEnum, ↓v_ciZip0, ↓v_ciZip1, ↓v_clOf, ↓v_optN, ↓v_optS, ↓v_cSl, ↓v_mSlL, ↓v_mSlT, ↓v_isT, ↓isT_tt, ↓v_comp, ↓v_gSet, ↓v_gTup, ↓v_gSeqT, ↓v_gSeqL, ↓v_gGo0, ↓v_gGoS, ↓o_addI, ↓o_addL, ↓o_addT, ↓o_addII, ↓o_sub, ↓o_neg, ↓o_mul, ↓o_mulL, ↓o_mulTu, ↓o_neS, ↓o_eqS, ↓o_mulI, ↓o_fdiv, ↓o_fdivI, ↓o_mod, ↓o_pow, ↓o_cmpI, ↓o_eqI, ↓o_neI, ↓o_ltI, ↓o_leI, ↓o_ixL, ↓o_ixT, ↓o_tupL, ↓o_tupT, ↓o_lenL, ↓o_lenT, ↓o_abs, ↓o_intI, ↓o_intB, ↓o_max2, ↓o_min2, ↓o_sum, ↓o_pick, ↓o_eqLI, ↓o_neLI, ↓o_eqTI, ↓o_neTI, ↓o_eqL0, ↓o_neL0, ↓o_eqT0, ↓o_neT0, ↓lp_nx, ↓lp_ct, ↓lp_bk, ↓lp_rt, ↓v_ret, wipeE, List.set_cons_zero, List.set_cons_succ, List.getElem?_cons_zero, List.getElem?_cons_succ, List.map_cons, List.map_nil, List.length_cons, List.length_nil, List.length_map, List.cons_append, List.nil_append, List.replicate_succ, List.replicate_zero, Nat.reduceSub, Nat.reduceAdd, true_and, and_true, Nat.zero_add, eq_self, not_true_eq_false, false_implies, true_implies, implies_true, imp_false, Decidable.not_not])
local macro_rules | `(tactic| walk_at "f") => `(tactic| (simp only [v_fnD, v_fnS, List.map_cons, List.map_nil, List.length_cons, List.length_nil, List.cons_append, List.nil_append, Nat.reduceSub, Nat.reduceAdd, List.replicate_succ, List.replicate_zero, true_and, Nat.zero_add]))
def Al (k : Nat) (a : List Int) : Prop := ∀ x ∈ a, Sm k x
theorem Al.le {k m : Nat} {a : List Int} (h : Al k a) (hl : k ≤ m) : Al m a := fun x hx => (h x hx).le hl
theorem evF_smb {n : Int} {b L : Nat} (h : Sm b n) (hb : 20 ≤ b) (hL : L ≤ 1000000) {ka : Nat} : ∀ (a : List Int) (k : Nat), Al ka a → k + a.length ≤ L → Sm (ka + ((b + 1) * L + 1) + a.length) (evF k a n)
  | [], k, _, _ => by show (0 : Int).natAbs < 2 ^ _; exact Nat.two_pow_pos _
  | x :: r, k, ha, hk => by
    rw [List.length_cons] at hk ⊢
    have q : (b + 1) * k ≤ (b + 1) * L := Nat.mul_le_mul_left _ (by omega)
    have h1 := ((ha x List.mem_cons_self).mul (ch_smb (k := k) h hb (by omega))).le (show ka + ((b + 1) * k + 1) ≤ ka + ((b + 1) * L + 1) + r.length by omega)
    have h2 := evF_smb h hb hL r (k + 1) (fun y hy => ha y (List.mem_cons_of_mem _ hy)) (by omega)
    exact h1.add h2
/-- at 0, 1, .. -/
theorem ev_nat_sm {ka : Nat} : ∀ (i : Nat) {a : List Int}, Al ka a → Sm (ka + i) (ev a (i : Nat))
  | _, [], _ => by show (0 : Int).natAbs < 2 ^ _; exact Nat.two_pow_pos _
  | 0, x :: r, h => by
    rw [show (((0 : Nat) : Int)) = 0 from rfl, ev_at0]; exact h x List.mem_cons_self
  | i + 1, x :: r, h => by
    have e : ev (x :: r) ((i + 1 : Nat) : Int) = ev (x :: r) (i : Nat) + ev r (i : Nat) := by
      have := congrFun (dl_ev x r) (i : Nat)
      show _ = _
      have q : ev (x :: r) ((i : Nat) + 1) - ev (x :: r) (i : Nat) = ev r (i : Nat) := this
      rw [show ((i + 1 : Nat) : Int) = (i : Int) + 1 from rfl]
      omega
    rw [e]
    exact ((ev_nat_sm i h).add (ev_nat_sm i fun y hy => h y (List.mem_cons_of_mem _ hy))).le (by omega)
theorem diffs_al {k : Nat} : ∀ {l : List Int}, Al k l → Al (k + 1) (diffs l)
  | [], _ => fun x h => by simp [diffs] at h
  | [_], _ => fun x h => by simp [diffs] at h
  | x :: y :: r, h => fun z hz => by
    simp only [diffs, List.mem_cons] at hz
    rcases hz with rfl | hz
    · exact (h y (List.mem_cons_of_mem _ List.mem_cons_self)).sub (h x List.mem_cons_self)
    · exact diffs_al (l := y :: r) (fun w hw => h w (List.mem_cons_of_mem _ hw)) z hz
theorem newt_al : ∀ (m : Nat) {l : List Int} {k : Nat}, Al k l → Al (k + m) (newt m l)
  | 0, _, _, _ => fun x h => by simp [newt] at h
  | m + 1, [], _, _ => fun x h => by simp [newt] at h
  | m + 1, x :: r, k, h => fun z hz => by
    simp only [newt, List.mem_cons] at hz
    rcases hz with rfl | hz
    · exact (h z List.mem_cons_self).le (by omega)
    · exact (newt_al m (diffs_al h) z hz).le (by omega)
theorem least_sub : ∀ a : List Int, ∀ x ∈ least a, x ∈ a := by
  refine snoc_ind (fun x h => h) fun a y ih x h => ?_
  by_cases hy : y = 0
  · subst hy
    rw [least_snoc0] at h
    exact List.mem_append_left _ (ih x h)
  · rw [least_snoc a hy] at h; exact h
theorem least_al {k : Nat} {a : List Int} (h : Al k a) : Al k (least a) := fun x hx => h x (least_sub a x hx)
/-! ### poly_at -/
theorem evF_sum (n : Int) : ∀ (a : List Int) (k : Nat), ((List.range a.length).map fun i => a.getD i 0 * ch n (k + i)).sum = evF k a n
  | [], k => rfl
  | x :: r, k => by
    have ih := evF_sum n r (k + 1)
    rw [List.length_cons, List.range_succ_eq_map, List.map_cons, List.sum_cons, List.map_map]
    show x * ch n (k + 0) + _ = x * ch n k + evF (k + 1) r n
    rw [← ih, Nat.add_zero]
    congr 2
    refine List.map_congr_left fun i _ => ?_
    show (x :: r).getD (i + 1) 0 * ch n (k + (i + 1)) = _
    rw [show k + (i + 1) = k + 1 + i by omega]; rfl
theorem enum_ints (a : List Int) : enumD (a.map PyData.int) = (List.range a.length).map fun i => .tuple [.int (i : Nat), .int (a.getD i 0)] := by
  unfold enumD
  rw [List.length_map]
  refine List.map_congr_left fun i hi => ?_
  have hi := List.mem_range.mp hi
  rw [List.getD_eq_getElem?_getD, List.getElem?_map, List.getElem?_eq_getElem hi, List.getD_eq_getElem?_getD, List.getElem?_eq_getElem hi]
  rfl
theorem getD_al {k : Nat} {a : List Int} (h : Al k a) (i : Nat) : Sm k (a.getD i 0) := by
  rw [List.getD_eq_getElem?_getD]
  cases q : a[i]? with
  | none => exact Nat.two_pow_pos _
  | some x => exact h x (List.mem_of_getElem? q)
/-- sum([number * f(n, few) for few, number in enumerate(poly)]) -/
theorem sum_enum {F : FD} {a : List Int} {n : Int} {ka : Nat} (hl : a.length ≤ 100) (ha : Al ka a) (hk : ka ≤ 500000) (hn : Sm 3999 n) (hF : ∀ i : Nat, i < a.length → F [.int n, .int i] = .ret (.int (ch n i))) :
    cCall mSum (caCons (cFz (clComp [2, 3] (ciEnum (cVar 0)) (gTup ((gSet 2) :: ((gSet 3) :: []))) ctYes (cOp2 mMulT (cVar 3) (cCall F (caCons (cVar 1) (caCons (cVar 2) caNil)))))) caNil) [.val (tpI a), .val (.int n), .no, .no] = .ret (.int (ev a n)) := by
  rw [call1_eq (d := .list (((List.range a.length).map fun i => a.getD i 0 * ch n i).map PyData.int)) ?_]
  · show (match asIntsO _ with | some ns => M.ret (PyData.int ns.sum) | none => .bad) = _
    rw [asIntsO_of]
    show M.ret (PyData.int _) = _
    have := evF_sum n a 0
    simp only [Nat.zero_add] at this
    rw [this]
  · refine fz_ret ?_
    have hd : ciEnum (cVar 0) [.val (tpI a), .val (.int n), .no, .no] = .ret (enumD (a.map PyData.int)) := rfl
    rw [comp_all (f := fun d => match d with | .tuple [.int i, .int x] => PyData.int (x * ch n i.toNat) | _ => .none) hd (by rw [enum_ints, List.length_map, List.length_range]; omega) (fun d hd => ?_)]
    · rw [enum_ints, List.map_map, List.map_map]
      rfl
    · rw [enum_ints] at hd
      obtain ⟨i, hi, rfl⟩ := List.mem_map.mp hd
      have hi := List.mem_range.mp hi
      refine ⟨[.val (tpI a), .val (.int n), .val (.int i), .val (.int (a.getD i 0))], rfl, ?_⟩
      rw [op2_ret (x := .int (a.getD i 0)) (y := .int (ch n i)) rfl (by rw [call2_eq (d := .int n) (d2 := .int i) rfl rfl]; exact hF i hi)]
      rw [mul_sm (getD_al ha i) (ch_smb hn (k := i) (by decide) (by omega)) (by omega) (by omega)]
      rfl
theorem at_spec {a : List Int} {n : Int} {ka : Nat} (hl : a.length ≤ 100) (ha : Al ka a) (hk : ka ≤ 500000) (hn : Sm 3999 n) : m_poly_at [tpI a, .int n] = .ret (.int (ev a n)) :=
  fnD_ret (e := [.val (tpI a), .val (.int n), .no, .no]) rfl (seq_ret (sum_enum hl ha hk hn fun i hi => choose_spec n i (by omega) fun j hj => sm_less hn (by decide) (by omega)))
/-! ### poly_of of values -/
theorem range_map_eq {f : Int → Int} (L : Nat) : ((List.range L).map fun i => f (i : Nat)) = (List.range' 0 L).map fun i => f (i : Nat) := by rw [List.range_eq_range']
/-- poly_of([f(n) for n in range(L)]), f of less than L differences -/
theorem of_fun {f : Int → Int} {L : Nat} (hL : L ≤ 10000) (hd : Dg L f) {q : PyData} (hq : q = lsI ((List.range L).map fun i => f (i : Nat)) ∨ q = tpI ((List.range L).map fun i => f (i : Nat))) :
    ∃ a, m_poly_of [q] = .ret (tpI a) ∧ isLeast a ∧ ev a = f ∧ a.length ≤ L ∧ ∀ k, (∀ i : Nat, i < L → Sm k (f (i : Nat))) → Al (k + L) a := by
  have hl : ((List.range L).map fun i => f ((i : Nat) : Int)).length = L := by rw [List.length_map, List.length_range]
  refine ⟨_, of_spec _ (by rw [hl]; omega) hq, least_isLeast _, ?_, ?_, fun k hk => ?_⟩
  · rw [hl, range_map_eq, of_values hd]
  · rw [hl]; exact Nat.le_trans (least_le _) (newt_len _ _)
  · rw [hl]
    refine least_al (newt_al L fun x hx => ?_)
    obtain ⟨i, hi, rfl⟩ := List.mem_map.mp hx
    exact hk i (List.mem_range.mp hi)
/-! ### times, sum, less -/
theorem ev_map_mul (c : Int) : ∀ (a : List Int) (k : Nat), evF k (a.map fun x => c * x) = fun n => c * evF k a n
  | [], k => by funext n; exact (Int.mul_zero c).symm
  | x :: r, k => by
    funext n
    have ih := congrFun (ev_map_mul c r (k + 1)) n
    show c * x * ch n k + evF (k + 1) (r.map fun x => c * x) n = c * (x * ch n k + evF (k + 1) r n)
    rw [ih, Int.mul_add, Int.mul_assoc]
theorem times_spec {a : List Int} {c : Int} {ka kc : Nat} (hl : a.length ≤ 1000) (ha : Al ka a) (hc : Sm kc c) (h1 : ka ≤ 900000) (h2 : kc ≤ 900000) :
    m_poly_times [tpI a, .int c] = .ret (tpI (least (a.map fun x => c * x))) := by
  refine fnD_ret (e := [.val (tpI a), .val (.int c), .no]) rfl (seq_ret ?_)
  rw [call1_eq (d := lsI (a.map fun x => c * x)) ?_]
  · exact least_spec _ (by rw [List.length_map]; omega) (.inl rfl)
  · refine fz_ret ?_
    rw [comp_all (ds := a.map PyData.int) (f := fun d => .int (c * int' d)) rfl (by rw [List.length_map]; omega) (fun d hd => ?_)]
    · exact congrArg M.ret (map_ints _ _ _ fun n => rfl)
    · obtain ⟨x, hx, rfl⟩ := List.mem_map.mp hd
      refine ⟨_, rfl, ?_⟩
      show mMulT (.int c) (.int x) = _
      rw [mul_sm hc (ha x hx) (by omega) (by omega)]
      rfl
def pad (m : Nat) (a : List Int) : List Int := a ++ List.replicate (m - a.length) 0
theorem pad_len {m : Nat} {a : List Int} (h : a.length ≤ m) : (pad m a).length = m := by
  unfold pad; rw [List.length_append, List.length_replicate]; omega
theorem evF_zeros (n : Int) : ∀ (j k : Nat), evF k (List.replicate j 0) n = 0
  | 0, _ => rfl
  | j + 1, k => by
    show 0 * ch n k + evF (k + 1) (List.replicate j 0) n = 0
    rw [evF_zeros n j (k + 1), Int.zero_mul]; rfl
theorem evF_pad (j : Nat) (n : Int) : ∀ (a : List Int) (k : Nat), evF k (a ++ List.replicate j 0) n = evF k a n
  | [], k => evF_zeros n j k
  | x :: r, k => by
    show x * ch n k + evF (k + 1) (r ++ List.replicate j 0) n = x * ch n k + evF (k + 1) r n
    rw [evF_pad j n r (k + 1)]
theorem evF_zip (n : Int) : ∀ (a b : List Int) (k : Nat), a.length = b.length → evF k (List.zipWith (fun x y => x + y) a b) n = evF k a n + evF k b n
  | [], [], k, _ => rfl
  | [], _ :: _, _, h => nomatch h
  | _ :: _, [], _, h => nomatch h
  | x :: r, y :: t, k, h => by
    show (x + y) * ch n k + evF (k + 1) (List.zipWith _ r t) n = x * ch n k + evF (k + 1) r n + (y * ch n k + evF (k + 1) t n)
    rw [evF_zip n r t (k + 1) (by simpa using h), Int.add_mul]
    omega
theorem zip_add : ∀ (l m : List Int), (zipD (l.map PyData.int) (m.map PyData.int)).map (fun d => match d with | .tuple [.int a, .int b] => PyData.int (a + b) | _ => .none) = (List.zipWith (fun x y => x + y) l m).map PyData.int
  | [], _ => by simp [zipD]
  | _ :: _, [] => by simp [zipD]
  | x :: l, y :: m => by
    have ih := zip_add l m
    show PyData.int (x + y) :: List.map _ (zipD (l.map PyData.int) (m.map PyData.int)) = _
    rw [ih]; rfl
def addP (a b : List Int) : List Int := List.zipWith (fun x y => x + y) (pad (max a.length b.length) a) (pad (max a.length b.length) b)
theorem addP_len (a b : List Int) : (addP a b).length = max a.length b.length := by
  unfold addP
  rw [List.length_zipWith, pad_len (by omega), pad_len (by omega)]; omega
theorem ev_addP (a b : List Int) : ev (addP a b) = fun n => ev a n + ev b n := by
  funext n
  unfold addP
  show evF 0 _ n = _
  rw [evF_zip _ _ _ _ (by rw [pad_len (by omega), pad_len (by omega)])]
  unfold pad
  rw [evF_pad, evF_pad]
theorem pad_al {k m : Nat} {a : List Int} (h : Al k a) : Al k (pad m a) := fun x hx => by
  rcases List.mem_append.mp hx with q | q
  · exact h x q
  · rw [(List.mem_replicate.mp q).2]; exact Nat.two_pow_pos _
theorem zipWith_mem : ∀ {l m : List Int} {z : Int}, z ∈ List.zipWith (fun x y => x + y) l m → ∃ x ∈ l, ∃ y ∈ m, z = x + y
  | [], _, z, h => by simp at h
  | _ :: _, [], z, h => by simp at h
  | x :: l, y :: m, z, h => by
    rw [List.zipWith_cons_cons, List.mem_cons] at h
    rcases h with rfl | h
    · exact ⟨x, List.mem_cons_self, y, List.mem_cons_self, rfl⟩
    · obtain ⟨u, hu, v, hv, e⟩ := zipWith_mem h
      exact ⟨u, List.mem_cons_of_mem _ hu, v, List.mem_cons_of_mem _ hv, e⟩
theorem addP_al {k : Nat} {a b : List Int} (h1 : Al k a) (h2 : Al k b) : Al (k + 1) (addP a b) := fun z hz => by
  obtain ⟨x, hx, y, hy, rfl⟩ := zipWith_mem hz
  exact (pad_al h1 x hx).add (pad_al h2 y hy)
theorem pad_run {a : List Int} {m : Nat} {e : En} (h5 : e[5]? = some (.val (tpI a))) (h2 : e[2]? = some (.val (.int m))) (hl : a.length ≤ m) (hm : m ≤ 10000) :
    cOp2 mAdd (cFz (clOf (cVar 5))) (cOp2 mMulT (cFz (clDisp (caCons (cC (.int 0)) caNil))) (cOp2 mSub (cVar 2) (cCall mLenD (caCons (cVar 5) caNil)))) e = .ret (lsI (pad m a)) := by
  rw [op2_ret (x := lsI a) (y := lsI (List.replicate (m - a.length) 0))]
  · show (if (a.map PyData.int).length + ((List.replicate (m - a.length) 0).map PyData.int).length ≤ sizeLine then _ else _) = _
    rw [if_pos (by rw [List.length_map, List.length_map, List.length_replicate, sizeLine_eq]; omega), ← List.map_append]
    rfl
  · refine fz_ret ?_
    show (cVar 5 e).bind itemsOf = _
    rw [var_ret h5]; rfl
  · rw [op2_ret (x := lsI [0]) (y := .int ((m - a.length : Nat) : Int))]
    · rw [show lsI [0] = .list [PyData.int 0] from rfl, DL.mul_list (by show 1 * (m - a.length) ≤ _; omega) (by omega)]
      show _ = M.ret (PyData.list ((List.replicate (m - a.length) 0).map PyData.int))
      rw [List.map_replicate, List.flatten_replicate_singleton]
    · rfl
    · rw [op2_ret (x := .int m) (y := .int a.length) (var_ret h2) (len_of (n := a.length) (var_ret h5) (by show M.ret (PyData.int ((a.map PyData.int).length : Nat)) = _; rw [List.length_map]))]
      show M.ret (PyData.int ((m : Int) - (a.length : Nat))) = _
      rw [show ((m : Int) - (a.length : Nat)) = ((m - a.length : Nat) : Int) by omega]
theorem sum_spec {a b : List Int} (ha : a.length ≤ 1000) (hb : b.length ≤ 1000) : m_poly_sum [tpI a, tpI b] = .ret (tpI (least (addP a b))) := by
  have hm : (max a.length b.length : Int) = ((max a.length b.length : Nat) : Int) := by omega
  refine fnD_ret (e := [.val (tpI a), .val (tpI b), .val (.int (max a.length b.length : Nat)), .val (lsI (pad (max a.length b.length) a)), .val (lsI (pad (max a.length b.length) b)), .no, .no, .no]) rfl ?_
  show sSeq _ (sSeq _ _) [.val (tpI a), .val (tpI b), .no, .no, .no, .no, .no, .no] = _
  rw [seq_eq (set_eq (d := .int (max a.length b.length : Nat)) ?_)]
  · rw [seq_eq (e' := [.val (tpI a), .val (tpI b), .val (.int (max a.length b.length : Nat)), .val (lsI (pad (max a.length b.length) a)), .val (lsI (pad (max a.length b.length) b)), .no, .no, .no]) ?_]
    · refine seq_ret ?_
      rw [call1_eq (d := lsI (addP a b)) ?_]
      · exact least_spec _ (by rw [addP_len]; omega) (.inl rfl)
      · refine fz_ret ?_
        have hz : ciZip true (cVar 3) (cVar 4) [.val (tpI a), .val (tpI b), .val (.int (max a.length b.length : Nat)), .val (lsI (pad (max a.length b.length) a)), .val (lsI (pad (max a.length b.length) b)), .no, .no, .no] = .ret (zipD ((pad (max a.length b.length) a).map PyData.int) ((pad (max a.length b.length) b).map PyData.int)) := by
          show (if (!true || decide (_ = _)) = true then _ else _) = _
          rw [if_pos (by rw [List.length_map, List.length_map, pad_len (by omega), pad_len (by omega)]; simp)]
        rw [comp_all (f := fun d => match d with | .tuple [.int a, .int b] => PyData.int (a + b) | _ => .none) hz (by rw [zipD_len, List.length_map, List.length_map, pad_len (by omega), pad_len (by omega)]; omega) (fun d hd => ?_), zip_add]
        · rfl
        · obtain ⟨u, v, rfl, _, _⟩ := zip_mem hd
          exact ⟨_, rfl, rfl⟩
    · show (M.bind (cFz _ _) _) = _
      rw [fz_ret (ds := [lsI (pad (max a.length b.length) a), lsI (pad (max a.length b.length) b)]) ?_]
      · rfl
      · rw [comp_all (ds := [tpI a, tpI b]) (f := fun d => match asIntsO (match d with | .tuple x => x | _ => []) with | some ns => lsI (pad (max a.length b.length) ns) | none => .none) rfl (by show 2 ≤ _; decide) (fun d hd => ?_)]
        · show M.ret [_, _] = _
          simp only [asIntsO_of]
        · simp only [List.mem_cons, List.not_mem_nil, or_false] at hd
          rcases hd with rfl | rfl
          · refine ⟨_, rfl, ?_⟩
            rw [pad_run (a := a) (m := max a.length b.length) rfl rfl (by omega) (by omega)]
            simp only [asIntsO_of]
          · refine ⟨_, rfl, ?_⟩
            rw [pad_run (a := b) (m := max a.length b.length) rfl rfl (by omega) (by omega)]
            simp only [asIntsO_of]
  · rw [call2_eq (d := .int a.length) (d2 := .int b.length) (len_of (n := a.length) rfl (by show M.ret (PyData.int ((a.map PyData.int).length : Nat)) = _; rw [List.length_map])) (len_of (n := b.length) rfl (by show M.ret (PyData.int ((b.map PyData.int).length : Nat)) = _; rw [List.length_map]))]
    show M.ret (PyData.int (if (b.length : Int) > a.length then (b.length : Int) else a.length)) = _
    congr 2
    split <;> omega
/-! ### less, product, line, along -/
theorem least_len {a : List Int} {m : Nat} (h : a.length ≤ m) : (least a).length ≤ m := Nat.le_trans (least_le a) h
theorem less_spec {a b : List Int} {kb : Nat} (ha : a.length ≤ 1000) (hb : b.length ≤ 1000) (h : Al kb b) (hk : kb ≤ 900000) : m_poly_less [tpI a, tpI b] = .ret (tpI (least (addP a (least (b.map fun x => -1 * x))))) := by
  refine fnD_ret (e := [.val (tpI a), .val (tpI b)]) rfl (seq_ret ?_)
  rw [call2_eq (d := tpI a) (d2 := tpI (least (b.map fun x => -1 * x))) rfl ?_]
  · exact sum_spec ha (least_len (by rw [List.length_map]; exact hb))
  · rw [call2_eq (d := tpI b) (d2 := .int (-1)) rfl rfl]
    exact times_spec (kc := 1) hb h (by show (-1 : Int).natAbs < 2 ^ 1; decide) hk (by decide)
theorem ev_less (a b : List Int) : ev (least (addP a (least (b.map fun x => -1 * x)))) = fun n => ev a n - ev b n := by
  rw [ev_least, ev_addP, ev_least]
  funext n
  show ev a n + evF 0 (b.map fun x => -1 * x) n = _
  rw [ev_map_mul]
  show ev a n + -1 * ev b n = _
  omega
theorem smN {i b : Nat} (h : i ≤ 1000000000) (hb : 31 ≤ b) : Sm b (i : Int) := by
  have q : (2 : Nat) ^ 31 ≤ 2 ^ b := Nat.pow_le_pow_right (by decide) hb
  have q2 : (2 : Nat) ^ 31 = 2147483648 := by decide
  unfold Sm
  rw [Int.natAbs_natCast]
  omega
theorem prod_dg (a b : List Int) : Dg (a.length + b.length) (fun n => ev a n * ev b n) := by
  have top : ∀ c : List Int, c ≠ [] → ∃ x, Tp (c.length - 1) x (ev c) := fun c hc => by
    have e := (List.dropLast_concat_getLast hc).symm
    refine ⟨c.getLast hc, ?_⟩
    have := ev_top c.dropLast (c.getLast hc)
    rw [← e, List.length_dropLast] at this
    exact this
  by_cases h1 : a = []
  · subst h1
    exact Dg.zero _ fun n => by show (0 : Int) * _ = 0; exact Int.zero_mul _
  · by_cases h2 : b = []
    · subst h2
      exact Dg.zero _ fun n => by show _ * (0 : Int) = 0; exact Int.mul_zero _
    · obtain ⟨x, hx⟩ := top a h1
      obtain ⟨y, hy⟩ := top b h2
      obtain ⟨B, _, q⟩ := Tp.mul ((a.length - 1) + (b.length - 1)) (a.length - 1) (b.length - 1) rfl
      have := (q x y _ _ hx hy).dg
      have l1 : 0 < a.length := List.length_pos_iff.mpr h1
      have l2 : 0 < b.length := List.length_pos_iff.mpr h2
      exact this.le (by omega)
theorem al_of {c : List Int} {f : Int → Int} {L k : Nat} (hc : isLeast c) (he : ev c = f) (hd : Dg L f) (hL : L ≤ 10000) (hs : ∀ i : Nat, i < L → Sm k (f (i : Nat))) : Al (k + L) c := by
  obtain ⟨c', _, q1, q2, q3, q4⟩ := of_fun (f := f) (L := L) (q := lsI ((List.range L).map fun i => f (i : Nat))) hL hd (.inl rfl)
  have : c = c' := by_values hc q1 (by rw [he, q2])
  rw [this]
  exact q4 k hs
theorem product_spec {a b : List Int} {ka kb : Nat} (ha : a.length ≤ 50) (hb : b.length ≤ 50) (h1 : Al ka a) (h2 : Al kb b) (k1 : ka ≤ 400000) (k2 : kb ≤ 400000) :
    ∃ c, Is (m_poly_product [tpI a, tpI b]) (tpI c) ∧ isLeast c ∧ ev c = (fun n => ev a n * ev b n) ∧ c.length ≤ a.length + b.length ∧ Al (ka + kb + 3 * (a.length + b.length)) c := by
  obtain ⟨c, r, q1, q2, q3, q4⟩ := of_fun (f := fun n => ev a n * ev b n) (L := a.length + b.length) (q := lsI ((List.range (a.length + b.length)).map fun i => ev a (i : Nat) * ev b (i : Nat))) (by omega) (prod_dg a b) (.inl rfl)
  have sa : ∀ i : Nat, i < a.length + b.length → Sm (ka + (a.length + b.length)) (ev a (i : Nat)) := fun i hi => (ev_nat_sm i h1).le (by omega)
  have sb : ∀ i : Nat, i < a.length + b.length → Sm (kb + (a.length + b.length)) (ev b (i : Nat)) := fun i hi => (ev_nat_sm i h2).le (by omega)
  refine ⟨c, ?_, q1, q2, q3, (q4 (ka + (a.length + b.length) + (kb + (a.length + b.length))) fun i hi => (sa i hi).mul (sb i hi)).le (by omega)⟩
  unfold Is
  walk_at "f"
  unfold cs_poly_product
  walk_at "v"
  have en : ((a.length : Int) + (b.length : Int)).toNat = a.length + b.length := by omega
  rw [en]
  refine ⟨inBk (by omega) (by omega), lnOk (by rw [DL.intsFrom_len]; omega), V_compR (fun i => .int (ev a i * ev b i)) (fun i hi => ?_) ?_⟩
  · walk_at "v"
    rw [Int.zero_add]
    refine V.of_eq (at_spec (by omega) h1 (by omega) (smN (by omega) (by decide))) (V.of_eq (at_spec (by omega) h2 (by omega) (smN (by omega) (by decide))) ?_)
    walk_at "v"
    exact mulOk_s (sa i hi) (sb i hi) (by omega) (by omega)
  · refine V.of_eq (m := m_poly_of _) ?_ rfl
    rw [← r]
    congr 2
    show _ = PyData.list ((List.map _ _).map PyData.int)
    rw [List.map_map]; rfl
theorem line_spec {t m : Int} {few b : Nat} (hf : few ≤ 100) (hb : 20 ≤ b) (hb2 : b ≤ 3990) (hs : ∀ i : Nat, i ≤ few → Sm b (t * i + m)) (ht : Sm 900000 t) :
    ∃ c, Is (m_line_choose [.int t, .int m, .int few]) (tpI c) ∧ isLeast c ∧ ev c = (fun n => ch (t * n + m) few) ∧ c.length ≤ few + 1 ∧ Al ((b + 2) * (few + 1) + 1) c := by
  obtain ⟨c, r, q1, q2, q3, q4⟩ := of_fun (f := fun n => ch (t * n + m) few) (L := few + 1) (q := lsI ((List.range (few + 1)).map fun i => ch (t * (i : Nat) + m) few)) (by omega) (line_dg t m few) (.inl rfl)
  have q5 : (b + 2) * (few + 1) = (b + 1) * few + few + (b + 2) := by rw [Nat.mul_succ, show b + 2 = b + 1 + 1 from rfl, Nat.succ_mul]
  refine ⟨c, ?_, q1, q2, q3, (q4 ((b + 1) * few + 1) fun i hi => ch_smb (hs i (by omega)) hb (by omega)).le (by omega)⟩
  unfold Is
  walk_at "f"
  unfold cs_line_choose
  walk_at "v"
  have en : ((few : Int) + 1).toNat = few + 1 := by omega
  rw [en]
  refine ⟨inBk (by omega) (by omega), lnOk (by rw [DL.intsFrom_len]; omega), V_compR (fun i => .int (ch (t * i + m) few)) (fun i hi => ?_) ?_⟩
  · walk_at "v"
    rw [Int.zero_add]
    refine ⟨mulOk_s ht (smN (i := i) (b := 63) (by omega) (by decide)) (by omega) (by omega), ?_⟩
    exact V.of_eq (choose_spec _ few (by omega) fun j hj => (sm_less (hs i (by omega)) hb (by omega)).le (by omega)) rfl
  · refine V.of_eq (m := m_poly_of _) ?_ rfl
    rw [← r]
    congr 2
    show _ = PyData.list ((List.map _ _).map PyData.int)
    rw [List.map_map]; rfl
theorem along_spec {a : List Int} {b s : Int} {ka : Nat} (hl : a.length ≤ 100) (ha : Al ka a) (hk : ka ≤ 500000) (hss : Sm 900000 s) (hs : ∀ i : Nat, i < a.length → Sm 3999 (b + s * i)) :
    ∃ c, Is (m_poly_along [tpI a, .int b, .int s]) (tpI c) ∧ isLeast c ∧ ev c = (fun n => ev a (b + s * n)) ∧ c.length ≤ a.length ∧ ∀ k, (∀ i : Nat, i < a.length → Sm k (ev a (b + s * i))) → Al (k + a.length) c := by
  have dg : Dg a.length (fun n => ev a (b + s * n)) := by have := along_dgF b s a 0; rwa [Nat.zero_add] at this
  obtain ⟨c, r, q1, q2, q3, q4⟩ := of_fun (f := fun n => ev a (b + s * n)) (L := a.length) (q := lsI ((List.range a.length).map fun i => ev a (b + s * (i : Nat)))) (by omega) dg (.inl rfl)
  refine ⟨c, ?_, q1, q2, q3, q4⟩
  unfold Is
  walk_at "f"
  unfold cs_poly_along
  walk_at "v"
  rw [Int.toNat_natCast]
  refine ⟨inBk (by omega) (by omega), lnOk (by rw [DL.intsFrom_len]; omega), V_compR (fun i => .int (ev a (b + s * i))) (fun i hi => ?_) ?_⟩
  · walk_at "v"
    rw [Int.zero_add]
    refine ⟨mulOk_s hss (smN (i := i) (b := 63) (by omega) (by decide)) (by omega) (by omega), ?_⟩
    exact V.of_eq (at_spec (by omega) ha (by omega) (hs i hi)) rfl
  · refine V.of_eq (m := m_poly_of _) ?_ rfl
    rw [← r]
    congr 2
    show _ = PyData.list ((List.map _ _).map PyData.int)
    rw [List.map_map]; rfl
/-! ### draws -/
theorem lawOf_v {xs : List PyData} {Q : PyData → Prop} (h0 : 0 < xs.length) (h1 : xs.length < 1000000) (h : ∀ x ∈ xs, Q x) : DL.V (m__law_of [.list xs]) Q := by
  walk_at "f"
  unfold cs__law_of
  walk_at "v"
  refine ⟨pkOk (by omega), fun i i0 i1 => ?_⟩
  obtain ⟨x, hx, e⟩ := atI_mem (xs := xs) i0 (by omega)
  exact ⟨x, e, h x hx⟩
theorem lawOfI_v {ns : List Int} {Q : PyData → Prop} (h0 : 0 < ns.length) (h1 : ns.length < 1000000) (h : ∀ x ∈ ns, Q (.int x)) : DL.V (m__law_of [.list (ns.map PyData.int)]) Q :=
  lawOf_v (by rw [List.length_map]; exact h0) (by rw [List.length_map]; exact h1) fun x hx => by
    obtain ⟨n, hn, rfl⟩ := List.mem_map.mp hx
    exact h n hn
theorem allI : ∀ {ys : List PyData} {P : Int → Prop}, (∀ y ∈ ys, ∃ n : Int, y = .int n ∧ P n) → ∃ ns : List Int, ys = ns.map PyData.int ∧ ∀ n ∈ ns, P n
  | [], _, _ => ⟨[], rfl, fun _ h => nomatch h⟩
  | y :: ys, P, h => by
    obtain ⟨n, rfl, hn⟩ := h _ List.mem_cons_self
    obtain ⟨ns, rfl, hl⟩ := allI (ys := ys) fun z hz => h z (List.mem_cons_of_mem _ hz)
    refine ⟨n :: ns, rfl, fun m hm => ?_⟩
    rcases List.mem_cons.mp hm with rfl | hm
    · exact hn
    · exact hl m hm
theorem mapI {α : Type} (f : α → Int) (l : List α) : (l.map fun x => PyData.int (f x)) = (l.map f).map PyData.int := by rw [List.map_map]; rfl
theorem zipD_zip (A B : List Int) : zipD (A.map PyData.int) (B.map PyData.int) = (List.zip A B).map fun p => .tuple [.int p.1, .int p.2] := by
  induction A generalizing B with
  | nil => simp [zipD]
  | cons x A ih =>
    cases B with
    | nil => simp [zipD]
    | cons y B => simp only [List.map_cons, zipD, List.zip_cons_cons, ih]
/-! ### texts of polynomials -/
theorem al_log {k : Nat} {a : List Int} (h : Al k a) (h0 : 0 < k) (hk : k ≤ 1920) : ∀ n ∈ a, n.natAbs.log2 < 1920 := fun n hn => by
  have := (h n hn).log h0
  omega
theorem rep_t {a : List Int} (h : ∀ n ∈ a, n.natAbs.log2 < 1920) (hl : a.length ≤ 1000) : repb (tpI a) = true := by
  refine repb_of ?_ ?_ ?_
  · simp only [DL.plain0, plain0_ints h]
  · simp only [PyData.depth, depth_ints]; decide
  · have := cost_ints h
    simp only [DL.cost]
    omega
def Rp (a : List Int) : Prop := (∀ n ∈ a, n.natAbs.log2 < 1920) ∧ a.length ≤ 100
theorem plain_ts : ∀ {as : List (List Int)}, (∀ a ∈ as, Rp a) → DL.plain0All (as.map tpI) = true
  | [], _ => rfl
  | a :: as, h => by
    simp only [List.map_cons, DL.plain0All, DL.plain0, plain0_ints (h a List.mem_cons_self).1, Bool.true_and]
    exact plain_ts fun b hb => h b (List.mem_cons_of_mem _ hb)
theorem cost_ts : ∀ {as : List (List Int)}, (∀ a ∈ as, Rp a) → DL.costAll (as.map tpI) ≤ 200000 * as.length
  | [], _ => Nat.le_refl 0
  | a :: as, h => by
    have h1 := cost_ints (h a List.mem_cons_self).1
    have h2 := (h a List.mem_cons_self).2
    have h3 := cost_ts (as := as) fun b hb => h b (List.mem_cons_of_mem _ hb)
    simp only [List.map_cons, DL.costAll, DL.cost, List.length_cons]
    omega
theorem depth_ts : ∀ as : List (List Int), PyData.depthAll (as.map tpI) ≤ 1
  | [] => Nat.zero_le _
  | a :: as => by
    have := depth_ts as
    simp only [List.map_cons, PyData.depthAll, PyData.depth, depth_ints]
    omega
theorem rep_ts {as : List (List Int)} (h : ∀ a ∈ as, Rp a) (hl : as.length ≤ 50) : repb (.list (as.map tpI)) = true := by
  refine repb_of ?_ ?_ ?_
  · simp only [DL.plain0]; exact plain_ts h
  · have := depth_ts as
    simp only [PyData.depth]
    omega
  · have := cost_ts h
    simp only [DL.cost]
    omega
end W
namespace W
open PySem PySem.Spec PyProof.Rows L2 DL PM
local macro_rules | `(tactic| walk_at "v") => `(tactic| simp only [↓v_sSeq, ↓sK_nx, ↓sK_rt, ↓sK_bk, ↓sK_ct, ↓v_sNil, ↓v_sCont, ↓v_sBrk, ↓v_sSet, ↓v_sOwn, ↓v_sRet, ↓v_sDrop, ↓v_sIf, ↓v_sFrzT, ↓fz_own, ↓fz_ownD, ↓fz_val, ↓v_sAsg, ↓v_sAug, ↓v_sPar, ↓v_sPar3, ↓v_xV, ↓v_xO, ↓ap_own, ↓v_sAppend, ↓v_sExtend, ↓v_sPop, ↓v_sFor, ↓v_cdNil, ↓v_sOwnD, ↓v_xD, ↓dp_ownD, ↓v_sPut, ↓o_putN, ↓v_clSorted, ↓o_sortN, ↓o_dictN, ↓v_clRev, ↓v_clRev0, ↓v_cChain, ↓o_isN0, ↓o_isNI, ↓o_notN0, ↓o_notNI, ↓o_notNT, ↓o_inT, ↓o_ninT, ↓o_inL, ↓o_ninL, ↓v_endRt, ↓v_endNx, ↓v_c, ↓v_var0, ↓v_varS, ↓v_peek0, ↓v_peek1, ↓v_peek2, ↓v_peekS, ↓v_op2, ↓v_op1, ↓br_t, ↓br_f, ↓br_n, ↓br_d, ↓v_cIf, ↓v_asB, ↓v_ctV, ↓v_ctNot, ↓v_ctAnd, ↓v_ctOr, ↓v_ctYes, ↓v_cNot, ↓v_cAnd, ↓v_cOr, ↓v_caNil, ↓v_caCons, ↓v_caStar, ↓v_cTup, ↓v_clDisp, ↓v_cFz, ↓v_cCall, ↓v_callS0, ↓v_callS, ↓v_itemsL, ↓v_itemsT, ↓v_ciSeq, ↓v_asI, ↓v_range1, ↓v_range2, ↓v_clRg1, ↓v_clRg2, ↓v_ciEnum, ↓v_ciZip0, ↓v_ciZip1, ↓v_clOf, ↓v_optN, ↓v_optS, ↓v_cSl, ↓v_mSlL, ↓v_mSlT, ↓v_isT, ↓isT_tt, ↓v_comp, ↓v_gSet, ↓v_gTup, ↓v_gSeqT, ↓v_gSeqL, ↓v_gGo0, ↓v_gGoS, ↓o_addI, ↓o_addL, ↓o_addT, ↓o_addII, ↓o_sub, ↓o_neg, ↓o_mul, ↓o_mulL, ↓o_mulTu, ↓o_neS, ↓o_eqS, ↓o_mulI, ↓o_fdiv, ↓o_fdivI, ↓o_mod, ↓o_pow, ↓o_cmpI, ↓o_eqI, ↓o_neI, ↓o_ltI, ↓o_leI, ↓o_ixL, ↓o_ixT, ↓o_tupL, ↓o_tupT, ↓o_lenL, ↓o_lenT, ↓o_abs, ↓o_intI, ↓o_intB, ↓o_max2, ↓o_min2, ↓o_sum, ↓o_pick, ↓o_eqLI, ↓o_neLI, ↓o_eqTI, ↓o_neTI, ↓o_eqL0, ↓o_neL0, ↓o_eqT0, ↓o_neT0, ↓lp_nx, ↓lp_ct, ↓lp_bk, ↓lp_rt, ↓v_ret, wipeE, List.set_cons_zero, List.set_cons_succ, List.getElem?_cons_zero, List.getElem?_cons_succ, List.map_cons, List.map_nil, List.length_cons, List.length_nil, List.length_map, List.cons_append, List.nil_append, List.replicate_succ, List.replicate_zero, Nat.reduceSub, Nat.reduceAdd, true_and, and_true, Nat.zero_add, eq_self, not_true_eq_false, false_implies, true_implies, implies_true, imp_false, Decidable.not_not])
local macro_rules | `(tactic| walk_at "f") => `(tactic| (simp only [v_fnD, v_fnS, List.map_cons, List.map_nil, List.length_cons, List.length_nil, List.cons_append, List.nil_append, Nat.reduceSub, Nat.reduceAdd, List.replicate_succ, List.replicate_zero, true_and, Nat.zero_add]))
/-! ### far_of, differences -/
theorem maxL_ge : ∀ {l : List Int} {x : Int}, x ∈ l → x ≤ maxL l
  | [], x, h => nomatch h
  | [a], x, h => by rw [List.mem_singleton.mp h]; exact Int.le_refl _
  | a :: b :: r, x, h => by
    have e : maxL (a :: b :: r) = if maxL (b :: r) ≤ a then a else maxL (b :: r) := rfl
    rw [e]
    rcases List.mem_cons.mp h with rfl | h
    · split <;> omega
    · have := maxL_ge h
      split <;> omega
theorem maxL_mem : ∀ {l : List Int}, l ≠ [] → maxL l ∈ l
  | [], h => absurd rfl h
  | [a], _ => List.mem_singleton.mpr rfl
  | a :: b :: r, _ => by
    have e : maxL (a :: b :: r) = if maxL (b :: r) ≤ a then a else maxL (b :: r) := rfl
    rw [e]
    split
    · exact List.mem_cons_self
    · exact List.mem_cons_of_mem _ (maxL_mem (by simp))
theorem o_maxL {ns : List Int} {Q : PyData → Prop} (h : ns ≠ []) (q : Q (.int (maxL ns))) : DL.V (mMax [.list (ns.map PyData.int)]) Q := by
  have e : mMax [.list (ns.map PyData.int)] = .ret (.int (maxL ns)) := by
    show (match asIntsO (ns.map PyData.int) with | some (a :: r) => M.ret (PyData.int (maxL (a :: r))) | _ => .bad) = _
    rw [asIntsO_of]
    cases ns with
    | nil => exact absurd rfl h
    | cons a r => rfl
  exact V.of_eq e q
def mx (a : List Int) : Int := maxL (a.map fun x => if x < 0 then -x else x)
theorem mx_ge {a : List Int} {x : Int} (h : x ∈ a) : x.natAbs ≤ (mx a).natAbs := by
  have := maxL_ge (List.mem_map.mpr ⟨x, h, rfl⟩ : (if x < 0 then -x else x) ∈ a.map fun x => if x < 0 then -x else x)
  unfold mx
  split at this <;> omega
theorem mx_in {a : List Int} (h : a ≠ []) : 0 ≤ mx a ∧ ∃ x ∈ a, (mx a).natAbs = x.natAbs := by
  have := maxL_mem (l := a.map fun x => if x < 0 then -x else x) (by simpa using h)
  obtain ⟨x, hx, e⟩ := List.mem_map.mp this
  unfold mx
  rw [← e]
  refine ⟨by split <;> omega, x, hx, by split <;> omega⟩
def farF (a : List Int) : Int := a.length + a.length * mx a * ch ((2 * a.length : Nat) : Int) a.length
theorem chLL : ∀ L : Nat, L < 8 → 1 ≤ ch ((2 * L : Nat) : Int) L ∧ ch ((2 * L : Nat) : Int) L ≤ 4000 := by
  intro L hL
  have h : ∀ L ∈ List.range 8, 1 ≤ ch ((2 * L : Nat) : Int) L ∧ ch ((2 * L : Nat) : Int) L ≤ 4000 := by decide +kernel
  exact h L (List.mem_range.mpr hL)
theorem chLL2 : ∀ L : Nat, 1 ≤ L → L < 8 → 2 ≤ ch ((2 * L : Nat) : Int) L := by
  intro L h1 hL
  have h : ∀ L ∈ List.range 8, 1 ≤ L → 2 ≤ ch ((2 * L : Nat) : Int) L := by decide +kernel
  exact h L (List.mem_range.mpr hL) h1
theorem mx_sm {k : Nat} {a : List Int} (ha : Al k a) : Sm k (mx a) := by
  by_cases h : a = []
  · subst h; exact Nat.two_pow_pos _
  · obtain ⟨_, x, hx, e⟩ := mx_in h
    have := ha x hx
    unfold Sm at *
    omega
theorem farF_sm {k : Nat} {a : List Int} (hl : a.length ≤ 7) (ha : Al k a) : Sm (k + 20) (farF a) := by
  have c := chLL a.length (by omega)
  have m := mx_sm ha
  unfold farF Sm at *
  rw [Nat.pow_add]
  have e20 : (2 : Nat) ^ 20 = 1048576 := by decide
  rw [e20]
  have q : (a.length * mx a * ch ((2 * a.length : Nat) : Int) a.length).natAbs ≤ 7 * (mx a).natAbs * 4000 := by
    rw [Int.natAbs_mul, Int.natAbs_mul, Int.natAbs_natCast]
    exact Nat.mul_le_mul (Nat.mul_le_mul_right _ hl) (by omega)
  have p : 0 < 2 ^ k := Nat.two_pow_pos k
  generalize (a.length * mx a * ch ((2 * a.length : Nat) : Int) a.length) = z at *
  generalize 2 ^ k = w at *
  omega
theorem far_root {a : List Int} (ha : isLeast a) (h0 : a ≠ []) (hl : a.length ≤ 7) {n : Int} (hn : ev a n = 0) : -(farF a) < n ∧ n < farF a := by
  have l0 : 0 < a.length := List.length_pos_iff.mpr h0
  have c := chLL2 a.length l0 (by omega)
  obtain ⟨m0, x, hx, mx'⟩ := mx_in h0
  have m1 : 1 ≤ (mx a).natAbs := by
    have z : a.getLast h0 ≠ 0 := fun h => ha (by rw [List.getLast?_eq_some_getLast h0, h])
    have := mx_ge (List.getLast_mem h0)
    omega
  have F0 : (a.length : Int) * (((mx a).natAbs : Int) + 1) + a.length ≤ farF a := by
    unfold farF
    have e : (mx a) = ((mx a).natAbs : Int) := by omega
    rw [e]
    have M1 : (1 : Int) ≤ ((mx a).natAbs : Int) := by omega
    generalize ((mx a).natAbs : Int) = M at *
    have L0 : (0 : Int) ≤ (a.length : Int) := by omega
    have LM0 : (0 : Int) ≤ (a.length : Int) * M := Int.mul_nonneg L0 (by omega)
    have h1 := Int.mul_le_mul_of_nonneg_left c LM0
    have h2 := Int.mul_le_mul_of_nonneg_left M1 L0
    rw [Int.mul_one] at h2
    rw [Int.mul_add, Int.mul_one]
    have e : (a.length : Int) * ((M.natAbs : Nat) : Int) = (a.length : Int) * M := by rw [show ((M.natAbs : Nat) : Int) = M by omega]
    try rw [e]
    generalize (a.length : Int) * M * ch ((2 * a.length : Nat) : Int) a.length = u at *
    generalize (a.length : Int) * M = v at *
    omega
  have key : ¬ (a.length * ((mx a).natAbs + 1) + a.length ≤ n.natAbs) := fun q => no_root_far ha h0 (M := (mx a).natAbs) (fun x hx => mx_ge hx) q hn
  have e2 : ((a.length * ((mx a).natAbs + 1) + a.length : Nat) : Int) = (a.length : Int) * (((mx a).natAbs : Int) + 1) + a.length := by
    rw [Int.natCast_add, Int.natCast_mul]; rfl
  generalize a.length * ((mx a).natAbs + 1) + a.length = z at *
  omega
theorem far_v {k : Nat} {a : List Int} (h0 : a ≠ []) (hl : a.length ≤ 7) (ha : Al k a) (hk : k ≤ 3000) : Is (m_far_of [tpI a]) (.int (farF a)) := by
  unfold Is
  walk_at "f"
  unfold cs_far_of
  walk_at "v"
  refine ⟨lnOk (by omega), V_comp (fun x => .int (if x < 0 then -x else x)) (fun x hx => ?_) ?_⟩
  · walk_at "v"
  rw [mapI (fun x : Int => if x < 0 then -x else x)]
  refine o_maxL (by simpa using h0) ?_
  walk_at "v"
  have m := mx_sm ha
  refine ⟨mulOk_s (smN (i := a.length) (b := 40) (by omega) (by decide)) m (by decide) (by omega), mulOk_l (by exact smN (i := 2) (by decide) (by decide)), ?_⟩
  rw [show (2 : Int) * (a.length : Int) = ((2 * a.length : Nat) : Int) by omega]
  refine V.of_eq (choose_spec _ _ (by omega) fun j hj => sm_less (smN (by omega) (by decide)) (b := 3999) (by decide) (by omega)) ?_
  walk_at "v"
  refine ⟨?_, rfl⟩
  refine mulOk_s (a := 40 + k) (b := 40) ((smN (i := a.length) (b := 40) (by omega) (by decide)).mul m) ?_ (by omega) (by decide)
  have := chLL a.length (by omega)
  exact Sm.le (a := 31) (sm_lt (by omega)) (by decide)
theorem diffs_v {a : List Int} (hl : a.length ≤ 1000) : Is (m_differences [tpI a]) (.list ((List.range a.length).map fun j => tpI (a.drop j))) := by
  unfold Is
  walk_at "f"
  unfold cs_differences
  walk_at "v"
  rw [Int.toNat_natCast]
  refine ⟨inBk (by omega) (by omega), lnOk (by rw [DL.intsFrom_len]; omega), V_compR (fun j => tpI (a.drop j)) (fun i hi => ?_) rfl⟩
  walk_at "v"
  rw [Int.zero_add, cut_from, ← List.map_drop]
/-! ### first_turned -/
def bl (d : Nat) : Nat := if d = 0 then 0 else d.log2 + 1
theorem bl_half {d d' : Nat} (h : 1 ≤ d) (h2 : d' ≤ d / 2) : bl d' < bl d := by
  unfold bl
  rw [if_neg (show ¬ d = 0 by omega)]
  by_cases e : d' = 0
  · rw [if_pos e]; omega
  · rw [if_neg e]
    have q : d < 2 ^ (d.log2 + 1) := (Nat.log2_lt (by omega)).mp (Nat.lt_succ_self _)
    rw [Nat.pow_succ] at q
    have : d' < 2 ^ d.log2 := by omega
    have := (Nat.log2_lt e).mpr this
    omega
theorem bl_lt {d k : Nat} (h : d < 2 ^ k) : bl d ≤ k := by
  unfold bl
  split
  · omega
  · rename_i e
    have := (Nat.log2_lt e).mpr h
    omega
def slI : Option Sl → Int
  | some (.val (.int i)) => i
  | _ => 0
def opD : Option Int → PyData
  | some i => .int i
  | none => .none
theorem turned_v {k : Nat} {a : List Int} {l h : Int} (hl : a.length ≤ 100) (ha : Al k a) (hk : k ≤ 3000) (lh : l ≤ h) (sl : Sm 3100 l) (sh : Sm 3100 h) (m : Mono (ev a) l h) :
    DL.V (m_first_turned [tpI a, .int l, .int h]) (fun d => ∃ o, d = opD o ∧ Tn (ev a) l h o) := by
  have at_ : ∀ {x : Int}, l ≤ x → x ≤ h → m_poly_at [tpI a, .int x] = .ret (.int (ev a x)) := fun {x} h1 h2 =>
    at_spec hl ha (by omega) (Sm.le (a := 3101) (by
      unfold Sm at *
      have : (2 : Nat) ^ 3101 = 2 ^ 3100 * 2 := Nat.pow_succ 2 3100
      rw [this]
      generalize (2 : Nat) ^ 3100 = w at *
      omega) (by decide))
  walk_at "f"
  unfold cs_first_turned
  refine V_cut (fun r => ∃ sg : Int, (sg = 1 ∨ sg = -1) ∧ (ev a l < 0 → sg = 1) ∧ (¬ ev a l < 0 → sg = -1) ∧ r = (.nx, [.val (tpI a), .val (.int l), .val (.int h), .val (.int sg), .no])) ?_ ?_
  · walk_at "v"
    refine V.of_eq (at_ (Int.le_refl _) lh) ?_
    walk_at "v"
    exact ⟨fun q => ⟨1, .inl rfl, fun _ => rfl, fun n => absurd q n, rfl⟩, fun q => ⟨-1, .inr rfl, fun n => absurd n q, fun _ => rfl, rfl⟩⟩
  rintro _ ⟨sg, hsg, s1, s2, rfl⟩
  walk_at "v"
  refine V.of_eq (at_ (Int.le_refl _) lh) ?_
  walk_at "v"
  refine ⟨fun z => ?_, fun z => ?_⟩
  · refine V.of_eq (at_ (Int.le_refl _) lh) ?_
    walk_at "v"
    refine ⟨fun _ => ⟨some l, rfl, ⟨Int.le_refl _, lh, fun _ => z⟩, ?_⟩, fun n => absurd z n⟩
    rcases m with m | m
    · exact .inl ⟨fun x p q => by omega, fun x p q => by have := m l x (Int.le_refl _) p q; omega⟩
    · exact .inr ⟨fun x p q => by omega, fun x p q => by have := m l x (Int.le_refl _) p q; omega⟩
  · refine V.of_eq (at_ lh (Int.le_refl _)) ?_
    walk_at "v"
    refine ⟨mulOk_l (by rcases hsg with rfl | rfl <;> exact sm_lt (by decide)), fun q => ?_, fun q => ?_⟩
    · refine V.of_eq (at_ (Int.le_refl _) lh) ?_
      walk_at "v"
      refine ⟨fun e => absurd e z, fun _ => ⟨none, rfl, ?_⟩⟩
      rcases hsg with rfl | rfl
      · have : ev a l < 0 := by
          by_cases c : ev a l < 0
          · exact c
          · exact absurd (s2 c) (by decide)
        rcases m with m | m
        · exact .inl fun x p r => by have := m x h p r (Int.le_refl _); omega
        · exact .inl fun x p r => by have := m l x (Int.le_refl _) p r; omega
      · have : ¬ ev a l < 0 := fun c => absurd (s1 c) (by decide)
        rcases m with m | m
        · exact .inr fun x p r => by have := m l x (Int.le_refl _) p r; omega
        · exact .inr fun x p r => by have := m x h p r (Int.le_refl _); omega
    · -- it turns: the halves
      have nl : sg * ev a l < 0 := by
        rcases hsg with rfl | rfl
        · have : ev a l < 0 := by
            by_cases c : ev a l < 0
            · exact c
            · exact absurd (s2 c) (by decide)
          omega
        · have : ¬ ev a l < 0 := fun c => absurd (s1 c) (by decide)
          omega
      have inc : ∀ x y, l ≤ x → x ≤ y → y ≤ h → sg * ev a x ≤ sg * ev a y := by
        intro x y p r t
        rcases hsg with rfl | rfl
        · rcases m with m | m
          · have := m x y p r t; omega
          · have := m l h (Int.le_refl _) lh (Int.le_refl _); omega
        · rcases m with m | m
          · have := m l h (Int.le_refl _) lh (Int.le_refl _); omega
          · have := m x y p r t; omega
      refine V_while (fun e => ∃ (x y : Int) (s : Sl), e = [.val (tpI a), .val (.int x), .val (.int y), .val (.int sg), s] ∧ l ≤ x ∧ x ≤ y ∧ y ≤ h ∧ (∀ w, l ≤ w → w < x → sg * ev a w < 0) ∧ 0 ≤ sg * ev a y)
        (fun e => bl (slI e[2]? - slI e[1]?).toNat) ⟨l, h, _, rfl, Int.le_refl _, lh, Int.le_refl _, fun w p r => by omega, by omega⟩ ?_ ?_
      · show bl (h - l).toNat < 1000000
        have : (h - l).toNat < 2 ^ 3102 := by
          have e1 : (2 : Nat) ^ 3102 = 2 ^ 3100 * 4 := by rw [Nat.pow_add 2 3100 2]
          unfold Sm at sl sh
          rw [e1]
          generalize (2 : Nat) ^ 3100 = w at *
          omega
        have := bl_lt this
        omega
      · rintro e ⟨x, y, s, rfl, lx, xy, yh, low, up⟩
        walk_at "v"
        refine ⟨fun c => ?_, fun c => ?_⟩
        · unfold first_turned_b1
          walk_at "v"
          have em : (x + y).fdiv 2 = (x + y) / 2 := Int.fdiv_eq_ediv_of_nonneg _ (by decide)
          rw [em]
          have m1 : x ≤ (x + y) / 2 := by omega
          have m2 : (x + y) / 2 < y := by omega
          refine ⟨fdOk (by decide) (by decide), V.of_eq (at_ (by omega) (by omega)) ?_⟩
          walk_at "v"
          refine ⟨mulOk_l (by rcases hsg with rfl | rfl <;> exact sm_lt (by decide)), fun up' => ?_, fun up' => ?_⟩
          · refine ⟨⟨x, (x + y) / 2, _, rfl, lx, m1, by omega, low, up'⟩, ?_⟩
            show bl ((x + y) / 2 - x).toNat < bl (y - x).toNat
            exact bl_half (by omega) (by omega)
          · refine ⟨⟨(x + y) / 2 + 1, y, _, rfl, by omega, by omega, yh, fun w p r => ?_, up⟩, ?_⟩
            · by_cases wx : w < x
              · exact low w p wx
              · have n1 := inc w ((x + y) / 2) p (by omega) (by omega)
                omega
            · show bl (y - ((x + y) / 2 + 1)).toNat < bl (y - x).toNat
              exact bl_half (by omega) (by omega)
        · have e1 : x = y := by omega
          subst e1
          refine ⟨some x, rfl, ⟨lx, yh, fun e => by subst e; omega⟩, ?_⟩
          rcases hsg with rfl | rfl
          · exact .inl ⟨fun w p r => by have := low w p r; omega, fun w p r => by have := inc x w lx p r; omega⟩
          · exact .inr ⟨fun w p r => by have := low w p r; omega, fun w p r => by have := inc x w lx p r; omega⟩
end W
namespace W
open PySem PySem.Spec PyProof.Rows L2 DL PM
local macro_rules | `(tactic| walk_at "v") => `(tactic| simp only [↓v_sSeq, ↓sK_nx, ↓sK_rt, ↓sK_bk, ↓sK_ct, ↓v_sNil, ↓v_sCont, ↓v_sBrk, ↓v_sSet, ↓v_sOwn, ↓v_sRet, ↓v_sDrop, ↓v_sIf, ↓v_sFrzT, ↓fz_own, ↓fz_ownD, ↓fz_val, ↓v_sAsg, ↓v_sAug, ↓v_sPar, ↓v_sPar3, ↓v_xV, ↓v_xO, ↓ap_own, ↓v_sAppend, ↓v_sExtend, ↓v_sPop, ↓v_sFor, ↓v_cdNil, ↓v_sOwnD, ↓v_xD, ↓dp_ownD, ↓v_sPut, ↓o_putN, ↓v_clSorted, ↓o_sortN, ↓o_dictN, ↓v_clRev, ↓v_clRev0, ↓v_cChain, ↓o_isN0, ↓o_isNI, ↓o_notN0, ↓o_notNI, ↓o_notNT, ↓o_inT, ↓o_ninT, ↓o_inL, ↓o_ninL, ↓v_endRt, ↓v_endNx, ↓v_c, ↓v_var0, ↓v_varS, ↓v_peek0, ↓v_peek1, ↓v_peek2, ↓v_peekS, ↓v_op2, ↓v_op1, ↓br_t, ↓br_f, ↓br_n, ↓br_d, ↓v_cIf, ↓v_asB, ↓v_ctV, ↓v_ctNot, ↓v_ctAnd, ↓v_ctOr, ↓v_ctYes, ↓v_cNot, ↓v_cAnd, ↓v_cOr, ↓v_caNil, ↓v_caCons, ↓v_caStar, ↓v_cTup, ↓v_clDisp, ↓v_cFz, ↓v_cCall, ↓v_callS0, ↓v_callS, ↓v_itemsL, ↓v_itemsT, ↓v_ciSeq, ↓v_asI, ↓v_range1, ↓v_range2, ↓v_clRg1, ↓v_clRg2, ↓v_ciEnum, ↓v_ciZip0, ↓v_ciZip1, ↓v_clOf, ↓v_optN, ↓v_optS, ↓v_cSl, ↓v_mSlL, ↓v_mSlT, ↓v_isT, ↓isT_tt, ↓v_comp, ↓v_gSet, ↓v_gTup, ↓v_gSeqT, ↓v_gSeqL, ↓v_gGo0, ↓v_gGoS, ↓o_addI, ↓o_addL, ↓o_addT, ↓o_addII, ↓o_sub, ↓o_neg, ↓o_mul, ↓o_mulL, ↓o_mulTu, ↓o_neS, ↓o_eqS, ↓o_mulI, ↓o_fdiv, ↓o_fdivI, ↓o_mod, ↓o_pow, ↓o_cmpI, ↓o_eqI, ↓o_neI, ↓o_ltI, ↓o_leI, ↓o_ixL, ↓o_ixT, ↓o_tupL, ↓o_tupT, ↓o_lenL, ↓o_lenT, ↓o_abs, ↓o_intI, ↓o_intB, ↓o_max2, ↓o_min2, ↓o_sum, ↓o_pick, ↓o_eqLI, ↓o_neLI, ↓o_eqTI, ↓o_neTI, ↓o_eqL0, ↓o_neL0, ↓o_eqT0, ↓o_neT0, ↓lp_nx, ↓lp_ct, ↓lp_bk, ↓lp_rt, ↓v_ret, wipeE, List.set_cons_zero, List.set_cons_succ, List.getElem?_cons_zero, List.getElem?_cons_succ, List.map_cons, List.map_nil, List.length_cons, List.length_nil, List.length_map, List.cons_append, List.nil_append, List.replicate_succ, List.replicate_zero, Nat.reduceSub, Nat.reduceAdd, true_and, and_true, Nat.zero_add, eq_self, not_true_eq_false, false_implies, true_implies, implies_true, imp_false, Decidable.not_not])
local macro_rules | `(tactic| walk_at "f") => `(tactic| (simp only [v_fnD, v_fnS, List.map_cons, List.map_nil, List.length_cons, List.length_nil, List.cons_append, List.nil_append, Nat.reduceSub, Nat.reduceAdd, List.replicate_succ, List.replicate_zero, true_and, Nat.zero_add]))
/-! ### poly_turns -/
theorem zip_pairs (cs : List Int) : zipD (cs.map PyData.int) ((cs.drop 1).map PyData.int) = (List.zip cs (cs.drop 1)).map fun p => .tuple [.int p.1, .int p.2] := zipD_zip cs (cs.drop 1)

theorem optsOf {α : Type} {R : α → Option Int → Prop} : ∀ {xs : List α} {ys : List PyData}, Paired (fun x d => ∃ o, d = opD o ∧ R x o) xs ys → ∃ os : List (Option Int), ys = os.map opD ∧ Paired R xs os
  | _, _, .nil => ⟨[], rfl, .nil⟩
  | _, _, .cons ⟨o, e, h⟩ t => by
    obtain ⟨os, e2, h2⟩ := optsOf t
    exact ⟨o :: os, by rw [e, e2]; rfl, .cons h h2⟩
theorem Paired.mem {α β : Type} {R : α → β → Prop} : ∀ {xs : List α} {ys : List β}, Paired R xs ys → ∀ x ∈ xs, ∃ y ∈ ys, R x y
  | _, _, .nil, x, h => nomatch h
  | _, _, .cons r t, x, h => by
    rcases List.mem_cons.mp h with rfl | h
    · exact ⟨_, List.mem_cons_self, r⟩
    · obtain ⟨y, hy, q⟩ := Paired.mem t x h
      exact ⟨y, List.mem_cons_of_mem _ hy, q⟩
theorem Paired.memR {α β : Type} {R : α → β → Prop} : ∀ {xs : List α} {ys : List β}, Paired R xs ys → ∀ y ∈ ys, ∃ x ∈ xs, R x y
  | _, _, .nil, x, h => nomatch h
  | _, _, .cons r t, x, h => by
    rcases List.mem_cons.mp h with rfl | h
    · exact ⟨_, List.mem_cons_self, r⟩
    · obtain ⟨y, hy, q⟩ := Paired.memR t x h
      exact ⟨y, List.mem_cons_of_mem _ hy, q⟩
theorem mem_somes {os : List (Option Int)} {x : Int} : x ∈ os.filterMap id ↔ some x ∈ os := by
  rw [List.mem_filterMap]
  exact ⟨fun ⟨o, h, e⟩ => by rw [id_eq] at e; rw [← e]; exact h, fun h => ⟨_, h, rfl⟩⟩
theorem somes_map (os : List (Option Int)) : (os.filter fun o => o.isSome).map opD = (os.filterMap id).map PyData.int := by
  induction os with
  | nil => rfl
  | cons o os ih =>
    cases o with
    | none => exact ih
    | some i =>
      rw [List.filter_cons_of_pos (by rfl), List.map_cons, ih]
      rfl
theorem rev_diffs (a : List Int) : (((List.range a.length).map fun j => tpI (a.drop j)).drop 1).reverse = (List.range (a.length - 1)).map fun i => tpI (a.drop (a.length - 1 - i)) := by
  refine List.ext_getElem ?_ fun i h1 h2 => ?_
  · simp
  · rw [List.length_map, List.length_range] at h2
    rw [List.getElem_reverse, List.getElem_drop, List.getElem_map, List.getElem_map, List.getElem_range, List.getElem_range]
    simp only [List.length_drop, List.length_map, List.length_range]
    congr 3
    omega
abbrev frT (a : List Int) (F : Int) (cs : List Int) (s3 s4 s5 s6 s7 s8 : Sl) : En := [.val (tpI a), .val (.int F), .val (lsI cs), s3, s4, s5, s6, s7, s8]
theorem turns_step {k : Nat} {a late : List Int} {G : Int → Int} {F : Int} {cs : List Int} (hl : late.length ≤ 100) (ha : Al k late) (hk : k ≤ 3000) (hF : Sm 3050 F) (hG : dl G = ev late) (h : Cuts F (ev late) cs) (hn : cs.length ≤ 32)
    {s4 s5 s6 s7 s8 : Sl} {Q : Fl × En → Prop} (q : ∀ cs' s4 s5 s6 s7 s8, Cuts F G cs' → cs'.length ≤ 2 * cs.length - 1 → Q (.nx, frT a F cs' (.val (tpI late)) s4 s5 s6 s7 s8)) :
    DL.V (poly_turns_b1 (frT a F cs (.val (tpI late)) s4 s5 s6 s7 s8)) Q := by
  have bdF : ∀ c, -F ≤ c → c ≤ F → Sm 3100 c := fun c h1 h2 => Sm.le (a := 3050) (by unfold Sm at *; omega) (by decide)
  have lz : (List.zip cs (cs.drop 1)).length = cs.length - 1 := by rw [List.length_zip, List.length_drop]; omega
  unfold poly_turns_b1 frT
  walk_at "v"
  rw [show (some (1 : Int)) = some ((1 : Nat) : Int) from rfl, cut_from, ← List.map_drop, zip_pairs]
  refine ⟨lnOk (by rw [List.length_map, lz]; omega), V_compRel (fun p d => ∃ o, d = opD o ∧ Tn (ev late) p.1 p.2 o) (fun p hp => ?_) fun ys hys => ?_⟩
  · walk_at "v"
    obtain ⟨u, v⟩ := p
    have g := (gap_zip h.srt u v).mp hp
    have b1 := h.bd u g.1.1
    have b2 := h.bd v g.1.2.1
    have uv := g.1.2.2
    exact turned_v hl ha hk (by show u ≤ v; omega) (bdF u b1.1 b1.2) (bdF v b2.1 b2.2) (h.mo u v g)
  · obtain ⟨os, rfl, pr⟩ := optsOf hys
    have lo : os.length = cs.length - 1 := by rw [← Paired.length pr, lz]
    walk_at "v"
    refine ⟨lnOk (by omega), V_compF (fun o => o.isSome) opD (fun o ho => ?_) ?_⟩
    · walk_at "v"
      cases o with
      | none => unfold opD; walk_at "v"; simp
      | some i => unfold opD; walk_at "v"; simp
    · rw [somes_map, List.append_nil, ← List.map_append]
      have lr : (os.filterMap id).length ≤ os.length := List.length_filterMap_le _ _
      refine ⟨lnOk (by rw [List.length_map, List.length_append]; omega), lnOk (by rw [List.length_map, List.length_append]; omega), V_comp (fun n => .tuple [.int n, .bool true]) (fun n hn => ?_) ?_⟩
      · walk_at "v"
        exact lnOk (by decide)
      · walk_at "v"
        have fl := len_foldI (cs ++ os.filterMap id) []
        rw [List.length_append, List.length_nil] at fl
        refine ⟨by omega, q _ _ _ _ _ _ ?_ (by rw [srtI_len]; omega)⟩
        refine h.step hG (srtI_lt (nodup_foldI _ List.nodup_nil)) (fun c hc => ?_) (fun c hc => ?_) fun u v g => ?_
        · rw [mem_srtI, mem_foldI]; exact .inr (List.mem_append_left _ hc)
        · rw [mem_srtI, mem_foldI] at hc
          rcases hc with hc | hc
          · exact nomatch hc
          · rcases List.mem_append.mp hc with hc | hc
            · exact h.bd c hc
            · obtain ⟨⟨u, v⟩, hp, t⟩ := Paired.memR pr _ (mem_somes.mp hc)
              have g := (gap_zip h.srt u v).mp hp
              obtain ⟨⟨t1, t2, _⟩, _⟩ := t
              have b1 := h.bd u g.1.1
              have b2 := h.bd v g.1.2.1
              exact ⟨by have : u ≤ c := t1; omega, by have : c ≤ v := t2; omega⟩
        · obtain ⟨o, ho, t⟩ := Paired.mem pr (u, v) ((gap_zip h.srt u v).mpr g)
          exact ⟨o, t, fun r e => by rw [mem_srtI, mem_foldI]; exact .inr (List.mem_append_right _ (mem_somes.mpr (e ▸ ho)))⟩
theorem drop_dl (a : List Int) {j : Nat} (h : j < a.length) : dl (ev (a.drop j)) = ev (a.drop (j + 1)) := by
  rw [List.drop_eq_getElem_cons h, dl_ev]
theorem turns_v {k : Nat} {a : List Int} (h0 : a ≠ []) (hl : a.length ≤ 6) (ha : Al k a) (hk : k ≤ 3000) :
    DL.V (m_poly_turns [tpI a]) (fun d => ∃ cs, d = lsI cs ∧ Cuts (farF a) (ev a) cs ∧ cs.length ≤ 33) := by
  have l0 : 0 < a.length := List.length_pos_iff.mpr h0
  have F0 : 0 < farF a := by
    have c := chLL a.length (by omega)
    have m := (mx_in h0).1
    have : 0 ≤ (a.length : Int) * mx a * ch ((2 * a.length : Nat) : Int) a.length := Int.mul_nonneg (Int.mul_nonneg (by omega) m) (by omega)
    unfold farF
    generalize (a.length : Int) * mx a * ch ((2 * a.length : Nat) : Int) a.length = z at *
    omega
  have FS : Sm 3050 (farF a) := (farF_sm (by omega) ha).le (by omega)
  walk_at "f"
  unfold cs_poly_turns
  walk_at "v"
  refine V.of (far_v h0 (by omega) ha hk) ?_
  walk_at "v"
  refine ⟨lnOk (by decide), V.of (diffs_v (by omega)) ?_⟩
  walk_at "v"
  refine ⟨⟨_, rfl⟩, ?_⟩
  rw [rev_diffs]
  have cuts0 : Cuts (farF a) (ev (a.drop (a.length - 1))) [-farF a, farF a] := by
    obtain ⟨c, hc⟩ : ∃ c, a.drop (a.length - 1) = [c] := by
      have : (a.drop (a.length - 1)).length = 1 := by rw [List.length_drop]; omega
      exact List.length_eq_one_iff.mp this
    rw [hc]
    have hev : ∀ x, ev [c] x = c := fun x => by show c * ch x 0 + 0 = c; rw [ch_zero, Int.mul_one, Int.add_zero]
    refine ⟨by simp; omega, by simp, by simp, fun x hx => ?_, fun u v _ => .inl fun x y _ _ _ => by rw [hev, hev]; exact Int.le_refl _⟩
    simp only [List.mem_cons, List.not_mem_nil, or_false] at hx
    rcases hx with rfl | rfl <;> omega
  refine V_for (fun i e => ∃ cs s3 s4 s5 s6 s7 s8, e = frT a (farF a) cs s3 s4 s5 s6 s7 s8 ∧ Cuts (farF a) (ev (a.drop (a.length - 1 - i))) cs ∧ cs.length ≤ 2 ^ i + 1) ⟨[-farF a, farF a], _, _, _, _, _, _, rfl, cuts0, by simp only [List.length_cons, List.length_nil]; decide⟩ ?_ ?_
  · rintro i hi e ⟨cs, s3, s4, s5, s6, s7, s8, rfl, hc, hcl⟩
    rw [List.length_range] at hi
    rw [List.getElem_range]
    walk_at "v"
    have p4 : 2 ^ i ≤ 2 ^ 4 := Nat.pow_le_pow_right (by decide) (by omega)
    have e16 : (2 : Nat) ^ 4 = 16 := by decide
    have es : a.length - 1 - (i + 1) + 1 = a.length - 1 - i := by omega
    refine turns_step (late := a.drop (a.length - 1 - i)) (G := ev (a.drop (a.length - 1 - (i + 1)))) (by rw [List.length_drop]; omega) (fun x hx => ha x (List.mem_of_mem_drop hx)) hk FS ?_ hc (by omega) fun cs' s4 s5 s6 s7 s8 c' l' => ⟨cs', _, _, _, _, _, _, rfl, c', ?_⟩
    · rw [drop_dl a (by omega), es]
    · rw [Nat.pow_succ]; omega
  · rintro e ⟨cs, s3, s4, s5, s6, s7, s8, rfl, hc, hcl⟩
    rw [List.length_range] at hc hcl
    have p5 : 2 ^ (a.length - 1) ≤ 2 ^ 5 := Nat.pow_le_pow_right (by decide) (by omega)
    have e32 : (2 : Nat) ^ 5 = 32 := by decide
    unfold frT
    walk_at "v"
    refine ⟨cs, rfl, ?_, by omega⟩
    rwa [Nat.sub_self, List.drop_zero] at hc
end W
namespace W
open PySem PySem.Spec PyProof.Rows L2 DL PM
local macro_rules | `(tactic| walk_at "v") => `(tactic| simp only [↓v_sSeq, ↓sK_nx, ↓sK_rt, ↓sK_bk, ↓sK_ct, ↓v_sNil, ↓v_sCont, ↓v_sBrk, ↓v_sSet, ↓v_sOwn, ↓v_sRet, ↓v_sDrop, ↓v_sIf, ↓v_sFrzT, ↓fz_own, ↓fz_ownD, ↓fz_val, ↓v_sAsg, ↓v_sAug, ↓v_sPar, ↓v_sPar3, ↓v_xV, ↓v_xO, ↓ap_own, ↓v_sAppend, ↓v_sExtend, ↓v_sPop, ↓v_sFor, ↓v_cdNil, ↓v_sOwnD, ↓v_xD, ↓dp_ownD, ↓v_sPut, ↓o_putN, ↓v_clSorted, ↓o_sortN, ↓o_dictN, ↓v_clRev, ↓v_clRev0, ↓v_cChain, ↓o_isN0, ↓o_isNI, ↓o_notN0, ↓o_notNI, ↓o_notNT, ↓o_inT, ↓o_ninT, ↓o_inL, ↓o_ninL, ↓v_endRt, ↓v_endNx, ↓v_c, ↓v_var0, ↓v_varS, ↓v_peek0, ↓v_peek1, ↓v_peek2, ↓v_peekS, ↓v_op2, ↓v_op1, ↓br_t, ↓br_f, ↓br_n, ↓br_d, ↓v_cIf, ↓v_asB, ↓v_ctV, ↓v_ctNot, ↓v_ctAnd, ↓v_ctOr, ↓v_ctYes, ↓v_cNot, ↓v_cAnd, ↓v_cOr, ↓v_caNil, ↓v_caCons, ↓v_caStar, ↓v_cTup, ↓v_clDisp, ↓v_cFz, ↓v_cCall, ↓v_callS0, ↓v_callS, ↓v_itemsL, ↓v_itemsT, ↓v_ciSeq, ↓v_asI, ↓v_range1, ↓v_range2, ↓v_clRg1, ↓v_clRg2, ↓v_ciEnum, ↓v_ciZip0, ↓v_ciZip1, ↓v_clOf, ↓v_optN, ↓v_optS, ↓v_cSl, ↓v_mSlL, ↓v_mSlT, ↓v_isT, ↓isT_tt, ↓v_comp, ↓v_gSet, ↓v_gTup, ↓v_gSeqT, ↓v_gSeqL, ↓v_gGo0, ↓v_gGoS, ↓o_addI, ↓o_addL, ↓o_addT, ↓o_addII, ↓o_sub, ↓o_neg, ↓o_mul, ↓o_mulL, ↓o_mulTu, ↓o_neS, ↓o_eqS, ↓o_mulI, ↓o_fdiv, ↓o_fdivI, ↓o_mod, ↓o_pow, ↓o_cmpI, ↓o_eqI, ↓o_neI, ↓o_ltI, ↓o_leI, ↓o_ixL, ↓o_ixT, ↓o_tupL, ↓o_tupT, ↓o_lenL, ↓o_lenT, ↓o_abs, ↓o_intI, ↓o_intB, ↓o_max2, ↓o_min2, ↓o_sum, ↓o_pick, ↓o_eqLI, ↓o_neLI, ↓o_eqTI, ↓o_neTI, ↓o_eqL0, ↓o_neL0, ↓o_eqT0, ↓o_neT0, ↓lp_nx, ↓lp_ct, ↓lp_bk, ↓lp_rt, ↓v_ret, wipeE, List.set_cons_zero, List.set_cons_succ, List.getElem?_cons_zero, List.getElem?_cons_succ, List.map_cons, List.map_nil, List.length_cons, List.length_nil, List.length_map, List.cons_append, List.nil_append, List.replicate_succ, List.replicate_zero, Nat.reduceSub, Nat.reduceAdd, true_and, and_true, Nat.zero_add, eq_self, not_true_eq_false, false_implies, true_implies, implies_true, imp_false, Decidable.not_not])
local macro_rules | `(tactic| walk_at "f") => `(tactic| (simp only [v_fnD, v_fnS, List.map_cons, List.map_nil, List.length_cons, List.length_nil, List.cons_append, List.nil_append, Nat.reduceSub, Nat.reduceAdd, List.replicate_succ, List.replicate_zero, true_and, Nat.zero_add]))
/-! ### poly_roots -/
abbrev frQ (a cs fs : List Int) (s3 s4 s5 : Sl) : En := [.val (tpI a), .ownD (dictN fs (.bool true)), .val (lsI cs), s3, s4, s5]
theorem run_nodup (r : Int) (n : Nat) : ((List.range n).map fun (j : Nat) => r + (j : Int)).Nodup := by
  refine List.Pairwise.map _ (fun a b h => ?_) (List.nodup_range (n := n))
  omega
theorem run_lt {a : List Int} (ha : isLeast a) (h0 : a ≠ []) {r n : Int} (h : ∀ x, r ≤ x → x < n → ev a x = 0) : n - r < a.length := by
  by_cases e : n ≤ r
  · have := List.length_pos_iff.mpr h0; omega
  · have := root_count ha h0 (zs := (List.range (n - r).toNat).map fun (j : Nat) => r + (j : Int)) (run_nodup r _) fun z hz => by
      obtain ⟨j, hj, rfl⟩ := List.mem_map.mp hz
      have := List.mem_range.mp hj
      exact h _ (by omega) (by omega)
    rw [List.length_map, List.length_range] at this
    omega
theorem roots_gap {k : Nat} {a cs fs : List Int} {u v : Int} (ha0 : isLeast a) (h0 : a ≠ []) (hl : a.length ≤ 6) (ha : Al k a) (hk : k ≤ 3000) (m : Mono (ev a) u v) (uv : u < v) (su : Sm 3100 u) (sv : Sm 3100 v) (nf : fs.Nodup) (zf : ∀ x ∈ fs, ev a x = 0)
    {s5 : Sl} {Q : Fl × En → Prop} (q : ∀ fs' s5, fs'.Nodup → (∀ x ∈ fs', ev a x = 0) → (∀ x ∈ fs, x ∈ fs') → (∀ x, u ≤ x → x ≤ v → ev a x = 0 → x ∈ fs') → Q (.nx, frQ a cs fs' (.val (.int u)) (.val (.int v)) s5)) :
    DL.V (poly_roots_b2 (frQ a cs fs (.val (.int u)) (.val (.int v)) s5)) Q := by
  unfold poly_roots_b2 frQ
  walk_at "v"
  refine (turned_v (by omega) ha hk (by omega) su sv m).mono ?_
  rintro _ ⟨o, rfl, t⟩
  cases o with
  | none =>
    unfold opD
    walk_at "v"
    refine V_while (fun e => e = frQ a cs fs (.val (.int u)) (.val (.int v)) (.val .none)) (fun _ => 0) rfl (by decide) ?_
    rintro e rfl
    walk_at "v"
    refine q _ _ nf zf (fun x h => h) fun x h1 h2 z => ?_
    rcases t with t | t
    · have := t x h1 h2; omega
    · have := t x h1 h2; omega
  | some r =>
    unfold opD
    walk_at "v"
    refine V_while (fun e => ∃ (n : Int) (fs' : List Int), e = frQ a cs fs' (.val (.int u)) (.val (.int v)) (.val (.int n)) ∧ r ≤ n ∧ n ≤ v + 1 ∧ fs'.Nodup ∧ (∀ x ∈ fs', ev a x = 0) ∧ (∀ x ∈ fs, x ∈ fs') ∧ ∀ x, r ≤ x → x < n → ev a x = 0 ∧ x ∈ fs')
      (fun e => (r + 100 - slI e[5]?).toNat) ⟨r, fs, rfl, Int.le_refl _, by have := t.1.2.1; omega, nf, zf, fun x h => h, fun x h1 h2 => by omega⟩ (by show (r + 100 - r).toNat < _; omega) ?_
    rintro e ⟨n, fs', rfl, rn, nv, nf', zf', sub, run⟩
    have lt := run_lt ha0 h0 (r := r) (n := n) fun x h1 h2 => (run x h1 h2).1
    have rc := root_count ha0 h0 nf' zf'
    walk_at "v"
    refine ⟨fun nle => ?_, fun nle => ?_⟩
    · have sn : Sm 3999 n := Sm.le (a := 3101) (by
        have := t.1.1
        have e1 : (2 : Nat) ^ 3101 = 2 ^ 3100 * 2 := Nat.pow_succ 2 3100
        unfold Sm at *
        rw [e1]
        generalize (2 : Nat) ^ 3100 = w at *
        omega) (by decide)
      refine V.of_eq (at_spec (by omega) ha (by omega) sn) ?_
      walk_at "v"
      refine ⟨fun z => ?_, fun z => ?_⟩
      · unfold poly_roots_b1
        walk_at "v"
        refine ⟨lnOk (by omega), ⟨n + 1, addI fs' n, rfl, by omega, by omega, nodup_addI nf', fun x hx => ?_, fun x hx => ?_, fun x h1 h2 => ?_⟩, ?_⟩
        · unfold addI at hx
          split at hx
          · exact zf' x hx
          · rcases List.mem_append.mp hx with hx | hx
            · exact zf' x hx
            · rw [List.mem_singleton.mp hx]; exact z
        · have := sub x hx
          unfold addI
          split
          · exact this
          · exact List.mem_append_left _ this
        · by_cases e : x < n
          · have := run x h1 e
            refine ⟨this.1, ?_⟩
            unfold addI
            split
            · exact this.2
            · exact List.mem_append_left _ this.2
          · have : x = n := by omega
            subst this
            refine ⟨z, ?_⟩
            unfold addI
            split
            · assumption
            · exact List.mem_append_right _ (List.mem_singleton.mpr rfl)
        · show (r + 100 - (n + 1)).toNat < (r + 100 - n).toNat
          omega
      · refine q _ _ nf' zf' sub fun x h1 h2 zx => ?_
        have zr := zeros_run t m h1 h2 zx
        by_cases e : x < n
        · exact (run x zr.1 e).2
        · exact absurd (zr.2 n rn (by omega)) z
    · refine q _ _ nf' zf' sub fun x h1 h2 zx => ?_
      have zr := zeros_run t m h1 h2 zx
      exact (run x zr.1 (by omega)).2
theorem roots_v {k : Nat} {a : List Int} (ha0 : isLeast a) (h0 : a ≠ []) (hl : a.length ≤ 6) (ha : Al k a) (hk : k ≤ 3000) :
    DL.V (m_poly_roots [tpI a]) (fun d => ∃ rs : List Int, d = tpI rs ∧ rs.Pairwise (· < ·) ∧ ∀ n, n ∈ rs ↔ ev a n = 0) := by
  have FS : Sm 3050 (farF a) := (farF_sm (by omega) ha).le (by omega)
  walk_at "f"
  unfold cs_poly_roots
  walk_at "v"
  refine (turns_v h0 hl ha hk).mono ?_
  rintro _ ⟨cs, rfl, hc, hcl⟩
  have lz : (List.zip cs (cs.drop 1)).length = cs.length - 1 := by rw [List.length_zip, List.length_drop]; omega
  have bdF : ∀ c, -(farF a) ≤ c → c ≤ farF a → Sm 3100 c := fun c h1 h2 => Sm.le (a := 3050) (by unfold Sm at *; omega) (by decide)
  walk_at "v"
  rw [show (some (1 : Int)) = some ((1 : Nat) : Int) from rfl, cut_from, ← List.map_drop, zip_pairs]
  refine V_for (fun i e => ∃ fs s3 s4 s5, e = frQ a cs fs s3 s4 s5 ∧ fs.Nodup ∧ (∀ x ∈ fs, ev a x = 0) ∧ ∀ (j : Nat) (p : Int × Int), j < i → (List.zip cs (cs.drop 1))[j]? = some p → ∀ x, p.1 ≤ x → x ≤ p.2 → ev a x = 0 → x ∈ fs) ⟨[], _, _, _, rfl, List.nodup_nil, fun x h => (nomatch h), fun j p h => absurd h (Nat.not_lt_zero _)⟩ ?_ ?_
  · rintro i hi e ⟨fs, s3, s4, s5, rfl, nf, zf, cov⟩
    obtain ⟨u, v, huv⟩ : ∃ u v, (List.zip cs (cs.drop 1))[i] = (u, v) := ⟨_, _, rfl⟩
    rw [huv]
    have hm : (u, v) ∈ List.zip cs (cs.drop 1) := huv ▸ List.getElem_mem hi
    have g := (gap_zip hc.srt u v).mp hm
    have b1 := hc.bd u g.1.1
    have b2 := hc.bd v g.1.2.1
    unfold frQ
    walk_at "v"
    refine roots_gap ha0 h0 hl ha hk (hc.mo u v g) g.1.2.2 (bdF u b1.1 b1.2) (bdF v b2.1 b2.2) nf zf fun fs' s5 nf' zf' sub all => ⟨fs', _, _, _, rfl, nf', zf', fun j p hj hp x h1 h2 z => ?_⟩
    by_cases e : j < i
    · exact sub x (cov j p e hp x h1 h2 z)
    · have : j = i := by omega
      subst this
      rw [List.getElem?_eq_getElem hi, huv] at hp
      cases hp
      exact all x h1 h2 z
  · rintro e ⟨fs, s3, s4, s5, rfl, nf, zf, cov⟩
    have rc := root_count ha0 h0 nf zf
    unfold frQ
    walk_at "v"
    refine ⟨by omega, srtI fs, rfl, srtI_lt nf, fun n => ?_⟩
    rw [mem_srtI]
    refine ⟨zf n, fun z => ?_⟩
    obtain ⟨f1, f2⟩ := far_root ha0 h0 (by omega) z
    obtain ⟨u, v, g, g1, g2⟩ := hc.gap (n := n) (by omega) f2
    obtain ⟨j, hj, e⟩ := List.getElem_of_mem ((gap_zip hc.srt u v).mpr g)
    exact cov j (u, v) hj (by rw [List.getElem?_eq_getElem hj, e]) n g1 (by show n ≤ v; omega) z
end W
namespace W
open PySem PySem.Spec PyProof.Rows L2 DL PM
local macro_rules | `(tactic| walk_at "v") => `(tactic| simp only [↓v_sSeq, ↓sK_nx, ↓sK_rt, ↓sK_bk, ↓sK_ct, ↓v_sNil, ↓v_sCont, ↓v_sBrk, ↓v_sSet, ↓v_sOwn, ↓v_sRet, ↓v_sDrop, ↓v_sIf, ↓v_sFrzT, ↓fz_own, ↓fz_ownD, ↓fz_val, ↓v_sAsg, ↓v_sAug, ↓v_sPar, ↓v_sPar3, ↓v_xV, ↓v_xO, ↓ap_own, ↓v_sAppend, ↓v_sExtend, ↓v_sPop, ↓v_sFor, ↓v_cdNil, ↓v_sOwnD, ↓v_xD, ↓dp_ownD, ↓v_sPut, ↓o_putN, ↓v_clSorted, ↓o_sortN, ↓o_dictN, ↓v_clRev, ↓v_clRev0, ↓v_cChain, ↓o_isN0, ↓o_isNI, ↓o_notN0, ↓o_notNI, ↓o_notNT, ↓o_inT, ↓o_ninT, ↓o_inL, ↓o_ninL, ↓v_endRt, ↓v_endNx, ↓v_c, ↓v_var0, ↓v_varS, ↓v_peek0, ↓v_peek1, ↓v_peek2, ↓v_peekS, ↓v_op2, ↓v_op1, ↓br_t, ↓br_f, ↓br_n, ↓br_d, ↓v_cIf, ↓v_asB, ↓v_ctV, ↓v_ctNot, ↓v_ctAnd, ↓v_ctOr, ↓v_ctYes, ↓v_cNot, ↓v_cAnd, ↓v_cOr, ↓v_caNil, ↓v_caCons, ↓v_caStar, ↓v_cTup, ↓v_clDisp, ↓v_cFz, ↓v_cCall, ↓v_callS0, ↓v_callS, ↓v_itemsL, ↓v_itemsT, ↓v_ciSeq, ↓v_asI, ↓v_range1, ↓v_range2, ↓v_clRg1, ↓v_clRg2, ↓v_ciEnum, ↓v_ciZip0, ↓v_ciZip1, ↓v_clOf, ↓v_optN, ↓v_optS, ↓v_cSl, ↓v_mSlL, ↓v_mSlT, ↓v_isT, ↓isT_tt, ↓v_comp, ↓v_gSet, ↓v_gTup, ↓v_gSeqT, ↓v_gSeqL, ↓v_gGo0, ↓v_gGoS, ↓o_addI, ↓o_addL, ↓o_addT, ↓o_addII, ↓o_sub, ↓o_neg, ↓o_mul, ↓o_mulL, ↓o_mulTu, ↓o_neS, ↓o_eqS, ↓o_mulI, ↓o_fdiv, ↓o_fdivI, ↓o_mod, ↓o_pow, ↓o_cmpI, ↓o_eqI, ↓o_neI, ↓o_ltI, ↓o_leI, ↓o_ixL, ↓o_ixT, ↓o_tupL, ↓o_tupT, ↓o_lenL, ↓o_lenT, ↓o_abs, ↓o_intI, ↓o_intB, ↓o_max2, ↓o_min2, ↓o_sum, ↓o_pick, ↓o_eqLI, ↓o_neLI, ↓o_eqTI, ↓o_neTI, ↓o_eqL0, ↓o_neL0, ↓o_eqT0, ↓o_neT0, ↓lp_nx, ↓lp_ct, ↓lp_bk, ↓lp_rt, ↓v_ret, wipeE, List.set_cons_zero, List.set_cons_succ, List.getElem?_cons_zero, List.getElem?_cons_succ, List.map_cons, List.map_nil, List.length_cons, List.length_nil, List.length_map, List.cons_append, List.nil_append, List.replicate_succ, List.replicate_zero, Nat.reduceSub, Nat.reduceAdd, true_and, and_true, Nat.zero_add, eq_self, not_true_eq_false, not_false_eq_true, false_implies, true_implies, implies_true, imp_false, Decidable.not_not])
local macro_rules | `(tactic| walk_at "f") => `(tactic| (simp only [v_fnD, v_fnS, List.map_cons, List.map_nil, List.length_cons, List.length_nil, List.cons_append, List.nil_append, Nat.reduceSub, Nat.reduceAdd, List.replicate_succ, List.replicate_zero, true_and, Nat.zero_add]))
local macro_rules | `(tactic| walk_at "s") => `(tactic| simp only [↓v_sSeq, ↓sK_rt, ↓sK_bk, ↓sK_ct, ↓v_sNil, ↓v_sCont, ↓v_sBrk, ↓v_sSet, ↓v_sOwn, ↓v_sRet, ↓v_sDrop, ↓v_sIf, ↓v_sFrzT, ↓fz_own, ↓fz_ownD, ↓fz_val, ↓v_sAsg, ↓v_sAug, ↓v_sPar, ↓v_sPar3, ↓v_xV, ↓v_xO, ↓ap_own, ↓v_sAppend, ↓v_sExtend, ↓v_sPop, ↓v_sFor, ↓v_cdNil, ↓v_sOwnD, ↓v_xD, ↓dp_ownD, ↓v_sPut, ↓o_putN, ↓v_clSorted, ↓o_sortN, ↓o_dictN, ↓v_clRev, ↓v_clRev0, ↓v_cChain, ↓o_isN0, ↓o_isNI, ↓o_notN0, ↓o_notNI, ↓o_notNT, ↓o_inT, ↓o_ninT, ↓o_inL, ↓o_ninL, ↓v_endRt, ↓v_endNx, ↓v_c, ↓v_var0, ↓v_varS, ↓v_peek0, ↓v_peek1, ↓v_peek2, ↓v_peekS, ↓v_op2, ↓v_op1, ↓br_t, ↓br_f, ↓br_n, ↓br_d, ↓v_cIf, ↓v_asB, ↓v_ctV, ↓v_ctNot, ↓v_ctAnd, ↓v_ctOr, ↓v_ctYes, ↓v_cNot, ↓v_cAnd, ↓v_cOr, ↓v_caNil, ↓v_caCons, ↓v_caStar, ↓v_cTup, ↓v_clDisp, ↓v_cFz, ↓v_cCall, ↓v_callS0, ↓v_callS, ↓v_itemsL, ↓v_itemsT, ↓v_ciSeq, ↓v_asI, ↓v_range1, ↓v_range2, ↓v_clRg1, ↓v_clRg2, ↓v_ciEnum, ↓v_ciZip0, ↓v_ciZip1, ↓v_clOf, ↓v_optN, ↓v_optS, ↓v_cSl, ↓v_mSlL, ↓v_mSlT, ↓v_isT, ↓isT_tt, ↓v_comp, ↓v_gSet, ↓v_gTup, ↓v_gSeqT, ↓v_gSeqL, ↓v_gGo0, ↓v_gGoS, ↓o_addI, ↓o_addL, ↓o_addT, ↓o_addII, ↓o_sub, ↓o_neg, ↓o_mul, ↓o_mulL, ↓o_mulTu, ↓o_neS, ↓o_eqS, ↓o_mulI, ↓o_fdiv, ↓o_fdivI, ↓o_mod, ↓o_pow, ↓o_cmpI, ↓o_eqI, ↓o_neI, ↓o_ltI, ↓o_leI, ↓o_ixL, ↓o_ixT, ↓o_tupL, ↓o_tupT, ↓o_lenL, ↓o_lenT, ↓o_abs, ↓o_intI, ↓o_intB, ↓o_max2, ↓o_min2, ↓o_sum, ↓o_pick, ↓o_eqLI, ↓o_neLI, ↓o_eqTI, ↓o_neTI, ↓o_eqL0, ↓o_neL0, ↓o_eqT0, ↓o_neT0, ↓lp_nx, ↓lp_ct, ↓lp_bk, ↓lp_rt, ↓v_ret, wipeE, List.set_cons_zero, List.set_cons_succ, List.getElem?_cons_zero, List.getElem?_cons_succ, List.map_cons, List.map_nil, List.length_cons, List.length_nil, List.length_map, List.cons_append, List.nil_append, List.replicate_succ, List.replicate_zero, Nat.reduceSub, Nat.reduceAdd, true_and, and_true, Nat.zero_add, eq_self, not_true_eq_false, not_false_eq_true, false_implies, true_implies, implies_true, imp_false, Decidable.not_not])
/-! ### the law's own -/
theorem least_mem_drop : ∀ (a : List Int) (k : Nat), (∃ x ∈ a.drop k, x ≠ 0) ↔ k < (least a).length := by
  refine snoc_ind (fun k => ?_) fun a y ih k => ?_
  · simp [least]
  · by_cases hy : y = 0
    · subst hy
      rw [least_snoc0, ← ih]
      constructor
      · rintro ⟨x, hx, x0⟩
        by_cases hk : k ≤ a.length
        · rw [List.drop_append_of_le_length hk] at hx
          rcases List.mem_append.mp hx with h | h
          · exact ⟨x, h, x0⟩
          · exact absurd (List.mem_singleton.mp h) x0
        · rw [List.drop_eq_nil_of_le (by rw [List.length_append, List.length_singleton]; omega)] at hx
          exact nomatch hx
      · rintro ⟨x, hx, x0⟩
        by_cases hk : k ≤ a.length
        · exact ⟨x, by rw [List.drop_append_of_le_length hk]; exact List.mem_append_left _ hx, x0⟩
        · rw [List.drop_eq_nil_of_le (by omega)] at hx
          exact nomatch hx
    · rw [least_snoc a hy, List.length_append, List.length_singleton]
      constructor
      · rintro ⟨x, hx, x0⟩
        refine Nat.lt_of_not_le fun h => ?_
        rw [List.drop_eq_nil_of_le (by rw [List.length_append, List.length_singleton]; omega)] at hx
        exact nomatch hx
      · intro hk
        exact ⟨y, by rw [List.drop_append_of_le_length (by omega)]; exact List.mem_append_right _ (List.mem_singleton.mpr rfl), hy⟩
theorem least_take : ∀ a : List Int, a.take (least a).length = least a := by
  refine snoc_ind rfl fun a y ih => ?_
  by_cases hy : y = 0
  · subst hy
    rw [least_snoc0, List.take_append_of_le_length (least_le a), ih]
  · rw [least_snoc a hy, List.take_length]
theorem filter_range_lt (n m : Nat) (h : m ≤ n) : ((List.range n).filter fun k => decide (k < m)).length = m := by
  have e : (List.range n).filter (fun k => decide (k < m)) = List.range m := by
    obtain ⟨d, rfl⟩ : ∃ d, n = m + d := ⟨n - m, by omega⟩
    rw [List.range_add, List.filter_append, List.filter_eq_self.mpr fun k hk => decide_eq_true (List.mem_range.mp hk), List.filter_eq_nil_iff.mpr, List.append_nil]
    intro k hk
    obtain ⟨j, _, rfl⟩ := List.mem_map.mp hk
    simp
  rw [e, List.length_range]
theorem diffs_zipI (l : List Int) : ((List.zip l (l.drop 1)).map fun p => PyData.int (p.2 - p.1)) = (diffs l).map PyData.int := by
  have := diffs_zip l
  rw [zipD_zip, List.map_map] at this
  exact this
theorem binom_v {vs : List Int} (hl : vs.length ≤ 1000) : Is (m__law_binomials [lsI vs]) (tpI (least (newt vs.length vs))) := by
  unfold Is
  walk_at "f"
  unfold cs__law_binomials
  walk_at "v"
  refine ⟨lnOk (by decide), ?_⟩
  refine V_for (fun i e => ∃ (f l : List Int) (s3 s4 s5 s6 s7 s8 : Sl), e = [.val (lsI vs), .own (f.map PyData.int), .val (lsI l), s3, s4, s5, s6, s7, s8] ∧ f ++ newt l.length l = newt vs.length vs ∧ l.length + i = vs.length ∧ f.length = i) ⟨[], vs, _, _, _, _, _, _, rfl, rfl, rfl, rfl⟩ ?_ ?_
  · rintro i hi e ⟨f, l, s3, s4, s5, s6, s7, s8, rfl, hf, hll, hfl⟩
    cases l with
    | nil => rw [List.length_nil] at hll; omega
    | cons x r =>
      walk_at "v"
      unfold _law_binomials_b1
      walk_at "v"
      rw [show (some (1 : Int)) = some ((1 : Nat) : Int) from rfl]
      rw [show (PyData.int x :: r.map PyData.int) = (x :: r).map PyData.int from rfl, cut_from, ← List.map_drop, zipD_zip]
      rw [List.length_cons] at hll
      refine ⟨.int x, by rw [List.map_cons, atI_zero], lnOk (by omega), lnOk (by rw [List.length_map, List.length_zip, List.length_drop, List.length_cons]; omega), V_comp (fun p => .int (p.2 - p.1)) (fun p hp => ?_) ?_⟩
      · walk_at "v"
      rw [diffs_zipI]
      refine ⟨f ++ [x], diffs (x :: r), _, _, _, _, _, _, by rw [List.map_append]; rfl, ?_, ?_, ?_⟩
      · rw [List.append_assoc, ← hf]
        congr 1
        show x :: newt (diffs (x :: r)).length (diffs (x :: r)) = x :: newt r.length (diffs (x :: r))
        rw [show (diffs (x :: r)).length = r.length by rw [diffs_len]; rfl]
      · rw [diffs_len, List.length_cons]; omega
      · rw [List.length_append, List.length_singleton, hfl]
  · rintro e ⟨f, l, s3, s4, s5, s6, s7, s8, rfl, hf, hll, hfl⟩
    have l0 : l = [] := List.length_eq_zero_iff.mp (by omega)
    subst l0
    have ef : f = newt vs.length vs := by rw [← hf]; show f = f ++ []; rw [List.append_nil]
    rw [← ef]
    walk_at "v"
    rw [Int.toNat_natCast]
    refine ⟨inBk (by omega) (by omega), lnOk (by rw [DL.intsFrom_len]; omega), ?_⟩
    refine V_compF (k := fun i : Nat => PyData.int (0 + (i : Int))) (xs := List.range f.length) (fun k => decide (k < (least f).length)) (fun i => .int i) (fun i hi => ?_) ?_
    · walk_at "v"
      rw [Int.zero_add, cut_from, ← List.map_drop]
      refine ⟨lnOk (by rw [List.length_map, List.length_drop]; omega), V_compF (fun x => !decide (x = 0)) (fun x => .int x) (fun x hx => ?_) ?_⟩
      · walk_at "v"
      · walk_at "v"
        refine ⟨lnOk (by decide), ?_⟩
        have e : (!decide ((f.drop i).filter (fun x => !decide (x = 0)) = [])) = decide (i < (least f).length) := by
          rw [Bool.eq_iff_iff]
          simp only [Bool.not_eq_true', decide_eq_false_iff_not, decide_eq_true_eq]
          rw [← least_mem_drop, List.filter_eq_nil_iff]
          constructor
          · intro h
            refine Classical.byContradiction fun n => h fun x hx => ?_
            by_cases e : x = 0
            · simp [e]
            · exact absurd ⟨x, hx, e⟩ n
          · rintro ⟨x, hx, x0⟩ h
            have := h x hx
            simp [x0] at this
        exact e
    · walk_at "v"
      rw [filter_range_lt _ _ (least_le f), cut_to, ← List.map_take, least_take]
/-! ### factors -/
abbrev Tri := Int × Int × Int
def tri (t : Tri) : PyData := tpI [t.1, t.2.1, t.2.2]
def qv (t : Tri) (n : Int) : Int := t.1 * n * n + t.2.1 * n + t.2.2
def fv (fs : List Tri) (n : Int) : Int := fs.foldl (fun acc t => acc * qv t n) 1
def dgr (t : Tri) : Nat := if t.1 ≠ 0 then 2 else if t.2.1 ≠ 0 then 1 else 0
def Dgr (fs : List Tri) : Nat := (fs.map dgr).sum
def Bd (k : Nat) (t : Tri) : Prop := Sm k t.1 ∧ Sm k t.2.1 ∧ Sm k t.2.2
theorem qv_sm {t : Tri} {n : Int} {k j : Nat} (h : Bd k t) (hn : Sm j n) : Sm (k + 2 * j + 2) (qv t n) := by
  unfold qv
  have h1 := (h.1.mul hn).mul hn
  have h2 := h.2.1.mul hn
  exact ((h1.add (h2.le (by omega))).add (h.2.2.le (by omega))).le (by omega)
theorem fold_sm {n : Int} {w : Nat} : ∀ (fs : List Tri) {acc : Int} {b : Nat}, (∀ t ∈ fs, Sm w (qv t n)) → Sm b acc → Sm (b + w * fs.length) (fs.foldl (fun acc t => acc * qv t n) acc)
  | [], acc, b, _, h => by simpa using h
  | t :: fs, acc, b, h, hb => by
    rw [List.foldl_cons]
    have := fold_sm fs (fun t ht => h t (List.mem_cons_of_mem _ ht)) (hb.mul (h t List.mem_cons_self))
    exact this.le (by rw [List.length_cons, Nat.mul_succ]; omega)
theorem fv_sm {fs : List Tri} {n : Int} (hl : fs.length ≤ 4) (h : ∀ t ∈ fs, Bd 200 t) (hn : Sm 20 n) : Sm 970 (fv fs n) :=
  (fold_sm (w := 242) (b := 1) fs (fun t ht => (qv_sm (h t ht) hn).le (by decide)) (sm_lt (by decide))).le (by omega)
theorem value_v {fs : List Tri} {n : Int} (hl : fs.length ≤ 4) (h : ∀ t ∈ fs, Bd 200 t) (hn : Sm 20 n) : Is (m__law_value [.list (fs.map tri), .int n]) (.int (fv fs n)) := by
  unfold Is
  walk_at "f"
  unfold cs__law_value
  walk_at "v"
  refine V_for (fun i e => ∃ s3 s4 s5, e = [.val (.list (fs.map tri)), .val (.int n), .val (.int ((fs.take i).foldl (fun acc t => acc * qv t n) 1)), s3, s4, s5]) ⟨_, _, _, rfl⟩ ?_ ?_
  · rintro i hi e ⟨s3, s4, s5, rfl⟩
    have ht := h _ (List.getElem_mem hi)
    generalize hte : fs[i] = t at *
    unfold tri
    walk_at "v"
    unfold _law_value_b1
    walk_at "v"
    have q1 := qv_sm ht hn
    have q2 := fold_sm (n := n) (w := 242) (b := 1) (fs.take i) (fun t ht => (qv_sm (h t (List.mem_of_mem_take ht)) hn).le (by decide)) (sm_lt (x := 1) (by decide))
    rw [List.length_take] at q2
    refine ⟨mulOk_s ht.1 hn (by decide) (by decide), mulOk_s (ht.1.mul hn) hn (by decide) (by decide), mulOk_s ht.2.1 hn (by decide) (by decide), mulOk_s q2 q1 (by omega) (by decide), .val (.int t.1), .val (.int t.2.1), .val (.int t.2.2), ?_⟩
    rw [List.take_succ_eq_append_getElem hi, List.foldl_append, hte]
    rfl
  · rintro e ⟨s3, s4, s5, rfl⟩
    walk_at "v"
    rw [List.take_length]
    rfl
theorem qv_tp (t : Tri) : ∃ c, Tp (dgr t) c (qv t) := by
  obtain ⟨a, b, c⟩ := t
  unfold dgr
  by_cases ha : a ≠ 0
  · rw [if_pos ha]
    refine ⟨2 * a, fun n => ?_⟩
    show qv (a, b, c) (n + 1 + 1) - qv (a, b, c) (n + 1) - (qv (a, b, c) (n + 1) - qv (a, b, c) n) = 2 * a
    unfold qv
    show a * (n + 1 + 1) * (n + 1 + 1) + b * (n + 1 + 1) + c - (a * (n + 1) * (n + 1) + b * (n + 1) + c) - (a * (n + 1) * (n + 1) + b * (n + 1) + c - (a * n * n + b * n + c)) = 2 * a
    simp only [Int.mul_add, Int.add_mul, Int.mul_one]
    omega
  · rw [if_neg ha]
    have a0 : a = 0 := Decidable.not_not.mp ha
    subst a0
    by_cases hb : b ≠ 0
    · rw [if_pos hb]
      refine ⟨b, fun n => ?_⟩
      show qv (0, b, c) (n + 1) - qv (0, b, c) n = b
      unfold qv
      show 0 * (n + 1) * (n + 1) + b * (n + 1) + c - (0 * n * n + b * n + c) = b
      simp only [Int.zero_mul, Int.mul_add, Int.mul_one]
      omega
    · rw [if_neg hb]
      have b0 : b = 0 := Decidable.not_not.mp hb
      subst b0
      refine ⟨c, fun n => ?_⟩
      show qv (0, 0, c) n = c
      unfold qv
      simp
theorem fold_tp : ∀ (fs : List Tri) {g : Int → Int} {d : Nat}, (∃ c, Tp d c g) → ∃ c, Tp (d + Dgr fs) c (fun n => fs.foldl (fun acc t => acc * qv t n) (g n))
  | [], g, d, h => h
  | t :: fs, g, d, ⟨c, h⟩ => by
    obtain ⟨c2, h2⟩ := qv_tp t
    obtain ⟨B, _, q⟩ := Tp.mul (d + dgr t) d (dgr t) rfl
    have := fold_tp fs ⟨_, q c c2 g (qv t) h h2⟩
    rw [show d + Dgr (t :: fs) = d + dgr t + Dgr fs by unfold Dgr; rw [List.map_cons, List.sum_cons]; omega]
    exact this
theorem fv_dg (fs : List Tri) (more : Int) : Dg (Dgr fs + 1) (fun n => fv fs n + more) := by
  obtain ⟨c, h⟩ := fold_tp fs (g := fun _ => 1) (d := 0) ⟨1, fun n => rfl⟩
  rw [Nat.zero_add] at h
  have h2 : Dg (Dgr fs + 1) (fun _ => more) := Dg.le (L := 1) (fun n => by show more - more = 0; omega) (by omega)
  exact h.dg.add h2
theorem deg_sum (fs : List Tri) : (fs.map fun t => (if t.1 ≠ 0 then 2 else if t.2.1 ≠ 0 then 1 else 0 : Int)).sum = (Dgr fs : Nat) := by
  induction fs with
  | nil => rfl
  | cons t fs ih =>
    unfold Dgr at *
    rw [List.map_cons, List.sum_cons, List.map_cons, List.sum_cons, ih]
    unfold dgr
    split
    · omega
    · split <;> omega

/-! ### the polynomial of a product -/
theorem lawpoly_v {fs : List Tri} {more : Int} (hl : fs.length ≤ 4) (h : ∀ t ∈ fs, Bd 200 t) (hD : Dgr fs ≤ 5) (hm : Sm 10 more) :
    DL.V (m__law_poly [.list (fs.map tri), .int more]) (fun d => ∃ c, d = tpI c ∧ isLeast c ∧ ev c = (fun n => fv fs n + more) ∧ c.length ≤ 6 ∧ Al 1000 c) := by
  walk_at "f"
  unfold cs__law_poly
  walk_at "v"
  refine ⟨lnOk (by omega), V_comp (fun t => .int (if t.1 ≠ 0 then 2 else if t.2.1 ≠ 0 then 1 else 0)) (fun t ht => ?_) ?_⟩
  · unfold tri
    walk_at "v"
    refine ⟨fun h0 => ⟨fun h1 => ?_, fun h1 => ?_⟩, fun h0 => ?_⟩
    · rw [if_neg (by simpa using h0), if_neg (by simpa using h1)]
    · rw [if_neg (by simpa using h0), if_pos h1]
    · rw [if_pos h0]
  rw [mapI (fun t : Tri => (if t.1 ≠ 0 then 2 else if t.2.1 ≠ 0 then 1 else 0 : Int))]
  walk_at "v"
  rw [deg_sum]
  have en : ((Dgr fs : Nat) : Int) + 1 = ((Dgr fs + 1 : Nat) : Int) := by omega
  rw [en, Int.toNat_natCast]
  refine ⟨inBk (by omega) (by omega), lnOk (by rw [DL.intsFrom_len]; omega), V_compR (fun i => .int (fv fs i + more)) (fun i hi => ?_) ?_⟩
  · walk_at "v"
    rw [Int.zero_add]
    refine V.of (value_v hl h (Sm.le (a := 10) (sm_lt (by omega)) (by decide))) ?_
    walk_at "v"
  rw [mapI (fun i : Nat => fv fs i + more)]
  refine V.of (binom_v (by rw [List.length_map, List.length_range]; omega)) ?_
  obtain ⟨c, r, q1, q2, q3, q4⟩ := of_fun (f := fun n => fv fs n + more) (L := Dgr fs + 1) (q := lsI ((List.range (Dgr fs + 1)).map fun i => fv fs (i : Nat) + more)) (by omega) (fv_dg fs more) (.inl rfl)
  have r' := of_spec (q := lsI ((List.range (Dgr fs + 1)).map fun i => fv fs (i : Nat) + more)) ((List.range (Dgr fs + 1)).map fun i => fv fs (i : Nat) + more) (by rw [List.length_map, List.length_range]; omega) (.inl rfl)
  rw [r] at r'
  have e : tpI c = tpI (least (newt ((List.range (Dgr fs + 1)).map fun i => fv fs (i : Nat) + more).length ((List.range (Dgr fs + 1)).map fun i => fv fs (i : Nat) + more))) := by injection r'
  refine ⟨c, e.symm, q1, q2, by omega, (q4 971 fun i hi => ((fv_sm hl h (Sm.le (a := 10) (sm_lt (by omega)) (by decide))).add (hm.le (by decide)))).le (by omega)⟩
theorem fresh : ∀ l : List Int, ∃ n, ∀ x ∈ l, x < n
  | [] => ⟨0, fun x h => nomatch h⟩
  | a :: l => by
    obtain ⟨n, h⟩ := fresh l
    refine ⟨max n (a + 1), fun x hx => ?_⟩
    rcases List.mem_cons.mp hx with rfl | hx
    · omega
    · have := h x hx; omega
theorem nonzero_of {c : List Int} {rs : List Int} (h : ∀ n, ev c n = 0 → n ∈ rs) : c ≠ [] := fun e => by
  obtain ⟨n, hn⟩ := fresh rs
  have := hn n (h n (by rw [e]; rfl))
  omega
/-- roots that are told -/
theorem roots_is {k : Nat} {a rs : List Int} (ha0 : isLeast a) (h0 : a ≠ []) (hl : a.length ≤ 6) (ha : Al k a) (hk : k ≤ 3000) (hs : rs.Pairwise (· < ·)) (hr : ∀ n, n ∈ rs ↔ ev a n = 0) : Is (m_poly_roots [tpI a]) (tpI rs) := by
  refine (roots_v ha0 h0 hl ha hk).mono ?_
  rintro _ ⟨rs', rfl, p, q⟩
  rw [lt_ext p hs fun x => (q x).trans (hr x).symm]
/-- sorted(dict([(n, 0) for n in ..])) -/
theorem sortd {ns rs : List Int} (hs : rs.Pairwise (· < ·)) (h : ∀ n, n ∈ rs ↔ n ∈ ns) : srtI (ns.foldl addI []) = rs := by
  refine lt_ext (srtI_lt (nodup_foldI _ List.nodup_nil)) hs fun x => ?_
  rw [mem_srtI, mem_foldI, h]
  simp
theorem nears : (DL.intsFrom (-45) (46 - -45 : Int).toNat) = ((List.range 91).map fun (i : Nat) => (-45 + (i : Int))).map PyData.int := by
  rw [List.map_map]; rfl
theorem moved_v {fs : List Tri} {more : Int} (hl : fs.length ≤ 4) (h : ∀ t ∈ fs, Bd 200 t) (hD : Dgr fs ≤ 5) (hm : Sm 10 more) : Is (m__law_moved_right [.list (fs.map tri), .int more]) (.bool true) := by
  unfold Is
  walk_at "f"
  unfold cs__law_moved_right
  walk_at "s"
  refine (lawpoly_v hl h hD hm).mono ?_
  rintro _ ⟨c, rfl, ic, ec, lc, ac⟩
  -- what is told
  refine sK_nx.mpr (V_cut (fun r => ∃ rs : List Int, r = (.nx, [.val (.list (fs.map tri)), .val (.int more), .val (tpI c), .val (tpI rs), .no, .no]) ∧ rs.Pairwise (· < ·) ∧ (c ≠ [] → ∀ n, n ∈ rs ↔ ev c n = 0) ∧ (c = [] → rs = [])) ?_ ?_)
  · walk_at "v"
    refine ⟨lnOk (by decide), fun c0 => ⟨lnOk (by decide), [], rfl, .nil, fun n => absurd c0 n, fun _ => rfl⟩, fun c0 => ?_⟩
    refine (roots_v ic c0 lc ac (by decide)).mono ?_
    rintro _ ⟨rs, rfl, p, q⟩
    exact ⟨rs, rfl, p, fun _ => q, fun e => absurd e c0⟩
  rintro _ ⟨rs, rfl, hs, hr, hr0⟩
  have sm : ∀ n ∈ rs, Sm 3999 n ∧ ev c n = 0 := fun n hn => by
    by_cases c0 : c = []
    · rw [hr0 c0] at hn; exact nomatch hn
    · have z := (hr c0 n).mp hn
      obtain ⟨f1, f2⟩ := far_root ic c0 (by omega) z
      have FS := farF_sm (show c.length ≤ 7 by omega) ac
      exact ⟨Sm.le (a := 1020) (by unfold Sm at *; omega) (by decide), z⟩
  have rl : rs.length ≤ 6 := by
    by_cases c0 : c = []
    · rw [hr0 c0]; decide
    · have := root_count ic c0 (hs.imp fun q => by omega) fun z hz => (hr c0 z).mp hz
      omega
  refine sK_nx.mpr (V_chk ?_ ?_)
  · walk_at "v"
    refine ⟨lnOk (by omega), V_compNo (fun n hn => ?_) ?_⟩
    · walk_at "v"
      refine V.of_eq (at_spec (by omega) ac (by decide) (sm n hn).1) ?_
      walk_at "v"
      simp [(sm n hn).2]
    refine ⟨lnOk (by decide), V.of_eq (neS_lI [] []) ?_⟩
    walk_at "v"
    refine ⟨lnOk (by omega), V_comp (fun n => .tuple [.int n, .int 0]) (fun n hn => ?_) ?_⟩
    · walk_at "v"
      exact lnOk (by decide)
    walk_at "v"
    rw [sortd (rs := rs) hs fun n => Iff.rfl]
    have fl := len_foldI rs []
    rw [List.length_nil] at fl
    refine ⟨by omega, ?_⟩
    simp
  walk_at "v"
  rw [nears]
  refine ⟨rgBk (by decide) (by decide) (by decide) (by decide) (by decide), lnOk (by decide), fun c0 => ?_⟩
  · refine ⟨lnOk (by rw [List.length_map, List.length_map, List.length_range]; decide), ?_⟩
    refine V_compF (fun n => decide (ev c n = 0)) (fun n => .int n) (fun n hn => ?_) ?_
    · walk_at "v"
      obtain ⟨i, hi, rfl⟩ := List.mem_map.mp hn
      have := List.mem_range.mp hi
      refine V.of_eq (at_spec (by omega) ac (by decide) (Sm.le (a := 10) (sm_lt (by omega)) (by decide))) ?_
      walk_at "v"
    refine ⟨lnOk (by omega), V_compF (fun n => decide (-45 ≤ n) && decide (n ≤ 45)) (fun n => .int n) (fun n hn => ?_) ?_⟩
    · walk_at "v"
      refine ⟨fun h1 => ?_, fun h1 => ?_⟩
      · simp [h1]
      · simp [h1]
    have e : (((List.range 91).map fun (i : Nat) => (-45 + (i : Int))).filter fun n => decide (ev c n = 0)) = rs.filter fun n => decide (-45 ≤ n) && decide (n ≤ 45) := by
      refine lt_ext (List.Pairwise.filter _ ?_) (List.Pairwise.filter _ hs) fun x => ?_
      · refine List.Pairwise.map _ (fun a b q => ?_) (List.pairwise_lt_range (n := 91))
        omega
      · rw [List.mem_filter, List.mem_filter, hr c0, decide_eq_true_eq, Bool.and_eq_true, decide_eq_true_eq, decide_eq_true_eq, List.mem_map]
        constructor
        · rintro ⟨⟨i, hi, rfl⟩, z⟩
          have := List.mem_range.mp hi
          exact ⟨z, by omega, by omega⟩
        · rintro ⟨z, h1, h2⟩
          exact ⟨⟨(x + 45).toNat, List.mem_range.mpr (by omega), by omega⟩, z⟩
    rw [e]
    walk_at "v"
    rfl
end W
namespace W
open PySem PySem.Spec PyProof.Rows L2 DL PM
local macro_rules | `(tactic| walk_at "v") => `(tactic| simp only [↓v_sSeq, ↓sK_nx, ↓sK_rt, ↓sK_bk, ↓sK_ct, ↓v_sNil, ↓v_sCont, ↓v_sBrk, ↓v_sSet, ↓v_sOwn, ↓v_sRet, ↓v_sDrop, ↓v_sIf, ↓v_sFrzT, ↓fz_own, ↓fz_ownD, ↓fz_val, ↓v_sAsg, ↓v_sAug, ↓v_sPar, ↓v_sPar3, ↓v_xV, ↓v_xO, ↓ap_own, ↓v_sAppend, ↓v_sExtend, ↓v_sPop, ↓v_sFor, ↓v_cdNil, ↓v_sOwnD, ↓v_xD, ↓dp_ownD, ↓v_sPut, ↓o_putN, ↓v_clSorted, ↓o_sortN, ↓o_dictN, ↓v_clRev, ↓v_clRev0, ↓v_cChain, ↓o_isN0, ↓o_isNI, ↓o_notN0, ↓o_notNI, ↓o_notNT, ↓o_inT, ↓o_ninT, ↓o_inL, ↓o_ninL, ↓v_endRt, ↓v_endNx, ↓v_c, ↓v_var0, ↓v_varS, ↓v_peek0, ↓v_peek1, ↓v_peek2, ↓v_peekS, ↓v_op2, ↓v_op1, ↓br_t, ↓br_f, ↓br_n, ↓br_d, ↓v_cIf, ↓v_asB, ↓v_ctV, ↓v_ctNot, ↓v_ctAnd, ↓v_ctOr, ↓v_ctYes, ↓v_cNot, ↓v_cAnd, ↓v_cOr, ↓v_caNil, ↓v_caCons, ↓v_caStar, ↓v_cTup, ↓v_clDisp, ↓v_cFz, ↓v_cCall, ↓v_callS0, ↓v_callS, ↓v_itemsL, ↓v_itemsT, ↓v_ciSeq, ↓v_asI, ↓v_range1, ↓v_range2, ↓v_clRg1, ↓v_clRg2, ↓v_ciEnum, ↓v_ciZip0, ↓v_ciZip1, ↓v_clOf, ↓v_optN, ↓v_optS, ↓v_cSl, ↓v_mSlL, ↓v_mSlT, ↓v_isT, ↓isT_tt, ↓v_comp, ↓v_gSet, ↓v_gTup, ↓v_gSeqT, ↓v_gSeqL, ↓v_gGo0, ↓v_gGoS, ↓o_addI, ↓o_addL, ↓o_addT, ↓o_addII, ↓o_sub, ↓o_neg, ↓o_mul, ↓o_mulL, ↓o_mulTu, ↓o_neS, ↓o_eqS, ↓o_mulI, ↓o_fdiv, ↓o_fdivI, ↓o_mod, ↓o_pow, ↓o_cmpI, ↓o_eqI, ↓o_neI, ↓o_ltI, ↓o_leI, ↓o_ixL, ↓o_ixT, ↓o_tupL, ↓o_tupT, ↓o_lenL, ↓o_lenT, ↓o_abs, ↓o_intI, ↓o_intB, ↓o_max2, ↓o_min2, ↓o_sum, ↓o_pick, ↓o_eqLI, ↓o_neLI, ↓o_eqTI, ↓o_neTI, ↓o_eqL0, ↓o_neL0, ↓o_eqT0, ↓o_neT0, ↓lp_nx, ↓lp_ct, ↓lp_bk, ↓lp_rt, ↓v_ret, wipeE, List.set_cons_zero, List.set_cons_succ, List.getElem?_cons_zero, List.getElem?_cons_succ, List.map_cons, List.map_nil, List.length_cons, List.length_nil, List.length_map, List.cons_append, List.nil_append, List.replicate_succ, List.replicate_zero, Nat.reduceSub, Nat.reduceAdd, true_and, and_true, Nat.zero_add, eq_self, not_true_eq_false, not_false_eq_true, false_implies, true_implies, implies_true, imp_false, Decidable.not_not])
local macro_rules | `(tactic| walk_at "f") => `(tactic| (simp only [v_fnD, v_fnS, List.map_cons, List.map_nil, List.length_cons, List.length_nil, List.cons_append, List.nil_append, Nat.reduceSub, Nat.reduceAdd, List.replicate_succ, List.replicate_zero, true_and, Nat.zero_add]))
local macro_rules | `(tactic| walk_at "s") => `(tactic| simp only [↓v_sSeq, ↓sK_rt, ↓sK_bk, ↓sK_ct, ↓v_sNil, ↓v_sCont, ↓v_sBrk, ↓v_sSet, ↓v_sOwn, ↓v_sRet, ↓v_sDrop, ↓v_sIf, ↓v_sFrzT, ↓fz_own, ↓fz_ownD, ↓fz_val, ↓v_sAsg, ↓v_sAug, ↓v_sPar, ↓v_sPar3, ↓v_xV, ↓v_xO, ↓ap_own, ↓v_sAppend, ↓v_sExtend, ↓v_sPop, ↓v_sFor, ↓v_cdNil, ↓v_sOwnD, ↓v_xD, ↓dp_ownD, ↓v_sPut, ↓o_putN, ↓v_clSorted, ↓o_sortN, ↓o_dictN, ↓v_clRev, ↓v_clRev0, ↓v_cChain, ↓o_isN0, ↓o_isNI, ↓o_notN0, ↓o_notNI, ↓o_notNT, ↓o_inT, ↓o_ninT, ↓o_inL, ↓o_ninL, ↓v_endRt, ↓v_endNx, ↓v_c, ↓v_var0, ↓v_varS, ↓v_peek0, ↓v_peek1, ↓v_peek2, ↓v_peekS, ↓v_op2, ↓v_op1, ↓br_t, ↓br_f, ↓br_n, ↓br_d, ↓v_cIf, ↓v_asB, ↓v_ctV, ↓v_ctNot, ↓v_ctAnd, ↓v_ctOr, ↓v_ctYes, ↓v_cNot, ↓v_cAnd, ↓v_cOr, ↓v_caNil, ↓v_caCons, ↓v_caStar, ↓v_cTup, ↓v_clDisp, ↓v_cFz, ↓v_cCall, ↓v_callS0, ↓v_callS, ↓v_itemsL, ↓v_itemsT, ↓v_ciSeq, ↓v_asI, ↓v_range1, ↓v_range2, ↓v_clRg1, ↓v_clRg2, ↓v_ciEnum, ↓v_ciZip0, ↓v_ciZip1, ↓v_clOf, ↓v_optN, ↓v_optS, ↓v_cSl, ↓v_mSlL, ↓v_mSlT, ↓v_isT, ↓isT_tt, ↓v_comp, ↓v_gSet, ↓v_gTup, ↓v_gSeqT, ↓v_gSeqL, ↓v_gGo0, ↓v_gGoS, ↓o_addI, ↓o_addL, ↓o_addT, ↓o_addII, ↓o_sub, ↓o_neg, ↓o_mul, ↓o_mulL, ↓o_mulTu, ↓o_neS, ↓o_eqS, ↓o_mulI, ↓o_fdiv, ↓o_fdivI, ↓o_mod, ↓o_pow, ↓o_cmpI, ↓o_eqI, ↓o_neI, ↓o_ltI, ↓o_leI, ↓o_ixL, ↓o_ixT, ↓o_tupL, ↓o_tupT, ↓o_lenL, ↓o_lenT, ↓o_abs, ↓o_intI, ↓o_intB, ↓o_max2, ↓o_min2, ↓o_sum, ↓o_pick, ↓o_eqLI, ↓o_neLI, ↓o_eqTI, ↓o_neTI, ↓o_eqL0, ↓o_neL0, ↓o_eqT0, ↓o_neT0, ↓lp_nx, ↓lp_ct, ↓lp_bk, ↓lp_rt, ↓v_ret, wipeE, List.set_cons_zero, List.set_cons_succ, List.getElem?_cons_zero, List.getElem?_cons_succ, List.map_cons, List.map_nil, List.length_cons, List.length_nil, List.length_map, List.cons_append, List.nil_append, List.replicate_succ, List.replicate_zero, Nat.reduceSub, Nat.reduceAdd, true_and, and_true, Nat.zero_add, eq_self, not_true_eq_false, not_false_eq_true, false_implies, true_implies, implies_true, imp_false, Decidable.not_not])
/-! ### drawn factors -/
structure FR (fs : List Tri) (rs : List Int) : Prop where
  hl : fs.length ≤ 4
  bd : ∀ t ∈ fs, Bd 200 t
  D : Dgr fs ≤ 5
  srt : rs.Pairwise (· < ·)
  z : ∀ n, n ∈ rs ↔ fv fs n = 0
  rl : rs.length ≤ 3
  rb : ∀ n ∈ rs, Sm 11 n
theorem fv_snoc (fs : List Tri) (t : Tri) (n : Int) : fv (fs ++ [t]) n = fv fs n * qv t n := by
  unfold fv; rw [List.foldl_append]; rfl
theorem dgr_snoc (fs : List Tri) (t : Tri) : Dgr (fs ++ [t]) = Dgr fs + dgr t := by
  unfold Dgr; rw [List.map_append, List.sum_append]; simp
def ots : List Tri := [(1, 0, 1), (0, 2, 1), (1, 1, 1), (0, 3, -2), (0, 0, 6), (2, 0, -4)]
theorem sq_nn (n : Int) : 0 ≤ n * n := by
  by_cases h : 0 ≤ n
  · exact Int.mul_nonneg h h
  · have : 0 ≤ (-n) * (-n) := Int.mul_nonneg (by omega) (by omega)
    rwa [Int.neg_mul_neg] at this
theorem ots_ok : ∀ t ∈ ots, Bd 200 t ∧ dgr t ≤ 2 ∧ ∀ n, qv t n ≠ 0 := by
  intro t ht
  simp only [ots, List.mem_cons, List.not_mem_nil, or_false] at ht
  rcases ht with rfl | rfl | rfl | rfl | rfl | rfl
  all_goals refine ⟨⟨Sm.le (a := 10) (sm_lt (by decide)) (by decide), Sm.le (a := 10) (sm_lt (by decide)) (by decide), Sm.le (a := 10) (sm_lt (by decide)) (by decide)⟩, by decide, fun n h => ?_⟩
  · have : 1 * n * n + 0 * n + 1 = 0 := h
    have := sq_nn n
    rw [Int.one_mul, Int.zero_mul] at *
    omega
  · have : 0 * n * n + 2 * n + 1 = 0 := h
    rw [Int.zero_mul, Int.zero_mul] at this
    omega
  · have h' : 1 * n * n + 1 * n + 1 = 0 := h
    rw [Int.one_mul] at h'
    by_cases c : 0 ≤ n
    · have := sq_nn n; omega
    · have : 0 ≤ (-n - 1) * (-n) := Int.mul_nonneg (by omega) (by omega)
      rw [Int.sub_mul, Int.neg_mul_neg, Int.one_mul] at this
      omega
  · have : 0 * n * n + 3 * n + -2 = 0 := h
    rw [Int.zero_mul, Int.zero_mul] at this
    omega
  · have : 0 * n * n + 0 * n + 6 = 0 := h
    rw [Int.zero_mul, Int.zero_mul] at this
    omega
  · have h' : 2 * n * n + 0 * n + -4 = 0 := h
    rw [Int.zero_mul, Int.mul_assoc] at h'
    by_cases c : 2 ≤ n
    · have : 2 * 2 ≤ n * n := Int.mul_le_mul c c (by decide) (by omega)
      omega
    · by_cases c2 : n ≤ -2
      · have : 2 * 2 ≤ (-n) * (-n) := Int.mul_le_mul (by omega) (by omega) (by decide) (by omega)
        rw [Int.neg_mul_neg] at this
        omega
      · have : n = 1 ∨ n = 0 ∨ n = -1 := by omega
        rcases this with rfl | rfl | rfl <;> omega
theorem factors_v {far : Int} (hf : 10 ≤ far ∧ far ≤ 1000) : DL.V (m__law_factors [.int far]) (fun d => ∃ fs rs, d = .tuple [.list (fs.map tri), lsI rs] ∧ FR fs rs) := by
  walk_at "f"
  unfold cs__law_factors
  walk_at "v"
  refine ⟨lnOk (by decide), lnOk (by decide), lawOfI_v (ns := [1, 2, 2, 3]) (by decide) (by decide) fun m hm => ?_⟩
  have hm2 : 0 ≤ m ∧ m ≤ 3 := by
    simp only [List.mem_cons, List.not_mem_nil, or_false] at hm
    rcases hm with rfl | rfl | rfl | rfl <;> decide
  refine ⟨inBk (by omega) (by omega), V_forR (fun i e => ∃ (fs : List Tri) (ks : List Int) (s4 s5 s6 s7 : Sl), e = [.src, .val (.int far), .own (fs.map tri), .ownD (dictN ks (.int 0)), s4, s5, s6, s7] ∧ fs.length = i ∧ Dgr fs ≤ i ∧ (∀ t ∈ fs, Bd 200 t) ∧ ks.Nodup ∧ ks.length ≤ i ∧ (∀ n, n ∈ ks ↔ fv fs n = 0) ∧ ∀ n ∈ ks, Sm 11 n)
    ⟨[], [], _, _, _, _, rfl, rfl, Nat.le_refl _, fun t h => (nomatch h), List.nodup_nil, Nat.le_refl _, fun n => ⟨fun h => (nomatch h), fun h => absurd (show (1 : Int) = 0 from h) (by decide)⟩, fun n h => nomatch h⟩ ?_ ?_⟩
  · rintro i hi e ⟨fs, ks, s4, s5, s6, s7, rfl, hl, hD, hb, nk, lk, hz, kb⟩
    walk_at "v"
    unfold _law_factors_b1
    walk_at "v"
    refine ⟨lnOk (by decide), lawOfI_v (ns := [0, 1, -1, 2, -3, 7, -40, far, 1 - far]) (by simp only [List.length_cons]; omega) (by simp only [List.length_cons, List.length_nil]; omega) fun r hr => ⟨lnOk (by decide), lawOfI_v (ns := [1, 1, -1, 2, -5]) (by decide) (by decide) fun t ht => ?_⟩⟩
    have rb : Sm 11 r := by
      simp only [List.mem_cons, List.not_mem_nil, or_false] at hr
      unfold Sm
      rcases hr with rfl | rfl | rfl | rfl | rfl | rfl | rfl | rfl | rfl <;> omega
    have tb : t ≠ 0 ∧ Sm 4 t := by
      simp only [List.mem_cons, List.not_mem_nil, or_false] at ht
      unfold Sm
      rcases ht with rfl | rfl | rfl | rfl | rfl <;> omega
    walk_at "v"
    refine ⟨mulOk_l (tb.2.le (by decide)), lnOk (by decide), lnOk (by omega), lnOk (by omega), ?_⟩
    have dz : dgr (0, t, 0 - t * r) = 1 := by
      unfold dgr
      rw [if_neg (fun h => h rfl), if_pos tb.1]
    refine ⟨fs ++ [(0, t, 0 - t * r)], addI ks r, _, _, _, _, by rw [List.map_append]; rfl, by rw [List.length_append, hl]; rfl, by rw [dgr_snoc, dz]; omega, fun u hu => ?_, nodup_addI nk, Nat.le_trans (len_addI ks r) (by omega), fun n => ?_, fun n hn => ?_⟩
    · rcases List.mem_append.mp hu with hu | hu
      · exact hb u hu
      · rw [List.mem_singleton.mp hu]
        exact ⟨sm_lt (Nat.two_pow_pos _), tb.2.le (by decide), ((sm_lt (x := 0) (k := 15) (by decide)).sub (tb.2.mul rb)).le (by decide)⟩
    · rw [fv_snoc, Int.mul_eq_zero, ← hz]
      have q : qv (0, t, 0 - t * r) n = 0 ↔ n = r := by
        have e : qv (0, t, 0 - t * r) n = t * (n - r) := by
          show 0 * n * n + t * n + (0 - t * r) = _
          rw [Int.zero_mul, Int.zero_mul, Int.mul_sub]; omega
        rw [e, Int.mul_eq_zero]
        constructor
        · rintro (h | h)
          · exact absurd h tb.1
          · omega
        · rintro rfl; right; omega
      rw [q]
      unfold addI
      split
      · rename_i hk
        constructor
        · exact fun h => .inl h
        · rintro (h | rfl)
          · exact h
          · exact hk
      · rw [List.mem_append, List.mem_singleton]
    · unfold addI at hn
      split at hn
      · exact kb n hn
      · rcases List.mem_append.mp hn with hn | hn
        · exact kb n hn
        · rw [List.mem_singleton.mp hn]; exact rb
  · rintro e ⟨fs, ks, s4, s5, s6, s7, rfl, hl, hD, hb, nk, lk, hz, kb⟩
    walk_at "v"
    refine ⟨lnOk (by decide), lnOk (by decide), lnOk (by decide), lnOk (by decide), lnOk (by decide), lnOk (by decide), lnOk (by decide), lawOf_v (xs := .none :: .none :: ots.map tri) (by decide) (by decide) fun x hx => ?_⟩
    have fin : ∀ fs' : List Tri, fs'.length ≤ 4 → Dgr fs' ≤ 5 → (∀ t ∈ fs', Bd 200 t) → (∀ n, fv fs n = 0 ↔ fv fs' n = 0) → FR fs' (srtI ks) := fun fs' h1 h2 h3 h4 =>
      ⟨h1, h3, h2, srtI_lt nk, fun n => by rw [mem_srtI, hz, h4], by rw [srtI_len]; omega, fun n hn => kb n ((mem_srtI ks n).mp hn)⟩
    have cases8 : x = .none ∨ ∃ t ∈ ots, x = tri t := by
      rcases List.mem_cons.mp hx with h | hx
      · exact .inl h
      · rcases List.mem_cons.mp hx with h | hx
        · exact .inl h
        · obtain ⟨t, h1, h2⟩ := List.mem_map.mp hx
          exact .inr ⟨t, h1, h2.symm⟩
    rcases cases8 with rfl | ⟨t, ht, rfl⟩
    · walk_at "v"
      refine ⟨lnOk (by decide), lnOk (by omega), by omega, lnOk (by decide), fs, srtI ks, by rw [List.append_nil], fin fs (by omega) (by omega) hb fun n => Iff.rfl⟩
    · unfold tri
      walk_at "v"
      obtain ⟨o1, o2, o3⟩ := ots_ok t ht
      refine ⟨lnOk (by decide), lnOk (by omega), by omega, lnOk (by decide), fs ++ [t], srtI ks, by rw [List.map_append]; rfl, fin _ (by rw [List.length_append]; show fs.length + 1 ≤ 4; omega) (by rw [dgr_snoc]; omega) (fun u hu => ?_) fun n => ?_⟩
      · rcases List.mem_append.mp hu with hu | hu
        · exact hb u hu
        · rw [List.mem_singleton.mp hu]; exact o1
      · rw [fv_snoc, Int.mul_eq_zero]
        exact ⟨.inl, fun h => h.resolve_right (o3 n)⟩
/-! ### the law -/
structure PR (p r : List Int) : Prop where
  il : isLeast p
  n0 : p ≠ []
  len : p.length ≤ 6
  al : Al 1000 p
  srt : r.Pairwise (· < ·)
  z : ∀ n, n ∈ r ↔ ev p n = 0
  rl : r.length ≤ 3
  rb : ∀ n ∈ r, Sm 11 n
theorem PR.nd {p r : List Int} (h : PR p r) : r.Nodup := h.srt.imp fun q => by omega
abbrev fr8 (far : Int) (ps ls : List (List Int)) (x5 x6 x7 x8 x9 x10 x11 x12 x13 x14 x15 x16 x17 x18 x19 x20 : Sl) : En :=
  [.no, .src, .val (.int far), .own (ps.map tpI), .own (ls.map lsI), x5, x6, x7, x8, x9, x10, x11, x12, x13, x14, x15, x16, x17, x18, x19, x20]
theorem repr_sm {a : List Int} (h : Al 1000 a) (hl : a.length ≤ 100) : repb (tpI a) = true := rep_t (fun n hn => by
  have := (h n hn).log (by decide)
  omega) (by omega)
theorem b2_v {far : Int} (hf : 10 ≤ far ∧ far ≤ 1000) {ps ls : List (List Int)} (h1 : ps.length ≤ 3) (h2 : ls.length ≤ 3) {x5 x6 x7 x8 x9 x10 x11 x12 x13 x14 x15 x16 x17 x18 x19 x20 : Sl} {Q : Fl × En → Prop}
    (q : ∀ p r, PR p r → ∀ x6 x7 x8 x9 x10 x11 x12 x13 x14 x15 x16 x17 x18 x19 x20 : Sl, Q (.nx, fr8 far (ps ++ [p]) (ls ++ [r]) x5 x6 x7 x8 x9 x10 x11 x12 x13 x14 x15 x16 x17 x18 x19 x20)) :
    DL.V (law_b2 (fr8 far ps ls x5 x6 x7 x8 x9 x10 x11 x12 x13 x14 x15 x16 x17 x18 x19 x20)) Q := by
  unfold law_b2 fr8
  walk_at "v"
  refine (factors_v hf).mono ?_
  rintro _ ⟨fs, rs, rfl, F⟩
  walk_at "v"
  refine (lawpoly_v F.hl F.bd F.D (sm_lt (x := 0) (by decide))).mono ?_
  rintro _ ⟨p, rfl, ip, ep, lp, ap⟩
  have ep' : ev p = fv fs := by rw [ep]; funext n; exact Int.add_zero _
  have zp : ∀ n, n ∈ rs ↔ ev p n = 0 := fun n => by rw [ep']; exact F.z n
  have p0 : p ≠ [] := nonzero_of fun n hn => (zp n).mpr hn
  walk_at "v"
  refine ⟨lnOk (by have := F.hl; omega), V_comp (fun t => .int (if t.1 ≠ 0 then 2 else if t.2.1 ≠ 0 then 1 else 0)) (fun t ht => ?_) ?_⟩
  · unfold tri
    walk_at "v"
    refine ⟨fun h0 => ⟨fun h1 => ?_, fun h1 => ?_⟩, fun h0 => ?_⟩
    · rw [if_neg (by simpa using h0), if_neg (by simpa using h1)]
    · rw [if_neg (by simpa using h0), if_pos h1]
    · rw [if_pos h0]
  rw [mapI (fun t : Tri => (if t.1 ≠ 0 then 2 else if t.2.1 ≠ 0 then 1 else 0 : Int))]
  walk_at "v"
  rw [deg_sum]
  have en : ((Dgr fs : Nat) : Int) + 2 = ((Dgr fs + 2 : Nat) : Int) := by omega
  rw [en, Int.toNat_natCast]
  have D5 := F.D
  refine ⟨inBk (by omega) (by omega), lnOk (by rw [DL.intsFrom_len]; omega), V_compR (fun i => .int (fv fs i)) (fun i hi => ?_) ?_⟩
  · walk_at "v"
    rw [Int.zero_add]
    exact value_v F.hl F.bd (Sm.le (a := 10) (sm_lt (by omega)) (by decide))
  rw [mapI (fun i : Nat => fv fs i)]
  have dg : Dg (Dgr fs + 2) (fv fs) := by
    have := fv_dg fs 0
    rw [show (fun n => fv fs n + 0) = fv fs from funext fun n => Int.add_zero _] at this
    exact this.le (by omega)
  obtain ⟨c', r', i', e', _, _⟩ := of_fun (f := fv fs) (L := Dgr fs + 2) (q := lsI ((List.range (Dgr fs + 2)).map fun i => fv fs (i : Nat))) (by omega) dg (.inl rfl)
  have ec : c' = p := by_values i' ip (by rw [e', ep'])
  subst ec
  have R1 : repb (tpI c') = true := repr_sm ap (by omega)
  refine V.of_eq r' (V.of_eq (mRepr_of R1) (V.of_eq (mRepr_of R1) ?_))
  walk_at "v"
  -- the roots
  have R2 : repb (tpI rs) = true := rep_t (fun n hn => by
    have := (F.rb n hn).log (by decide)
    omega) (by have := F.rl; omega)
  refine V.of (roots_is ip p0 lp ap (by decide) F.srt zp) (V.of_eq (mRepr_of R2) (V.of_eq (mRepr_of R2) ?_))
  walk_at "v"
  have rc := root_count ip p0 (F.srt.imp fun q => by omega) fun z hz => (zp z).mp hz
  refine ⟨fun h => by omega, fun _ => ⟨lnOk (by decide), lnOk (by have := F.rl; omega), ?_⟩⟩
  refine V_forM (fun e => ∃ x10 : Sl, e = [.no, .src, .val (.int far), .own (ps.map tpI), .own (ls.map lsI), x5, .val (.list (fs.map tri)), .val (lsI rs), .val (tpI c'), .val (.int (Dgr fs + 2 : Nat)), x10, x11, x12, x13, x14, x15, x16, x17, x18, x19, x20]) ⟨_, rfl⟩ ?_ ?_
  · rintro d hd e ⟨x10, rfl⟩
    obtain ⟨n, rfl, hn⟩ : ∃ n : Int, d = .int n ∧ Sm 20 n := by
      rcases List.mem_append.mp hd with h | h
      · obtain ⟨n, hn, rfl⟩ := List.mem_map.mp h
        exact ⟨n, rfl, (F.rb n hn).le (by decide)⟩
      · simp only [List.mem_cons, List.not_mem_nil, or_false] at h
        rcases h with rfl | rfl | rfl <;> exact ⟨_, rfl, Sm.le (a := 11) (sm_lt (by omega)) (by decide)⟩
    walk_at "v"
    unfold law_b1
    walk_at "v"
    refine V.of_eq (at_spec (by omega) ap (by decide) (hn.le (by decide))) (V.of (value_v F.hl F.bd hn) ?_)
    walk_at "v"
    exact ⟨fun _ => ⟨_, rfl⟩, fun h => absurd (congrFun ep' n) h⟩
  rintro e ⟨x10, rfl⟩
  refine V_chk ?_ ?_
  · walk_at "v"
    refine ⟨lnOk (by decide), lawOfI_v (ns := [1, -1, 6, 24]) (by decide) (by decide) fun m hm => ?_⟩
    have hm2 : Sm 10 m := by
      simp only [List.mem_cons, List.not_mem_nil, or_false] at hm
      unfold Sm
      rcases hm with rfl | rfl | rfl | rfl <;> decide
    refine V.of (moved_v F.hl F.bd F.D hm2) ?_
    walk_at "v"
  walk_at "v"
  refine ⟨lnOk (by omega), lnOk (by omega), ?_⟩
  have := q c' rs ⟨ip, p0, lp, ap, F.srt, zp, F.rl, F.rb⟩ (.val (.list (fs.map tri))) (.val (lsI rs)) (.val (tpI c')) (.val (.int (Dgr fs + 2 : Nat))) x10 x11 x12 x13 x14 x15 x16 x17 x18 x19 x20
  unfold fr8 at this
  rw [List.map_append, List.map_append] at this
  exact this
theorem dgr1 {b c : Int} (h : b ≠ 0) : dgr (0, b, c) = 1 := by
  unfold dgr
  rw [if_neg (fun h : (0 : Int) ≠ 0 => h rfl), if_pos h]
theorem dgr2 {a b c : Int} (h : a ≠ 0) : dgr (a, b, c) = 2 := by
  unfold dgr
  rw [if_pos h]
theorem fmod_pos {a m : Int} (h : 0 < m) : a.fmod m = a % m := Int.fmod_eq_emod_of_nonneg a (by omega)
theorem law_true : (DL.lawM 21 1 W.cs_law).wp (fun d => d = .bool true) := by
  refine DL.V.out ?_
  unfold lawM
  rw [v_bind]
  show DL.V (cs_law [.no, .src, .no, .no, .no, .no, .no, .no, .no, .no, .no, .no, .no, .no, .no, .no, .no, .no, .no, .no, .no]) _
  unfold cs_law law_s1 law_s2
  walk_at "v"
  refine ⟨lnOk (by decide), lawOfI_v (ns := [10, 100, 1000]) (by decide) (by decide) fun far hf => ⟨lnOk (by decide), lnOk (by decide), ?_⟩⟩
  have hf2 : 10 ≤ far ∧ far ≤ 1000 := by
    simp only [List.mem_cons, List.not_mem_nil, or_false] at hf
    rcases hf with rfl | rfl | rfl <;> decide
  unfold law_s3
  walk_at "v"
  refine ⟨inBk (by decide) (by decide), V_forR (fun i e => ∃ (ps ls : List (List Int)) (x5 x6 x7 x8 x9 x10 x11 x12 x13 x14 x15 x16 x17 x18 x19 x20 : Sl), e = fr8 far ps ls x5 x6 x7 x8 x9 x10 x11 x12 x13 x14 x15 x16 x17 x18 x19 x20 ∧ ps.length = i ∧ Paired PR ps ls) ⟨[], [], _, _, _, _, _, _, _, _, _, _, _, _, _, _, _, _, rfl, rfl, .nil⟩ ?_ ?_⟩
  · rintro i hi e ⟨ps, ls, x5, x6, x7, x8, x9, x10, x11, x12, x13, x14, x15, x16, x17, x18, x19, x20, rfl, hl, hp⟩
    have e2 : ls.length = i := by rw [← hl]; exact (Paired.length hp).symm
    have i2 : i < 2 := hi
    unfold fr8
    walk_at "v"
    refine b2_v hf2 (by omega) (by omega) fun p r h x6 x7 x8 x9 x10 x11 x12 x13 x14 x15 x16 x17 x18 x19 x20 => ⟨_, _, _, _, _, _, _, _, _, _, _, _, _, _, _, _, _, _, rfl, by rw [List.length_append, hl]; rfl, DL.snoc_paired h hp⟩
  rintro e ⟨ps, ls, x5, x6, x7, x8, x9, x10, x11, x12, x13, x14, x15, x16, x17, x18, x19, x20, rfl, hl, hp⟩
  obtain ⟨p0, p1, r0, r1, rfl, rfl, P0, P1⟩ : ∃ p0 p1 r0 r1, ps = [p0, p1] ∧ ls = [r0, r1] ∧ PR p0 r0 ∧ PR p1 r1 := by
    have hl2 : ps.length = 2 := hl
    cases hp with
    | nil => cases hl2
    | cons h t =>
      cases t with
      | nil => cases hl2
      | cons h' t' =>
        cases t' with
        | nil => exact ⟨_, _, _, _, rfl, rfl, h, h'⟩
        | cons _ _ => cases hl2
  unfold fr8
  simp only [List.map_cons, List.map_nil]
  have h60 := P0.len
  have h61 := P1.len
  -- of a product the roots of both
  refine sK_nx.mpr (V_cut (fun r => ∃ x11 : Sl, r = (.nx, [.no, .src, .val (.int far), .own [tpI p0, tpI p1], .own [lsI r0, lsI r1], x5, x6, x7, x8, x9, x10, x11, x12, x13, x14, x15, x16, x17, x18, x19, x20])) ?_ ?_)
  · unfold law_s4
    walk_at "v"
    refine ⟨tpI p0, rfl, ?_⟩
    walk_at "v"
    refine ⟨tpI p1, rfl, ?_⟩
    walk_at "v"
    refine ⟨fun h7 => ⟨tpI p0, rfl, tpI p1, rfl, ?_⟩, fun _ => ⟨x11, rfl⟩⟩
    obtain ⟨c, rc, ic, ec, lc, ac⟩ := product_spec (by omega) (by omega) P0.al P1.al (by decide) (by decide)
    refine V.of rc ?_
    have zc : ∀ n, ev c n = 0 ↔ n ∈ r0 ∨ n ∈ r1 := fun n => by
      rw [ec]
      show ev p0 n * ev p1 n = 0 ↔ _
      rw [Int.mul_eq_zero, P0.z, P1.z]
    have c0 : c ≠ [] := nonzero_of (rs := r0 ++ r1) fun n hn => List.mem_append.mpr ((zc n).mp hn)
    refine (roots_v ic c0 (by omega) ac (by omega)).mono ?_
    rintro _ ⟨rs, rfl, hs, hz⟩
    walk_at "v"
    refine ⟨lsI r0, rfl, lsI r1, rfl, ?_⟩
    walk_at "v"
    have l0 := P0.rl
    have l1 := P1.rl
    rw [← List.map_append]
    refine ⟨lnOk (by omega), lnOk (by rw [List.length_map, List.length_append]; omega), V_comp (fun n => .tuple [.int n, .int 0]) (fun n hn => ?_) ?_⟩
    · walk_at "v"
      exact lnOk (by decide)
    walk_at "v"
    rw [sortd (ns := r0 ++ r1) (rs := rs) hs fun n => by rw [hz, zc, List.mem_append]]
    have fl := len_foldI (r0 ++ r1) []
    rw [List.length_append, List.length_nil] at fl
    refine ⟨by omega, fun _ => ⟨.val (tpI rs), rfl⟩, fun h => absurd rfl h⟩
  rintro _ ⟨x11, rfl⟩
  -- of sums the common ones
  refine sK_nx.mpr (V_cut (fun r => ∃ c : List Int, r = (.nx, [.no, .src, .val (.int far), .own [tpI p0, tpI p1], .own [lsI r0, lsI r1], x5, x6, x7, x8, x9, x10, x11, .val (tpI c), x13, x14, x15, x16, x17, x18, x19, x20]) ∧ isLeast c ∧ c.length ≤ 6 ∧ Al 1010 c ∧ ∀ n, n ∈ r0 → n ∈ r1 → ev c n = 0) ?_ ?_)
  · unfold law_s5
    walk_at "v"
    refine ⟨pkOk (by decide), fun i i0 i1 => ⟨fun _ => ⟨tpI p0, rfl, tpI p1, rfl, V.of_eq (sum_spec (by omega) (by omega)) ?_⟩, fun _ => ⟨tpI p0, rfl, tpI p1, rfl, V.of_eq (less_spec (by omega) (by omega) P1.al (by decide)) ?_⟩⟩⟩
    · refine ⟨_, rfl, least_isLeast _, least_len (by rw [addP_len]; omega), (least_al (addP_al P0.al P1.al)).le (by decide), fun n a b => ?_⟩
      rw [ev_least, ev_addP]
      show ev p0 n + ev p1 n = 0
      rw [(P0.z n).mp a, (P1.z n).mp b]; rfl
    · refine ⟨_, rfl, least_isLeast _, least_len (by
        rw [addP_len]
        have := least_le (p1.map fun x => -1 * x)
        rw [List.length_map] at this
        omega), (least_al (addP_al (k := 1001) (P0.al.le (by decide)) (least_al fun z hz => by
        obtain ⟨w, hw, rfl⟩ := List.mem_map.mp hz
        exact ((sm_lt (x := -1) (k := 1) (by decide)).mul (P1.al w hw)).le (by decide)))).le (by decide), fun n a b => ?_⟩
      rw [ev_less]
      show ev p0 n - ev p1 n = 0
      rw [(P0.z n).mp a, (P1.z n).mp b]; rfl
  rintro _ ⟨c, rfl, ic, lc, ac, common⟩
  refine sK_nx.mpr (V_cut (fun r => ∃ t : PyData, r = (.nx, [.no, .src, .val (.int far), .own [tpI p0, tpI p1], .own [lsI r0, lsI r1], x5, x6, x7, x8, x9, x10, x11, .val (tpI c), .val t, x14, x15, x16, x17, x18, x19, x20]) ∧ ∀ (n : Int) (P : PyData → Prop), n ∈ r0 → n ∈ r1 → P (.bool false) → DL.V (mNotIn (.int n) t) P) ?_ ?_)
  · unfold law_s6
    walk_at "v"
    refine ⟨lnOk (by decide), fun _ => ⟨lsI r0, rfl, lsI r0, rfl, fun n P a b h => ?_⟩, fun c0 => (roots_v ic c0 lc ac (by decide)).mono ?_⟩
    · walk_at "v"
      rwa [decide_eq_true a]
    · rintro _ ⟨rs, rfl, hs, hz⟩
      refine ⟨tpI rs, rfl, fun n P a b h => ?_⟩
      walk_at "v"
      rwa [decide_eq_true ((hz n).mpr (common n a b))]
  rintro _ ⟨t, rfl, ht⟩
  refine sK_nx.mpr ?_
  unfold law_s7
  refine V_chk ?_ ?_
  · walk_at "v"
    refine ⟨lsI r0, rfl, ?_⟩
    walk_at "v"
    have l0 := P0.rl
    refine ⟨lnOk (by omega), V_compNo (fun n hn => ?_) ?_⟩
    · walk_at "v"
      refine ⟨lsI r1, rfl, ?_⟩
      walk_at "v"
      exact fun hb => ht n _ hn hb (v_asB.mpr rfl)
    refine ⟨lnOk (by decide), V.of_eq (neS_lI [] []) ?_⟩
    walk_at "v"
  -- far off
  unfold law_s8 law_s9
  walk_at "v"
  refine ⟨⟨by decide, by decide +kernel⟩, ⟨by decide, by decide +kernel⟩, lnOk (by decide), lawOfI_v (ns := [10 ^ Int.toNat 12, 10 ^ Int.toNat 25]) (by decide) (by decide) fun w hw => ?_⟩
  have hw2 : 10 ≤ w ∧ Sm 90 w := by
    simp only [List.mem_cons, List.not_mem_nil, or_false] at hw
    unfold Sm
    rcases hw with rfl | rfl <;> decide +kernel
  obtain ⟨w10, ws⟩ := hw2
  have w3 : Sm 92 (3 * w) := (sm_lt (x := 3) (k := 2) (by decide)).mul ws
  walk_at "v"
  refine ⟨lnOk (by decide), mulOk_l (sm_lt (by decide)), lnOk (by decide), lnOk (by decide), ?_⟩
  -- two lines
  unfold law_s10
  refine V_chkI ?_ ?_
  · walk_at "v"
    have bd : ∀ t ∈ [(0, 1, 0 - w), (0, -3, 3 - 3 * w)], Bd 200 t := fun t ht => by
      simp only [List.mem_cons, List.not_mem_nil, or_false] at ht
      rcases ht with rfl | rfl
      · exact ⟨show Sm 200 (0 : Int) from Sm.le (a := 10) (sm_lt (by decide)) (by decide), show Sm 200 (1 : Int) from Sm.le (a := 10) (sm_lt (by decide)) (by decide), ((sm_lt (x := 0) (k := 90) (by decide)).sub ws).le (by decide)⟩
      · exact ⟨show Sm 200 (0 : Int) from Sm.le (a := 10) (sm_lt (by decide)) (by decide), show Sm 200 (-3 : Int) from Sm.le (a := 10) (sm_lt (by decide)) (by decide), ((sm_lt (x := 3) (k := 92) (by decide)).sub w3).le (by decide)⟩
    refine (lawpoly_v (fs := [(0, 1, 0 - w), (0, -3, 3 - 3 * w)]) (by simp) bd (by
      show dgr (0, 1, 0 - w) + (dgr (0, -3, 3 - 3 * w) + 0) ≤ 5
      rw [dgr1 (by decide), dgr1 (by decide)]
      decide) (sm_lt (x := 0) (by decide))).mono ?_
    rintro _ ⟨p, rfl, ip, ep, lp, ap⟩
    have z : ∀ n, n ∈ [1 - w, w] ↔ ev p n = 0 := fun n => by
      rw [ep]
      show _ ↔ 1 * qv (0, 1, 0 - w) n * qv (0, -3, 3 - 3 * w) n + 0 = 0
      have q1 : qv (0, 1, 0 - w) n = n - w := by
        show 0 * n * n + 1 * n + (0 - w) = _
        rw [Int.zero_mul, Int.zero_mul]; omega
      have q2 : qv (0, -3, 3 - 3 * w) n = -3 * (n - (1 - w)) := by
        show 0 * n * n + -3 * n + (3 - 3 * w) = _
        rw [Int.zero_mul, Int.zero_mul]; omega
      rw [Int.add_zero, Int.mul_eq_zero, Int.one_mul, q1, q2]
      simp only [List.mem_cons, List.not_mem_nil, or_false]
      omega
    have p0 : p ≠ [] := nonzero_of fun n hn => (z n).mpr hn
    have R : repb (tpI [1 - w, w]) = true := rep_t (fun n hn => by
      have : Sm 92 n := by
        simp only [List.mem_cons, List.not_mem_nil, or_false] at hn
        rcases hn with rfl | rfl
        · exact ((sm_lt (x := 1) (k := 90) (by decide)).sub ws).le (by decide)
        · exact ws.le (by decide)
      have := this.log (by decide)
      omega) (by simp)
    refine V.of (roots_is ip p0 lp ap (by decide) (by simp; omega) z) (V.of_eq (mRepr_of R) ⟨lnOk (by decide), V.of_eq (mRepr_of R) ?_⟩)
    walk_at "v"
    rfl
  refine sK_nx.mpr ?_
  rw [v_sSeq]
  unfold law_s11
  have ww : Sm 180 (w * w) := ws.mul ws
  refine V_chkI ?_ ?_
  · walk_at "v"
    refine ⟨mulOk_s ws ws (by decide) (by decide), lnOk (by decide), lnOk (by decide), ?_⟩
    have bd : ∀ t ∈ [(1, 0, 1 - w * w)], Bd 200 t := fun t ht => by
      simp only [List.mem_cons, List.not_mem_nil, or_false] at ht
      rcases ht with rfl
      exact ⟨show Sm 200 (1 : Int) from Sm.le (a := 10) (sm_lt (by decide)) (by decide), show Sm 200 (0 : Int) from Sm.le (a := 10) (sm_lt (by decide)) (by decide), ((sm_lt (x := 1) (k := 180) (by decide)).sub ww).le (by decide)⟩
    refine (lawpoly_v (fs := [(1, 0, 1 - w * w)]) (by simp) bd (by
      show dgr (1, 0, 1 - w * w) + 0 ≤ 5
      rw [dgr2 (by decide)]
      decide) (sm_lt (x := 0) (by decide))).mono ?_
    rintro _ ⟨p, rfl, ip, ep, lp, ap⟩
    have z : ∀ n, n ∈ ([] : List Int) ↔ ev p n = 0 := fun n => by
      rw [ep]
      refine ⟨fun h => (nomatch h), fun h => ?_⟩
      exfalso
      have h' : 1 * (1 * n * n + 0 * n + (1 - w * w)) + 0 = 0 := h
      rw [Int.one_mul, Int.one_mul, Int.zero_mul] at h'
      have e : n * n = w * w - 1 := by omega
      have big : ∀ m : Int, 0 ≤ m → m * m = w * w - 1 → False := fun m m0 em => by
        by_cases c : w ≤ m
        · have := Int.mul_le_mul c c (by omega) m0
          omega
        · have c' : m ≤ w - 1 := by omega
          have := Int.mul_le_mul c' c' m0 (by omega)
          rw [Int.sub_mul, Int.mul_sub] at this
          omega
      by_cases n0 : 0 ≤ n
      · exact big n n0 e
      · exact big (-n) (by omega) (by rw [Int.neg_mul_neg]; exact e)
    have p0 : p ≠ [] := nonzero_of fun n hn => (z n).mpr hn
    refine V.of (roots_is ip p0 lp ap (by decide) .nil z) ⟨lnOk (by decide), V.of_eq (neS_tI [] []) ?_⟩
    walk_at "v"
  refine sK_nx.mpr ?_
  rw [v_sSeq]
  -- a line
  unfold law_s12
  walk_at "s"
  refine ⟨lnOk (by decide), lawOfI_v (ns := [w, -7, 6]) (by simp) (by simp) fun l0 hl0 => ⟨lnOk (by decide), lawOfI_v (ns := [1, -2, 3, 6]) (by decide) (by decide) fun l1 hl1 => ⟨lnOk (by decide), ?_⟩⟩⟩
  have s0 : Sm 90 l0 ∧ l0 ≠ 0 := by
    simp only [List.mem_cons, List.not_mem_nil, or_false] at hl0
    rcases hl0 with rfl | rfl | rfl
    · exact ⟨ws, by omega⟩
    · exact ⟨Sm.le (a := 10) (sm_lt (by decide)) (by decide), by decide⟩
    · exact ⟨Sm.le (a := 10) (sm_lt (by decide)) (by decide), by decide⟩
  have s1 : l1 ≠ 0 ∧ Sm 4 l1 := by
    simp only [List.mem_cons, List.not_mem_nil, or_false] at hl1
    unfold Sm
    rcases hl1 with rfl | rfl | rfl | rfl <;> decide
  have e1 : ∀ n, ev [l0, l1] n = l0 + l1 * n := fun n => by
    show l0 * ch n 0 + (l1 * ch n 1 + 0) = _
    have c1 : ch n 1 = n := by
      have := ch_succ n 0
      rw [ch_zero] at this
      simpa using this
    rw [ch_zero, c1]; omega
  refine sK_nx.mpr (V_cut (fun r => ∃ du : List Int, r = (.nx, [.no, .src, .val (.int far), .own [tpI p0, tpI p1], .own [lsI r0, lsI r1], x5, x6, x7, x8, x9, x10, x11, .val (tpI c), .val t, .val (.int w), .val (.list [.tuple [.int 0, .int 1, .int (0 - w)], .tuple [.int 0, .int (-3), .int (3 - 3 * w)]]), .val (tpI [l0, l1]), .val (tpI du), x18, x19, x20]) ∧ du.Pairwise (· < ·) ∧ (∀ n, n ∈ du ↔ ev [l0, l1] n = 0) ∧ du.length ≤ 1 ∧ ∀ n ∈ du, Sm 100 n) ?_ ?_)
  · unfold law_s13
    walk_at "v"
    refine ⟨.int l0, rfl, ?_⟩
    walk_at "v"
    refine ⟨.int l1, rfl, ?_⟩
    walk_at "v"
    have ab : (if l1 < 0 then -l1 else l1) = (l1.natAbs : Int) := by split <;> omega
    rw [ab, fmod_pos (by omega)]
    refine ⟨by omega, fun hd => ⟨.int l0, rfl, ?_⟩, fun hd => ⟨lnOk (by decide), [], rfl, .nil, fun n => ⟨fun h => (nomatch h), fun h => ?_⟩, by decide, fun n h => nomatch h⟩⟩
    · refine ⟨.int l1, rfl, ?_⟩
      walk_at "v"
      have dv : l1 ∣ l0 := Int.natAbs_dvd.mp (Int.dvd_of_emod_eq_zero hd)
      obtain ⟨k, rfl⟩ := dv
      have fk : (l1 * k).fdiv l1 = k := Int.mul_fdiv_cancel_left k s1.1
      rw [fk]
      refine ⟨⟨s1.1, Nat.lt_of_lt_of_le (log2_of (k := 4) (by decide) s1.2) (by decide)⟩, lnOk (by decide), [0 - k], rfl, by simp, fun n => ?_, by simp, fun n hn => ?_⟩
      · rw [e1, List.mem_singleton]
        constructor
        · rintro rfl; rw [Int.mul_sub]; omega
        · intro h
          have : l1 * (k + n) = 0 := by rw [Int.mul_add]; exact h
          rcases Int.mul_eq_zero.mp this with h | h
          · exact absurd h s1.1
          · omega
      · rw [List.mem_singleton.mp hn]
        have q : Sm 90 k := by
          have := s0.1
          unfold Sm at this ⊢
          rw [Int.natAbs_mul] at this
          have : 1 * k.natAbs ≤ l1.natAbs * k.natAbs := Nat.mul_le_mul_right _ (by omega)
          omega
        exact ((sm_lt (x := 0) (k := 90) (by decide)).sub q).le (by decide)
    · rw [e1] at h
      exfalso
      refine hd (Int.emod_eq_zero_of_dvd (Int.natAbs_dvd.mpr ⟨-n, ?_⟩))
      rw [Int.mul_neg]; omega
  rintro _ ⟨du, rfl, ds, dz, dl1, dsm⟩
  refine sK_nx.mpr ?_
  unfold law_s14
  walk_at "v"
  have al2 : Al 1000 [l0, l1] := fun x hx => by
    simp only [List.mem_cons, List.not_mem_nil, or_false] at hx
    rcases hx with rfl | rfl
    · exact s0.1.le (by decide)
    · exact s1.2.le (by decide)
  refine V.of (roots_is (by unfold isLeast; simpa using s1.1) (by simp) (by simp) al2 (by decide) ds dz) ⟨.int l0, rfl, ?_⟩
  have z0 : ∀ n, n ∈ ([] : List Int) ↔ ev [l0] n = 0 := fun n => by
    refine ⟨fun h => (nomatch h), fun h => ?_⟩
    have h' : l0 * ch n 0 + 0 = 0 := h
    rw [ch_zero] at h'
    exact absurd (by omega) s0.2
  refine ⟨lnOk (by decide), V.of (roots_is (a := [l0]) (by unfold isLeast; simpa using s0.2) (by simp) (by simp) (fun x hx => by rw [List.mem_singleton.mp hx]; exact s0.1.le (by decide)) (by decide : 1000 ≤ 3000) .nil z0) ⟨lnOk (by decide), ?_⟩⟩
  have R : repb (.list ([du, []].map tpI)) = true := rep_ts (fun a ha => by
    simp only [List.mem_cons, List.not_mem_nil, or_false] at ha
    rcases ha with rfl | rfl
    · refine ⟨fun n hn => ?_, by omega⟩
      have := (dsm n hn).log (by decide)
      omega
    · exact ⟨fun n hn => (nomatch hn), Nat.zero_le _⟩) (by simp)
  refine V.of_eq (mRepr_of R) ⟨lnOk (by decide), lnOk (by decide), V.of_eq (mRepr_of R) ?_⟩
  walk_at "v"
  exact congrArg PyData.bool (decide_eq_true rfl)
end W
namespace W
open PySem PySem.Spec PyProof.Rows L2 DL
def topS (i : Nat) : Stmt := PySem.Challenge.pw_deeplots_k08_whole_roots_of_several.main.body.getD i (.Pass ⟨0, 0, 0, 0⟩)
abbrev s_choose : Stmt := topS 1
theorem sc_choose : FnScope ["number", "few", "found", "lap"] ["number", "few"] (defScope s_choose) := ⟨rfl, rfl, rfl, by decide +kernel, rfl, by decide +kernel, by decide +kernel⟩
abbrev s_poly_least : Stmt := topS 2
theorem sc_poly_least : FnScope ["numbers", "found"] ["numbers"] (defScope s_poly_least) := ⟨rfl, rfl, rfl, by decide +kernel, rfl, by decide +kernel, by decide +kernel⟩
abbrev s_poly_of : Stmt := topS 3
theorem sc_poly_of : FnScope ["values", "found", "line", "one", "later"] ["values"] (defScope s_poly_of) := ⟨rfl, rfl, rfl, by decide +kernel, rfl, by decide +kernel, by decide +kernel⟩
abbrev s_poly_at : Stmt := topS 4
theorem sc_poly_at : FnScope ["poly", "n", "few", "number"] ["poly", "n"] (defScope s_poly_at) := ⟨rfl, rfl, rfl, by decide +kernel, rfl, by decide +kernel, by decide +kernel⟩
abbrev s_poly_sum : Stmt := topS 5
theorem sc_poly_sum : FnScope ["one", "other", "many", "first", "second", "poly", "here", "there"] ["one", "other"] (defScope s_poly_sum) := ⟨rfl, rfl, rfl, by decide +kernel, rfl, by decide +kernel, by decide +kernel⟩
abbrev s_poly_times : Stmt := topS 6
theorem sc_poly_times : FnScope ["poly", "number", "one"] ["poly", "number"] (defScope s_poly_times) := ⟨rfl, rfl, rfl, by decide +kernel, rfl, by decide +kernel, by decide +kernel⟩
abbrev s_poly_less : Stmt := topS 7
theorem sc_poly_less : FnScope ["one", "other"] ["one", "other"] (defScope s_poly_less) := ⟨rfl, rfl, rfl, by decide +kernel, rfl, by decide +kernel, by decide +kernel⟩
abbrev s_poly_product : Stmt := topS 8
theorem sc_poly_product : FnScope ["one", "other", "n"] ["one", "other"] (defScope s_poly_product) := ⟨rfl, rfl, rfl, by decide +kernel, rfl, by decide +kernel, by decide +kernel⟩
abbrev s_far_of : Stmt := topS 9
theorem sc_far_of : FnScope ["poly", "number"] ["poly"] (defScope s_far_of) := ⟨rfl, rfl, rfl, by decide +kernel, rfl, by decide +kernel, by decide +kernel⟩
abbrev s_differences : Stmt := topS 10
theorem sc_differences : FnScope ["poly", "lap"] ["poly"] (defScope s_differences) := ⟨rfl, rfl, rfl, by decide +kernel, rfl, by decide +kernel, by decide +kernel⟩
abbrev s_first_turned : Stmt := topS 11
theorem sc_first_turned : FnScope ["poly", "low", "high", "sign", "middle"] ["poly", "low", "high"] (defScope s_first_turned) := ⟨rfl, rfl, rfl, by decide +kernel, rfl, by decide +kernel, by decide +kernel⟩
abbrev s_poly_turns : Stmt := topS 12
theorem sc_poly_turns : FnScope ["poly", "far", "cuts", "late", "some", "low", "high", "cut", "one"] ["poly"] (defScope s_poly_turns) := ⟨rfl, rfl, rfl, by decide +kernel, rfl, by decide +kernel, by decide +kernel⟩
abbrev s_poly_roots : Stmt := topS 13
theorem sc_poly_roots : FnScope ["poly", "found", "cuts", "low", "high", "n"] ["poly"] (defScope s_poly_roots) := ⟨rfl, rfl, rfl, by decide +kernel, rfl, by decide +kernel, by decide +kernel⟩
abbrev s__law_source : Stmt := topS 15
theorem sc__law_source : FnScope ["script", "mixed", "cell"] ["script"] (defScope s__law_source) := ⟨rfl, rfl, rfl, by decide +kernel, rfl, by decide +kernel, by decide +kernel⟩
abbrev s__law_pick : Stmt := topS 16
theorem sc__law_pick : FnScope ["source", "many", "left", "mixed"] ["source", "many"] (defScope s__law_pick) := ⟨rfl, rfl, rfl, by decide +kernel, rfl, by decide +kernel, by decide +kernel⟩
abbrev s__law_of : Stmt := topS 17
theorem sc__law_of : FnScope ["source", "some"] ["source", "some"] (defScope s__law_of) := ⟨rfl, rfl, rfl, by decide +kernel, rfl, by decide +kernel, by decide +kernel⟩
abbrev s__law_binomials : Stmt := topS 18
theorem sc__law_binomials : FnScope ["values", "found", "line", "lap", "many", "one", "late", "k", "number"] ["values"] (defScope s__law_binomials) := ⟨rfl, rfl, rfl, by decide +kernel, rfl, by decide +kernel, by decide +kernel⟩
abbrev s__law_value : Stmt := topS 19
theorem sc__law_value : FnScope ["factors", "n", "found", "a", "b", "c"] ["factors", "n"] (defScope s__law_value) := ⟨rfl, rfl, rfl, by decide +kernel, rfl, by decide +kernel, by decide +kernel⟩
abbrev s__law_poly : Stmt := topS 20
theorem sc__law_poly : FnScope ["factors", "more", "degree", "a", "b", "c", "n"] ["factors", "more"] (defScope s__law_poly) := ⟨rfl, rfl, rfl, by decide +kernel, rfl, by decide +kernel, by decide +kernel⟩
abbrev s__law_factors : Stmt := topS 21
theorem sc__law_factors : FnScope ["source", "far", "some", "roots", "lap", "root", "times", "odd"] ["source", "far"] (defScope s__law_factors) := ⟨rfl, rfl, rfl, by decide +kernel, rfl, by decide +kernel, by decide +kernel⟩
abbrev s__law_moved_right : Stmt := topS 22
theorem sc__law_moved_right : FnScope ["factors", "more", "late", "told", "near", "n"] ["factors", "more"] (defScope s__law_moved_right) := ⟨rfl, rfl, rfl, by decide +kernel, rfl, by decide +kernel, by decide +kernel⟩
abbrev s_law : Stmt := topS 23
theorem sc_law : FnScope ["script", "source", "far", "polys", "lots", "lap", "factors", "roots", "poly", "many", "n", "both", "late", "told", "wide", "some", "line", "due", "a", "b", "c"] ["script"] (defScope s_law) := ⟨rfl, rfl, rfl, by decide +kernel, rfl, by decide +kernel, by decide +kernel⟩
/-! ### what the top has left -/
structure Facts (K : PySem.W.Frag) (mg : Str → Option Value) where
  f_choose : Addr
  fd_choose : FuncData
  F_choose : Fun K "choose" "choose" s_choose f_choose fd_choose
  b_choose : Binds K fd_choose ["number", "few"] []
  g_choose : mg "choose" = some (.ref f_choose)
  f_poly_least : Addr
  fd_poly_least : FuncData
  F_poly_least : Fun K "poly_least" "poly_least" s_poly_least f_poly_least fd_poly_least
  b_poly_least : Binds K fd_poly_least ["numbers"] []
  g_poly_least : mg "poly_least" = some (.ref f_poly_least)
  f_poly_of : Addr
  fd_poly_of : FuncData
  F_poly_of : Fun K "poly_of" "poly_of" s_poly_of f_poly_of fd_poly_of
  b_poly_of : Binds K fd_poly_of ["values"] []
  g_poly_of : mg "poly_of" = some (.ref f_poly_of)
  f_poly_at : Addr
  fd_poly_at : FuncData
  F_poly_at : Fun K "poly_at" "poly_at" s_poly_at f_poly_at fd_poly_at
  b_poly_at : Binds K fd_poly_at ["poly", "n"] []
  g_poly_at : mg "poly_at" = some (.ref f_poly_at)
  f_poly_sum : Addr
  fd_poly_sum : FuncData
  F_poly_sum : Fun K "poly_sum" "poly_sum" s_poly_sum f_poly_sum fd_poly_sum
  b_poly_sum : Binds K fd_poly_sum ["one", "other"] []
  g_poly_sum : mg "poly_sum" = some (.ref f_poly_sum)
  f_poly_times : Addr
  fd_poly_times : FuncData
  F_poly_times : Fun K "poly_times" "poly_times" s_poly_times f_poly_times fd_poly_times
  b_poly_times : Binds K fd_poly_times ["poly", "number"] []
  g_poly_times : mg "poly_times" = some (.ref f_poly_times)
  f_poly_less : Addr
  fd_poly_less : FuncData
  F_poly_less : Fun K "poly_less" "poly_less" s_poly_less f_poly_less fd_poly_less
  b_poly_less : Binds K fd_poly_less ["one", "other"] []
  g_poly_less : mg "poly_less" = some (.ref f_poly_less)
  f_poly_product : Addr
  fd_poly_product : FuncData
  F_poly_product : Fun K "poly_product" "poly_product" s_poly_product f_poly_product fd_poly_product
  b_poly_product : Binds K fd_poly_product ["one", "other"] []
  g_poly_product : mg "poly_product" = some (.ref f_poly_product)
  f_far_of : Addr
  fd_far_of : FuncData
  F_far_of : Fun K "far_of" "far_of" s_far_of f_far_of fd_far_of
  b_far_of : Binds K fd_far_of ["poly"] []
  g_far_of : mg "far_of" = some (.ref f_far_of)
  f_differences : Addr
  fd_differences : FuncData
  F_differences : Fun K "differences" "differences" s_differences f_differences fd_differences
  b_differences : Binds K fd_differences ["poly"] []
  g_differences : mg "differences" = some (.ref f_differences)
  f_first_turned : Addr
  fd_first_turned : FuncData
  F_first_turned : Fun K "first_turned" "first_turned" s_first_turned f_first_turned fd_first_turned
  b_first_turned : Binds K fd_first_turned ["poly", "low", "high"] []
  g_first_turned : mg "first_turned" = some (.ref f_first_turned)
  f_poly_turns : Addr
  fd_poly_turns : FuncData
  F_poly_turns : Fun K "poly_turns" "poly_turns" s_poly_turns f_poly_turns fd_poly_turns
  b_poly_turns : Binds K fd_poly_turns ["poly"] []
  g_poly_turns : mg "poly_turns" = some (.ref f_poly_turns)
  f_poly_roots : Addr
  fd_poly_roots : FuncData
  F_poly_roots : Fun K "poly_roots" "poly_roots" s_poly_roots f_poly_roots fd_poly_roots
  b_poly_roots : Binds K fd_poly_roots ["poly"] []
  g_poly_roots : mg "poly_roots" = some (.ref f_poly_roots)
  f__law_source : Addr
  fd__law_source : FuncData
  F__law_source : Fun K "_law_source" "_law_source" s__law_source f__law_source fd__law_source
  b__law_source : Binds K fd__law_source ["script"] []
  g__law_source : mg "_law_source" = some (.ref f__law_source)
  f__law_pick : Addr
  fd__law_pick : FuncData
  F__law_pick : Fun K "_law_pick" "_law_pick" s__law_pick f__law_pick fd__law_pick
  b__law_pick : Binds K fd__law_pick ["source", "many"] []
  g__law_pick : mg "_law_pick" = some (.ref f__law_pick)
  f__law_of : Addr
  fd__law_of : FuncData
  F__law_of : Fun K "_law_of" "_law_of" s__law_of f__law_of fd__law_of
  b__law_of : Binds K fd__law_of ["source", "some"] []
  g__law_of : mg "_law_of" = some (.ref f__law_of)
  f__law_binomials : Addr
  fd__law_binomials : FuncData
  F__law_binomials : Fun K "_law_binomials" "_law_binomials" s__law_binomials f__law_binomials fd__law_binomials
  b__law_binomials : Binds K fd__law_binomials ["values"] []
  g__law_binomials : mg "_law_binomials" = some (.ref f__law_binomials)
  f__law_value : Addr
  fd__law_value : FuncData
  F__law_value : Fun K "_law_value" "_law_value" s__law_value f__law_value fd__law_value
  b__law_value : Binds K fd__law_value ["factors", "n"] []
  g__law_value : mg "_law_value" = some (.ref f__law_value)
  f__law_poly : Addr
  fd__law_poly : FuncData
  F__law_poly : Fun K "_law_poly" "_law_poly" s__law_poly f__law_poly fd__law_poly
  b__law_poly : Binds K fd__law_poly ["factors", "more"] []
  g__law_poly : mg "_law_poly" = some (.ref f__law_poly)
  f__law_factors : Addr
  fd__law_factors : FuncData
  F__law_factors : Fun K "_law_factors" "_law_factors" s__law_factors f__law_factors fd__law_factors
  b__law_factors : Binds K fd__law_factors ["source", "far"] []
  g__law_factors : mg "_law_factors" = some (.ref f__law_factors)
  f__law_moved_right : Addr
  fd__law_moved_right : FuncData
  F__law_moved_right : Fun K "_law_moved_right" "_law_moved_right" s__law_moved_right f__law_moved_right fd__law_moved_right
  b__law_moved_right : Binds K fd__law_moved_right ["factors", "more"] []
  g__law_moved_right : mg "_law_moved_right" = some (.ref f__law_moved_right)
  f_law : Addr
  fd_law : FuncData
  F_law : Fun K "law" "law" s_law f_law fd_law
  b_law : Binds K fd_law ["script"] []
  g_law : mg "law" = some (.ref f_law)
  m_abs : mg "abs" = none
  m_dict : mg "dict" = none
  m_enumerate : mg "enumerate" = none
  m_int : mg "int" = none
  m_len : mg "len" = none
  m_list : mg "list" = none
  m_max : mg "max" = none
  m_range : mg "range" = none
  m_repr : mg "repr" = none
  m_sorted : mg "sorted" = none
  m_sum : mg "sum" = none
  m_tuple : mg "tuple" = none
  m_zip : mg "zip" = none
section
variable {P : Program} {w : World} {K : PySem.W.Frag} {mg : Str → Option Value} {base : Heap}

theorem ok__law_pick (T : Facts K mg) : FnOk P w K mg base CX0 1 T.f__law_pick T.fd__law_pick ["source", "many"] (spS K mPickB) := by
  refine T.F__law_pick.ok (k := 0) sc__law_pick (fun vs H Q E ⟨s, c, us, ds, e, _, r, q⟩ => ?_) (fun cdv A outer s0 H vs Q E hr ⟨s, c, us, ds, e, k0, r, q⟩ => ?_)
  · rw [e, List.length_cons, r.length, mPickB_arity ds _ q]; rfl
  have hu := hu_of hr
  refine ⟨_, pss_cons (ps_while PassesOwn.never (PW.pt (pw_and (pt_cmpR op_gt (pv 1) pe_int (nomark _)) (pw_and (pt_cmpR op_lt (pe_dget hu (pv 0) pe_str (fun _ _ => rfl)) pe_int (nomark _)) (pw_and1 (pt_cmpR op_gt (pe_callB call_len_seq (by rfl) T.m_len PySem.boot_len (pa_cons (pe_dget hu (pv 0) pe_str (fun _ _ => rfl)) pa_nil)) pe_int (nomark _))))))
      (pss_one (ps_dput hu (pv 0) pe_str (pe_bm0 PySem.F.plainAttrs_list PySem.F.slot_list_pop PySem.F.type_list_pop mt_pop (pe_dget hu (pv 0) pe_str (fun _ _ => rfl))) rfl)))
    (pss_cons (ps_set (i := 2) sc__law_pick.nd rfl (.inl rfl) (pe_dget hu (pv 0) pe_str (fun _ _ => rfl)))
    (pss_cons (ps_if (PW.pt (pw_or (pt_cmpR op_lt (pv 1) pe_int (nomark _)) (pw_or1 (pt_cmpR op_gt (pv 2) pe_int (nomark _)))))
      (pss_cons (ps_dput hu (pv 0) pe_str (pe_op op_fdivB (pv 2) (pe_callB (call_max2 rfl) (by rfl) T.m_max (by decide +kernel) (pa_cons pe_int (pa_cons (pv 1) pa_nil)))) rfl)
        (pss_one (ps_ret (pe_op op_modN (pe_callTy call_int1 (by rfl) T.m_int (by decide +kernel) (pa_cons (pv 2) pa_nil)) (pe_callB (call_max2 rfl) (by rfl) T.m_max (by decide +kernel) (pa_cons pe_int (pa_cons (pv 1) pa_nil)))))))
      pss_nil)
    (pss_cons (ps_dput hu (pv 0) pe_str (pe_op op_add (pe_dget hu (pv 0) pe_str (fun _ _ => rfl)) pe_int) rfl)
    (pss_cons (ps_set (i := 3) sc__law_pick.nd rfl (.inl rfl) (pe_op op_modN (pe_callTy call_int1 (by rfl) T.m_int (by decide +kernel) (pa_cons (pe_op op_add (pe_dget hu (pv 0) pe_str (fun _ _ => rfl)) (pe_op op_mul (pe_dget hu (pv 0) pe_str (fun _ _ => rfl)) pe_int)) pa_nil)) pe_int))
    (pss_cons (ps_set (i := 3) sc__law_pick.nd rfl (.inl rfl) (pe_op op_modN (pe_callTy call_int1 (by rfl) T.m_int (by decide +kernel) (pa_cons (pe_op op_add (pe_op op_mul (pv 3) (pv 3)) (pe_op op_mul (pe_dget hu (pv 0) pe_str (fun _ _ => rfl)) pe_int)) pa_nil)) pe_int))
    (pss_cons (ps_dput hu (pv 0) pe_str (pv 3) rfl)
    (pss_one (ps_ret (pe_op op_modN (pe_callTy call_int1 (by rfl) T.m_int (by decide +kernel) (pa_cons (pe_op op_fdivB (pv 3) pe_int) pa_nil)) (pv 1)))))))))), ?_⟩
  subst e
  obtain ⟨n, rfl, hn, q⟩ := mPickB_wp q
  obtain ⟨v1, rfl, r1⟩ := pair1 r.pairedR
  cases r1
  obtain ⟨nsc, cells, left, mixed, turn, hc, hs, hp, h1, h2, h3, h4⟩ := k0
  -- the state behind so many cells
  refine ⟨fun m σ H2 => ∃ (cells2 : List Int) (left2 : Int), m = cells2.length ∧ σ = [some (.ref s), some (.int n), none, none] ∧ SameX (some (s, c)) H H2 ∧ H2 c = some (.lst (cells2.map V.int)) ∧ H2 s = some (.dK (srcD c left2 mixed turn)) ∧ (∀ x ∈ cells2, 0 ≤ x) ∧ 0 ≤ left2,
    ⟨cells.length, cells, left, rfl, rfl, SameX.refl _, hc, hs, hp, h1⟩, ?_⟩
  rintro m σ H2 ⟨cells2, left2, rfl, rfl, sm, hc2, hs2, hp2, hl2⟩
  have done : ∀ (D : Ends), (∀ v H', D.rt v H' = Q v H') → tPickEnd D [some (.ref s), some (.int n), none, none] H2 := fun D hD => pick_end n hn q nsc sm hc2 hs2 hp2 hl2 h2 h3 h4 D hD
  -- many > 1
  refine ⟨_, rfl, n, 1, rfl, rfl, _, rfl, ite2 (fun g1 => ?_) (fun g1 => done _ fun _ _ => rfl)⟩
  -- source['left'] < 2
  refine ⟨_, rfl, s, _, rfl, .inl ⟨_, .inr "left", .inl hs2, rfl, (srcD_gl _ _ _ _).symm⟩, left2, 2, rfl, rfl, _, rfl, ite2 (fun g2 => ?_) (fun g2 => done _ fun _ _ => rfl)⟩
  -- len(source['cells']) > 0
  refine ⟨_, rfl, s, _, rfl, .inl ⟨_, .inr "cells", .inl hs2, rfl, (srcD_gc _ _ _ _).symm⟩, c, _, rfl, .inl (SqL.of hc2), _, _, rfl, rfl, _, rfl, ?_⟩
  refine ite2 (fun g3 => ?_) (fun g3 => done _ fun _ _ => rfl)
  rw [List.length_map] at g3
  have g3' : 0 < cells2.length := by have := of_decide_eq_true g3; omega
  refine ⟨fun σ' H' => ∃ (cells3 : List Int) (left3 : Int), cells3.length < cells2.length ∧ σ' = [some (.ref s), some (.int n), none, none] ∧ SameX (some (s, c)) H H' ∧ H' c = some (.lst (cells3.map V.int)) ∧ H' s = some (.dK (srcD c left3 mixed turn)) ∧ (∀ x ∈ cells3, 0 ≤ x) ∧ 0 ≤ left3, fun σ' H' ⟨cells3, left3, z, e⟩ => ⟨cells3.length, z, cells3, left3, rfl, e⟩, ?_⟩
  have ncs : c ≠ s := fun z => nsc z.symm
  have hlast : (cells2.map V.int)[(cells2.map V.int).length - 1]? = some (.int cells2[cells2.length - 1]) := by
    rw [List.length_map, List.getElem?_map, List.getElem?_eq_getElem (by omega)]
    rfl
  refine ⟨_, rfl, s, _, rfl, .inl ⟨_, .inr "cells", .inl hs2, rfl, (srcD_gc _ _ _ _).symm⟩, .inl ⟨rfl, _, SqL.of hc2⟩, c, _, _, rfl, rfl, hc2, hlast, ?_⟩
  have hs3 : upd H2 c (.lst (cells2.map V.int).dropLast) s = some (.dK (srcD c left2 mixed turn)) := by rw [upd_ne nsc]; exact hs2
  refine ⟨_, rfl, s, _, rfl, .inl ⟨_, .inr "left", hs3, rfl, (by show 4 < sizeLine; decide), rfl⟩, cells2.dropLast, cells2[cells2.length - 1], ?_, rfl, ?_, ?_, ?_, fun x hx => hp2 x (List.dropLast_subset _ hx), hp2 _ (List.getElem_mem _)⟩
  · rw [List.length_dropLast]; omega
  · intro b o nb e
    have n1 : b ≠ s := fun z => nb (.inl z)
    have n2 : b ≠ c := fun z => nb (.inr z)
    rw [upd_ne n1, upd_ne n2]
    exact sm b o nb e
  · rw [upd_ne ncs, upd_same, List.map_dropLast]
  · rw [upd_same, srcD_left]


theorem ok__law_source (T : Facts K mg) : FnOk P w K mg base CX0 1 T.f__law_source T.fd__law_source ["script"] (spSrc K) := by
  refine T.F__law_source.ok (k := 0) sc__law_source (fun vs H Q E ⟨a, ns, e, _⟩ => by rw [e]; rfl) (fun cdv A outer s0 H vs Q E hr ⟨a, ns, e, hS, hlen, q⟩ => ?_)
  subst e
  refine ⟨_, pss_cons (ps_set (i := 1) sc__law_source.nd rfl (.inl rfl) pe_int)
    (pss_cons (ps_for PassesOwn.never rfl (pi_list (pv 0)) (pg_name (i := 2) sc__law_source.nd rfl (.inl rfl)) (pss_one (ps_set (i := 1) sc__law_source.nd rfl (.inl rfl)
      (pe_op op_modN (pe_callTy call_int1 (by rfl) T.m_int (by decide +kernel) (pa_cons (pe_op op_add (pe_op op_add (pe_op op_mul (pv 1) pe_int) (pe_op op_mul (pv 2) pe_int)) pe_int) pa_nil)) pe_int))))
    (pss_one (ps_ret (pe_disp (pps_cons pe_str (pe_revL (pe_lc rfl sc__law_source.nd (own := [("cell", 2)]) (pi_list (pv 0)) (blkOk_by (N := ["script", "mixed", "cell"]) (sc := (defScope s__law_source)) (by decide +kernel)) (fun _ _ _ _ _ => pg_name (i := 2) sc__law_source.nd rfl (.inl rfl)) (fun _ _ _ _ _ => pts_nil)
        (fun _ _ _ _ _ => pe_callB call_abs (by rfl) T.m_abs (by decide +kernel) (pa_cons (pv 2) pa_nil))))
      (pps_cons pe_str pe_int (pps_cons pe_str (pv 1) (pps_cons pe_str pe_int pps_nil)))) rfl rfl (by decide) (by decide))))), ?_⟩
  exact source_end hS hlen (fun _ _ => rfl) q

theorem ok_choose (T : Facts K mg) : FnOk P w K mg base CX0 1 T.f_choose T.fd_choose ["number", "few"] (spD K m_choose) :=
  fn_okD (k := 0) T.F_choose sc_choose (fun cdv A outer s H E Z hr => (db_cons (ds_set (i := 2) sc_choose.nd rfl (.inl rfl) dv_int) (db_cons (ds_for PassesOwn.never rfl (di_range1 (by rfl) T.m_range (dp_of (dv_var (pe_var (i := 1) rfl (.inl rfl))))) (dg_name (i := 3) sc_choose.nd rfl (.inl rfl)) (cb := choose_b1) (db_one (ds_set (i := 2) sc_choose.nd rfl (.inl rfl) (dv_op dop_fdiv (dp_of (dv_op dop_mulT (dp_of (dv_var (pe_var (i := 2) rfl (.inl rfl)))) (dp_of (dv_op dop_sub (dp_of (dv_var (pe_var (i := 0) rfl (.inl rfl)))) (dp_of (dv_var (pe_var (i := 3) rfl (.inl rfl)))))))) (dp_of (dv_op dop_add (dp_of (dv_var (pe_var (i := 3) rfl (.inl rfl)))) (dp_of dv_int))))))) (db_one (ds_ret (dv_var (pe_var (i := 2) rfl (.inl rfl))))))))
theorem ok_poly_least (T : Facts K mg) : FnOk P w K mg base CX0 1 T.f_poly_least T.fd_poly_least ["numbers"] (spD K m_poly_least) :=
  fn_okD (k := 0) T.F_poly_least sc_poly_least (fun cdv A outer s H E Z hr => (db_cons (ds_own (i := 1) sc_poly_least.nd rfl (.inl rfl) (dl_list (by rfl) T.m_list (dp_of (dv_var (pe_var (i := 0) rfl (.inl rfl)))))) (db_cons (ds_while (n := 1000000) PassesOwn.never (dw_pt (dw_and (dt_cmp (dop_neS hr.units) (nomark _) (dp_var (pe_var (i := 1) rfl (.inl rfl))) (dp_new (dl_disp da_nil))) (dw_and1 (dt_cmp (dop_eqS hr.units) (nomark _) (dp_of (dv_ix (room1 hr) (dp_var (pe_var (i := 1) rfl (.inl rfl))) (dp_of (dv_neg (dp_of dv_int))))) (dp_of dv_int))))) (cb := poly_least_b1) (db_one (ds_pop (pe_var (i := 1) rfl (.inl rfl)) (pe_bm0 PySem.F.plainAttrs_list PySem.F.slot_list_pop PySem.F.type_list_pop mt_pop (pe_var (i := 1) rfl (.inl rfl)))))) (db_one (ds_ret (dv_callTy bc_tuple (by rfl) T.m_tuple (by decide +kernel) (dap_cons (dp_var (pe_var (i := 1) rfl (.inl rfl))) dap_nil)))))))
theorem ok_poly_of (T : Facts K mg) : FnOk P w K mg base CX0 2 T.f_poly_of T.fd_poly_of ["values"] (spD K m_poly_of) :=
  fn_okD (k := 1) T.F_poly_of sc_poly_of (fun cdv A outer s H E Z hr => (db_cons (ds_par (i := 1) (j := 2) rfl sc_poly_of.nd rfl rfl (by decide) rfl rfl (dx_o (dl_disp da_nil)) (dx_v (dv_fz (dl_list (by rfl) T.m_list (dp_of (dv_var (pe_var (i := 0) rfl (.inl rfl))))))) rfl) (db_cons (ds_while (n := 1000000) PassesOwn.never (dt_cmp (dop_neS hr.units) (nomark _) (dp_of (dv_var (pe_var (i := 2) rfl (.inl rfl)))) (dp_new (dl_disp da_nil))) (cb := poly_of_b1) (db_cons (ds_append (pe_var (i := 1) rfl (.inl rfl)) (dv_ix (room1 hr) (dp_of (dv_var (pe_var (i := 2) rfl (.inl rfl)))) (dp_of dv_int)) (fun ha => pe_bm PySem.F.plainAttrs_list PySem.F.slot_list_append PySem.F.type_list_append mt_append (pe_var (i := 1) rfl (.inl rfl)) ha)) (db_cons (ds_ownLc (i := 2) rfl sc_poly_of.nd rfl rfl (sw_true rfl rfl rfl (by decide +kernel)) (own := [("one", 3), ("later", 4)]) (blkOk_by (N := ["values", "found", "line", "one", "later"]) (sc := (defScope s_poly_of)) (by decide +kernel)) (by decide) (di_zipK (st := false) (by rfl) T.m_zip (dv_var (pe_var (i := 2) rfl (.inl rfl))) (dv_sl (dp_of (dv_var (pe_var (i := 2) rfl (.inl rfl)))) (do_some (dp_of dv_int)) do_none)) (fun _ _ _ _ _ => (dg_tup rfl (dgs_cons (dg_name (i := 3) sc_poly_of.nd rfl (.inl rfl)) (dgs_cons (dg_name (i := 4) sc_poly_of.nd rfl (.inl rfl)) dgs_nil)))) (fun _ _ _ _ _ => dts_nil) (fun _ _ _ _ _ => (dv_op dop_sub (dp_of (dv_var (pe_var (i := 4) rfl (.inl rfl)))) (dp_of (dv_var (pe_var (i := 3) rfl (.inl rfl))))))) (db_frzT (i := 2) db_nil)))) (db_frzT (i := 1) (db_one (ds_ret (dv_call (ok_poly_least T) (hr.mono (by decide)) (by rfl) T.g_poly_least T.F_poly_least.kp T.b_poly_least (da_cons (dv_var (pe_var (i := 1) rfl (.inl rfl))) da_nil))))))))
theorem ok_poly_at (T : Facts K mg) : FnOk P w K mg base CX0 2 T.f_poly_at T.fd_poly_at ["poly", "n"] (spD K m_poly_at) :=
  fn_okD (k := 1) T.F_poly_at sc_poly_at (fun cdv A outer s H E Z hr => (db_one (ds_ret (dv_callB (bc_sum rfl) (by rfl) T.m_sum (by decide +kernel) (dap_cons (dp_new (dl_comp rfl sc_poly_at.nd (own := [("few", 2), ("number", 3)]) (blkOk_by (N := ["poly", "n", "few", "number"]) (sc := (defScope s_poly_at)) (by decide +kernel)) (by decide) (di_enum (by rfl) T.m_enumerate (dv_var (pe_var (i := 0) rfl (.inl rfl)))) (fun _ _ _ _ _ => (dg_tup rfl (dgs_cons (dg_name (i := 2) sc_poly_at.nd rfl (.inl rfl)) (dgs_cons (dg_name (i := 3) sc_poly_at.nd rfl (.inl rfl)) dgs_nil)))) (fun _ _ _ _ _ => dts_nil) (fun _ _ _ _ _ => (dv_op dop_mulT (dp_of (dv_var (pe_var (i := 3) rfl (.inl rfl)))) (dp_of (dv_call (ok_choose T) (hr.mono (by decide)) (by rfl) T.g_choose T.F_choose.kp T.b_choose (da_cons (dv_var (pe_var (i := 1) rfl (.inr (.inl rfl)))) (da_cons (dv_var (pe_var (i := 2) rfl (.inl rfl))) da_nil)))))))) dap_nil)))))
theorem ok_poly_sum (T : Facts K mg) : FnOk P w K mg base CX0 2 T.f_poly_sum T.fd_poly_sum ["one", "other"] (spD K m_poly_sum) :=
  fn_okD (k := 1) T.F_poly_sum sc_poly_sum (fun cdv A outer s H E Z hr => (db_cons (ds_set (i := 2) sc_poly_sum.nd rfl (.inr rfl) (dv_callB (bc_max rfl) (by rfl) T.m_max (by decide +kernel) (dap_cons (dp_of (dv_callB bc_lenD (by rfl) T.m_len (by decide +kernel) (dap_cons (dp_of (dv_var (pe_var (i := 0) rfl (.inl rfl)))) dap_nil))) (dap_cons (dp_of (dv_callB bc_lenD (by rfl) T.m_len (by decide +kernel) (dap_cons (dp_of (dv_var (pe_var (i := 1) rfl (.inl rfl)))) dap_nil))) dap_nil)))) (db_cons (ds_asg (dv_fz (dl_comp rfl sc_poly_sum.nd (own := [("poly", 5)]) (blkOk_by (N := ["one", "other", "many", "first", "second", "poly", "here", "there"]) (sc := (defScope s_poly_sum)) (by decide +kernel)) (by decide) (di_seq (dv_tup (da_cons (dv_var (pe_var (i := 0) rfl (.inl rfl))) (da_cons (dv_var (pe_var (i := 1) rfl (.inl rfl))) da_nil)))) (fun _ _ _ _ _ => (dg_name (i := 5) sc_poly_sum.nd rfl (.inl rfl))) (fun _ _ _ _ _ => dts_nil) (fun _ _ _ _ _ => (dv_op dop_add (dp_new (dl_list (by rfl) T.m_list (dp_of (dv_var (pe_var (i := 5) rfl (.inl rfl)))))) (dp_of (dv_op dop_mulT (dp_new (dl_disp (da_cons dv_int da_nil))) (dp_of (dv_op dop_sub (dp_of (dv_var (pe_var (i := 2) rfl (.inr (.inl rfl))))) (dp_of (dv_callB bc_lenD (by rfl) T.m_len (by decide +kernel) (dap_cons (dp_of (dv_var (pe_var (i := 5) rfl (.inl rfl)))) dap_nil))))))))))) (dg_seq rfl (dgs_cons (dg_name (i := 3) sc_poly_sum.nd rfl (.inl rfl)) (dgs_cons (dg_name (i := 4) sc_poly_sum.nd rfl (.inl rfl)) dgs_nil)))) (db_one (ds_ret (dv_call (ok_poly_least T) (hr.mono (by decide)) (by rfl) T.g_poly_least T.F_poly_least.kp T.b_poly_least (da_cons (dv_fz (dl_comp rfl sc_poly_sum.nd (own := [("here", 6), ("there", 7)]) (blkOk_by (N := ["one", "other", "many", "first", "second", "poly", "here", "there"]) (sc := (defScope s_poly_sum)) (by decide +kernel)) (by decide) (di_zipK (st := true) (by rfl) T.m_zip (dv_var (pe_var (i := 3) rfl (.inl rfl))) (dv_var (pe_var (i := 4) rfl (.inl rfl)))) (fun _ _ _ _ _ => (dg_tup rfl (dgs_cons (dg_name (i := 6) sc_poly_sum.nd rfl (.inl rfl)) (dgs_cons (dg_name (i := 7) sc_poly_sum.nd rfl (.inl rfl)) dgs_nil)))) (fun _ _ _ _ _ => dts_nil) (fun _ _ _ _ _ => (dv_op dop_add (dp_of (dv_var (pe_var (i := 6) rfl (.inl rfl)))) (dp_of (dv_var (pe_var (i := 7) rfl (.inl rfl)))))))) da_nil)))))))
theorem ok_poly_times (T : Facts K mg) : FnOk P w K mg base CX0 2 T.f_poly_times T.fd_poly_times ["poly", "number"] (spD K m_poly_times) :=
  fn_okD (k := 1) T.F_poly_times sc_poly_times (fun cdv A outer s H E Z hr => (db_one (ds_ret (dv_call (ok_poly_least T) (hr.mono (by decide)) (by rfl) T.g_poly_least T.F_poly_least.kp T.b_poly_least (da_cons (dv_fz (dl_comp rfl sc_poly_times.nd (own := [("one", 2)]) (blkOk_by (N := ["poly", "number", "one"]) (sc := (defScope s_poly_times)) (by decide +kernel)) (by decide) (di_seq (dv_var (pe_var (i := 0) rfl (.inl rfl)))) (fun _ _ _ _ _ => (dg_name (i := 2) sc_poly_times.nd rfl (.inl rfl))) (fun _ _ _ _ _ => dts_nil) (fun _ _ _ _ _ => (dv_op dop_mulT (dp_of (dv_var (pe_var (i := 1) rfl (.inr (.inl rfl))))) (dp_of (dv_var (pe_var (i := 2) rfl (.inl rfl)))))))) da_nil)))))
theorem ok_poly_less (T : Facts K mg) : FnOk P w K mg base CX0 3 T.f_poly_less T.fd_poly_less ["one", "other"] (spD K m_poly_less) :=
  fn_okD (k := 2) T.F_poly_less sc_poly_less (fun cdv A outer s H E Z hr => (db_one (ds_ret (dv_call (ok_poly_sum T) (hr.mono (by decide)) (by rfl) T.g_poly_sum T.F_poly_sum.kp T.b_poly_sum (da_cons (dv_var (pe_var (i := 0) rfl (.inl rfl))) (da_cons (dv_call (ok_poly_times T) (hr.mono (by decide)) (by rfl) T.g_poly_times T.F_poly_times.kp T.b_poly_times (da_cons (dv_var (pe_var (i := 1) rfl (.inl rfl))) (da_cons (dv_neg (dp_of dv_int)) da_nil))) da_nil))))))
theorem ok_poly_product (T : Facts K mg) : FnOk P w K mg base CX0 3 T.f_poly_product T.fd_poly_product ["one", "other"] (spD K m_poly_product) :=
  fn_okD (k := 2) T.F_poly_product sc_poly_product (fun cdv A outer s H E Z hr => (db_one (ds_ret (dv_call (ok_poly_of T) (hr.mono (by decide)) (by rfl) T.g_poly_of T.F_poly_of.kp T.b_poly_of (da_cons (dv_fz (dl_comp rfl sc_poly_product.nd (own := [("n", 2)]) (blkOk_by (N := ["one", "other", "n"]) (sc := (defScope s_poly_product)) (by decide +kernel)) (by decide) (di_range1 (by rfl) T.m_range (dp_of (dv_op dop_add (dp_of (dv_callB bc_lenD (by rfl) T.m_len (by decide +kernel) (dap_cons (dp_of (dv_var (pe_var (i := 0) rfl (.inr (.inl rfl))))) dap_nil))) (dp_of (dv_callB bc_lenD (by rfl) T.m_len (by decide +kernel) (dap_cons (dp_of (dv_var (pe_var (i := 1) rfl (.inr (.inl rfl))))) dap_nil)))))) (fun _ _ _ _ _ => (dg_name (i := 2) sc_poly_product.nd rfl (.inl rfl))) (fun _ _ _ _ _ => dts_nil) (fun _ _ _ _ _ => (dv_op dop_mulT (dp_of (dv_call (ok_poly_at T) (hr.mono (by decide)) (by rfl) T.g_poly_at T.F_poly_at.kp T.b_poly_at (da_cons (dv_var (pe_var (i := 0) rfl (.inr (.inl rfl)))) (da_cons (dv_var (pe_var (i := 2) rfl (.inl rfl))) da_nil)))) (dp_of (dv_call (ok_poly_at T) (hr.mono (by decide)) (by rfl) T.g_poly_at T.F_poly_at.kp T.b_poly_at (da_cons (dv_var (pe_var (i := 1) rfl (.inr (.inl rfl)))) (da_cons (dv_var (pe_var (i := 2) rfl (.inl rfl))) da_nil)))))))) da_nil)))))
theorem ok_far_of (T : Facts K mg) : FnOk P w K mg base CX0 2 T.f_far_of T.fd_far_of ["poly"] (spD K m_far_of) :=
  fn_okD (k := 1) T.F_far_of sc_far_of (fun cdv A outer s H E Z hr => (db_one (ds_ret (dv_op dop_add (dp_of (dv_callB bc_lenD (by rfl) T.m_len (by decide +kernel) (dap_cons (dp_of (dv_var (pe_var (i := 0) rfl (.inl rfl)))) dap_nil))) (dp_of (dv_op dop_mulT (dp_of (dv_op dop_mulT (dp_of (dv_callB bc_lenD (by rfl) T.m_len (by decide +kernel) (dap_cons (dp_of (dv_var (pe_var (i := 0) rfl (.inl rfl)))) dap_nil))) (dp_of (dv_callB (bc_max rfl) (by rfl) T.m_max (by decide +kernel) (dap_cons (dp_new (dl_comp rfl sc_far_of.nd (own := [("number", 1)]) (blkOk_by (N := ["poly", "number"]) (sc := (defScope s_far_of)) (by decide +kernel)) (by decide) (di_seq (dv_var (pe_var (i := 0) rfl (.inl rfl)))) (fun _ _ _ _ _ => (dg_name (i := 1) sc_far_of.nd rfl (.inl rfl))) (fun _ _ _ _ _ => dts_nil) (fun _ _ _ _ _ => (dv_callB bc_abs (by rfl) T.m_abs (by decide +kernel) (dap_cons (dp_of (dv_var (pe_var (i := 1) rfl (.inl rfl)))) dap_nil))))) dap_nil))))) (dp_of (dv_call (ok_choose T) (hr.mono (by decide)) (by rfl) T.g_choose T.F_choose.kp T.b_choose (da_cons (dv_op dop_mulT (dp_of dv_int) (dp_of (dv_callB bc_lenD (by rfl) T.m_len (by decide +kernel) (dap_cons (dp_of (dv_var (pe_var (i := 0) rfl (.inl rfl)))) dap_nil)))) (da_cons (dv_callB bc_lenD (by rfl) T.m_len (by decide +kernel) (dap_cons (dp_of (dv_var (pe_var (i := 0) rfl (.inl rfl)))) dap_nil)) da_nil))))))))))
theorem ok_differences (T : Facts K mg) : FnOk P w K mg base CX0 1 T.f_differences T.fd_differences ["poly"] (spD K m_differences) :=
  fn_okD (k := 0) T.F_differences sc_differences (fun cdv A outer s H E Z hr => (db_one (ds_ret (dv_fz (dl_comp rfl sc_differences.nd (own := [("lap", 1)]) (blkOk_by (N := ["poly", "lap"]) (sc := (defScope s_differences)) (by decide +kernel)) (by decide) (di_range1 (by rfl) T.m_range (dp_of (dv_callB bc_lenD (by rfl) T.m_len (by decide +kernel) (dap_cons (dp_of (dv_var (pe_var (i := 0) rfl (.inr (.inl rfl))))) dap_nil)))) (fun _ _ _ _ _ => (dg_name (i := 1) sc_differences.nd rfl (.inl rfl))) (fun _ _ _ _ _ => dts_nil) (fun _ _ _ _ _ => (dv_sl (dp_of (dv_var (pe_var (i := 0) rfl (.inr (.inl rfl))))) (do_some (dp_of (dv_var (pe_var (i := 1) rfl (.inl rfl))))) do_none)))))))
theorem ok_first_turned (T : Facts K mg) : FnOk P w K mg base CX0 3 T.f_first_turned T.fd_first_turned ["poly", "low", "high"] (spD K m_first_turned) :=
  fn_okD (k := 2) T.F_first_turned sc_first_turned (fun cdv A outer s H E Z hr => (db_cons (ds_set (i := 3) sc_first_turned.nd rfl (.inl rfl) (dv_if (dt_cmp (dop_lt hr.units0) (nomark _) (dp_of (dv_call (ok_poly_at T) (hr.mono (by decide)) (by rfl) T.g_poly_at T.F_poly_at.kp T.b_poly_at (da_cons (dv_var (pe_var (i := 0) rfl (.inl rfl))) (da_cons (dv_var (pe_var (i := 1) rfl (.inl rfl))) da_nil)))) (dp_of dv_int)) dv_int (dv_neg (dp_of dv_int)))) (db_cons (ds_if (dw_pt (dw_or (dt_cmp (dop_eqS hr.units) (nomark _) (dp_of (dv_call (ok_poly_at T) (hr.mono (by decide)) (by rfl) T.g_poly_at T.F_poly_at.kp T.b_poly_at (da_cons (dv_var (pe_var (i := 0) rfl (.inl rfl))) (da_cons (dv_var (pe_var (i := 1) rfl (.inl rfl))) da_nil)))) (dp_of dv_int)) (dw_or1 (dt_cmp (dop_lt hr.units0) (nomark _) (dp_of (dv_op dop_mulT (dp_of (dv_var (pe_var (i := 3) rfl (.inl rfl)))) (dp_of (dv_call (ok_poly_at T) (hr.mono (by decide)) (by rfl) T.g_poly_at T.F_poly_at.kp T.b_poly_at (da_cons (dv_var (pe_var (i := 0) rfl (.inl rfl))) (da_cons (dv_var (pe_var (i := 2) rfl (.inl rfl))) da_nil)))))) (dp_of dv_int))))) (db_one (ds_ret (dv_if (dt_cmp (dop_eqS hr.units) (nomark _) (dp_of (dv_call (ok_poly_at T) (hr.mono (by decide)) (by rfl) T.g_poly_at T.F_poly_at.kp T.b_poly_at (da_cons (dv_var (pe_var (i := 0) rfl (.inl rfl))) (da_cons (dv_var (pe_var (i := 1) rfl (.inl rfl))) da_nil)))) (dp_of dv_int)) (dv_var (pe_var (i := 1) rfl (.inl rfl))) dv_non))) db_nil) (db_cons (ds_while (n := 1000000) PassesOwn.never (dt_cmp (dop_lt hr.units0) (nomark _) (dp_of (dv_var (pe_var (i := 1) rfl (.inl rfl)))) (dp_of (dv_var (pe_var (i := 2) rfl (.inl rfl))))) (cb := first_turned_b1) (db_cons (ds_set (i := 4) sc_first_turned.nd rfl (.inl rfl) (dv_op dop_fdiv (dp_of (dv_op dop_add (dp_of (dv_var (pe_var (i := 1) rfl (.inl rfl)))) (dp_of (dv_var (pe_var (i := 2) rfl (.inl rfl)))))) (dp_of dv_int))) (db_one (ds_if (dt_cmp dop_ge (nomark _) (dp_of (dv_op dop_mulT (dp_of (dv_var (pe_var (i := 3) rfl (.inl rfl)))) (dp_of (dv_call (ok_poly_at T) (hr.mono (by decide)) (by rfl) T.g_poly_at T.F_poly_at.kp T.b_poly_at (da_cons (dv_var (pe_var (i := 0) rfl (.inl rfl))) (da_cons (dv_var (pe_var (i := 4) rfl (.inl rfl))) da_nil)))))) (dp_of dv_int)) (db_one (ds_set (i := 2) sc_first_turned.nd rfl (.inl rfl) (dv_var (pe_var (i := 4) rfl (.inl rfl))))) (db_one (ds_set (i := 1) sc_first_turned.nd rfl (.inl rfl) (dv_op dop_add (dp_of (dv_var (pe_var (i := 4) rfl (.inl rfl)))) (dp_of dv_int)))))))) (db_one (ds_ret (dv_var (pe_var (i := 1) rfl (.inl rfl)))))))))
theorem ok_poly_turns (T : Facts K mg) : FnOk P w K mg base CX0 4 T.f_poly_turns T.fd_poly_turns ["poly"] (spD K m_poly_turns) :=
  fn_okD (k := 3) T.F_poly_turns sc_poly_turns (fun cdv A outer s H E Z hr => (db_cons (ds_set (i := 1) sc_poly_turns.nd rfl (.inl rfl) (dv_call (ok_far_of T) (hr.mono (by decide)) (by rfl) T.g_far_of T.F_far_of.kp T.b_far_of (da_cons (dv_var (pe_var (i := 0) rfl (.inl rfl))) da_nil))) (db_cons (ds_set (i := 2) sc_poly_turns.nd rfl (.inl rfl) (dv_fz (dl_disp (da_cons (dv_neg (dp_of (dv_var (pe_var (i := 1) rfl (.inl rfl))))) (da_cons (dv_var (pe_var (i := 1) rfl (.inl rfl))) da_nil))))) (db_cons (ds_for PassesOwn.never rfl (di_seq (dv_fz (dl_rev0 (dp_of (dv_call (ok_differences T) (hr.mono (by decide)) (by rfl) T.g_differences T.F_differences.kp T.b_differences (da_cons (dv_var (pe_var (i := 0) rfl (.inl rfl))) da_nil)))))) (dg_name (i := 3) sc_poly_turns.nd rfl (.inr rfl)) (cb := poly_turns_b1) (db_cons (ds_ownLc (i := 4) rfl sc_poly_turns.nd rfl rfl (sw_true rfl rfl rfl (by decide +kernel)) (own := [("low", 5), ("high", 6)]) (blkOk_by (N := ["poly", "far", "cuts", "late", "some", "low", "high", "cut", "one"]) (sc := (defScope s_poly_turns)) (by decide +kernel)) (by decide) (di_zipK (st := false) (by rfl) T.m_zip (dv_var (pe_var (i := 2) rfl (.inl rfl))) (dv_sl (dp_of (dv_var (pe_var (i := 2) rfl (.inl rfl)))) (do_some (dp_of dv_int)) do_none)) (fun _ _ _ _ _ => (dg_tup rfl (dgs_cons (dg_name (i := 5) sc_poly_turns.nd rfl (.inl rfl)) (dgs_cons (dg_name (i := 6) sc_poly_turns.nd rfl (.inl rfl)) dgs_nil)))) (fun _ _ _ _ _ => dts_nil) (fun _ _ _ _ _ => (dv_call (ok_first_turned T) (hr.mono (by decide)) (by rfl) T.g_first_turned T.F_first_turned.kp T.b_first_turned (da_cons (dv_var (pe_var (i := 3) rfl (.inr (.inl rfl)))) (da_cons (dv_var (pe_var (i := 5) rfl (.inl rfl))) (da_cons (dv_var (pe_var (i := 6) rfl (.inl rfl))) da_nil)))))) (db_frzT (i := 4) (db_one (ds_set (i := 2) sc_poly_turns.nd rfl (.inl rfl) (dv_fz (dl_sorted rfl (by rfl) T.m_sorted (dp_of (dv_callTy (bc_dict rfl (room3 hr)) (by rfl) T.m_dict (by decide +kernel) (dap_cons (dp_new (dl_comp rfl sc_poly_turns.nd (own := [("cut", 7)]) (blkOk_by (N := ["poly", "far", "cuts", "late", "some", "low", "high", "cut", "one"]) (sc := (defScope s_poly_turns)) (by decide +kernel)) (by decide) (di_seq (dv_tup (da_star (dp_of (dv_var (pe_var (i := 2) rfl (.inl rfl)))) (da_star (dp_new (dl_comp rfl sc_poly_turns.nd (own := [("one", 8)]) (blkOk_by (N := ["poly", "far", "cuts", "late", "some", "low", "high", "cut", "one"]) (sc := (defScope s_poly_turns)) (by decide +kernel)) (by decide) (di_seq (dv_var (pe_var (i := 4) rfl (.inl rfl)))) (fun _ _ _ _ _ => (dg_name (i := 8) sc_poly_turns.nd rfl (.inl rfl))) (fun _ _ _ _ _ => (dts_one (dt_cmp dop_notN (nomark _) (dp_of (dv_var (pe_var (i := 8) rfl (.inl rfl)))) (dp_of dv_non)))) (fun _ _ _ _ _ => (dv_var (pe_var (i := 8) rfl (.inl rfl)))))) da_nil)))) (fun _ _ _ _ _ => (dg_name (i := 7) sc_poly_turns.nd rfl (.inl rfl))) (fun _ _ _ _ _ => dts_nil) (fun _ _ _ _ _ => (dv_tup (da_cons (dv_var (pe_var (i := 7) rfl (.inl rfl))) (da_cons dv_bl da_nil)))))) dap_nil)))))))))) (db_one (ds_ret (dv_var (pe_var (i := 2) rfl (.inl rfl)))))))))
theorem ok_poly_roots (T : Facts K mg) : FnOk P w K mg base CX0 5 T.f_poly_roots T.fd_poly_roots ["poly"] (spD K m_poly_roots) :=
  fn_okD (k := 4) T.F_poly_roots sc_poly_roots (fun cdv A outer s H E Z hr => (db_cons (ds_par (i := 1) (j := 2) rfl sc_poly_roots.nd rfl rfl (by decide) rfl rfl (dx_d dd_nil) (dx_v (dv_call (ok_poly_turns T) (hr.mono (by decide)) (by rfl) T.g_poly_turns T.F_poly_turns.kp T.b_poly_turns (da_cons (dv_var (pe_var (i := 0) rfl (.inl rfl))) da_nil))) rfl) (db_cons (ds_for PassesOwn.never rfl (di_zipK (st := false) (by rfl) T.m_zip (dv_var (pe_var (i := 2) rfl (.inl rfl))) (dv_sl (dp_of (dv_var (pe_var (i := 2) rfl (.inl rfl)))) (do_some (dp_of dv_int)) do_none)) (dg_tup rfl (dgs_cons (dg_name (i := 3) sc_poly_roots.nd rfl (.inl rfl)) (dgs_cons (dg_name (i := 4) sc_poly_roots.nd rfl (.inl rfl)) dgs_nil))) (cb := poly_roots_b2) (db_cons (ds_set (i := 5) sc_poly_roots.nd rfl (.inl rfl) (dv_call (ok_first_turned T) (hr.mono (by decide)) (by rfl) T.g_first_turned T.F_first_turned.kp T.b_first_turned (da_cons (dv_var (pe_var (i := 0) rfl (.inl rfl))) (da_cons (dv_var (pe_var (i := 3) rfl (.inl rfl))) (da_cons (dv_var (pe_var (i := 4) rfl (.inl rfl))) da_nil))))) (db_one (ds_while (n := 1000000) PassesOwn.never (dw_pt (dw_and (dt_cmp dop_notN (nomark _) (dp_of (dv_var (pe_var (i := 5) rfl (.inl rfl)))) (dp_of dv_non)) (dw_and (dt_cmp (dop_le hr.units0) (nomark _) (dp_of (dv_var (pe_var (i := 5) rfl (.inl rfl)))) (dp_of (dv_var (pe_var (i := 4) rfl (.inl rfl))))) (dw_and1 (dt_cmp (dop_eqS hr.units) (nomark _) (dp_of (dv_call (ok_poly_at T) (hr.mono (by decide)) (by rfl) T.g_poly_at T.F_poly_at.kp T.b_poly_at (da_cons (dv_var (pe_var (i := 0) rfl (.inl rfl))) (da_cons (dv_var (pe_var (i := 5) rfl (.inl rfl))) da_nil)))) (dp_of dv_int)))))) (cb := poly_roots_b1) (db_cons (ds_put (i := 1) (room1 hr) (pe_var (i := 1) rfl (.inl rfl)) (dp_of (dv_var (pe_var (i := 5) rfl (.inl rfl)))) dv_bl) (db_one (ds_aug (i := 5) sc_poly_roots.nd rfl (.inl rfl) diop_add (dp_of dv_int)))))))) (db_one (ds_ret (dv_callTy bc_tuple (by rfl) T.m_tuple (by decide +kernel) (dap_cons (dp_new (dl_sorted rfl (by rfl) T.m_sorted (dp_var (pe_var (i := 1) rfl (.inl rfl))))) dap_nil)))))))
theorem ok__law_of (T : Facts K mg) : FnOk P w K mg base CX0 2 T.f__law_of T.fd__law_of ["source", "some"] (spS K m__law_of) :=
  fn_okS (k := 1) T.F__law_of sc__law_of (List.cons_ne_nil _ _) (fun cdv A outer s H E S Z hr => (db_one (ds_ret (dv_ix (room1 hr) (dp_of (dv_var (pe_var (i := 1) rfl (.inl rfl)))) (dp_of (dv_callS (pe_var (i := 0) rfl (.inl rfl)) (ok__law_pick T) (hr.mono (by decide)) (by rfl) T.g__law_pick T.F__law_pick.kp T.b__law_pick (da_cons (dv_callB bc_lenD (by rfl) T.m_len (by decide +kernel) (dap_cons (dp_of (dv_var (pe_var (i := 1) rfl (.inl rfl)))) dap_nil)) da_nil)))))))
theorem ok__law_binomials (T : Facts K mg) : FnOk P w K mg base CX0 1 T.f__law_binomials T.fd__law_binomials ["values"] (spD K m__law_binomials) :=
  fn_okD (k := 0) T.F__law_binomials sc__law_binomials (fun cdv A outer s H E Z hr => (db_cons (ds_par2 (i := 1) (j := 2) rfl sc__law_binomials.nd rfl rfl (by decide) (.inr rfl) (.inl rfl) (dx_o (dl_disp da_nil)) (dx_v (dv_fz (dl_list (by rfl) T.m_list (dp_of (dv_var (pe_var (i := 0) rfl (.inl rfl)))))))) (db_cons (ds_for PassesOwn.never rfl (di_seq (dv_var (pe_var (i := 0) rfl (.inl rfl)))) (dg_name (i := 3) sc__law_binomials.nd rfl (.inl rfl)) (cb := _law_binomials_b1) (db_cons (ds_append (pe_var (i := 1) rfl (.inr (.inl rfl))) (dv_ix (room1 hr) (dp_of (dv_var (pe_var (i := 2) rfl (.inl rfl)))) (dp_of dv_int)) (fun ha => pe_bm PySem.F.plainAttrs_list PySem.F.slot_list_append PySem.F.type_list_append mt_append (pe_var (i := 1) rfl (.inr (.inl rfl))) ha)) (db_cons (ds_ownLc (i := 2) rfl sc__law_binomials.nd rfl rfl (sw_true rfl rfl rfl (by decide +kernel)) (own := [("one", 5), ("late", 6)]) (blkOk_by (N := ["values", "found", "line", "lap", "many", "one", "late", "k", "number"]) (sc := (defScope s__law_binomials)) (by decide +kernel)) (by decide) (di_zip (by rfl) T.m_zip (dv_var (pe_var (i := 2) rfl (.inl rfl))) (dv_sl (dp_of (dv_var (pe_var (i := 2) rfl (.inl rfl)))) (do_some (dp_of dv_int)) do_none)) (fun _ _ _ _ _ => (dg_tup rfl (dgs_cons (dg_name (i := 5) sc__law_binomials.nd rfl (.inl rfl)) (dgs_cons (dg_name (i := 6) sc__law_binomials.nd rfl (.inl rfl)) dgs_nil)))) (fun _ _ _ _ _ => dts_nil) (fun _ _ _ _ _ => (dv_op dop_sub (dp_of (dv_var (pe_var (i := 6) rfl (.inl rfl)))) (dp_of (dv_var (pe_var (i := 5) rfl (.inl rfl))))))) (db_frzT (i := 2) db_nil)))) (db_cons (ds_set (i := 4) sc__law_binomials.nd rfl (.inl rfl) (dv_callB bc_lenD (by rfl) T.m_len (by decide +kernel) (dap_cons (dp_new (dl_comp rfl sc__law_binomials.nd (own := [("k", 7)]) (blkOk_by (N := ["values", "found", "line", "lap", "many", "one", "late", "k", "number"]) (sc := (defScope s__law_binomials)) (by decide +kernel)) (by decide) (di_range1 (by rfl) T.m_range (dp_of (dv_callB bc_lenD (by rfl) T.m_len (by decide +kernel) (dap_cons (dp_var (pe_var (i := 1) rfl (.inr (.inl rfl)))) dap_nil)))) (fun _ _ _ _ _ => (dg_name (i := 7) sc__law_binomials.nd rfl (.inl rfl))) (fun _ _ _ _ _ => (dts_one (dt_cmp (dop_neS hr.units) (nomark _) (dp_new (dl_comp rfl sc__law_binomials.nd (own := [("number", 8)]) (blkOk_by (N := ["values", "found", "line", "lap", "many", "one", "late", "k", "number"]) (sc := (relS ({ kind := .function, names := [(".0", .local), ("k", .local), ("found", .free)], isGenerator := false, isCoroutine := false } : Scope) (defScope s__law_binomials))) (by decide +kernel)) (by decide) (di_seq (dv_sl (dp_var (pe_var (i := 1) rfl (.inr (.inl rfl)))) (do_some (dp_of (dv_var (pe_var (i := 7) rfl (.inl rfl))))) do_none)) (fun _ _ _ _ _ => (dg_name (i := 8) sc__law_binomials.nd rfl (.inl rfl))) (fun _ _ _ _ _ => (dts_one (dt_cmp (dop_neS hr.units) (nomark _) (dp_of (dv_var (pe_var (i := 8) rfl (.inl rfl)))) (dp_of dv_int)))) (fun _ _ _ _ _ => (dv_var (pe_var (i := 8) rfl (.inl rfl)))))) (dp_new (dl_disp da_nil))))) (fun _ _ _ _ _ => (dv_var (pe_var (i := 7) rfl (.inl rfl)))))) dap_nil))) (db_one (ds_ret (dv_callTy bc_tuple (by rfl) T.m_tuple (by decide +kernel) (dap_cons (dp_of (dv_sl (dp_var (pe_var (i := 1) rfl (.inr (.inl rfl)))) do_none (do_some (dp_of (dv_var (pe_var (i := 4) rfl (.inl rfl))))))) dap_nil))))))))
theorem ok__law_value (T : Facts K mg) : FnOk P w K mg base CX0 1 T.f__law_value T.fd__law_value ["factors", "n"] (spD K m__law_value) :=
  fn_okD (k := 0) T.F__law_value sc__law_value (fun cdv A outer s H E Z hr => (db_cons (ds_set (i := 2) sc__law_value.nd rfl (.inl rfl) dv_int) (db_cons (ds_for PassesOwn.never rfl (di_seq (dv_var (pe_var (i := 0) rfl (.inl rfl)))) (dg_tup rfl (dgs_cons (dg_name (i := 3) sc__law_value.nd rfl (.inl rfl)) (dgs_cons (dg_name (i := 4) sc__law_value.nd rfl (.inl rfl)) (dgs_cons (dg_name (i := 5) sc__law_value.nd rfl (.inl rfl)) dgs_nil)))) (cb := _law_value_b1) (db_one (ds_set (i := 2) sc__law_value.nd rfl (.inl rfl) (dv_op dop_mulT (dp_of (dv_var (pe_var (i := 2) rfl (.inl rfl)))) (dp_of (dv_op dop_add (dp_of (dv_op dop_add (dp_of (dv_op dop_mulT (dp_of (dv_op dop_mulT (dp_of (dv_var (pe_var (i := 3) rfl (.inl rfl)))) (dp_of (dv_var (pe_var (i := 1) rfl (.inl rfl)))))) (dp_of (dv_var (pe_var (i := 1) rfl (.inl rfl)))))) (dp_of (dv_op dop_mulT (dp_of (dv_var (pe_var (i := 4) rfl (.inl rfl)))) (dp_of (dv_var (pe_var (i := 1) rfl (.inl rfl)))))))) (dp_of (dv_var (pe_var (i := 5) rfl (.inl rfl)))))))))) (db_one (ds_ret (dv_var (pe_var (i := 2) rfl (.inl rfl))))))))
theorem ok__law_poly (T : Facts K mg) : FnOk P w K mg base CX0 2 T.f__law_poly T.fd__law_poly ["factors", "more"] (spD K m__law_poly) :=
  fn_okD (k := 1) T.F__law_poly sc__law_poly (fun cdv A outer s H E Z hr => (db_cons (ds_set (i := 2) sc__law_poly.nd rfl (.inl rfl) (dv_callB (bc_sum rfl) (by rfl) T.m_sum (by decide +kernel) (dap_cons (dp_new (dl_comp rfl sc__law_poly.nd (own := [("a", 3), ("b", 4), ("c", 5)]) (blkOk_by (N := ["factors", "more", "degree", "a", "b", "c", "n"]) (sc := (defScope s__law_poly)) (by decide +kernel)) (by decide) (di_seq (dv_var (pe_var (i := 0) rfl (.inr (.inl rfl))))) (fun _ _ _ _ _ => (dg_tup rfl (dgs_cons (dg_name (i := 3) sc__law_poly.nd rfl (.inl rfl)) (dgs_cons (dg_name (i := 4) sc__law_poly.nd rfl (.inl rfl)) (dgs_cons (dg_name (i := 5) sc__law_poly.nd rfl (.inl rfl)) dgs_nil))))) (fun _ _ _ _ _ => dts_nil) (fun _ _ _ _ _ => (dv_if (dt_cmp (dop_neS hr.units) (nomark _) (dp_of (dv_var (pe_var (i := 3) rfl (.inl rfl)))) (dp_of dv_int)) dv_int (dv_if (dt_cmp (dop_neS hr.units) (nomark _) (dp_of (dv_var (pe_var (i := 4) rfl (.inl rfl)))) (dp_of dv_int)) dv_int dv_int))))) dap_nil))) (db_one (ds_ret (dv_call (ok__law_binomials T) (hr.mono (by decide)) (by rfl) T.g__law_binomials T.F__law_binomials.kp T.b__law_binomials (da_cons (dv_fz (dl_comp rfl sc__law_poly.nd (own := [("n", 6)]) (blkOk_by (N := ["factors", "more", "degree", "a", "b", "c", "n"]) (sc := (defScope s__law_poly)) (by decide +kernel)) (by decide) (di_range1 (by rfl) T.m_range (dp_of (dv_op dop_add (dp_of (dv_var (pe_var (i := 2) rfl (.inl rfl)))) (dp_of dv_int)))) (fun _ _ _ _ _ => (dg_name (i := 6) sc__law_poly.nd rfl (.inl rfl))) (fun _ _ _ _ _ => dts_nil) (fun _ _ _ _ _ => (dv_op dop_add (dp_of (dv_call (ok__law_value T) (hr.mono (by decide)) (by rfl) T.g__law_value T.F__law_value.kp T.b__law_value (da_cons (dv_var (pe_var (i := 0) rfl (.inr (.inl rfl)))) (da_cons (dv_var (pe_var (i := 6) rfl (.inl rfl))) da_nil)))) (dp_of (dv_var (pe_var (i := 1) rfl (.inr (.inl rfl))))))))) da_nil))))))
theorem ok__law_factors (T : Facts K mg) : FnOk P w K mg base CX0 3 T.f__law_factors T.fd__law_factors ["source", "far"] (spS K m__law_factors) :=
  fn_okS (k := 2) T.F__law_factors sc__law_factors (List.cons_ne_nil _ _) (fun cdv A outer s H E S Z hr => (db_cons (ds_par (i := 2) (j := 3) rfl sc__law_factors.nd rfl rfl (by decide) rfl rfl (dx_o (dl_disp da_nil)) (dx_d dd_nil) rfl) (db_cons (ds_for PassesOwn.never rfl (di_range1 (by rfl) T.m_range (dp_of (dv_callS (pe_var (i := 0) rfl (.inl rfl)) (ok__law_of T) (hr.mono (by decide)) (by rfl) T.g__law_of T.F__law_of.kp T.b__law_of (da_cons (dv_fz (dl_disp (da_cons dv_int (da_cons dv_int (da_cons dv_int (da_cons dv_int da_nil)))))) da_nil)))) (dg_name (i := 4) sc__law_factors.nd rfl (.inl rfl)) (cb := _law_factors_b1) (db_cons (ds_set (i := 5) sc__law_factors.nd rfl (.inl rfl) (dv_callS (pe_var (i := 0) rfl (.inl rfl)) (ok__law_of T) (hr.mono (by decide)) (by rfl) T.g__law_of T.F__law_of.kp T.b__law_of (da_cons (dv_fz (dl_disp (da_cons dv_int (da_cons dv_int (da_cons (dv_neg (dp_of dv_int)) (da_cons dv_int (da_cons (dv_neg (dp_of dv_int)) (da_cons dv_int (da_cons (dv_neg (dp_of dv_int)) (da_cons (dv_var (pe_var (i := 1) rfl (.inl rfl))) (da_cons (dv_op dop_sub (dp_of dv_int) (dp_of (dv_var (pe_var (i := 1) rfl (.inl rfl))))) da_nil))))))))))) da_nil))) (db_cons (ds_set (i := 6) sc__law_factors.nd rfl (.inl rfl) (dv_callS (pe_var (i := 0) rfl (.inl rfl)) (ok__law_of T) (hr.mono (by decide)) (by rfl) T.g__law_of T.F__law_of.kp T.b__law_of (da_cons (dv_fz (dl_disp (da_cons dv_int (da_cons dv_int (da_cons (dv_neg (dp_of dv_int)) (da_cons dv_int (da_cons (dv_neg (dp_of dv_int)) da_nil))))))) da_nil))) (db_cons (ds_append (pe_var (i := 2) rfl (.inl rfl)) (dv_tup (da_cons dv_int (da_cons (dv_var (pe_var (i := 6) rfl (.inl rfl))) (da_cons (dv_op dop_sub (dp_of dv_int) (dp_of (dv_op dop_mulT (dp_of (dv_var (pe_var (i := 6) rfl (.inl rfl)))) (dp_of (dv_var (pe_var (i := 5) rfl (.inl rfl))))))) da_nil)))) (fun ha => pe_bm PySem.F.plainAttrs_list PySem.F.slot_list_append PySem.F.type_list_append mt_append (pe_var (i := 2) rfl (.inl rfl)) ha)) (db_one (ds_put (i := 3) (room1 hr) (pe_var (i := 3) rfl (.inl rfl)) (dp_of (dv_var (pe_var (i := 5) rfl (.inl rfl)))) dv_int)))))) (db_cons (ds_set (i := 7) sc__law_factors.nd rfl (.inl rfl) (dv_callS (pe_var (i := 0) rfl (.inl rfl)) (ok__law_of T) (hr.mono (by decide)) (by rfl) T.g__law_of T.F__law_of.kp T.b__law_of (da_cons (dv_fz (dl_disp (da_cons dv_non (da_cons dv_non (da_cons (dv_tup (da_cons dv_int (da_cons dv_int (da_cons dv_int da_nil)))) (da_cons (dv_tup (da_cons dv_int (da_cons dv_int (da_cons dv_int da_nil)))) (da_cons (dv_tup (da_cons dv_int (da_cons dv_int (da_cons dv_int da_nil)))) (da_cons (dv_tup (da_cons dv_int (da_cons dv_int (da_cons (dv_neg (dp_of dv_int)) da_nil)))) (da_cons (dv_tup (da_cons dv_int (da_cons dv_int (da_cons dv_int da_nil)))) (da_cons (dv_tup (da_cons dv_int (da_cons dv_int (da_cons (dv_neg (dp_of dv_int)) da_nil)))) da_nil)))))))))) da_nil))) (db_one (ds_ret (dv_tup (da_cons (dv_op dop_add (dp_var (pe_var (i := 2) rfl (.inl rfl))) (dp_of (dv_if (dt_cmp dop_notN (nomark _) (dp_of (dv_var (pe_var (i := 7) rfl (.inl rfl)))) (dp_of dv_non)) (dv_fz (dl_disp (da_cons (dv_var (pe_var (i := 7) rfl (.inl rfl))) da_nil))) (dv_fz (dl_disp da_nil))))) (da_cons (dv_fz (dl_sorted rfl (by rfl) T.m_sorted (dp_var (pe_var (i := 3) rfl (.inl rfl))))) da_nil)))))))))
theorem ok__law_moved_right (T : Facts K mg) : FnOk P w K mg base CX0 6 T.f__law_moved_right T.fd__law_moved_right ["factors", "more"] (spD K m__law_moved_right) :=
  fn_okD (k := 5) T.F__law_moved_right sc__law_moved_right (fun cdv A outer s H E Z hr => (db_cons (ds_set (i := 2) sc__law_moved_right.nd rfl (.inr rfl) (dv_call (ok__law_poly T) (hr.mono (by decide)) (by rfl) T.g__law_poly T.F__law_poly.kp T.b__law_poly (da_cons (dv_var (pe_var (i := 0) rfl (.inl rfl))) (da_cons (dv_var (pe_var (i := 1) rfl (.inl rfl))) da_nil)))) (db_cons (ds_set (i := 3) sc__law_moved_right.nd rfl (.inl rfl) (dv_if (dt_cmp (dop_neS hr.units) (nomark _) (dp_of (dv_var (pe_var (i := 2) rfl (.inr (.inl rfl))))) (dp_of (dv_tup da_nil))) (dv_call (ok_poly_roots T) (hr.mono (by decide)) (by rfl) T.g_poly_roots T.F_poly_roots.kp T.b_poly_roots (da_cons (dv_var (pe_var (i := 2) rfl (.inr (.inl rfl)))) da_nil)) (dv_tup da_nil))) (db_cons (ds_if (dw_pt (dw_or (dt_cmp (dop_neS hr.units) (nomark _) (dp_new (dl_comp rfl sc__law_moved_right.nd (own := [("n", 5)]) (blkOk_by (N := ["factors", "more", "late", "told", "near", "n"]) (sc := (defScope s__law_moved_right)) (by decide +kernel)) (by decide) (di_seq (dv_var (pe_var (i := 3) rfl (.inl rfl)))) (fun _ _ _ _ _ => (dg_name (i := 5) sc__law_moved_right.nd rfl (.inl rfl))) (fun _ _ _ _ _ => (dts_one (dt_cmp (dop_neS hr.units) (nomark _) (dp_of (dv_call (ok_poly_at T) (hr.mono (by decide)) (by rfl) T.g_poly_at T.F_poly_at.kp T.b_poly_at (da_cons (dv_var (pe_var (i := 2) rfl (.inr (.inl rfl)))) (da_cons (dv_var (pe_var (i := 5) rfl (.inl rfl))) da_nil)))) (dp_of dv_int)))) (fun _ _ _ _ _ => (dv_var (pe_var (i := 5) rfl (.inl rfl)))))) (dp_new (dl_disp da_nil))) (dw_or1 (dt_cmp (dop_neS hr.units) (nomark _) (dp_new (dl_list (by rfl) T.m_list (dp_of (dv_var (pe_var (i := 3) rfl (.inl rfl)))))) (dp_new (dl_sorted rfl (by rfl) T.m_sorted (dp_of (dv_callTy (bc_dict rfl (room3 hr)) (by rfl) T.m_dict (by decide +kernel) (dap_cons (dp_new (dl_comp rfl sc__law_moved_right.nd (own := [("n", 5)]) (blkOk_by (N := ["factors", "more", "late", "told", "near", "n"]) (sc := (defScope s__law_moved_right)) (by decide +kernel)) (by decide) (di_seq (dv_var (pe_var (i := 3) rfl (.inl rfl)))) (fun _ _ _ _ _ => (dg_name (i := 5) sc__law_moved_right.nd rfl (.inl rfl))) (fun _ _ _ _ _ => dts_nil) (fun _ _ _ _ _ => (dv_tup (da_cons (dv_var (pe_var (i := 5) rfl (.inl rfl))) (da_cons dv_int da_nil)))))) dap_nil))))))))) (db_one (ds_ret dv_bl)) db_nil) (db_cons (ds_set (i := 4) sc__law_moved_right.nd rfl (.inl rfl) (dv_fz (dl_listRg2 rfl (by rfl) T.m_list (by rfl) T.m_range (dp_of (dv_neg (dp_of dv_int))) (dp_of dv_int)))) (db_one (ds_ret (dv_or (dp_of (dv_cmp (dop_eqS hr.units) (nomark _) (dp_of (dv_var (pe_var (i := 2) rfl (.inr (.inl rfl))))) (dp_of (dv_tup da_nil)))) (dv_one (dv_cmp (dop_eqS hr.units) (nomark _) (dp_new (dl_comp rfl sc__law_moved_right.nd (own := [("n", 5)]) (blkOk_by (N := ["factors", "more", "late", "told", "near", "n"]) (sc := (defScope s__law_moved_right)) (by decide +kernel)) (by decide) (di_seq (dv_var (pe_var (i := 4) rfl (.inl rfl)))) (fun _ _ _ _ _ => (dg_name (i := 5) sc__law_moved_right.nd rfl (.inl rfl))) (fun _ _ _ _ _ => (dts_one (dt_cmp (dop_eqS hr.units) (nomark _) (dp_of (dv_call (ok_poly_at T) (hr.mono (by decide)) (by rfl) T.g_poly_at T.F_poly_at.kp T.b_poly_at (da_cons (dv_var (pe_var (i := 2) rfl (.inr (.inl rfl)))) (da_cons (dv_var (pe_var (i := 5) rfl (.inl rfl))) da_nil)))) (dp_of dv_int)))) (fun _ _ _ _ _ => (dv_var (pe_var (i := 5) rfl (.inl rfl)))))) (dp_new (dl_comp rfl sc__law_moved_right.nd (own := [("n", 5)]) (blkOk_by (N := ["factors", "more", "late", "told", "near", "n"]) (sc := (defScope s__law_moved_right)) (by decide +kernel)) (by decide) (di_seq (dv_var (pe_var (i := 3) rfl (.inl rfl)))) (fun _ _ _ _ _ => (dg_name (i := 5) sc__law_moved_right.nd rfl (.inl rfl))) (fun _ _ _ _ _ => (dts_one (dt_chain (dop_le hr.units0) (dop_le hr.units0) (dp_of (dv_neg (dp_of dv_int))) (dp_of (dv_var (pe_var (i := 5) rfl (.inl rfl)))) (dp_of dv_int)))) (fun _ _ _ _ _ => (dv_var (pe_var (i := 5) rfl (.inl rfl))))))))))))))))
theorem ok_law (T : Facts K mg) : FnG P w K mg base 7 T.f_law T.fd_law ["script"] (spLaw K (lawM 21 1 cs_law)) :=
  law_okG (k := 6) 1 T.F_law sc_law (by decide) (by decide) rfl
    (fun cdv A outer s H E hr => ps_set (i := 1) sc_law.nd rfl (.inl rfl) (pe_call (ok__law_source T) (hr.mono (by decide)) (by rfl) T.g__law_source T.F__law_source.kp T.b__law_source .nil pass0 (pa_cons (pv 0) pa_nil)))
    (fun cdv A outer s H E S Z hG hr => (db_cons (ds_set (i := 2) sc_law.nd rfl (.inl rfl) (dv_callS (pe_var (i := 1) rfl (.inl rfl)) (ok__law_of T) (hr.mono (by decide)) (by rfl) T.g__law_of T.F__law_of.kp T.b__law_of (da_cons (dv_fz (dl_disp (da_cons dv_int (da_cons dv_int (da_cons dv_int da_nil))))) da_nil))) (db_cons (ds_par2 (i := 3) (j := 4) rfl sc_law.nd rfl rfl (by decide) (.inl rfl) (.inr rfl) (dx_o (dl_disp da_nil)) (dx_o (dl_disp da_nil))) (db_cons (ds_for PassesOwn.never rfl (di_range1 (by rfl) T.m_range (dp_of dv_int)) (dg_name (i := 5) sc_law.nd rfl (.inl rfl)) (cb := law_b2) (db_cons (ds_asg (dv_callS (pe_var (i := 1) rfl (.inl rfl)) (ok__law_factors T) (hr.mono (by decide)) (by rfl) T.g__law_factors T.F__law_factors.kp T.b__law_factors (da_cons (dv_var (pe_var (i := 2) rfl (.inl rfl))) da_nil)) (dg_tup rfl (dgs_cons (dg_name (i := 6) sc_law.nd rfl (.inr rfl)) (dgs_cons (dg_name (i := 7) sc_law.nd rfl (.inl rfl)) dgs_nil)))) (db_cons (ds_set (i := 8) sc_law.nd rfl (.inl rfl) (dv_call (ok__law_poly T) (hr.mono (by decide)) (by rfl) T.g__law_poly T.F__law_poly.kp T.b__law_poly (da_cons (dv_var (pe_var (i := 6) rfl (.inr (.inl rfl)))) (da_cons dv_int da_nil)))) (db_cons (ds_set (i := 9) sc_law.nd rfl (.inl rfl) (dv_op dop_add (dp_of (dv_callB (bc_sum rfl) (by rfl) T.m_sum (by decide +kernel) (dap_cons (dp_new (dl_comp rfl sc_law.nd (own := [("a", 18), ("b", 19), ("c", 20)]) (blkOk_by (N := ["script", "source", "far", "polys", "lots", "lap", "factors", "roots", "poly", "many", "n", "both", "late", "told", "wide", "some", "line", "due", "a", "b", "c"]) (sc := (defScope s_law)) (by decide +kernel)) (by decide) (di_seq (dv_var (pe_var (i := 6) rfl (.inr (.inl rfl))))) (fun _ _ _ _ _ => (dg_tup rfl (dgs_cons (dg_name (i := 18) sc_law.nd rfl (.inl rfl)) (dgs_cons (dg_name (i := 19) sc_law.nd rfl (.inl rfl)) (dgs_cons (dg_name (i := 20) sc_law.nd rfl (.inl rfl)) dgs_nil))))) (fun _ _ _ _ _ => dts_nil) (fun _ _ _ _ _ => (dv_if (dt_cmp (dop_neS hr.units) (nomark _) (dp_of (dv_var (pe_var (i := 18) rfl (.inl rfl)))) (dp_of dv_int)) dv_int (dv_if (dt_cmp (dop_neS hr.units) (nomark _) (dp_of (dv_var (pe_var (i := 19) rfl (.inl rfl)))) (dp_of dv_int)) dv_int dv_int))))) dap_nil))) (dp_of dv_int))) (db_cons (ds_if (dt_cmp (dop_neS hr.units) (nomark _) (dp_of (dv_callB (bc_repr hG (room66 hr)) (by rfl) T.m_repr (by decide +kernel) (dap_cons (dp_of (dv_call (ok_poly_of T) (hr.mono (by decide)) (by rfl) T.g_poly_of T.F_poly_of.kp T.b_poly_of (da_cons (dv_fz (dl_comp rfl sc_law.nd (own := [("n", 10)]) (blkOk_by (N := ["script", "source", "far", "polys", "lots", "lap", "factors", "roots", "poly", "many", "n", "both", "late", "told", "wide", "some", "line", "due", "a", "b", "c"]) (sc := (defScope s_law)) (by decide +kernel)) (by decide) (di_range1 (by rfl) T.m_range (dp_of (dv_var (pe_var (i := 9) rfl (.inl rfl))))) (fun _ _ _ _ _ => (dg_name (i := 10) sc_law.nd rfl (.inl rfl))) (fun _ _ _ _ _ => dts_nil) (fun _ _ _ _ _ => (dv_call (ok__law_value T) (hr.mono (by decide)) (by rfl) T.g__law_value T.F__law_value.kp T.b__law_value (da_cons (dv_var (pe_var (i := 6) rfl (.inr (.inl rfl)))) (da_cons (dv_var (pe_var (i := 10) rfl (.inl rfl))) da_nil)))))) da_nil))) dap_nil))) (dp_of (dv_callB (bc_repr hG (room66 hr)) (by rfl) T.m_repr (by decide +kernel) (dap_cons (dp_of (dv_var (pe_var (i := 8) rfl (.inl rfl)))) dap_nil)))) (db_one (ds_ret dv_bl)) db_nil) (db_cons (ds_if (dw_pt (dw_or (dt_cmp (dop_neS hr.units) (nomark _) (dp_of (dv_callB (bc_repr hG (room66 hr)) (by rfl) T.m_repr (by decide +kernel) (dap_cons (dp_of (dv_call (ok_poly_roots T) (hr.mono (by decide)) (by rfl) T.g_poly_roots T.F_poly_roots.kp T.b_poly_roots (da_cons (dv_var (pe_var (i := 8) rfl (.inl rfl))) da_nil))) dap_nil))) (dp_of (dv_callB (bc_repr hG (room66 hr)) (by rfl) T.m_repr (by decide +kernel) (dap_cons (dp_of (dv_callTy bc_tuple (by rfl) T.m_tuple (by decide +kernel) (dap_cons (dp_of (dv_var (pe_var (i := 7) rfl (.inl rfl)))) dap_nil))) dap_nil)))) (dw_or1 (dt_cmp dop_ge (nomark _) (dp_of (dv_callB bc_lenD (by rfl) T.m_len (by decide +kernel) (dap_cons (dp_of (dv_var (pe_var (i := 7) rfl (.inl rfl)))) dap_nil))) (dp_of (dv_callB bc_lenD (by rfl) T.m_len (by decide +kernel) (dap_cons (dp_of (dv_var (pe_var (i := 8) rfl (.inl rfl)))) dap_nil))))))) (db_one (ds_ret dv_bl)) db_nil) (db_cons (ds_for PassesOwn.never rfl (di_seq (dv_op dop_add (dp_of (dv_var (pe_var (i := 7) rfl (.inl rfl)))) (dp_new (dl_disp (da_cons (dv_neg (dp_of dv_int)) (da_cons dv_int (da_cons (dv_op dop_sub (dp_of dv_int) (dp_of (dv_var (pe_var (i := 2) rfl (.inl rfl))))) da_nil))))))) (dg_name (i := 10) sc_law.nd rfl (.inl rfl)) (cb := law_b1) (db_one (ds_if (dt_cmp (dop_neS hr.units) (nomark _) (dp_of (dv_call (ok_poly_at T) (hr.mono (by decide)) (by rfl) T.g_poly_at T.F_poly_at.kp T.b_poly_at (da_cons (dv_var (pe_var (i := 8) rfl (.inl rfl))) (da_cons (dv_var (pe_var (i := 10) rfl (.inl rfl))) da_nil)))) (dp_of (dv_call (ok__law_value T) (hr.mono (by decide)) (by rfl) T.g__law_value T.F__law_value.kp T.b__law_value (da_cons (dv_var (pe_var (i := 6) rfl (.inr (.inl rfl)))) (da_cons (dv_var (pe_var (i := 10) rfl (.inl rfl))) da_nil))))) (db_one (ds_ret dv_bl)) db_nil))) (db_cons (ds_if (dt_not (dt_val (dp_of (dv_call (ok__law_moved_right T) (hr.mono (by decide)) (by rfl) T.g__law_moved_right T.F__law_moved_right.kp T.b__law_moved_right (da_cons (dv_var (pe_var (i := 6) rfl (.inr (.inl rfl)))) (da_cons (dv_callS (pe_var (i := 1) rfl (.inl rfl)) (ok__law_of T) (hr.mono (by decide)) (by rfl) T.g__law_of T.F__law_of.kp T.b__law_of (da_cons (dv_fz (dl_disp (da_cons dv_int (da_cons (dv_neg (dp_of dv_int)) (da_cons dv_int (da_cons dv_int da_nil)))))) da_nil)) da_nil)))))) (db_one (ds_ret dv_bl)) db_nil) (db_cons (ds_append (pe_var (i := 3) rfl (.inl rfl)) (dv_var (pe_var (i := 8) rfl (.inl rfl))) (fun ha => pe_bm PySem.F.plainAttrs_list PySem.F.slot_list_append PySem.F.type_list_append mt_append (pe_var (i := 3) rfl (.inl rfl)) ha)) (db_one (ds_append (pe_var (i := 4) rfl (.inr (.inl rfl))) (dv_var (pe_var (i := 7) rfl (.inl rfl))) (fun ha => pe_bm PySem.F.plainAttrs_list PySem.F.slot_list_append PySem.F.type_list_append mt_append (pe_var (i := 4) rfl (.inr (.inl rfl))) ha)))))))))))) (db_cons (ds_if (dt_cmp (dop_lt hr.units0) (nomark _) (dp_of (dv_op dop_add (dp_of (dv_callB bc_lenD (by rfl) T.m_len (by decide +kernel) (dap_cons (dp_of (dv_ix (room1 hr) (dp_var (pe_var (i := 3) rfl (.inl rfl))) (dp_of dv_int))) dap_nil))) (dp_of (dv_callB bc_lenD (by rfl) T.m_len (by decide +kernel) (dap_cons (dp_of (dv_ix (room1 hr) (dp_var (pe_var (i := 3) rfl (.inl rfl))) (dp_of dv_int))) dap_nil))))) (dp_of dv_int)) (db_cons (ds_set (i := 11) sc_law.nd rfl (.inl rfl) (dv_call (ok_poly_roots T) (hr.mono (by decide)) (by rfl) T.g_poly_roots T.F_poly_roots.kp T.b_poly_roots (da_cons (dv_call (ok_poly_product T) (hr.mono (by decide)) (by rfl) T.g_poly_product T.F_poly_product.kp T.b_poly_product (da_cons (dv_ix (room1 hr) (dp_var (pe_var (i := 3) rfl (.inl rfl))) (dp_of dv_int)) (da_cons (dv_ix (room1 hr) (dp_var (pe_var (i := 3) rfl (.inl rfl))) (dp_of dv_int)) da_nil))) da_nil))) (db_one (ds_if (dt_cmp (dop_neS hr.units) (nomark _) (dp_new (dl_list (by rfl) T.m_list (dp_of (dv_var (pe_var (i := 11) rfl (.inl rfl)))))) (dp_new (dl_sorted rfl (by rfl) T.m_sorted (dp_of (dv_callTy (bc_dict rfl (room3 hr)) (by rfl) T.m_dict (by decide +kernel) (dap_cons (dp_new (dl_comp rfl sc_law.nd (own := [("n", 10)]) (blkOk_by (N := ["script", "source", "far", "polys", "lots", "lap", "factors", "roots", "poly", "many", "n", "both", "late", "told", "wide", "some", "line", "due", "a", "b", "c"]) (sc := (defScope s_law)) (by decide +kernel)) (by decide) (di_seq (dv_op dop_add (dp_of (dv_ix (room1 hr) (dp_var (pe_var (i := 4) rfl (.inr (.inl rfl)))) (dp_of dv_int))) (dp_of (dv_ix (room1 hr) (dp_var (pe_var (i := 4) rfl (.inr (.inl rfl)))) (dp_of dv_int))))) (fun _ _ _ _ _ => (dg_name (i := 10) sc_law.nd rfl (.inl rfl))) (fun _ _ _ _ _ => dts_nil) (fun _ _ _ _ _ => (dv_tup (da_cons (dv_var (pe_var (i := 10) rfl (.inl rfl))) (da_cons dv_int da_nil)))))) dap_nil)))))) (db_one (ds_ret dv_bl)) db_nil))) db_nil) (db_cons (ds_set (i := 12) sc_law.nd rfl (.inl rfl) (dv_if (dt_cmp (dop_eqS hr.units) (nomark _) (dp_of (dv_callS (pe_var (i := 1) rfl (.inl rfl)) (ok__law_pick T) (hr.mono (by decide)) (by rfl) T.g__law_pick T.F__law_pick.kp T.b__law_pick (da_cons dv_int da_nil))) (dp_of dv_int)) (dv_call (ok_poly_sum T) (hr.mono (by decide)) (by rfl) T.g_poly_sum T.F_poly_sum.kp T.b_poly_sum (da_cons (dv_ix (room1 hr) (dp_var (pe_var (i := 3) rfl (.inl rfl))) (dp_of dv_int)) (da_cons (dv_ix (room1 hr) (dp_var (pe_var (i := 3) rfl (.inl rfl))) (dp_of dv_int)) da_nil))) (dv_call (ok_poly_less T) (hr.mono (by decide)) (by rfl) T.g_poly_less T.F_poly_less.kp T.b_poly_less (da_cons (dv_ix (room1 hr) (dp_var (pe_var (i := 3) rfl (.inl rfl))) (dp_of dv_int)) (da_cons (dv_ix (room1 hr) (dp_var (pe_var (i := 3) rfl (.inl rfl))) (dp_of dv_int)) da_nil))))) (db_cons (ds_set (i := 13) sc_law.nd rfl (.inr rfl) (dv_if (dt_cmp (dop_neS hr.units) (nomark _) (dp_of (dv_var (pe_var (i := 12) rfl (.inl rfl)))) (dp_of (dv_tup da_nil))) (dv_call (ok_poly_roots T) (hr.mono (by decide)) (by rfl) T.g_poly_roots T.F_poly_roots.kp T.b_poly_roots (da_cons (dv_var (pe_var (i := 12) rfl (.inl rfl))) da_nil)) (dv_ix (room1 hr) (dp_var (pe_var (i := 4) rfl (.inr (.inl rfl)))) (dp_of dv_int)))) (db_cons (ds_if (dt_cmp (dop_neS hr.units) (nomark _) (dp_new (dl_comp rfl sc_law.nd (own := [("n", 10)]) (blkOk_by (N := ["script", "source", "far", "polys", "lots", "lap", "factors", "roots", "poly", "many", "n", "both", "late", "told", "wide", "some", "line", "due", "a", "b", "c"]) (sc := (defScope s_law)) (by decide +kernel)) (by decide) (di_seq (dv_ix (room1 hr) (dp_var (pe_var (i := 4) rfl (.inr (.inl rfl)))) (dp_of dv_int))) (fun _ _ _ _ _ => (dg_name (i := 10) sc_law.nd rfl (.inl rfl))) (fun _ _ _ _ _ => (dts_one (dw_pt (dw_and (dt_cmp (dop_in (room65 hr)) (by rfl) (dp_of (dv_var (pe_var (i := 10) rfl (.inl rfl)))) (dp_of (dv_ix (room1 hr) (dp_var (pe_var (i := 4) rfl (.inr (.inl rfl)))) (dp_of dv_int)))) (dw_and1 (dt_cmp (dop_notin (room65 hr)) (by rfl) (dp_of (dv_var (pe_var (i := 10) rfl (.inl rfl)))) (dp_of (dv_var (pe_var (i := 13) rfl (.inr (.inl rfl))))))))))) (fun _ _ _ _ _ => (dv_var (pe_var (i := 10) rfl (.inl rfl)))))) (dp_new (dl_disp da_nil))) (db_one (ds_ret dv_bl)) db_nil) (db_cons (ds_set (i := 14) sc_law.nd rfl (.inl rfl) (dv_callS (pe_var (i := 1) rfl (.inl rfl)) (ok__law_of T) (hr.mono (by decide)) (by rfl) T.g__law_of T.F__law_of.kp T.b__law_of (da_cons (dv_fz (dl_disp (da_cons (dv_op dop_pow (dp_of dv_int) (dp_of dv_int)) (da_cons (dv_op dop_pow (dp_of dv_int) (dp_of dv_int)) da_nil)))) da_nil))) (db_cons (ds_set (i := 15) sc_law.nd rfl (.inl rfl) (dv_fz (dl_disp (da_cons (dv_tup (da_cons dv_int (da_cons dv_int (da_cons (dv_op dop_sub (dp_of dv_int) (dp_of (dv_var (pe_var (i := 14) rfl (.inl rfl))))) da_nil)))) (da_cons (dv_tup (da_cons dv_int (da_cons (dv_neg (dp_of dv_int)) (da_cons (dv_op dop_sub (dp_of dv_int) (dp_of (dv_op dop_mulT (dp_of dv_int) (dp_of (dv_var (pe_var (i := 14) rfl (.inl rfl))))))) da_nil)))) da_nil))))) (db_cons (ds_if (dt_cmp (dop_neS hr.units) (nomark _) (dp_of (dv_callB (bc_repr hG (room66 hr)) (by rfl) T.m_repr (by decide +kernel) (dap_cons (dp_of (dv_call (ok_poly_roots T) (hr.mono (by decide)) (by rfl) T.g_poly_roots T.F_poly_roots.kp T.b_poly_roots (da_cons (dv_call (ok__law_poly T) (hr.mono (by decide)) (by rfl) T.g__law_poly T.F__law_poly.kp T.b__law_poly (da_cons (dv_var (pe_var (i := 15) rfl (.inl rfl))) (da_cons dv_int da_nil))) da_nil))) dap_nil))) (dp_of (dv_callB (bc_repr hG (room66 hr)) (by rfl) T.m_repr (by decide +kernel) (dap_cons (dp_of (dv_tup (da_cons (dv_op dop_sub (dp_of dv_int) (dp_of (dv_var (pe_var (i := 14) rfl (.inl rfl))))) (da_cons (dv_var (pe_var (i := 14) rfl (.inl rfl))) da_nil)))) dap_nil)))) (db_one (ds_ret dv_bl)) db_nil) (db_cons (ds_if (dt_cmp (dop_neS hr.units) (nomark _) (dp_of (dv_call (ok_poly_roots T) (hr.mono (by decide)) (by rfl) T.g_poly_roots T.F_poly_roots.kp T.b_poly_roots (da_cons (dv_call (ok__law_poly T) (hr.mono (by decide)) (by rfl) T.g__law_poly T.F__law_poly.kp T.b__law_poly (da_cons (dv_fz (dl_disp (da_cons (dv_tup (da_cons dv_int (da_cons dv_int (da_cons (dv_op dop_sub (dp_of dv_int) (dp_of (dv_op dop_mulT (dp_of (dv_var (pe_var (i := 14) rfl (.inl rfl)))) (dp_of (dv_var (pe_var (i := 14) rfl (.inl rfl))))))) da_nil)))) da_nil))) (da_cons dv_int da_nil))) da_nil))) (dp_of (dv_tup da_nil))) (db_one (ds_ret dv_bl)) db_nil) (db_cons (ds_set (i := 16) sc_law.nd rfl (.inl rfl) (dv_tup (da_cons (dv_callS (pe_var (i := 1) rfl (.inl rfl)) (ok__law_of T) (hr.mono (by decide)) (by rfl) T.g__law_of T.F__law_of.kp T.b__law_of (da_cons (dv_fz (dl_disp (da_cons (dv_var (pe_var (i := 14) rfl (.inl rfl))) (da_cons (dv_neg (dp_of dv_int)) (da_cons dv_int da_nil))))) da_nil)) (da_cons (dv_callS (pe_var (i := 1) rfl (.inl rfl)) (ok__law_of T) (hr.mono (by decide)) (by rfl) T.g__law_of T.F__law_of.kp T.b__law_of (da_cons (dv_fz (dl_disp (da_cons dv_int (da_cons (dv_neg (dp_of dv_int)) (da_cons dv_int (da_cons dv_int da_nil)))))) da_nil)) da_nil)))) (db_cons (ds_set (i := 17) sc_law.nd rfl (.inl rfl) (dv_if (dt_cmp (dop_eqS hr.units) (nomark _) (dp_of (dv_op dop_mod (dp_of (dv_callTy bc_int (by rfl) T.m_int (by decide +kernel) (dap_cons (dp_of (dv_ix (room1 hr) (dp_of (dv_var (pe_var (i := 16) rfl (.inl rfl)))) (dp_of dv_int))) dap_nil))) (dp_of (dv_callB bc_abs (by rfl) T.m_abs (by decide +kernel) (dap_cons (dp_of (dv_ix (room1 hr) (dp_of (dv_var (pe_var (i := 16) rfl (.inl rfl)))) (dp_of dv_int))) dap_nil))))) (dp_of dv_int)) (dv_tup (da_cons (dv_op dop_sub (dp_of dv_int) (dp_of (dv_op dop_fdiv (dp_of (dv_ix (room1 hr) (dp_of (dv_var (pe_var (i := 16) rfl (.inl rfl)))) (dp_of dv_int))) (dp_of (dv_ix (room1 hr) (dp_of (dv_var (pe_var (i := 16) rfl (.inl rfl)))) (dp_of dv_int)))))) da_nil)) (dv_tup da_nil))) (db_one (ds_ret (dv_cmp (dop_eqS hr.units) (nomark _) (dp_of (dv_callB (bc_repr hG (room66 hr)) (by rfl) T.m_repr (by decide +kernel) (dap_cons (dp_new (dl_disp (da_cons (dv_call (ok_poly_roots T) (hr.mono (by decide)) (by rfl) T.g_poly_roots T.F_poly_roots.kp T.b_poly_roots (da_cons (dv_var (pe_var (i := 16) rfl (.inl rfl))) da_nil)) (da_cons (dv_call (ok_poly_roots T) (hr.mono (by decide)) (by rfl) T.g_poly_roots T.F_poly_roots.kp T.b_poly_roots (da_cons (dv_tup (da_cons (dv_ix (room1 hr) (dp_of (dv_var (pe_var (i := 16) rfl (.inl rfl)))) (dp_of dv_int)) da_nil)) da_nil)) da_nil)))) dap_nil))) (dp_of (dv_callB (bc_repr hG (room66 hr)) (by rfl) T.m_repr (by decide +kernel) (dap_cons (dp_new (dl_disp (da_cons (dv_var (pe_var (i := 17) rfl (.inl rfl))) (da_cons (dv_tup da_nil) da_nil)))) dap_nil))))))))))))))))))))
end
theorem all_mk {l : PySem.W.OpenLaw} {w : World} {K : PySem.W.Frag} {h : Heap} {mg : Str → Option Value} {fa f0 f1 f2 f3 f4 f5 f6 f7 f8 f9 f10 f11 f12 f13 f14 f15 f16 f17 f18 f19 f20 f21 : Addr} (X : K.In h) (G : h.Ns mainGlobals mg) (hfa : mg "law" = some (.ref fa))
    {od0 an0 od1 an1 od2 an2 od3 an3 od4 an4 od5 an5 od6 an6 od7 an7 od8 an8 od9 an9 od10 an10 od11 an11 od12 an12 od13 an13 od14 an14 od15 an15 od16 an16 od17 an17 od18 an18 od19 an19 od20 an20 od21 an21 : Option Addr} {sl0 sl1 sl2 sl3 sl4 sl5 sl6 sl7 sl8 sl9 sl10 sl11 sl12 sl13 sl14 sl15 sl16 sl17 sl18 sl19 sl20 sl21 : Array (Option Value)} {oc0 kV0 dc0 pm0 cd0 ct0 oc1 kV1 dc1 pm1 cd1 ct1 oc2 kV2 dc2 pm2 cd2 ct2 oc3 kV3 dc3 pm3 cd3 ct3 oc4 kV4 dc4 pm4 cd4 ct4 oc5 kV5 dc5 pm5 cd5 ct5 oc6 kV6 dc6 pm6 cd6 ct6 oc7 kV7 dc7 pm7 cd7 ct7 oc8 kV8 dc8 pm8 cd8 ct8 oc9 kV9 dc9 pm9 cd9 ct9 oc10 kV10 dc10 pm10 cd10 ct10 oc11 kV11 dc11 pm11 cd11 ct11 oc12 kV12 dc12 pm12 cd12 ct12 oc13 kV13 dc13 pm13 cd13 ct13 oc14 kV14 dc14 pm14 cd14 ct14 oc15 kV15 dc15 pm15 cd15 ct15 oc16 kV16 dc16 pm16 cd16 ct16 oc17 kV17 dc17 pm17 cd17 ct17 oc18 kV18 dc18 pm18 cd18 ct18 oc19 kV19 dc19 pm19 cd19 ct19 oc20 kV20 dc20 pm20 cd20 ct20 oc21 kV21 dc21 pm21 cd21 ct21 : Value}
    (a0 : PySem.W.nsIn K mainGlobals "choose" = some (some (.ref f0))) (l0 : K.lookup f0 = some ⟨oc0, od0, .func (PySem.W.fnOf "choose" "choose" (defArgs s_choose) (defBody s_choose) (defScope s_choose) .none kV0 dc0 pm0 an0 cd0 ct0), sl0⟩) (c0 : PySem.W.codeIn K cd0 "choose" = true) (k0 : PySem.W.keepIn K (.ref f0) = true)
    (a1 : PySem.W.nsIn K mainGlobals "poly_least" = some (some (.ref f1))) (l1 : K.lookup f1 = some ⟨oc1, od1, .func (PySem.W.fnOf "poly_least" "poly_least" (defArgs s_poly_least) (defBody s_poly_least) (defScope s_poly_least) .none kV1 dc1 pm1 an1 cd1 ct1), sl1⟩) (c1 : PySem.W.codeIn K cd1 "poly_least" = true) (k1 : PySem.W.keepIn K (.ref f1) = true)
    (a2 : PySem.W.nsIn K mainGlobals "poly_of" = some (some (.ref f2))) (l2 : K.lookup f2 = some ⟨oc2, od2, .func (PySem.W.fnOf "poly_of" "poly_of" (defArgs s_poly_of) (defBody s_poly_of) (defScope s_poly_of) .none kV2 dc2 pm2 an2 cd2 ct2), sl2⟩) (c2 : PySem.W.codeIn K cd2 "poly_of" = true) (k2 : PySem.W.keepIn K (.ref f2) = true)
    (a3 : PySem.W.nsIn K mainGlobals "poly_at" = some (some (.ref f3))) (l3 : K.lookup f3 = some ⟨oc3, od3, .func (PySem.W.fnOf "poly_at" "poly_at" (defArgs s_poly_at) (defBody s_poly_at) (defScope s_poly_at) .none kV3 dc3 pm3 an3 cd3 ct3), sl3⟩) (c3 : PySem.W.codeIn K cd3 "poly_at" = true) (k3 : PySem.W.keepIn K (.ref f3) = true)
    (a4 : PySem.W.nsIn K mainGlobals "poly_sum" = some (some (.ref f4))) (l4 : K.lookup f4 = some ⟨oc4, od4, .func (PySem.W.fnOf "poly_sum" "poly_sum" (defArgs s_poly_sum) (defBody s_poly_sum) (defScope s_poly_sum) .none kV4 dc4 pm4 an4 cd4 ct4), sl4⟩) (c4 : PySem.W.codeIn K cd4 "poly_sum" = true) (k4 : PySem.W.keepIn K (.ref f4) = true)
    (a5 : PySem.W.nsIn K mainGlobals "poly_times" = some (some (.ref f5))) (l5 : K.lookup f5 = some ⟨oc5, od5, .func (PySem.W.fnOf "poly_times" "poly_times" (defArgs s_poly_times) (defBody s_poly_times) (defScope s_poly_times) .none kV5 dc5 pm5 an5 cd5 ct5), sl5⟩) (c5 : PySem.W.codeIn K cd5 "poly_times" = true) (k5 : PySem.W.keepIn K (.ref f5) = true)
    (a6 : PySem.W.nsIn K mainGlobals "poly_less" = some (some (.ref f6))) (l6 : K.lookup f6 = some ⟨oc6, od6, .func (PySem.W.fnOf "poly_less" "poly_less" (defArgs s_poly_less) (defBody s_poly_less) (defScope s_poly_less) .none kV6 dc6 pm6 an6 cd6 ct6), sl6⟩) (c6 : PySem.W.codeIn K cd6 "poly_less" = true) (k6 : PySem.W.keepIn K (.ref f6) = true)
    (a7 : PySem.W.nsIn K mainGlobals "poly_product" = some (some (.ref f7))) (l7 : K.lookup f7 = some ⟨oc7, od7, .func (PySem.W.fnOf "poly_product" "poly_product" (defArgs s_poly_product) (defBody s_poly_product) (defScope s_poly_product) .none kV7 dc7 pm7 an7 cd7 ct7), sl7⟩) (c7 : PySem.W.codeIn K cd7 "poly_product" = true) (k7 : PySem.W.keepIn K (.ref f7) = true)
    (a8 : PySem.W.nsIn K mainGlobals "far_of" = some (some (.ref f8))) (l8 : K.lookup f8 = some ⟨oc8, od8, .func (PySem.W.fnOf "far_of" "far_of" (defArgs s_far_of) (defBody s_far_of) (defScope s_far_of) .none kV8 dc8 pm8 an8 cd8 ct8), sl8⟩) (c8 : PySem.W.codeIn K cd8 "far_of" = true) (k8 : PySem.W.keepIn K (.ref f8) = true)
    (a9 : PySem.W.nsIn K mainGlobals "differences" = some (some (.ref f9))) (l9 : K.lookup f9 = some ⟨oc9, od9, .func (PySem.W.fnOf "differences" "differences" (defArgs s_differences) (defBody s_differences) (defScope s_differences) .none kV9 dc9 pm9 an9 cd9 ct9), sl9⟩) (c9 : PySem.W.codeIn K cd9 "differences" = true) (k9 : PySem.W.keepIn K (.ref f9) = true)
    (a10 : PySem.W.nsIn K mainGlobals "first_turned" = some (some (.ref f10))) (l10 : K.lookup f10 = some ⟨oc10, od10, .func (PySem.W.fnOf "first_turned" "first_turned" (defArgs s_first_turned) (defBody s_first_turned) (defScope s_first_turned) .none kV10 dc10 pm10 an10 cd10 ct10), sl10⟩) (c10 : PySem.W.codeIn K cd10 "first_turned" = true) (k10 : PySem.W.keepIn K (.ref f10) = true)
    (a11 : PySem.W.nsIn K mainGlobals "poly_turns" = some (some (.ref f11))) (l11 : K.lookup f11 = some ⟨oc11, od11, .func (PySem.W.fnOf "poly_turns" "poly_turns" (defArgs s_poly_turns) (defBody s_poly_turns) (defScope s_poly_turns) .none kV11 dc11 pm11 an11 cd11 ct11), sl11⟩) (c11 : PySem.W.codeIn K cd11 "poly_turns" = true) (k11 : PySem.W.keepIn K (.ref f11) = true)
    (a12 : PySem.W.nsIn K mainGlobals "poly_roots" = some (some (.ref f12))) (l12 : K.lookup f12 = some ⟨oc12, od12, .func (PySem.W.fnOf "poly_roots" "poly_roots" (defArgs s_poly_roots) (defBody s_poly_roots) (defScope s_poly_roots) .none kV12 dc12 pm12 an12 cd12 ct12), sl12⟩) (c12 : PySem.W.codeIn K cd12 "poly_roots" = true) (k12 : PySem.W.keepIn K (.ref f12) = true)
    (a13 : PySem.W.nsIn K mainGlobals "_law_source" = some (some (.ref f13))) (l13 : K.lookup f13 = some ⟨oc13, od13, .func (PySem.W.fnOf "_law_source" "_law_source" (defArgs s__law_source) (defBody s__law_source) (defScope s__law_source) .none kV13 dc13 pm13 an13 cd13 ct13), sl13⟩) (c13 : PySem.W.codeIn K cd13 "_law_source" = true) (k13 : PySem.W.keepIn K (.ref f13) = true)
    (a14 : PySem.W.nsIn K mainGlobals "_law_pick" = some (some (.ref f14))) (l14 : K.lookup f14 = some ⟨oc14, od14, .func (PySem.W.fnOf "_law_pick" "_law_pick" (defArgs s__law_pick) (defBody s__law_pick) (defScope s__law_pick) .none kV14 dc14 pm14 an14 cd14 ct14), sl14⟩) (c14 : PySem.W.codeIn K cd14 "_law_pick" = true) (k14 : PySem.W.keepIn K (.ref f14) = true)
    (a15 : PySem.W.nsIn K mainGlobals "_law_of" = some (some (.ref f15))) (l15 : K.lookup f15 = some ⟨oc15, od15, .func (PySem.W.fnOf "_law_of" "_law_of" (defArgs s__law_of) (defBody s__law_of) (defScope s__law_of) .none kV15 dc15 pm15 an15 cd15 ct15), sl15⟩) (c15 : PySem.W.codeIn K cd15 "_law_of" = true) (k15 : PySem.W.keepIn K (.ref f15) = true)
    (a16 : PySem.W.nsIn K mainGlobals "_law_binomials" = some (some (.ref f16))) (l16 : K.lookup f16 = some ⟨oc16, od16, .func (PySem.W.fnOf "_law_binomials" "_law_binomials" (defArgs s__law_binomials) (defBody s__law_binomials) (defScope s__law_binomials) .none kV16 dc16 pm16 an16 cd16 ct16), sl16⟩) (c16 : PySem.W.codeIn K cd16 "_law_binomials" = true) (k16 : PySem.W.keepIn K (.ref f16) = true)
    (a17 : PySem.W.nsIn K mainGlobals "_law_value" = some (some (.ref f17))) (l17 : K.lookup f17 = some ⟨oc17, od17, .func (PySem.W.fnOf "_law_value" "_law_value" (defArgs s__law_value) (defBody s__law_value) (defScope s__law_value) .none kV17 dc17 pm17 an17 cd17 ct17), sl17⟩) (c17 : PySem.W.codeIn K cd17 "_law_value" = true) (k17 : PySem.W.keepIn K (.ref f17) = true)
    (a18 : PySem.W.nsIn K mainGlobals "_law_poly" = some (some (.ref f18))) (l18 : K.lookup f18 = some ⟨oc18, od18, .func (PySem.W.fnOf "_law_poly" "_law_poly" (defArgs s__law_poly) (defBody s__law_poly) (defScope s__law_poly) .none kV18 dc18 pm18 an18 cd18 ct18), sl18⟩) (c18 : PySem.W.codeIn K cd18 "_law_poly" = true) (k18 : PySem.W.keepIn K (.ref f18) = true)
    (a19 : PySem.W.nsIn K mainGlobals "_law_factors" = some (some (.ref f19))) (l19 : K.lookup f19 = some ⟨oc19, od19, .func (PySem.W.fnOf "_law_factors" "_law_factors" (defArgs s__law_factors) (defBody s__law_factors) (defScope s__law_factors) .none kV19 dc19 pm19 an19 cd19 ct19), sl19⟩) (c19 : PySem.W.codeIn K cd19 "_law_factors" = true) (k19 : PySem.W.keepIn K (.ref f19) = true)
    (a20 : PySem.W.nsIn K mainGlobals "_law_moved_right" = some (some (.ref f20))) (l20 : K.lookup f20 = some ⟨oc20, od20, .func (PySem.W.fnOf "_law_moved_right" "_law_moved_right" (defArgs s__law_moved_right) (defBody s__law_moved_right) (defScope s__law_moved_right) .none kV20 dc20 pm20 an20 cd20 ct20), sl20⟩) (c20 : PySem.W.codeIn K cd20 "_law_moved_right" = true) (k20 : PySem.W.keepIn K (.ref f20) = true)
    (a21 : PySem.W.nsIn K mainGlobals "law" = some (some (.ref f21))) (l21 : K.lookup f21 = some ⟨oc21, od21, .func (PySem.W.fnOf "law" "law" (defArgs s_law) (defBody s_law) (defScope s_law) .none kV21 dc21 pm21 an21 cd21 ct21), sl21⟩) (c21 : PySem.W.codeIn K cd21 "law" = true) (k21 : PySem.W.keepIn K (.ref f21) = true)
    (z0 : PySem.W.nsIn K mainGlobals "abs" = some none)
    (z1 : PySem.W.nsIn K mainGlobals "dict" = some none)
    (z2 : PySem.W.nsIn K mainGlobals "enumerate" = some none)
    (z3 : PySem.W.nsIn K mainGlobals "int" = some none)
    (z4 : PySem.W.nsIn K mainGlobals "len" = some none)
    (z5 : PySem.W.nsIn K mainGlobals "list" = some none)
    (z6 : PySem.W.nsIn K mainGlobals "max" = some none)
    (z7 : PySem.W.nsIn K mainGlobals "range" = some none)
    (z8 : PySem.W.nsIn K mainGlobals "repr" = some none)
    (z9 : PySem.W.nsIn K mainGlobals "sorted" = some none)
    (z10 : PySem.W.nsIn K mainGlobals "sum" = some none)
    (z11 : PySem.W.nsIn K mainGlobals "tuple" = some none)
    (z12 : PySem.W.nsIn K mainGlobals "zip" = some none) :
    ∃ fd : FuncData, (∀ (s : Shared) (u : Value), BindsTo s fd ⟨[u], []⟩ [("script", u)]) ∧ ∀ base : Heap, K.In base → base.Ns mainGlobals mg → FnG l.prog w K mg base 7 fa fd ["script"] (spLaw K (lawM 21 1 cs_law)) := by
  have e := hfa.symm.trans (PySem.W.mg_of X G a21)
  cases e
  refine ⟨PySem.W.fnOf "law" "law" (defArgs s_law) (defBody s_law) (defScope s_law) .none kV21 dc21 pm21 an21 cd21 ct21, fun s v => .of_eq rfl, fun base _ _ => ?_⟩
  exact ok_law { f_choose := _, fd_choose := _, F_choose := fun_mk (st := s_choose) l0 c0 k0, b_choose := (fun_mk (st := s_choose) l0 c0 k0).binds (ps := ["number", "few"]) (fun _ _ _ _ _ _ us hl => match us, hl with | [_, _], _ => rfl), g_choose := PySem.W.mg_of X G a0, f_poly_least := _, fd_poly_least := _, F_poly_least := fun_mk (st := s_poly_least) l1 c1 k1, b_poly_least := (fun_mk (st := s_poly_least) l1 c1 k1).binds (ps := ["numbers"]) (fun _ _ _ _ _ _ us hl => match us, hl with | [_], _ => rfl), g_poly_least := PySem.W.mg_of X G a1, f_poly_of := _, fd_poly_of := _, F_poly_of := fun_mk (st := s_poly_of) l2 c2 k2, b_poly_of := (fun_mk (st := s_poly_of) l2 c2 k2).binds (ps := ["values"]) (fun _ _ _ _ _ _ us hl => match us, hl with | [_], _ => rfl), g_poly_of := PySem.W.mg_of X G a2, f_poly_at := _, fd_poly_at := _, F_poly_at := fun_mk (st := s_poly_at) l3 c3 k3, b_poly_at := (fun_mk (st := s_poly_at) l3 c3 k3).binds (ps := ["poly", "n"]) (fun _ _ _ _ _ _ us hl => match us, hl with | [_, _], _ => rfl), g_poly_at := PySem.W.mg_of X G a3, f_poly_sum := _, fd_poly_sum := _, F_poly_sum := fun_mk (st := s_poly_sum) l4 c4 k4, b_poly_sum := (fun_mk (st := s_poly_sum) l4 c4 k4).binds (ps := ["one", "other"]) (fun _ _ _ _ _ _ us hl => match us, hl with | [_, _], _ => rfl), g_poly_sum := PySem.W.mg_of X G a4, f_poly_times := _, fd_poly_times := _, F_poly_times := fun_mk (st := s_poly_times) l5 c5 k5, b_poly_times := (fun_mk (st := s_poly_times) l5 c5 k5).binds (ps := ["poly", "number"]) (fun _ _ _ _ _ _ us hl => match us, hl with | [_, _], _ => rfl), g_poly_times := PySem.W.mg_of X G a5, f_poly_less := _, fd_poly_less := _, F_poly_less := fun_mk (st := s_poly_less) l6 c6 k6, b_poly_less := (fun_mk (st := s_poly_less) l6 c6 k6).binds (ps := ["one", "other"]) (fun _ _ _ _ _ _ us hl => match us, hl with | [_, _], _ => rfl), g_poly_less := PySem.W.mg_of X G a6, f_poly_product := _, fd_poly_product := _, F_poly_product := fun_mk (st := s_poly_product) l7 c7 k7, b_poly_product := (fun_mk (st := s_poly_product) l7 c7 k7).binds (ps := ["one", "other"]) (fun _ _ _ _ _ _ us hl => match us, hl with | [_, _], _ => rfl), g_poly_product := PySem.W.mg_of X G a7, f_far_of := _, fd_far_of := _, F_far_of := fun_mk (st := s_far_of) l8 c8 k8, b_far_of := (fun_mk (st := s_far_of) l8 c8 k8).binds (ps := ["poly"]) (fun _ _ _ _ _ _ us hl => match us, hl with | [_], _ => rfl), g_far_of := PySem.W.mg_of X G a8, f_differences := _, fd_differences := _, F_differences := fun_mk (st := s_differences) l9 c9 k9, b_differences := (fun_mk (st := s_differences) l9 c9 k9).binds (ps := ["poly"]) (fun _ _ _ _ _ _ us hl => match us, hl with | [_], _ => rfl), g_differences := PySem.W.mg_of X G a9, f_first_turned := _, fd_first_turned := _, F_first_turned := fun_mk (st := s_first_turned) l10 c10 k10, b_first_turned := (fun_mk (st := s_first_turned) l10 c10 k10).binds (ps := ["poly", "low", "high"]) (fun _ _ _ _ _ _ us hl => match us, hl with | [_, _, _], _ => rfl), g_first_turned := PySem.W.mg_of X G a10, f_poly_turns := _, fd_poly_turns := _, F_poly_turns := fun_mk (st := s_poly_turns) l11 c11 k11, b_poly_turns := (fun_mk (st := s_poly_turns) l11 c11 k11).binds (ps := ["poly"]) (fun _ _ _ _ _ _ us hl => match us, hl with | [_], _ => rfl), g_poly_turns := PySem.W.mg_of X G a11, f_poly_roots := _, fd_poly_roots := _, F_poly_roots := fun_mk (st := s_poly_roots) l12 c12 k12, b_poly_roots := (fun_mk (st := s_poly_roots) l12 c12 k12).binds (ps := ["poly"]) (fun _ _ _ _ _ _ us hl => match us, hl with | [_], _ => rfl), g_poly_roots := PySem.W.mg_of X G a12, f__law_source := _, fd__law_source := _, F__law_source := fun_mk (st := s__law_source) l13 c13 k13, b__law_source := (fun_mk (st := s__law_source) l13 c13 k13).binds (ps := ["script"]) (fun _ _ _ _ _ _ us hl => match us, hl with | [_], _ => rfl), g__law_source := PySem.W.mg_of X G a13, f__law_pick := _, fd__law_pick := _, F__law_pick := fun_mk (st := s__law_pick) l14 c14 k14, b__law_pick := (fun_mk (st := s__law_pick) l14 c14 k14).binds (ps := ["source", "many"]) (fun _ _ _ _ _ _ us hl => match us, hl with | [_, _], _ => rfl), g__law_pick := PySem.W.mg_of X G a14, f__law_of := _, fd__law_of := _, F__law_of := fun_mk (st := s__law_of) l15 c15 k15, b__law_of := (fun_mk (st := s__law_of) l15 c15 k15).binds (ps := ["source", "some"]) (fun _ _ _ _ _ _ us hl => match us, hl with | [_, _], _ => rfl), g__law_of := PySem.W.mg_of X G a15, f__law_binomials := _, fd__law_binomials := _, F__law_binomials := fun_mk (st := s__law_binomials) l16 c16 k16, b__law_binomials := (fun_mk (st := s__law_binomials) l16 c16 k16).binds (ps := ["values"]) (fun _ _ _ _ _ _ us hl => match us, hl with | [_], _ => rfl), g__law_binomials := PySem.W.mg_of X G a16, f__law_value := _, fd__law_value := _, F__law_value := fun_mk (st := s__law_value) l17 c17 k17, b__law_value := (fun_mk (st := s__law_value) l17 c17 k17).binds (ps := ["factors", "n"]) (fun _ _ _ _ _ _ us hl => match us, hl with | [_, _], _ => rfl), g__law_value := PySem.W.mg_of X G a17, f__law_poly := _, fd__law_poly := _, F__law_poly := fun_mk (st := s__law_poly) l18 c18 k18, b__law_poly := (fun_mk (st := s__law_poly) l18 c18 k18).binds (ps := ["factors", "more"]) (fun _ _ _ _ _ _ us hl => match us, hl with | [_, _], _ => rfl), g__law_poly := PySem.W.mg_of X G a18, f__law_factors := _, fd__law_factors := _, F__law_factors := fun_mk (st := s__law_factors) l19 c19 k19, b__law_factors := (fun_mk (st := s__law_factors) l19 c19 k19).binds (ps := ["source", "far"]) (fun _ _ _ _ _ _ us hl => match us, hl with | [_, _], _ => rfl), g__law_factors := PySem.W.mg_of X G a19, f__law_moved_right := _, fd__law_moved_right := _, F__law_moved_right := fun_mk (st := s__law_moved_right) l20 c20 k20, b__law_moved_right := (fun_mk (st := s__law_moved_right) l20 c20 k20).binds (ps := ["factors", "more"]) (fun _ _ _ _ _ _ us hl => match us, hl with | [_, _], _ => rfl), g__law_moved_right := PySem.W.mg_of X G a20, f_law := _, fd_law := _, F_law := fun_mk (st := s_law) l21 c21 k21, b_law := (fun_mk (st := s_law) l21 c21 k21).binds (ps := ["script"]) (fun _ _ _ _ _ _ us hl => match us, hl with | [_], _ => rfl), g_law := PySem.W.mg_of X G a21, m_abs := PySem.W.mg_none_of X G z0, m_dict := PySem.W.mg_none_of X G z1, m_enumerate := PySem.W.mg_none_of X G z2, m_int := PySem.W.mg_none_of X G z3, m_len := PySem.W.mg_none_of X G z4, m_list := PySem.W.mg_none_of X G z5, m_max := PySem.W.mg_none_of X G z6, m_range := PySem.W.mg_none_of X G z7, m_repr := PySem.W.mg_none_of X G z8, m_sorted := PySem.W.mg_none_of X G z9, m_sum := PySem.W.mg_none_of X G z10, m_tuple := PySem.W.mg_none_of X G z11, m_zip := PySem.W.mg_none_of X G z12 }
end W
open PySem PySem.W PyProof.Rows
set_option maxRecDepth 100000 in
set_option maxHeartbeats 0 in
theorem PySem.Challenge.cw_deeplots_k08_whole_roots_of_several_holds : PySem.Challenge.rw_deeplots_k08_whole_roots_of_several.Holds := by
  w_on; o_law; k_head; (case hw => w_witness2)
  k_fill
  refine DL.walk_law (l := PySem.Challenge.rw_deeplots_k08_whole_roots_of_several) (k := 7) rfl rfl ⟨rfl, by decide, by decide⟩ (fun w h Y => PySem.W.kIn_of Y) W.law_true ?F
  case F =>
    intro w mg fa h KX G hmg
    refine' W.all_mk KX G hmg ?a0 ?l0 ?c0 ?k0 ?a1 ?l1 ?c1 ?k1 ?a2 ?l2 ?c2 ?k2 ?a3 ?l3 ?c3 ?k3 ?a4 ?l4 ?c4 ?k4 ?a5 ?l5 ?c5 ?k5 ?a6 ?l6 ?c6 ?k6 ?a7 ?l7 ?c7 ?k7 ?a8 ?l8 ?c8 ?k8 ?a9 ?l9 ?c9 ?k9 ?a10 ?l10 ?c10 ?k10 ?a11 ?l11 ?c11 ?k11 ?a12 ?l12 ?c12 ?k12 ?a13 ?l13 ?c13 ?k13 ?a14 ?l14 ?c14 ?k14 ?a15 ?l15 ?c15 ?k15 ?a16 ?l16 ?c16 ?k16 ?a17 ?l17 ?c17 ?k17 ?a18 ?l18 ?c18 ?k18 ?a19 ?l19 ?c19 ?k19 ?a20 ?l20 ?c20 ?k20 ?a21 ?l21 ?c21 ?k21 ?z0 ?z1 ?z2 ?z3 ?z4 ?z5 ?z6 ?z7 ?z8 ?z9 ?z10 ?z11 ?z12
    (case a0 => k_is); (case l0 => k_is); (case c0 => k_is); (case k0 => k_is)
    (case a1 => k_is); (case l1 => k_is); (case c1 => k_is); (case k1 => k_is)
    (case a2 => k_is); (case l2 => k_is); (case c2 => k_is); (case k2 => k_is)
    (case a3 => k_is); (case l3 => k_is); (case c3 => k_is); (case k3 => k_is)
    (case a4 => k_is); (case l4 => k_is); (case c4 => k_is); (case k4 => k_is)
    (case a5 => k_is); (case l5 => k_is); (case c5 => k_is); (case k5 => k_is)
    (case a6 => k_is); (case l6 => k_is); (case c6 => k_is); (case k6 => k_is)
    (case a7 => k_is); (case l7 => k_is); (case c7 => k_is); (case k7 => k_is)
    (case a8 => k_is); (case l8 => k_is); (case c8 => k_is); (case k8 => k_is)
    (case a9 => k_is); (case l9 => k_is); (case c9 => k_is); (case k9 => k_is)
    (case a10 => k_is); (case l10 => k_is); (case c10 => k_is); (case k10 => k_is)
    (case a11 => k_is); (case l11 => k_is); (case c11 => k_is); (case k11 => k_is)
    (case a12 => k_is); (case l12 => k_is); (case c12 => k_is); (case k12 => k_is)
    (case a13 => k_is); (case l13 => k_is); (case c13 => k_is); (case k13 => k_is)
    (case a14 => k_is); (case l14 => k_is); (case c14 => k_is); (case k14 => k_is)
    (case a15 => k_is); (case l15 => k_is); (case c15 => k_is); (case k15 => k_is)
    (case a16 => k_is); (case l16 => k_is); (case c16 => k_is); (case k16 => k_is)
    (case a17 => k_is); (case l17 => k_is); (case c17 => k_is); (case k17 => k_is)
    (case a18 => k_is); (case l18 => k_is); (case c18 => k_is); (case k18 => k_is)
    (case a19 => k_is); (case l19 => k_is); (case c19 => k_is); (case k19 => k_is)
    (case a20 => k_is); (case l20 => k_is); (case c20 => k_is); (case k20 => k_is)
    (case a21 => k_is); (case l21 => k_is); (case c21 => k_is); (case k21 => k_is)
    (case z0 => k_is)
    (case z1 => k_is)
    (case z2 => k_is)
    (case z3 => k_is)
    (case z4 => k_is)
    (case z5 => k_is)
    (case z6 => k_is)
    (case z7 => k_is)
    (case z8 => k_is)
    (case z9 => k_is)
    (case z10 => k_is)
    (case z11 => k_is)
    (case z12 => k_is)
#print axioms PySem.Challenge.cw_deeplots_k08_whole_roots_of_several_holds
