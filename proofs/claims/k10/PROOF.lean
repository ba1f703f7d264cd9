import PyProof.Rows.All
import Wide.All
import OpenK.AllK
import Wide.FinOn
import HandS.ForMost
import HandS.TupAny
import HandS.TupLe
import HandS.TupMul
import PyProof.Rows.ReprR
import HandS.Star
import HandS.Style
import HandS.TupLen
import KE.KDictPairs
import PyProof.ReprLen
import PySem.Challenge.RW_deeplots_k10_patterns_by_all_later_parts
set_option Elab.async false
set_option linter.all false
set_option maxRecDepth 100000
set_option maxHeartbeats 4000000
namespace DL
open PySem

/-- a computation: it ends with a value, it is none of ours, or it draws a number from 0 to n - 1 -/
inductive M (α : Type) where
  | ret (a : α)
  | bad
  | pick (n : Int) (k : Int → M α)

def M.bind {α β : Type} : M α → (α → M β) → M β
  | .ret a, f => f a
  | .bad, _ => .bad
  | .pick n k, f => .pick n fun i => M.bind (k i) f

/-- on each way it ends with a value of which Q holds -/
def M.wp {α : Type} : M α → (α → Prop) → Prop
  | .ret a, Q => Q a
  | .bad, _ => False
  | .pick n k, Q => ∀ i : Int, 0 ≤ i → i < max 1 n → M.wp (k i) Q

theorem M.wp_mono {α : Type} {Q R : α → Prop} (h : ∀ a, Q a → R a) : ∀ {m : M α}, m.wp Q → m.wp R
  | .ret _, q => h _ q
  | .bad, q => q
  | .pick _ _, q => fun i h0 h1 => M.wp_mono h (q i h0 h1)
theorem M.wp_bind {α β : Type} {f : α → M β} {Q : β → Prop} : ∀ {m : M α}, (m.bind f).wp Q ↔ m.wp fun a => (f a).wp Q
  | .ret _ => Iff.rfl
  | .bad => Iff.rfl
  | .pick _ k => ⟨fun h i h0 h1 => (M.wp_bind (m := k i)).mp (h i h0 h1), fun h i h0 h1 => (M.wp_bind (m := k i)).mpr (h i h0 h1)⟩
theorem M.bind_ret {α : Type} : ∀ m : M α, m.bind .ret = m
  | .ret _ => rfl
  | .bad => rfl
  | .pick n k => by
    show M.pick n (fun i => (k i).bind .ret) = M.pick n k
    congr 1; funext i; exact M.bind_ret (k i)
theorem M.bind_assoc {α β γ : Type} {f : α → M β} {g : β → M γ} : ∀ m : M α, (m.bind f).bind g = m.bind fun a => (f a).bind g
  | .ret _ => rfl
  | .bad => rfl
  | .pick n k => by
    show M.pick n (fun i => ((k i).bind f).bind g) = M.pick n (fun i => (k i).bind fun a => (f a).bind g)
    congr 1; funext i; exact M.bind_assoc (k i)
@[simp] theorem M.ret_bind {α β : Type} (a : α) (f : α → M β) : (M.ret a).bind f = f a := rfl
@[simp] theorem M.bad_bind {α β : Type} (f : α → M β) : (M.bad : M α).bind f = M.bad := rfl
@[simp] theorem M.pick_bind {α β : Type} (n : Int) (k : Int → M α) (f : α → M β) : (M.pick n k).bind f = M.pick n fun i => (k i).bind f := rfl
@[simp] theorem M.wp_ret {α : Type} {a : α} {Q : α → Prop} : (M.ret a).wp Q ↔ Q a := Iff.rfl

/-- what a name of a frame holds: unknown, a value that stands still, a list or dict of the frame's own, the law's source -/
inductive Sl where
  | no
  | val (d : PyData)
  | own (ds : List PyData)
  | ownD (kvs : List (PyData × PyData))
  | src
abbrev En := List Sl
inductive Fl where
  | nx | bk | ct
  | rt (d : PyData)
abbrev CE := En → M PyData
abbrev CT := En → M Bool
abbrev CL := En → M (List PyData)
abbrev CG := En → PyData → M En
abbrev CS := En → M (Fl × En)
abbrev FD := List PyData → M PyData

/-! ### expressions -/
def cVar (i : Nat) : CE := fun e => match e[i]? with
  | some (.val d) => .ret d
  | _ => .bad
def cPeek (i : Nat) : CE := fun e => match e[i]? with
  | some (.val d) => .ret d
  | some (.own ds) => .ret (.list ds)
  | some (.ownD kvs) => .ret (.dict kvs)
  | _ => .bad
def cC (d : PyData) : CE := fun _ => .ret d
def cOp2 (m : PyData → PyData → M PyData) (a b : CE) : CE := fun e => (a e).bind fun x => (b e).bind fun y => m x y
def cOp1 (m : PyData → M PyData) (a : CE) : CE := fun e => (a e).bind m
def cIf (t : CT) (a b : CE) : CE := fun e => (t e).bind fun k => if k = true then a e else b e
def asB : PyData → M Bool
  | .bool b => .ret b
  | _ => .bad
def ctV (c : CE) : CT := fun e => (c e).bind asB
def ctNot (t : CT) : CT := fun e => (t e).bind fun k => .ret (!k)
def ctAnd (a b : CT) : CT := fun e => (a e).bind fun k => if k = true then b e else .ret false
def ctOr (a b : CT) : CT := fun e => (a e).bind fun k => if k = true then .ret true else b e
def ctYes : CT := fun _ => .ret true
def cNot (c : CE) : CE := fun e => (c e).bind fun x => (asB x).bind fun k => .ret (.bool (!k))
def cAnd (a b : CE) : CE := fun e => (a e).bind fun x => (asB x).bind fun k => if k = true then b e else .ret (.bool false)
def cOr (a b : CE) : CE := fun e => (a e).bind fun x => (asB x).bind fun k => if k = true then .ret (.bool true) else b e
def caNil : CL := fun _ => .ret []
def caCons (a : CE) (r : CL) : CL := fun e => (a e).bind fun x => (r e).bind fun xs => .ret (x :: xs)
def fits (ds : List PyData) : Bool := decide (ds.length ≤ sizeLine)
def cTup (a : CL) : CE := fun e => (a e).bind fun xs => if fits xs = true then .ret (.tuple xs) else .bad
/-- a new list by what stands in it -/
def clDisp (a : CL) : CL := fun e => (a e).bind fun xs => if fits xs = true then .ret xs else .bad
def cFz (c : CL) : CE := fun e => (c e).bind fun xs => .ret (.list xs)
def cCall (f : FD) (a : CL) : CE := fun e => (a e).bind f
def cCallS (i : Nat) (f : FD) (a : CL) : CE := fun e => match e[i]? with
  | some .src => (a e).bind f
  | _ => .bad

/-! ### what is walked -/
def itemsOf : PyData → M (List PyData)
  | .list xs => .ret xs
  | .tuple xs => .ret xs
  | _ => .bad
def ciSeq (c : CE) : CL := fun e => (c e).bind itemsOf
def intsFrom (lo : Int) (n : Nat) : List PyData := (List.range n).map fun (i : Nat) => PyData.int (lo + (i : Int))
def asI : PyData → M Int
  | .int i => .ret i
  | _ => .bad
def inB (i : Int) : Bool := decide (i.natAbs.log2 < 62)
theorem lt_log2 {n k : Nat} (h : n.log2 < k) : n < 2 ^ k := by
  by_cases h0 : n = 0
  · subst h0; exact Nat.two_pow_pos k
  · exact (Nat.log2_lt h0).mp h
theorem inB_iff {i : Int} (h : inB i = true) : -(2 ^ 62) ≤ i ∧ i < 2 ^ 62 := by
  have := lt_log2 (of_decide_eq_true h)
  omega
def ciRange1 (a : CE) : CL := fun e => (a e).bind fun x => (asI x).bind fun n => if inB n = true then .ret (intsFrom 0 n.toNat) else .bad
def ciRange2 (a b : CE) : CL := fun e => (a e).bind fun x => (b e).bind fun y => (asI x).bind fun l => (asI y).bind fun n => if (inB l && inB n) = true then .ret (intsFrom l (n - l).toNat) else .bad

/-! ### targets -/
def gSet (i : Nat) : CG := fun e d => .ret (e.set i (.val d))
def gGo : List CG → En → List PyData → M En
  | [], e, [] => .ret e
  | g :: gs, e, d :: ds => (g e d).bind fun e' => gGo gs e' ds
  | _, _, _ => .bad
def gTup (gs : List CG) : CG := fun e d => match d with
  | .tuple ds => gGo gs e ds
  | _ => .bad

/-! ### comprehensions -/
def wipeE (e : En) : List Nat → En
  | [] => e
  | v :: vs => (wipeE e vs).set v .no
def compGo (g : CG) (t : CT) (c : CE) (e : En) : List PyData → M (List PyData)
  | [] => .ret []
  | d :: ds => (g e d).bind fun e1 => (t e1).bind fun k => if k = true then (c e1).bind fun y => (compGo g t c e ds).bind fun ys => .ret (y :: ys) else compGo g t c e ds
def clComp (vs : List Nat) (ci : CL) (g : CG) (t : CT) (c : CE) : CL := fun e => (ci e).bind fun ds => if fits ds = true then compGo g t c (wipeE e vs) ds else .bad

/-! ### statements -/
def sNil : CS := fun e => .ret (.nx, e)
def sSeq (a b : CS) : CS := fun e => (a e).bind fun r => match r with
  | (.nx, e1) => b e1
  | r => .ret r
def sSet (i : Nat) (c : CE) : CS := fun e => (c e).bind fun d => .ret (.nx, e.set i (.val d))
def sOwn (i : Nat) (c : CL) : CS := fun e => (c e).bind fun ds => .ret (.nx, e.set i (.own ds))
def sRet (c : CE) : CS := fun e => (c e).bind fun d => .ret (.rt d, e)
def sDrop (c : CE) : CS := fun e => (c e).bind fun _ => .ret (.nx, e)
def sIf (t : CT) (a b : CS) : CS := fun e => (t e).bind fun k => if k = true then a e else b e
def sCont : CS := fun e => .ret (.ct, e)
def sBrk : CS := fun e => .ret (.bk, e)
/-- a list or dict of the frame's own stands still from here on -/
def sFrz (i : Nat) (r : CS) : CS := fun e => match e[i]? with
  | some (.own ds) => r (e.set i (.val (.list ds)))
  | some (.ownD kvs) => r (e.set i (.val (.dict kvs)))
  | _ => .bad
/-- as sFrz, but a value that stands still already goes on, too -/
def sFrzT (i : Nat) (r : CS) : CS := fun e => match e[i]? with
  | some (.own ds) => r (e.set i (.val (.list ds)))
  | some (.ownD kvs) => r (e.set i (.val (.dict kvs)))
  | some (.val _) => r e
  | _ => .bad
def sAsg (g : CG) (c : CE) : CS := fun e => (c e).bind fun d => (g e d).bind fun e' => .ret (.nx, e')
def sAug (i : Nat) (m : PyData → PyData → M PyData) (c : CE) : CS := fun e => (cVar i e).bind fun x => (c e).bind fun y => (m x y).bind fun d => .ret (.nx, e.set i (.val d))
def sAppend (i : Nat) (c : CE) : CS := fun e => match e[i]? with
  | some (.own _) => (c e).bind fun d => match e[i]? with
    | some (.own ds) => if ds.length < sizeLine then .ret (.nx, e.set i (.own (ds ++ [d]))) else .bad
    | _ => .bad
  | _ => .bad
def sExtend (i : Nat) (c : CE) : CS := fun e => match e[i]? with
  | some (.own ds) => (c e).bind fun d => (itemsOf d).bind fun xs => if ds.length + xs.length ≤ sizeLine then .ret (.nx, e.set i (.own (ds ++ xs))) else .bad
  | _ => .bad
def sExtendO (i j : Nat) : CS := fun e => match e[i]?, e[j]? with
  | some (.own ds), some (.own xs) => if ds.length + xs.length ≤ sizeLine then .ret (.nx, e.set i (.own (ds ++ xs))) else .bad
  | _, _ => .bad
/-- the last item goes -/
def sPop (i : Nat) : CS := fun e => match e[i]? with
  | some (.own (d :: ds)) => .ret (.nx, e.set i (.own (d :: ds).dropLast))
  | _ => .bad
def forGo (g : CG) (b : CS) : List PyData → En → M (Fl × En)
  | [], e => .ret (.nx, e)
  | d :: ds, e => (g e d).bind fun e1 => (b e1).bind fun r => match r with
    | (.nx, e2) => forGo g b ds e2
    | (.ct, e2) => forGo g b ds e2
    | (.bk, e2) => .ret (.nx, e2)
    | (.rt d, e2) => .ret (.rt d, e2)
def sFor (ci : CL) (g : CG) (b : CS) : CS := fun e => (ci e).bind fun ds => forGo g b ds e
def whileGo (t : CT) (b : CS) : Nat → En → M (Fl × En)
  | 0, _ => .bad
  | n + 1, e => (t e).bind fun k => if k = true then (b e).bind fun r => (match r with
    | (.nx, e2) => whileGo t b n e2
    | (.ct, e2) => whileGo t b n e2
    | (.bk, e2) => .ret (.nx, e2)
    | (.rt d, e2) => .ret (.rt d, e2)) else .ret (.nx, e)
def sWhile (n : Nat) (t : CT) (b : CS) : CS := whileGo t b n

/-! ### defs -/
def endOf : Fl × En → M PyData
  | (.rt d, _) => .ret d
  | (.nx, _) => .ret .none
  | _ => .bad
/-- a def of ps parameters, n names in all -/
def fnD (ps n : Nat) (b : CS) : FD := fun ds => if ds.length = ps then (b (ds.map .val ++ List.replicate (n - ps) .no)).bind endOf else .bad
/-- a def whose first parameter is the source -/
def fnS (ps n : Nat) (b : CS) : FD := fun ds => if ds.length + 1 = ps then (b (.src :: (ds.map .val ++ List.replicate (n - ps) .no))).bind endOf else .bad

/-! ### operations on data -/
def smallI (i : Int) : Bool := decide (i.natAbs.log2 < 1000000)
def mAdd : PyData → PyData → M PyData
  | .int i, .int j => .ret (.int (i + j))
  | .str a, .str b => if a.length + b.length ≤ sizeLine then .ret (.str (a ++ b)) else .bad
  | .list a, .list b => if a.length + b.length ≤ sizeLine then .ret (.list (a ++ b)) else .bad
  | .tuple a, .tuple b => if a.length + b.length ≤ sizeLine then .ret (.tuple (a ++ b)) else .bad
  | _, _ => .bad
def mSub : PyData → PyData → M PyData
  | .int i, .int j => .ret (.int (i - j))
  | _, _ => .bad
def mulOk (i j : Int) : Bool := decide (i.natAbs.log2 < 64) || decide (j.natAbs.log2 < 64) || (smallI i && smallI j)
def mMul : PyData → PyData → M PyData
  | .int i, .int j => if mulOk i j = true then .ret (.int (i * j)) else .bad
  | .list a, .int k => if inB k = true && decide (a.length * k.toNat ≤ sizeLine) then .ret (.list (List.replicate k.toNat a).flatten) else .bad
  | _, _ => .bad
def mFdiv : PyData → PyData → M PyData
  | .int i, .int j => if decide (j ≠ 0) && decide (j.natAbs < 1073741824) then .ret (.int (i.fdiv j)) else .bad
  | _, _ => .bad
def mMod : PyData → PyData → M PyData
  | .int i, .int j => if j ≠ 0 then .ret (.int (i.fmod j)) else .bad
  | _, _ => .bad
def mPow : PyData → PyData → M PyData
  | .int i, .int j => if decide (0 ≤ j) && decide (j.toNat ≤ 1000000) && decide (i.natAbs < 2 ^ 64) then .ret (.int (i ^ j.toNat)) else .bad
  | _, _ => .bad
def mAddI : PyData → PyData → M PyData
  | .int i, .int j => .ret (.int (i + j))
  | .str a, .str b => if a.length + b.length ≤ sizeLine then .ret (.str (a ++ b)) else .bad
  | _, _ => .bad
def mFdivI : PyData → PyData → M PyData
  | .int i, .int j => if decide (0 < j) && decide (j < 1073741824) then .ret (.int (i / j)) else .bad
  | _, _ => .bad
def mMulI : PyData → PyData → M PyData
  | .int i, .int j => if mulOk i j = true then .ret (.int (i * j)) else .bad
  | _, _ => .bad
def mNeg : PyData → M PyData
  | .int i => .ret (.int (-i))
  | _ => .bad
def mCmpI (p : Int → Int → Bool) : PyData → PyData → M PyData
  | .int i, .int j => .ret (.bool (p i j))
  | _, _ => .bad
def mEq (a b : PyData) : M PyData := if (SeqAt.shaped a && SeqAt.shaped b) = true then .ret (.bool (PyData.eqv a b)) else .bad
def mNe (a b : PyData) : M PyData := if (SeqAt.shaped a && SeqAt.shaped b) = true then .ret (.bool (!PyData.eqv a b)) else .bad
def isNoneD : PyData → Bool
  | .none => true
  | _ => false
def mIsN (a b : PyData) : M PyData := if isNoneD b = true then .ret (.bool (isNoneD a)) else .bad
def mNotN (a b : PyData) : M PyData := if isNoneD b = true then .ret (.bool (!isNoneD a)) else .bad
def asInts : List PyData → M (List Int)
  | [] => .ret []
  | .int i :: r => (asInts r).bind fun is => .ret (i :: is)
  | _ :: _ => .bad
def asIntsO : List PyData → Option (List Int)
  | [] => some []
  | .int i :: r => match asIntsO r with
    | some is => some (i :: is)
    | none => none
  | _ :: _ => none
/-- two tuples of whole numbers by p -/
def mTI (p : List Int → List Int → Bool) (a b : List PyData) : M PyData := match asIntsO a, asIntsO b with
  | some ns, some ms => .ret (.bool (p ns ms))
  | _, _ => .bad
def mLt : PyData → PyData → M PyData
  | .int i, .int j => .ret (.bool (decide (i < j)))
  | .tuple a, .tuple b => mTI HT.lexLt a b
  | _, _ => .bad
def leAt (ns ms : List Int) : Bool := Ob.lexAt (fun j => decide (ns.getD j 0 = ms.getD j 0)) (fun j => decide (ns.getD j 0 ≤ ms.getD j 0)) (decide (ns.length ≤ ms.length)) 0 (min ns.length ms.length)
def mLe : PyData → PyData → M PyData
  | .int i, .int j => .ret (.bool (decide (i ≤ j)))
  | .tuple a, .tuple b => mTI leAt a b
  | _, _ => .bad
def ofO : Option PyData → M PyData
  | some d => .ret d
  | none => .bad
def mIx : PyData → PyData → M PyData
  | .list xs, .int i => ofO (L2.atI xs i)
  | .tuple xs, .int i => ofO (L2.atI xs i)
  | _, _ => .bad
end DL
namespace DL
open PySem PySem.Spec PyProof.Rows L2

abbrev Hp0 : Hp := fun _ => none
/-- locked as u -/
def Fzn (H : Hp) (a : Addr) (u : HO) : Prop := ∃ o, H a = some (.frz o u)
/-- a list that stands still: locked -/
abbrev LsF (H : Hp) (a : Addr) (xs : List V) : Prop := Fzn H a (.lst xs)
/-- a tuple; a list that stands still -/
structure Kp (H H' : Hp) : Prop where
  tup : ∀ a xs, H a = some (.tup xs) → H' a = some (.tup xs)
  frz : ∀ a o u, H a = some (.frz o u) → H' a = some (.frz o u)
theorem Kp.refl (H : Hp) : Kp H H := ⟨fun _ _ h => h, fun _ _ _ h => h⟩
theorem Kp.trans {H H1 H2 : Hp} (a : Kp H H1) (b : Kp H1 H2) : Kp H H2 := ⟨fun c xs h => b.tup c xs (a.tup c xs h), fun c o u h => b.frz c o u (a.frz c o u h)⟩
theorem Fzn.kp {H H' : Hp} {a : Addr} {u : HO} (k : Kp H H') (h : Fzn H a u) : Fzn H' a u := let ⟨o, h⟩ := h; ⟨o, k.frz _ _ _ h⟩
theorem sqT_kp {K : PySem.W.Frag} {H H' : Hp} {a : Addr} {xs : List V} (k : Kp H H') (h : SqT K H a xs) : SqT K H' a xs := by
  rcases h with (h | ⟨o, h⟩) | h
  · exact .inl (.inl (k.tup _ _ h))
  · exact .inl (.inr ⟨o, k.frz _ _ _ h⟩)
  · exact .inr h

/-- the hash of a tuple of ints -/
def hashT (k : List Int) : Int := reduceHash (Builtin.Tuple.tupleHashOf (k.map hashInt))
abbrev KT3 := List (List Int × Addr × V)
/-- the entries of a dict whose keys are tuples of ints: the key's own object is told -/
def EnT (ks : KT3) (xs : List (List Int × Addr × Value)) : Prop := Paired (fun p q => p.1 = q.1 ∧ p.2.1 = q.2.1 ∧ RelV p.2.2 q.2.2) ks xs
def dtOk (p : Addr × KT3) (h : Heap) : Prop := p.2.length ≤ sizeLine ∧ (p.1 == sysModules) = false ∧ ∃ xs, EnT p.2 xs ∧
  ∃ o es ep, h.get? p.1 = some o ∧ o.ExactDict ∧ o.data = .dict es ep ∧ es.toList = xs.map (fun x => (⟨hashT x.1, .ref x.2.1, x.2.2⟩ : DictEntry)) ∧ (xs.map (·.1)).Nodup
abbrev DTO (p : Addr × KT3) : HO := .ext (dtOk p)
def keyD : Key → PyData
  | .inl i => .int i
  | .inr x => .str x
mutual
/-- the value stands for the data, and stands still -/
inductive Rep (K : PySem.W.Frag) (H : Hp) : V → PyData → Prop
  | non : Rep K H .non .none
  | bl (b : Bool) : Rep K H (.bl b) (.bool b)
  | int (i : Int) : Rep K H (.int i) (.int i)
  | str (x : Str) : Rep K H (.str x) (.str x)
  | lst {a : Addr} {xs : List V} {ds : List PyData} : LsF H a xs → RepA K H xs ds → Rep K H (.ref a) (.list ds)
  | tup {a : Addr} {xs : List V} {ds : List PyData} : SqT K H a xs → RepA K H xs ds → Rep K H (.ref a) (.tuple ds)
  | dK {a : Addr} {ks : List (Key × V)} {ds : List (PyData × PyData)} : Fzn H a (.dK ks) → RepK K H ks ds → Rep K H (.ref a) (.dict ds)
  | dT {a : Addr} {ks : List (List Int × Addr × V)} {ds : List (PyData × PyData)} : Fzn H a (DTO (a, ks)) → RepT K H ks ds → Rep K H (.ref a) (.dict ds)
inductive RepA (K : PySem.W.Frag) (H : Hp) : List V → List PyData → Prop
  | nil : RepA K H [] []
  | cons {v : V} {vs : List V} {d : PyData} {ds : List PyData} : Rep K H v d → RepA K H vs ds → RepA K H (v :: vs) (d :: ds)
inductive RepK (K : PySem.W.Frag) (H : Hp) : List (Key × V) → List (PyData × PyData) → Prop
  | nil : RepK K H [] []
  | cons {k : Key} {v : V} {ks : List (Key × V)} {d : PyData} {ds : List (PyData × PyData)} : Rep K H v d → RepK K H ks ds → RepK K H ((k, v) :: ks) ((keyD k, d) :: ds)
inductive RepT (K : PySem.W.Frag) (H : Hp) : List (List Int × Addr × V) → List (PyData × PyData) → Prop
  | nil : RepT K H [] []
  | cons {k : List Int} {b : Addr} {v : V} {ks : List (List Int × Addr × V)} {d : PyData} {ds : List (PyData × PyData)} : SqT K H b (k.map V.int) → Rep K H v d → RepT K H ks ds → RepT K H ((k, b, v) :: ks) ((.tuple (k.map PyData.int), d) :: ds)
end
section
variable {K : PySem.W.Frag} {H H' : Hp}
mutual
theorem Rep.kp (k : Kp H H') : ∀ {d : PyData} {v : V}, Rep K H v d → Rep K H' v d
  | .none, _, h => by cases h; exact .non
  | .bool b, _, h => by cases h; exact .bl b
  | .int i, _, h => by cases h; exact .int i
  | .str x, _, h => by cases h; exact .str x
  | .list ds, _, h => by
    cases h with
    | lst h1 h2 => exact .lst (h1.kp k) (RepA.kp k h2)
  | .tuple ds, _, h => by
    cases h with
    | tup h1 h2 => exact .tup (sqT_kp k h1) (RepA.kp k h2)
  | .dict kvs, _, h => by
    cases h with
    | dK h1 h2 => exact .dK (h1.kp k) (RepK.kp k h2)
    | dT h1 h2 => exact .dT (h1.kp k) (RepT.kp k h2)
theorem RepA.kp (k : Kp H H') : ∀ {ds : List PyData} {vs : List V}, RepA K H vs ds → RepA K H' vs ds
  | [], _, h => by cases h; exact .nil
  | d :: ds, _, h => by
    cases h with
    | cons h1 h2 => exact .cons (Rep.kp k h1) (RepA.kp k h2)
theorem RepK.kp (k : Kp H H') : ∀ {ds : List (PyData × PyData)} {vs : List (Key × V)}, RepK K H vs ds → RepK K H' vs ds
  | [], _, h => by cases h; exact .nil
  | (_, d) :: ds, _, h => by
    cases h with
    | cons h1 h2 => exact .cons (Rep.kp k h1) (RepK.kp k h2)
theorem RepT.kp (k : Kp H H') : ∀ {ds : List (PyData × PyData)} {vs : List (List Int × Addr × V)}, RepT K H vs ds → RepT K H' vs ds
  | [], _, h => by cases h; exact .nil
  | (_, d) :: ds, _, h => by
    cases h with
    | cons h0 h1 h2 => exact .cons (sqT_kp k h0) (Rep.kp k h1) (RepT.kp k h2)
end
theorem RepA.length : ∀ {vs : List V} {ds : List PyData}, RepA K H vs ds → vs.length = ds.length
  | _, _, .nil => rfl
  | _, _, .cons _ t => by rw [List.length_cons, List.length_cons, t.length]
theorem RepA.append : ∀ {vs us : List V} {ds es : List PyData}, RepA K H vs ds → RepA K H us es → RepA K H (vs ++ us) (ds ++ es)
  | _, _, _, _, .nil, s => s
  | _, _, _, _, .cons r t, s => .cons r (t.append s)
theorem RepA.get : ∀ {vs : List V} {ds : List PyData} {i : Nat}, RepA K H vs ds → ∀ {d}, ds[i]? = some d → ∃ v, vs[i]? = some v ∧ Rep K H v d
  | _, _, _, .nil, _, e => by simp at e
  | _, _, 0, .cons r _, _, e => by simp at e; subst e; exact ⟨_, rfl, r⟩
  | _, _, i + 1, .cons _ t, d, e => by
    obtain ⟨v, h1, h2⟩ := t.get (i := i) (d := d) (by simpa using e)
    exact ⟨v, by simpa using h1, h2⟩
theorem RepA.take : ∀ {vs : List V} {ds : List PyData} (n : Nat), RepA K H vs ds → RepA K H (vs.take n) (ds.take n)
  | _, _, 0, _ => .nil
  | _, _, _ + 1, .nil => .nil
  | _, _, n + 1, .cons r t => .cons r (t.take n)
theorem RepA.drop : ∀ {vs : List V} {ds : List PyData} (n : Nat), RepA K H vs ds → RepA K H (vs.drop n) (ds.drop n)
  | _, _, 0, r => r
  | _, _, _ + 1, .nil => .nil
  | _, _, n + 1, .cons _ t => t.drop n
theorem RepA.dropLast {vs : List V} {ds : List PyData} (h : RepA K H vs ds) : RepA K H vs.dropLast ds.dropLast := by
  rw [List.dropLast_eq_take, List.dropLast_eq_take, h.length]
  exact h.take _
theorem RepA.flat {vs : List V} {ds : List PyData} (h : RepA K H vs ds) : ∀ n : Nat, RepA K H (List.replicate n vs).flatten (List.replicate n ds).flatten
  | 0 => .nil
  | n + 1 => by
    rw [List.replicate_succ, List.replicate_succ, List.flatten_cons, List.flatten_cons]
    exact h.append (h.flat n)
theorem RepA.reverse : ∀ {vs : List V} {ds : List PyData}, RepA K H vs ds → RepA K H vs.reverse ds.reverse
  | _, _, .nil => .nil
  | _, _, .cons r t => by
    rw [List.reverse_cons, List.reverse_cons]
    exact t.reverse.append (.cons r .nil)
theorem RepA.bools : ∀ {vs : List V} {bs : List Bool}, RepA K H vs (bs.map PyData.bool) → vs = bs.map V.bl
  | _, [], h => by cases h; rfl
  | _, b :: bs, h => by
    rw [List.map_cons] at h
    cases h with
    | cons r t =>
      cases r
      rw [List.map_cons, RepA.bools t]
theorem RepA.ints : ∀ {vs : List V} {ns : List Int}, RepA K H vs (ns.map PyData.int) → vs = ns.map V.int
  | _, [], h => by cases h; rfl
  | _, b :: bs, h => by
    rw [List.map_cons] at h
    cases h with
    | cons r t =>
      cases r
      rw [List.map_cons, RepA.ints t]
theorem RepA.of_ints : ∀ (ns : List Int), RepA K H (ns.map V.int) (ns.map PyData.int)
  | [] => .nil
  | n :: ns => .cons (.int n) (RepA.of_ints ns)
end

/-! ### the law's source: its dict and its list of cells -/
abbrev SrcA := Option (Addr × Addr)
def inS : SrcA → Addr → Prop
  | none, _ => False
  | some (s, c), a => a = s ∨ a = c
def SrcAt (s c : Addr) (H : Hp) : Prop := s ≠ c ∧ ∃ (cells : List Int) (left mixed turn : Int), H c = some (.lst (cells.map V.int)) ∧
  H s = some (.dK [(.inr "cells", .ref c), (.inr "left", .int left), (.inr "mixed", .int mixed), (.inr "turn", .int turn)]) ∧ (∀ x ∈ cells, 0 ≤ x) ∧ 0 ≤ left ∧ 0 ≤ mixed ∧ mixed < 2147483648 ∧ 0 ≤ turn
def SrcOk : SrcA → Hp → Prop
  | none, _ => True
  | some (s, c), H => SrcAt s c H
/-- all but the source's own is as it was -/
def SameX (S : SrcA) (H H' : Hp) : Prop := ∀ a o, ¬ inS S a → H a = some o → H' a = some o
theorem SameX.refl {S : SrcA} (H : Hp) : SameX S H H := fun _ _ _ h => h
theorem SameX.trans {S : SrcA} {H H1 H2 : Hp} (a : SameX S H H1) (b : SameX S H1 H2) : SameX S H H2 := fun c o n h => b c o n (a c o n h)
theorem SameX.of {S : SrcA} {H H' : Hp} (h : Same H H') : SameX S H H' := fun a o _ e => h a o e
theorem SrcOk.same {S : SrcA} {H H' : Hp} (h : Same H H') (k : SrcOk S H) : SrcOk S H' := by
  match S, k with
  | none, _ => trivial
  | some (s, c), ⟨n, cells, l, m, t, h1, h2, r⟩ => exact ⟨n, cells, l, m, t, h _ _ h1, h _ _ h2, r⟩
theorem inS.lst {S : SrcA} {H : Hp} (k : SrcOk S H) {a : Addr} (h : inS S a) : (∃ xs, H a = some (.lst xs)) ∨ ∃ ks, H a = some (.dK ks) := by
  match S, k, h with
  | some (s, c), ⟨n, cells, l, m, t, h1, h2, r⟩, .inl e => exact .inr ⟨_, e ▸ h2⟩
  | some (s, c), ⟨n, cells, l, m, t, h1, h2, r⟩, .inr e => exact .inl ⟨_, e ▸ h1⟩
theorem SameX.kp {S : SrcA} {H H' : Hp} (k : SrcOk S H) (h : SameX S H H') : Kp H H' := by
  refine ⟨fun a xs e => h a _ (fun z => ?_) e, fun a o u e => h a _ (fun z => ?_) e⟩ <;>
    (rcases inS.lst k z with ⟨_, q⟩ | ⟨_, q⟩ <;> (rw [e] at q; cases q))

/-- as Rep, but the thing itself may be a list or dict of the frame's own -/
inductive RepP (K : PySem.W.Frag) (S : SrcA) (H : Hp) : V → PyData → Prop
  | rep {v : V} {d : PyData} : Rep K H v d → RepP K S H v d
  | own {a : Addr} {xs : List V} {ds : List PyData} : ¬ inS S a → H a = some (.lst xs) → RepA K H xs ds → RepP K S H (.ref a) (.list ds)
  | ownK {a : Addr} {ks : List (Key × V)} {ds : List (PyData × PyData)} : ¬ inS S a → H a = some (.dK ks) → RepK K H ks ds → RepP K S H (.ref a) (.dict ds)
  | ownT {a : Addr} {ks : List (List Int × Addr × V)} {ds : List (PyData × PyData)} : ¬ inS S a → H a = some (DTO (a, ks)) → RepT K H ks ds → RepP K S H (.ref a) (.dict ds)
theorem RepP.same {K : PySem.W.Frag} {S : SrcA} {H H' : Hp} (k : SrcOk S H) (h : SameX S H H') {v : V} {d : PyData} (r : RepP K S H v d) : RepP K S H' v d := by
  cases r with
  | rep r => exact .rep (r.kp (h.kp k))
  | own n e r => exact .own n (h _ _ n e) (r.kp (h.kp k))
  | ownK n e r => exact .ownK n (h _ _ n e) (r.kp (h.kp k))
  | ownT n e r => exact .ownT n (h _ _ n e) (r.kp (h.kp k))
/-- a list, as it is read -/
theorem RepP.listR {K : PySem.W.Frag} {S : SrcA} {H : Hp} {v : V} {ds : List PyData} (r : RepP K S H v (.list ds)) : ∃ a xs, v = .ref a ∧ Rd H a (.lst xs) ∧ RepA K H xs ds := by
  cases r with
  | rep r =>
    cases r with
    | lst h1 h2 => exact ⟨_, _, rfl, .inr h1, h2⟩
  | own n e r => exact ⟨_, _, rfl, .inl e, r⟩
theorem RepP.list {K : PySem.W.Frag} {S : SrcA} {H : Hp} {v : V} {ds : List PyData} (r : RepP K S H v (.list ds)) : ∃ a xs, v = .ref a ∧ SqL K H a xs ∧ RepA K H xs ds :=
  let ⟨a, xs, e, h, q⟩ := r.listR; ⟨a, xs, e, .inl h, q⟩
theorem RepP.tuple {K : PySem.W.Frag} {S : SrcA} {H : Hp} {v : V} {ds : List PyData} (r : RepP K S H v (.tuple ds)) : ∃ a xs, v = .ref a ∧ SqT K H a xs ∧ RepA K H xs ds := by
  cases r with
  | rep r =>
    cases r with
    | tup h1 h2 => exact ⟨_, _, rfl, h1, h2⟩
theorem RepP.int {K : PySem.W.Frag} {S : SrcA} {H : Hp} {v : V} {i : Int} (r : RepP K S H v (.int i)) : v = .int i := by
  cases r with
  | rep r => cases r; rfl
theorem RepP.bool {K : PySem.W.Frag} {S : SrcA} {H : Hp} {v : V} {i : Bool} (r : RepP K S H v (.bool i)) : v = .bl i := by
  cases r with
  | rep r => cases r; rfl
theorem RepP.str {K : PySem.W.Frag} {S : SrcA} {H : Hp} {v : V} {i : Str} (r : RepP K S H v (.str i)) : v = .str i := by
  cases r with
  | rep r => cases r; rfl
theorem RepP.none {K : PySem.W.Frag} {S : SrcA} {H : Hp} {v : V} (r : RepP K S H v .none) : v = .non := by
  cases r with
  | rep r => cases r; rfl

/-! ### slots -/
inductive RelSl (K : PySem.W.Frag) (S : SrcA) (Z : Addr → Prop) (H : Hp) : Option V → Sl → Prop
  | no {o : Option V} : RelSl K S Z H o .no
  | val {v : V} {d : PyData} : Rep K H v d → RelSl K S Z H (some v) (.val d)
  | own {a : Addr} {xs : List V} {ds : List PyData} : ¬ inS S a → ¬ Z a → H a = some (.lst xs) → RepA K H xs ds → RelSl K S Z H (some (.ref a)) (.own ds)
  | ownK {a : Addr} {ks : List (Key × V)} {ds : List (PyData × PyData)} : ¬ inS S a → ¬ Z a → H a = some (.dK ks) → RepK K H ks ds → RelSl K S Z H (some (.ref a)) (.ownD ds)
  | ownT {a : Addr} {ks : List (List Int × Addr × V)} {ds : List (PyData × PyData)} : ¬ inS S a → ¬ Z a → H a = some (DTO (a, ks)) → RepT K H ks ds → RelSl K S Z H (some (.ref a)) (.ownD ds)
  | src {s c : Addr} : S = some (s, c) → RelSl K S Z H (some (.ref s)) .src
def isOwn : Sl → Bool
  | .own _ => true
  | .ownD _ => true
  | _ => false
def ownE (e : En) (i : Nat) : Prop := ∃ s, e[i]? = some s ∧ isOwn s = true
structure Rel (K : PySem.W.Frag) (S : SrcA) (Z : Addr → Prop) (σ : L2.St) (H : Hp) (e : En) : Prop where
  len : σ.length = e.length
  sl : ∀ (i : Nat) (s : Sl), e[i]? = some s → RelSl K S Z H (σ[i]?.join) s
  dis : ∀ (i j : Nat) (a : Addr), i ≠ j → ownE e i → ownE e j → σ[i]? = some (some (.ref a)) → σ[j]? ≠ some (some (.ref a))
  src : SrcOk S H
  zal : ∀ a, Z a → ∃ o, H a = some o
  zs : ∀ a, inS S a → ¬ Z a
section
variable {K : PySem.W.Frag} {S : SrcA} {Z : Addr → Prop} {σ : L2.St} {H H' : Hp} {e : En}
theorem Rel.same (R : Rel K S Z σ H e) (h : SameX S H H') (k : SrcOk S H') : Rel K S Z σ H' e := by
  have kp := h.kp R.src
  refine ⟨R.len, fun i s es => ?_, R.dis, k, fun a z => ?_, R.zs⟩
  · have q := R.sl i s es
    revert q
    generalize σ[i]?.join = o
    intro q
    cases q with
    | no => exact .no
    | val r => exact .val (r.kp kp)
    | own n z e r => exact .own n z (h _ _ n e) (r.kp kp)
    | ownK n z e r => exact .ownK n z (h _ _ n e) (r.kp kp)
    | ownT n z e r => exact .ownT n z (h _ _ n e) (r.kp kp)
    | src q => exact .src q
  · obtain ⟨o, q⟩ := R.zal a z
    exact ⟨o, h a o (fun x => R.zs a x z) q⟩
theorem get_join {i : Nat} {o : Option V} (h : σ[i]? = some o) : σ[i]?.join = o := by rw [h]; rfl
theorem join_some {i : Nat} {v : V} (h : σ[i]?.join = some v) : σ[i]? = some (some v) := by
  cases q : σ[i]? with
  | none => rw [q] at h; cases h
  | some o => rw [q] at h; cases h; rfl
theorem Rel.val (R : Rel K S Z σ H e) {i : Nat} {d : PyData} (h : e[i]? = some (.val d)) : ∃ v, σ[i]? = some (some v) ∧ Rep K H v d := by
  have q := R.sl i _ h
  generalize qe : σ[i]?.join = o at q
  cases q with
  | val r => exact ⟨_, join_some qe, r⟩
theorem Rel.own (R : Rel K S Z σ H e) {i : Nat} {ds : List PyData} (h : e[i]? = some (.own ds)) : ∃ a xs, σ[i]? = some (some (.ref a)) ∧ ¬ inS S a ∧ ¬ Z a ∧ H a = some (.lst xs) ∧ RepA K H xs ds := by
  have q := R.sl i _ h
  generalize qe : σ[i]?.join = o at q
  cases q with
  | own n z e r => exact ⟨_, _, join_some qe, n, z, e, r⟩
theorem Rel.ownD (R : Rel K S Z σ H e) {i : Nat} {ds : List (PyData × PyData)} (h : e[i]? = some (.ownD ds)) : ∃ a, σ[i]? = some (some (.ref a)) ∧ ¬ inS S a ∧ ¬ Z a ∧ ((∃ ks, H a = some (.dK ks) ∧ RepK K H ks ds) ∨ ∃ ks, H a = some (DTO (a, ks)) ∧ RepT K H ks ds) := by
  have q := R.sl i _ h
  generalize qe : σ[i]?.join = o at q
  cases q with
  | ownK n z e r => exact ⟨_, join_some qe, n, z, .inl ⟨_, e, r⟩⟩
  | ownT n z e r => exact ⟨_, join_some qe, n, z, .inr ⟨_, e, r⟩⟩
theorem Rel.srcAt (R : Rel K S Z σ H e) {i : Nat} (h : e[i]? = some .src) : ∃ s c, S = some (s, c) ∧ σ[i]? = some (some (.ref s)) := by
  have q := R.sl i _ h
  generalize qe : σ[i]?.join = o at q
  cases q with
  | src q => exact ⟨_, _, q, join_some qe⟩
theorem ownE_set_val {i j : Nat} {d : PyData} (h : ownE (e.set i (.val d)) j) : ownE e j := by
  obtain ⟨s, h1, h2⟩ := h
  by_cases ij : i = j
  · subst ij
    by_cases hl : i < e.length
    · rw [List.getElem?_set_self hl] at h1; cases h1; cases h2
    · rw [List.getElem?_eq_none (by rw [List.length_set]; omega)] at h1; cases h1
  · rw [List.getElem?_set_ne ij] at h1; exact ⟨s, h1, h2⟩
theorem ownE_set_ne {i j : Nat} {s : Sl} (h : ownE (e.set i s) j) (n : j ≠ i) : ownE e j := by
  obtain ⟨s, h1, h2⟩ := h
  rw [List.getElem?_set_ne (Ne.symm n)] at h1; exact ⟨s, h1, h2⟩
/-- a slot that is not own is stored -/
theorem Rel.store (R : Rel K S Z σ H e) {i : Nat} {o : Option V} {s : Sl} (h : RelSl K S Z H o s) (hs : isOwn s = false) : Rel K S Z (σ.set i o) H (e.set i s) := by
  have own' : ∀ {j : Nat}, ownE (e.set i s) j → ownE e j ∧ i ≠ j := fun {j} q => by
    obtain ⟨s', h1, h2⟩ := q
    by_cases ij : i = j
    · subst ij
      by_cases hl : i < e.length
      · rw [List.getElem?_set_self hl] at h1; cases h1; rw [hs] at h2; cases h2
      · rw [List.getElem?_eq_none (by rw [List.length_set]; omega)] at h1; cases h1
    · rw [List.getElem?_set_ne ij] at h1; exact ⟨⟨s', h1, h2⟩, ij⟩
  refine ⟨by rw [List.length_set, List.length_set, R.len], fun j t hj => ?_, fun j k a jk hj hk h1 h2 => ?_, R.src, R.zal, R.zs⟩
  · by_cases ij : i = j
    · subst ij
      by_cases hl : i < e.length
      · rw [List.getElem?_set_self hl] at hj; cases hj
        rw [List.getElem?_set_self (by rw [R.len]; exact hl)]
        exact h
      · rw [List.getElem?_eq_none (by rw [List.length_set]; omega)] at hj; cases hj
    · rw [List.getElem?_set_ne ij] at hj ⊢
      exact R.sl j t hj
  · obtain ⟨oj, ij⟩ := own' hj
    obtain ⟨ok, ik⟩ := own' hk
    rw [List.getElem?_set_ne ij] at h1
    rw [List.getElem?_set_ne ik] at h2
    exact R.dis j k a jk oj ok h1 h2
theorem Rel.set (R : Rel K S Z σ H e) {i : Nat} {v : V} {d : PyData} (h : Rep K H v d) : Rel K S Z (σ.set i (some v)) H (e.set i (.val d)) := R.store (.val h) rfl
theorem Rel.wipe (R : Rel K S Z σ H e) : ∀ vs : List Nat, Rel K S Z (L2.wipe σ vs) H (wipeE e vs)
  | [] => R
  | v :: vs => (R.wipe vs).store .no rfl
end
end DL
namespace DL
open PySem PySem.Spec PyProof.Rows L2

/-! ### heaps -/
theorem same_new {H : Hp} {p : Addr} {u : HO} (h : H p = none) : Same H (upd H p u) := fun b o e => by
  rw [upd_ne (ne_of_none e h)]; exact e
theorem Kp.of {H H' : Hp} (h : Same H H') : Kp H H' := ⟨fun _ _ e => h _ _ e, fun _ _ _ e => h _ _ e⟩
theorem not_new {S : SrcA} {H : Hp} (k : SrcOk S H) {p : Addr} (h : H p = none) : ¬ inS S p := fun z => by
  rcases inS.lst k z with ⟨_, q⟩ | ⟨_, q⟩ <;> (rw [h] at q; cases q)

/-! ### a thing stands still from here on -/
section
variable {X : Cx} {pins : List (Addr × Obj)} {σ : L2.St} {H : Hp} {s : Shared}
theorem Inv.lock (I : Inv X pins σ H s) {a : Addr} {u : HO} (h : H a = some u) (hu : (∃ xs, u = .lst xs) ∨ (∃ ks, u = .dK ks) ∨ ∃ ks, u = DTO ks) : ∃ o, Inv X pins σ (upd H a (.frz o u)) s := by
  have ok := I.hok a u h
  obtain ⟨o, ho⟩ : ∃ o, s.heap.get? a = some o := by
    rcases hu with ⟨xs, rfl⟩ | ⟨ks, rfl⟩ | ⟨ks, rfl⟩
    · obtain ⟨_, _, _, _, e⟩ := ok; exact ⟨_, e⟩
    · obtain ⟨_, _, _, _, o, _, _, e, _⟩ := ok; exact ⟨_, e⟩
    · exact ok.2.1
  have hne : ∀ b v, H b = some v → (∀ xs, v ≠ .lst xs) → (∀ ks, v ≠ .dK ks) → (∀ ks, v ≠ DTO ks) → b ≠ a := fun b v e n1 n2 n3 z => by
    subst z; rw [h] at e; cases e
    rcases hu with ⟨xs, rfl⟩ | ⟨ks, rfl⟩ | ⟨ks, rfl⟩
    · exact n1 _ rfl
    · exact n2 _ rfl
    · exact n3 _ rfl
  have hnn : ∀ b, H b = none → b ≠ a := fun b e z => by subst z; rw [h] at e; cases e
  have un : Un X.fs [] H (upd H a (.frz o u)) s.heap s.heap := by
    refine ⟨fun b ob q _ _ _ => q, fun b ob q _ _ _ => ⟨ob.slots, q⟩, fun b ob q n _ => ?_, fun b ob q _ => ⟨ob, q⟩, fun b xs q => ?_, fun b ob xs q => ?_, fun b ps q => ⟨#[], ?_⟩⟩
    · rw [upd_ne (hnn b n)]; exact n
    · rw [upd_ne (hne b _ q (fun _ z => nomatch z) (fun _ z => nomatch z) (fun _ z => nomatch z))]; exact q
    · rw [upd_ne (hne b _ q (fun _ z => nomatch z) (fun _ z => nomatch z) (fun _ z => nomatch z))]; exact q
    · rw [upd_ne (hne b _ q (fun _ z => nomatch z) (fun _ z => nomatch z) (fun _ z => nomatch z)), q]; simp
  refine ⟨o, ?_⟩
  have I' := I.un (h' := s.heap) (t' := s.toks) (H' := upd H a (.frz o u)) (un.mono (fun _ z => z) (fun _ z => nomatch z)) (fun b v q => ?_)
  · exact I'
  · by_cases hb : b = a
    · subst hb
      rw [upd_same] at q; cases q
      refine ⟨ho, ok.stay (fun _ _ _ r => r) (fun c r => ?_) (fun c xs r => ?_)⟩
      · rw [upd_ne (hne c _ r (fun _ z => nomatch z) (fun _ z => nomatch z) (fun _ z => nomatch z))]; exact r
      · rw [upd_ne (hne c _ r (fun _ z => nomatch z) (fun _ z => nomatch z) (fun _ z => nomatch z))]; exact r
    · rw [upd_ne hb] at q
      refine (I.hok b v q).stay (fun _ _ _ r => r) (fun c r => ?_) (fun c xs r => ?_)
      · rw [upd_ne (hne c _ r (fun _ z => nomatch z) (fun _ z => nomatch z) (fun _ z => nomatch z))]; exact r
      · rw [upd_ne (hne c _ r (fun _ z => nomatch z) (fun _ z => nomatch z) (fun _ z => nomatch z))]; exact r
/-- a new list, locked at once -/
def Lk (Q : VK) : VK := fun v H' => ∃ a u, v = .ref a ∧ H' a = some u ∧ ((∃ xs, u = .lst xs) ∨ (∃ ks, u = .dK ks) ∨ ∃ ks, u = DTO ks) ∧ ∀ o, Q v (upd H' a (.frz o u))
theorem EP.lock {Q : VK} {u : Value} (h : EP X pins σ (Lk Q) u s) : EP X pins σ Q u s := by
  obtain ⟨v, H', I, r, a, w, e, h1, h2, q⟩ := h
  obtain ⟨o, I'⟩ := Inv.lock I h1 h2
  exact ⟨v, _, I', r, q o⟩
theorem PE.imp {e : Expr} {t t' : TE} (h : PE X e t) (i : ∀ σ H Q, t' σ H Q → t σ H Q) : PE X e t' := ⟨fun pins s σ H Q I q => h.run pins s σ H Q I (i σ H Q q)⟩
theorem PT.imp {e : Expr} {t t' : TT} (h : PT X e t) (i : ∀ σ H Q, t' σ H Q → t σ H Q) : PT X e t' := ⟨fun pins s σ H Q I q => h.run pins s σ H Q I (i σ H Q q)⟩
theorem PW.imp {e : Expr} {t t' : TT} (h : PW X e t) (i : ∀ σ H Q, t' σ H Q → t σ H Q) : PW X e t' := ⟨fun wh pins s σ H Q I q => h.run wh pins s σ H Q I (i σ H Q q)⟩
theorem PA.imp {e : List Expr} {t t' : TA} (h : PA X e t) (i : ∀ σ H Q, t' σ H Q → t σ H Q) : PA X e t' := ⟨fun pos pins s σ H Q I q => h.run pos pins s σ H Q I (i σ H Q q)⟩
theorem PE.lock {e : Expr} {t : TE} (h : PE X e t) : PE X e (fun σ H Q => t σ H (Lk Q)) := ⟨fun pins s σ H Q I q => thn (h.run pins s σ H _ I q) fun u s1 h1 => EP.lock h1⟩
end

/-! ### the judgements -/
/-- behind an expression: the value stands as R tells for the data -/
def Aft (S : SrcA) (H : Hp) (R : Hp → V → PyData → Prop) (Q : VK) : PyData → Prop := fun d => ∀ v H', SameX S H H' → SrcOk S H' → R H' v d → Q v H'
def tD (S : SrcA) (Z : Addr → Prop) (K : PySem.W.Frag) (R : Hp → V → PyData → Prop) (c : CE) : TE := fun σ H Q => ∃ e, Rel K S Z σ H e ∧ (c e).wp (Aft S H R Q)
abbrev RV (K : PySem.W.Frag) : Hp → V → PyData → Prop := fun H v d => Rep K H v d
abbrev RP (K : PySem.W.Frag) (S : SrcA) : Hp → V → PyData → Prop := fun H v d => RepP K S H v d
abbrev Dv (X : Cx) (S : SrcA) (Z : Addr → Prop) (e : Expr) (c : CE) : Prop := PE X e (tD S Z X.K (RV X.K) c)
abbrev Dp (X : Cx) (S : SrcA) (Z : Addr → Prop) (e : Expr) (c : CE) : Prop := PE X e (tD S Z X.K (RP X.K S) c)
def tDt (S : SrcA) (Z : Addr → Prop) (K : PySem.W.Frag) (c : CT) : TT := fun σ H Q => ∃ e, Rel K S Z σ H e ∧ (c e).wp fun b => ∀ H', SameX S H H' → SrcOk S H' → Q b H'
abbrev Dt (X : Cx) (S : SrcA) (Z : Addr → Prop) (e : Expr) (c : CT) : Prop := PT X e (tDt S Z X.K c)
abbrev Dw (X : Cx) (S : SrcA) (Z : Addr → Prop) (e : Expr) (c : CT) : Prop := PW X e (tDt S Z X.K c)
def tDa (S : SrcA) (Z : Addr → Prop) (K : PySem.W.Frag) (R : Hp → V → PyData → Prop) (c : CL) : TA := fun σ H Q => ∃ e, Rel K S Z σ H e ∧ (c e).wp fun ds => ∀ vs H', SameX S H H' → SrcOk S H' → Paired (R H') vs ds → Q vs H'
abbrev Da (X : Cx) (S : SrcA) (Z : Addr → Prop) (es : List Expr) (c : CL) : Prop := PA X es (tDa S Z X.K (RV X.K) c)
abbrev Dap (X : Cx) (S : SrcA) (Z : Addr → Prop) (es : List Expr) (c : CL) : Prop := PA X es (tDa S Z X.K (RP X.K S) c)
/-- a new list, not locked: it stood nowhere ahead -/
def tDl (S : SrcA) (Z : Addr → Prop) (K : PySem.W.Frag) (c : CL) : TE := fun σ H Q => ∃ e, Rel K S Z σ H e ∧ (c e).wp fun ds => ∀ a xs H', SameX S H H' → SrcOk S H' → H a = none → H' a = some (.lst xs) → RepA K H' xs ds → Q (.ref a) H'
abbrev Dl (X : Cx) (S : SrcA) (Z : Addr → Prop) (e : Expr) (c : CL) : Prop := PE X e (tDl S Z X.K c)

theorem RepA.paired {K : PySem.W.Frag} {H : Hp} : ∀ {vs : List V} {ds : List PyData}, Paired (fun v d => Rep K H v d) vs ds → RepA K H vs ds
  | _, _, .nil => .nil
  | _, _, .cons r t => .cons r (RepA.paired t)
theorem Paired.mp {α β : Type} {F G : α → β → Prop} (h : ∀ a b, F a b → G a b) : ∀ {xs : List α} {ys : List β}, Paired F xs ys → Paired G xs ys
  | _, _, .nil => .nil
  | _, _, .cons r t => .cons (h _ _ r) (Paired.mp h t)

section
variable {X : Cx} {S : SrcA} {Z : Addr → Prop} {e ea eb : Expr} {c ca cb : CE} {pos : Pos}
theorem dp_of (h : Dv X S Z e c) : Dp X S Z e c := PE.imp h fun σ H Q ⟨en, R, w⟩ => ⟨en, R, M.wp_mono (fun d q v H' s k r => q v H' s k (.rep r)) w⟩
/-- a new list, locked -/
theorem dv_fz {cl : CL} (h : Dl X S Z e cl) : Dv X S Z e (cFz cl) := by
  refine PE.imp (PE.lock h) fun σ H Q ⟨en, R, w⟩ => ⟨en, R, M.wp_mono (fun ds q a xs H' s k n e r => ?_) (M.wp_bind.mp w)⟩
  refine ⟨a, _, rfl, e, .inl ⟨xs, rfl⟩, fun o => ?_⟩
  have s2 : SameX S H (upd H' a (.frz o (.lst xs))) := fun b ob nb eb => by
    rw [upd_ne (ne_of_none eb n)]; exact s b ob nb eb
  have na : ¬ inS S a := not_new R.src n
  have k2 : SrcOk S (upd H' a (.frz o (.lst xs))) := by
    match S, k, na with
    | none, _, _ => trivial
    | some (s, c), ⟨n, cells, l, m, t, h1, h2, r⟩, na =>
      refine ⟨n, cells, l, m, t, ?_, ?_, r⟩
      · rw [upd_ne (fun z => na (.inr z.symm))]; exact h1
      · rw [upd_ne (fun z => na (.inl z.symm))]; exact h2
  have kp : Kp H' (upd H' a (.frz o (.lst xs))) := by
    refine ⟨fun b ys eb => ?_, fun b ob u eb => ?_⟩
    · rw [upd_ne (fun z => by subst z; rw [e] at eb; cases eb)]; exact eb
    · rw [upd_ne (fun z => by subst z; rw [e] at eb; cases eb)]; exact eb
  exact q _ _ s2 k2 (.lst ⟨o, upd_same⟩ (r.kp kp))

/-! ### names, constants -/
theorem dv_var {i : Nat} {x : Str} {pos : Pos} (h : PE X (.Name x pos) (tVar i)) : Dv X S Z (.Name x pos) (cVar i) := by
  refine PE.imp h fun σ H Q ⟨en, R, w⟩ => ?_
  unfold cVar at w
  split at w
  · rename_i d hd
    obtain ⟨v, h1, h2⟩ := R.val hd
    exact ⟨v, h1, w v H (SameX.refl H) R.src h2⟩
  · exact w.elim
theorem dp_var {i : Nat} {x : Str} {pos : Pos} (h : PE X (.Name x pos) (tVar i)) : Dp X S Z (.Name x pos) (cPeek i) := by
  refine PE.imp h fun σ H Q ⟨en, R, w⟩ => ?_
  unfold cPeek at w
  split at w
  · rename_i d hd
    obtain ⟨v, h1, h2⟩ := R.val hd
    exact ⟨v, h1, w v H (SameX.refl H) R.src (.rep h2)⟩
  · rename_i d hd
    obtain ⟨a, xs, h1, n, z, h2, h3⟩ := R.own hd
    exact ⟨_, h1, w _ H (SameX.refl H) R.src (.own n h2 h3)⟩
  · rename_i d hd
    obtain ⟨a, h1, n, z, ⟨ks, h2, h3⟩ | ⟨ks, h2, h3⟩⟩ := R.ownD hd
    · exact ⟨_, h1, w _ H (SameX.refl H) R.src (.ownK n h2 h3)⟩
    · exact ⟨_, h1, w _ H (SameX.refl H) R.src (.ownT n h2 h3)⟩
  · exact w.elim
theorem dv_const {v : V} {d : PyData} (h : PE X e (tC v)) (r : ∀ H, Rep X.K H v d) : Dv X S Z e (cC d) :=
  PE.imp h fun σ H Q ⟨en, R, w⟩ => w v H (SameX.refl H) R.src (r H)
theorem dv_int {i j pos} : Dv X S Z (.Constant (.int i) j pos) (cC (.int i)) := dv_const pe_int fun _ => .int i
theorem dv_bl {b j pos} : Dv X S Z (.Constant (.bool b) j pos) (cC (.bool b)) := dv_const pe_bl fun _ => .bl b
theorem dv_non {j pos} : Dv X S Z (.Constant .none j pos) (cC .none) := dv_const pe_non fun _ => .non
theorem dv_str {x j pos} : Dv X S Z (.Constant (.str x) j pos) (cC (.str x)) := dv_const pe_str fun _ => .str x

/-! ### two-place operations -/
def rD (S : SrcA) (K : PySem.W.Frag) (m : PyData → PyData → M PyData) : R2 := fun v u H Q => ∃ x y, SrcOk S H ∧ RepP K S H v x ∧ RepP K S H u y ∧ (m x y).wp (Aft S H (RV K) Q)
theorem tD2 {r : R2} {m : PyData → PyData → M PyData} (hr : ∀ v u H Q, rD S X.K m v u H Q → r v u H Q) {σ : L2.St} {H : Hp} {Q : VK} (h : tD S Z X.K (RV X.K) (cOp2 m ca cb) σ H Q) :
    tOp r (tD S Z X.K (RP X.K S) ca) (tD S Z X.K (RP X.K S) cb) σ H Q := by
  obtain ⟨en, R, w⟩ := h
  refine ⟨en, R, M.wp_mono (fun x wx v H1 s1 k1 r1 => ?_) (M.wp_bind.mp w)⟩
  refine ⟨en, R.same s1 k1, M.wp_mono (fun y wy u H2 s2 k2 r2 => ?_) (M.wp_bind.mp wx)⟩
  exact hr v u H2 Q ⟨x, y, k2, r1.same k1 s2, r2, M.wp_mono (fun d q w' H3 s3 k3 r3 => q w' H3 ((s1.trans s2).trans s3) k3 r3) wy⟩
theorem dv_op {op : Operator} {m : PyData → PyData → M PyData} (ho : OpR X (binaryOp op) (rD S X.K m)) (ha : Dp X S Z ea ca) (hb : Dp X S Z eb cb) : Dv X S Z (.BinOp ea op eb pos) (cOp2 m ca cb) :=
  PE.imp (pe_op ho ha hb) fun σ H Q h => tD2 (fun _ _ _ _ q => q) h
theorem dv_cmp {op : CmpOp} {m : PyData → PyData → M PyData} (ho : OpR X (compareOp op) (rD S X.K m)) (hm : behindInMarks op eb = false) (ha : Dp X S Z ea ca) (hb : Dp X S Z eb cb) : Dv X S Z (.Compare ea [op] [eb] pos) (cOp2 m ca cb) :=
  PE.imp (pe_cmpR ho ha hb hm) fun σ H Q h => tD2 (fun _ _ _ _ q => q) h
/-- a value is handed on -/
theorem Aft.ret {H : Hp} {Q : VK} {d : PyData} {v : V} {R : Hp → V → PyData → Prop} (k : SrcOk S H) (w : Aft S H R Q d) (r : R H v d) : Q v H := w v H (SameX.refl H) k r
/-- a new tuple -/
theorem Aft.tup {K : PySem.W.Frag} {H : Hp} {Q : VK} {ds : List PyData} {xs : List V} (k : SrcOk S H) (w : Aft S H (RV K) Q (.tuple ds)) (r : RepA K H xs ds) {p : Addr} (hp : H p = none) : Q (.ref p) (upd H p (.tup xs)) :=
  w _ _ (.of (same_new hp)) (k.same (same_new hp)) (.tup (.inl (.inl upd_same)) (r.kp (.of (same_new hp))))
/-- a new list, locked -/
theorem Aft.lst {K : PySem.W.Frag} {H : Hp} {Q : VK} {ds : List PyData} {xs : List V} (k : SrcOk S H) (w : Aft S H (RV K) Q (.list ds)) (r : RepA K H xs ds) {p : Addr} (hp : H p = none) : Lk Q (.ref p) (upd H p (.lst xs)) := by
  refine ⟨p, _, rfl, upd_same, .inl ⟨_, rfl⟩, fun o => ?_⟩
  rw [upd_upd]
  exact w _ _ (.of (same_new hp)) (k.same (same_new hp)) (.lst ⟨o, upd_same⟩ (r.kp (.of (same_new hp))))
theorem OpR.lock {f : Value → Value → Sem Value} {r : R2} (h : OpR X f r) : OpR X f (fun x y H Q => r x y H (Lk Q)) := fun pins s σ H x y v u Q I rx ry q =>
  thn (h pins s σ H x y v u _ I rx ry q) fun u s1 h1 => EP.lock h1
theorem lstR {pins : List (Addr × Obj)} {σ : L2.St} {H : Hp} {s : Shared} (I : Inv X pins σ H s) {a : Addr} {xs : List V} (h : Rd H a (.lst xs)) : xs.length ≤ sizeLine ∧ ∃ (its : List Value) (n : Nat), Vals xs its ∧ s.heap.get? a = some { cls := .type "list", data := .seq its.toArray n } :=
  Rd.ok h I.hok
theorem op_catR : OpR X (binaryOp .Add) (fun x y H Q => ∃ l b xs zs, x = .ref l ∧ y = .ref b ∧ Rd H l (.lst xs) ∧ Rd H b (.lst zs) ∧ xs.length + zs.length ≤ sizeLine ∧ ∀ p, H p = none → Q (.ref p) (upd H p (.lst (xs ++ zs)))) := by
  intro pins s σ H x y v u Q I rx ry h
  obtain ⟨l, b, xs, zs, rfl, rfl, hH, hB, hz, q⟩ := h
  cases rx
  cases ry
  obtain ⟨z, its, n, r, e⟩ := lstR I hH
  obtain ⟨z2, its2, n2, r2, e2⟩ := lstR I hB
  have hl := r.length
  have hl2 := r2.length
  refine PySem.P.add_list e e2 ?_ (by rw [List.size_toArray, List.size_toArray]; omega)
  have ea : its.toArray ++ its2.toArray = (its ++ its2).toArray := by simp
  rw [ea]
  exact ⟨.ref _, _, I.lnew (t' := s.toks) (r.append r2) (by rw [List.length_append]; omega), rfl, q _ I.fresh⟩
theorem op_repR : OpR X (binaryOp .Mult) (fun x y H Q => ∃ l k xs, x = .ref l ∧ y = .int k ∧ Rd H l (.lst xs) ∧ -(2 ^ 63) ≤ k ∧ k < 2 ^ 63 ∧ xs.length * k.toNat ≤ sizeLine ∧
  ∀ p, H p = none → Q (.ref p) (upd H p (.lst (List.replicate k.toNat xs).flatten))) := by
  intro pins s σ H x y v u Q I rx ry h
  obtain ⟨l, k, xs, rfl, rfl, hH, h1, h2, hz, q⟩ := h
  obtain ⟨z, its, n, r, e⟩ := lstR I hH
  cases rx
  obtain ⟨t, rfl⟩ := ry
  have hl := r.length
  have hlen : its.toArray.size * k.toNat ≤ sizeLine := by
    rw [List.size_toArray, ← hl]
    exact hz
  have cap : ¬ its.toArray.size * k.toNat > (2 ^ 63 - 1) / 8 := Nat.not_lt.mpr (Nat.le_trans hlen (by decide))
  have fit : ¬ (!Builtin.List.listFitsIndex k) = true := by rw [fitsIndex_both h1 h2]; decide
  have long : ¬ Builtin.List.listTooLong (its.toArray.size * k.toNat) = true := by rw [notLongL hlen]; decide
  have fold : List.foldl (fun x1 x2 => x1 ++ x2) #[] (List.replicate (if its.toArray.isEmpty = true then 0 else k.toNat) its.toArray) = (List.replicate k.toNat its).flatten.toArray := by
    have f0 : ∀ m : Nat, List.foldl (fun x1 x2 => x1 ++ x2) #[] (List.replicate m its.toArray) = (List.replicate m its).flatten.toArray := fun m => by
      have q := foldl_rep its m []
      rwa [List.nil_append] at q
    rw [f0]
    cases its <;> simp
  have make := AutoListH.list___mul___list_int_3 l its.toArray n k t fit cap long
  refine wpAny_binaryOp_repeat_ref (T := "list") (U := "int") (by decide) ⟨_, e, rfl⟩ (fun s' => typeIs_int s' k t) noFill_list_mul F.fills_int_mul F.slot_int_rmul repeat_list F.slot_int_index.lookup
    (call_meets F.slot_int_rmul (typeIs_int s k t) F.entry_int_rmul (F.args_int_rmul_2 _ _) (int___rmul___int_list k t l its.toArray n) ⟨e, rfl, ⟨_, e, rfl⟩, ?_⟩)
  refine call_meets F.slot_list_mul ⟨_, e, rfl⟩ F.entry_list_mul (F.args_list_mul_2 _ _) make ⟨e, ?_⟩
  rw [fold]
  refine ⟨.ref _, _, I.lnew (t' := s.toks) (r.rep k.toNat) ?_, rfl, q _ I.fresh⟩
  rw [PyProof.Rows.lm_len_rep_flat, Nat.mul_comm]
  exact hz

theorem wp_if {α : Type} {c : Prop} [Decidable c] {m : M α} {Q : α → Prop} (h : (if c then m else .bad).wp Q) : c ∧ m.wp Q := by
  by_cases q : c
  · rw [if_pos q] at h; exact ⟨q, h⟩
  · rw [if_neg q] at h; exact h.elim
theorem RepP.tupR {K : PySem.W.Frag} {H : Hp} {v : V} {ds : List PyData} (r : RepP K S H v (.tuple ds)) : Rep K H v (.tuple ds) := by
  cases r with
  | rep r => exact r
theorem dop_add : OpR X (binaryOp .Add) (rD S X.K mAdd) := by
  intro pins s σ H x y v u Q I rx ry h
  obtain ⟨dx, dy, k, r1, r2, w⟩ := h
  cases dx <;> cases dy <;> first | exact w.elim | skip
  · exact op_add pins s σ H x y v u Q I rx ry ⟨_, _, r1.int, r2.int, Aft.ret k w (.int _)⟩
  · obtain ⟨hl, w⟩ := wp_if w
    exact op_add_str pins s σ H x y v u Q I rx ry ⟨_, _, r1.str, r2.str, hl, Aft.ret k w (.str _)⟩
  · obtain ⟨hl, w⟩ := wp_if w
    obtain ⟨a, xs, rfl, h1, q1⟩ := r1.listR
    obtain ⟨b, ys, rfl, h2, q2⟩ := r2.listR
    refine OpR.lock op_catR pins s σ H _ _ v u Q I rx ry ⟨a, b, xs, ys, rfl, rfl, h1, h2, ?_, fun p hp => Aft.lst k w (q1.append q2) hp⟩
    rw [q1.length, q2.length]
    exact hl
  · obtain ⟨hl, w⟩ := wp_if w
    obtain ⟨a, xs, rfl, h1, q1⟩ := r1.tuple
    obtain ⟨b, ys, rfl, h2, q2⟩ := r2.tuple
    refine op_catA pins s σ H _ _ v u Q I rx ry ⟨a, b, xs, ys, rfl, rfl, h1, h2, ?_, fun e => ?_, fun _ e => ?_, fun _ _ p hp => Aft.tup k w (q1.append q2) hp⟩
    · rw [q1.length, q2.length]
      exact hl
    · subst e; cases q1; exact Aft.ret k w r2.tupR
    · subst e; cases q2
      rw [List.append_nil] at w
      exact Aft.ret k w r1.tupR
theorem dop_sub : OpR X (binaryOp .Sub) (rD S X.K mSub) := by
  intro pins s σ H x y v u Q I rx ry h
  obtain ⟨dx, dy, k, r1, r2, w⟩ := h
  cases dx <;> cases dy <;> first | exact w.elim | skip
  exact op_sub pins s σ H x y v u Q I rx ry ⟨_, _, r1.int, r2.int, Aft.ret k w (.int _)⟩
theorem smallI_bits {i : Int} (h : smallI i = true) : Builtin.Int.intBits i ≤ 2 ^ 20 := by
  have q := of_decide_eq_true h
  unfold Builtin.Int.intBits
  split <;> omega
theorem mulOk_ok {i j : Int} (h : mulOk i j = true) : IntMulOk i j := by
  unfold mulOk at h
  simp only [Bool.or_eq_true, Bool.and_eq_true, decide_eq_true_eq] at h
  rcases h with (h | h) | h
  · have := lt_log2 h; exact CMul.ok (.inl (by omega))
  · have := lt_log2 h; exact CMul.ok (.inr (by omega))
  · exact .of_bits (smallI_bits h.1) (smallI_bits h.2)
theorem op_mulD : OpR X (binaryOp .Mult) (rI (fun i j => mulOk i j = true) fun i j => .int (i * j)) := opI fun _ _ _ _ _ _ _ hc q => mul_int q (mulOk_ok hc)
theorem iop_mulD : OpR X (inplaceOp .Mult) (rI (fun i j => mulOk i j = true) fun i j => .int (i * j)) := opI fun _ _ _ _ _ _ _ hc q => imul_int q (mulOk_ok hc)
theorem dop_mul : OpR X (binaryOp .Mult) (rD S X.K mMul) := by
  intro pins s σ H x y v u Q I rx ry h
  obtain ⟨dx, dy, k, r1, r2, w⟩ := h
  cases dx <;> cases dy <;> first | exact w.elim | skip
  · obtain ⟨hl, w⟩ := wp_if w
    exact op_mulD pins s σ H x y v u Q I rx ry ⟨_, _, r1.int, r2.int, hl, Aft.ret k w (.int _)⟩
  · obtain ⟨hl, w⟩ := wp_if w
    simp only [Bool.and_eq_true, decide_eq_true_eq] at hl
    have hl := And.intro (inB_iff hl.1) hl.2
    obtain ⟨a, xs, rfl, h1, q1⟩ := r1.listR
    refine OpR.lock op_repR pins s σ H _ _ v u Q I rx ry ⟨a, _, xs, rfl, r2.int, h1, by omega, by omega, ?_, fun p hp => Aft.lst k w (q1.flat _) hp⟩
    rw [q1.length]
    exact hl.2
theorem dop_fdiv : OpR X (binaryOp .FloorDiv) (rD S X.K mFdiv) := by
  intro pins s σ H x y v u Q I rx ry h
  obtain ⟨dx, dy, k, r1, r2, w⟩ := h
  cases dx <;> cases dy <;> first | exact w.elim | skip
  obtain ⟨hl, w⟩ := wp_if w
  simp only [Bool.and_eq_true, decide_eq_true_eq] at hl
  exact op_fdivN pins s σ H x y v u Q I rx ry ⟨_, _, r1.int, r2.int, hl, Aft.ret k w (.int _)⟩
theorem dop_mod : OpR X (binaryOp .Mod) (rD S X.K mMod) := by
  intro pins s σ H x y v u Q I rx ry h
  obtain ⟨dx, dy, k, r1, r2, w⟩ := h
  cases dx <;> cases dy <;> first | exact w.elim | skip
  obtain ⟨hl, w⟩ := wp_if w
  exact op_modN pins s σ H x y v u Q I rx ry ⟨_, _, r1.int, r2.int, hl, Aft.ret k w (.int _)⟩
theorem dop_pow : OpR X (binaryOp .Pow) (rD S X.K mPow) := by
  intro pins s σ H x y v u Q I rx ry h
  obtain ⟨dx, dy, k, r1, r2, w⟩ := h
  cases dx <;> cases dy <;> first | exact w.elim | skip
  obtain ⟨hl, w⟩ := wp_if w
  simp only [Bool.and_eq_true, decide_eq_true_eq] at hl
  exact op_pow pins s σ H x y v u Q I rx ry ⟨_, _, r1.int, r2.int, ⟨hl.1.1, by omega, hl.2⟩, Aft.ret k w (.int _)⟩
theorem asIntsO_eq : ∀ {ds : List PyData} {ns : List Int}, asIntsO ds = some ns → ds = ns.map PyData.int
  | [], ns, h => by cases h; rfl
  | .int i :: r, ns, h => by
    unfold asIntsO at h
    split at h
    · rename_i is hr
      cases h
      rw [List.map_cons, asIntsO_eq hr]
    · cases h
  | .none :: _, _, h => by simp [asIntsO] at h
  | .bool _ :: _, _, h => by simp [asIntsO] at h
  | .str _ :: _, _, h => by simp [asIntsO] at h
  | .list _ :: _, _, h => by simp [asIntsO] at h
  | .tuple _ :: _, _, h => by simp [asIntsO] at h
  | .dict _ :: _, _, h => by simp [asIntsO] at h
theorem asIntsO_map (ns : List Int) : asIntsO (ns.map PyData.int) = some ns := by
  induction ns with
  | nil => rfl
  | cons n ns ih => rw [List.map_cons]; unfold asIntsO; rw [ih]
theorem dop_lt (hu : X.A.units < cLine) : OpR X (compareOp .Lt) (rD S X.K mLt) := by
  intro pins s σ H x y v u Q I rx ry h
  obtain ⟨dx, dy, k, r1, r2, w⟩ := h
  cases dx <;> cases dy <;> first | exact w.elim | skip
  · exact op_lt pins s σ H x y v u Q I rx ry ⟨_, _, r1.int, r2.int, Aft.ret k w (.bl _)⟩
  · change (mTI HT.lexLt _ _).wp _ at w
    unfold mTI at w
    split at w
    · rename_i ns ms e1 e2
      cases asIntsO_eq e1
      cases asIntsO_eq e2
      obtain ⟨a, xs, rfl, h1, q1⟩ := r1.tuple
      obtain ⟨b, ys, rfl, h2, q2⟩ := r2.tuple
      cases q1.ints
      cases q2.ints
      exact op_ltT hu pins s σ H _ _ v u Q I rx ry ⟨a, b, _, _, rfl, rfl, h1, h2, Aft.ret k w (.bl _)⟩
    · exact w.elim
theorem dop_le (hu : X.A.units < cLine) : OpR X (compareOp .LtE) (rD S X.K mLe) := by
  intro pins s σ H x y v u Q I rx ry h
  obtain ⟨dx, dy, k, r1, r2, w⟩ := h
  cases dx <;> cases dy <;> first | exact w.elim | skip
  · exact op_le pins s σ H x y v u Q I rx ry ⟨_, _, r1.int, r2.int, Aft.ret k w (.bl _)⟩
  · change (mTI leAt _ _).wp _ at w
    unfold mTI at w
    split at w
    · rename_i ns ms e1 e2
      cases asIntsO_eq e1
      cases asIntsO_eq e2
      obtain ⟨a, xs, rfl, h1, q1⟩ := r1.tuple
      obtain ⟨b, ys, rfl, h2, q2⟩ := r2.tuple
      cases q1.ints
      cases q2.ints
      exact op_leT hu pins s σ H _ _ v u Q I rx ry ⟨a, b, _, _, rfl, rfl, h1, h2, Aft.ret k w (.bl _)⟩
    · exact w.elim
theorem dop_gt : OpR X (compareOp .Gt) (rD S X.K (mCmpI fun i j => decide (j < i))) := by
  intro pins s σ H x y v u Q I rx ry h
  obtain ⟨dx, dy, k, r1, r2, w⟩ := h
  cases dx <;> cases dy <;> first | exact w.elim | skip
  exact op_gt pins s σ H x y v u Q I rx ry ⟨_, _, r1.int, r2.int, Aft.ret k w (.bl _)⟩
theorem dop_ge : OpR X (compareOp .GtE) (rD S X.K (mCmpI fun i j => decide (j ≤ i))) := by
  intro pins s σ H x y v u Q I rx ry h
  obtain ⟨dx, dy, k, r1, r2, w⟩ := h
  cases dx <;> cases dy <;> first | exact w.elim | skip
  exact op_ge pins s σ H x y v u Q I rx ry ⟨_, _, r1.int, r2.int, Aft.ret k w (.bl _)⟩
mutual
theorem Rep.dp {K : PySem.W.Frag} {H : Hp} : ∀ {d : PyData} {v : V}, Rep K H v d → d.canLay0 = true → L2.Dp K H v d
  | .none, _, h, _ => by cases h; exact .non
  | .bool b, _, h, _ => by cases h; exact .bl b
  | .int i, _, h, _ => by cases h; exact .int i
  | .str x, _, h, _ => by cases h; exact .str x
  | .list ds, _, h, c => by
    cases h with
    | lst h1 h2 => exact .lst (.inl (.inr h1)) (RepA.dp h2 (by simpa [PyData.canLay0] using c))
  | .tuple ds, _, h, c => by
    cases h with
    | tup h1 h2 => exact .tup h1 (RepA.dp h2 (by simpa [PyData.canLay0] using c))
  | .dict ds, _, h, c => by simp [PyData.canLay0] at c
theorem RepA.dp {K : PySem.W.Frag} {H : Hp} : ∀ {ds : List PyData} {vs : List V}, RepA K H vs ds → PyData.canLayAll0 ds = true → DpAll K H vs ds
  | [], _, h, _ => by cases h; exact .nil
  | d :: ds, _, h, c => by
    cases h with
    | cons h1 h2 =>
      have q : d.canLay0 = true ∧ PyData.canLayAll0 ds = true := by simpa [PyData.canLayAll0] using c
      exact .cons (Rep.dp h1 q.1) (RepA.dp h2 q.2)
end
theorem RepP.dp {K : PySem.W.Frag} {H : Hp} {d : PyData} {v : V} (h : RepP K S H v d) (c : d.canLay0 = true) : L2.Dp K H v d := by
  cases h with
  | rep r => exact r.dp c
  | own n e r => exact .lst (SqL.of e) (r.dp (by simpa [PyData.canLay0] using c))
  | ownK n e r => simp [PyData.canLay0] at c
  | ownT n e r => simp [PyData.canLay0] at c
theorem dop_eq (hu : X.A.units + 64 < cLine) : OpR X (compareOp .Eq) (rD S X.K mEq) := by
  intro pins s σ H x y v u Q I rx ry h
  obtain ⟨dx, dy, k, r1, r2, w⟩ := h
  unfold mEq at w
  split at w
  · rename_i hs
    have hs' := Bool.and_eq_true_iff.mp hs
    exact op_eqD hu pins s σ H x y v u Q I rx ry ⟨dx, dy, r1.dp (SeqAt.canLay_of_shaped hs'.1), r2.dp (SeqAt.canLay_of_shaped hs'.2), hs'.1, hs'.2, Aft.ret k w (.bl _)⟩
  · exact w.elim
theorem dop_ne (hu : X.A.units + 64 < cLine) : OpR X (compareOp .NotEq) (rD S X.K mNe) := by
  intro pins s σ H x y v u Q I rx ry h
  obtain ⟨dx, dy, k, r1, r2, w⟩ := h
  unfold mNe at w
  split at w
  · rename_i hs
    have hs' := Bool.and_eq_true_iff.mp hs
    exact op_neD hu pins s σ H x y v u Q I rx ry ⟨dx, dy, r1.dp (SeqAt.canLay_of_shaped hs'.1), r2.dp (SeqAt.canLay_of_shaped hs'.2), hs'.1, hs'.2, Aft.ret k w (.bl _)⟩
  · exact w.elim
theorem RepP.isN {K : PySem.W.Frag} {H : Hp} {d : PyData} {v : V} (h : RepP K S H v d) : decide (v = .non) = isNoneD d := by
  cases h with
  | rep r => cases r <;> rfl
  | own n e r => rfl
  | ownK n e r => rfl
  | ownT n e r => rfl
theorem isNoneD_eq {d : PyData} (h : isNoneD d = true) : d = .none := by cases d <;> first | rfl | cases h
theorem dop_isN : OpR X (compareOp .Is) (rD S X.K mIsN) := by
  intro pins s σ H x y v u Q I rx ry h
  obtain ⟨dx, dy, k, r1, r2, w⟩ := h
  unfold mIsN at w
  split at w
  · rename_i hs
    cases isNoneD_eq hs
    refine op_isN pins s σ H x y v u Q I rx ry ⟨r2.none, ?_⟩
    rw [r1.isN]
    exact Aft.ret k w (.bl _)
  · exact w.elim
theorem dop_notN : OpR X (compareOp .IsNot) (rD S X.K mNotN) := by
  intro pins s σ H x y v u Q I rx ry h
  obtain ⟨dx, dy, k, r1, r2, w⟩ := h
  unfold mNotN at w
  split at w
  · rename_i hs
    cases isNoneD_eq hs
    refine op_notN pins s σ H x y v u Q I rx ry ⟨r2.none, ?_⟩
    rw [r1.isN]
    exact Aft.ret k w (.bl _)
  · exact w.elim

/-! ### in-place operations -/
theorem diop_add : OpR X (inplaceOp .Add) (rD S X.K mAddI) := by
  intro pins s σ H x y v u Q I rx ry h
  obtain ⟨dx, dy, k, r1, r2, w⟩ := h
  cases dx <;> cases dy <;> first | exact w.elim | skip
  · exact iop_add pins s σ H x y v u Q I rx ry ⟨_, _, r1.int, r2.int, Aft.ret k w (.int _)⟩
  · obtain ⟨hl, w⟩ := wp_if w
    exact iop_add_str pins s σ H x y v u Q I rx ry ⟨_, _, r1.str, r2.str, hl, Aft.ret k w (.str _)⟩
theorem diop_sub : OpR X (inplaceOp .Sub) (rD S X.K mSub) := by
  intro pins s σ H x y v u Q I rx ry h
  obtain ⟨dx, dy, k, r1, r2, w⟩ := h
  cases dx <;> cases dy <;> first | exact w.elim | skip
  exact iop_sub pins s σ H x y v u Q I rx ry ⟨_, _, r1.int, r2.int, Aft.ret k w (.int _)⟩
theorem diop_fdiv : OpR X (inplaceOp .FloorDiv) (rD S X.K mFdivI) := by
  intro pins s σ H x y v u Q I rx ry h
  obtain ⟨dx, dy, k, r1, r2, w⟩ := h
  cases dx <;> cases dy <;> first | exact w.elim | skip
  obtain ⟨hl, w⟩ := wp_if w
  simp only [Bool.and_eq_true, decide_eq_true_eq] at hl
  exact iop_fdiv pins s σ H x y v u Q I rx ry ⟨_, _, r1.int, r2.int, hl, Aft.ret k w (.int _)⟩
theorem diop_mul : OpR X (inplaceOp .Mult) (rD S X.K mMulI) := by
  intro pins s σ H x y v u Q I rx ry h
  obtain ⟨dx, dy, k, r1, r2, w⟩ := h
  cases dx <;> cases dy <;> first | exact w.elim | skip
  obtain ⟨hl, w⟩ := wp_if w
  exact iop_mulD pins s σ H x y v u Q I rx ry ⟨_, _, r1.int, r2.int, hl, Aft.ret k w (.int _)⟩

/-! ### one-place operations -/
theorem dv_neg (ha : Dp X S Z ea ca) : Dv X S Z (.UnaryOp .USub ea pos) (cOp1 mNeg ca) := by
  refine PE.imp (pe_un un_neg ha) fun σ H Q ⟨en, R, w⟩ => ⟨en, R, M.wp_mono (fun d wd v H1 s1 k1 r1 => ?_) (M.wp_bind.mp w)⟩
  cases d <;> first | exact wd.elim | skip
  exact ⟨_, r1.int, wd _ H1 s1 k1 (.int _)⟩

/-! ### tests -/
theorem asB_wp {d : PyData} {Q : Bool → Prop} (h : (asB d).wp Q) : ∃ b, d = .bool b ∧ Q b := by
  cases d <;> first | exact h.elim | exact ⟨_, rfl, h⟩
theorem dt_val (h : Dp X S Z e c) (he : ∀ whole, isTrue e X.env whole = (do let v ← whole; standAt e.pos; holding [v] (truthy v)) := by intro _; rfl) : Dt X S Z e (ctV c) := by
  refine PT.imp (pt_val h he) fun σ H Q ⟨en, R, w⟩ => ⟨en, R, M.wp_mono (fun d wd v H1 s1 k1 r1 => ?_) (M.wp_bind.mp w)⟩
  obtain ⟨b, rfl, q⟩ := asB_wp wd
  exact ⟨b, r1.bool, q H1 s1 k1⟩
theorem dt_cmp {op : CmpOp} {m : PyData → PyData → M PyData} (ho : OpR X (compareOp op) (rD S X.K m)) (hm : behindInMarks op eb = false) (ha : Dp X S Z ea ca) (hb : Dp X S Z eb cb) : Dt X S Z (.Compare ea [op] [eb] pos) (ctV (cOp2 m ca cb)) := by
  refine PT.imp (pt_cmpR ho ha hb hm) fun σ H Q ⟨en, R, w⟩ => ?_
  have q : tD S Z X.K (RV X.K) (cOp2 m ca cb) σ H fun x H' => ∃ k, x = .bl k ∧ Q k H' := ⟨en, R, M.wp_mono (fun d wd v H1 s1 k1 r1 => by
    obtain ⟨b, rfl, q⟩ := asB_wp wd
    cases r1
    exact ⟨b, rfl, q H1 s1 k1⟩) (M.wp_bind.mp w)⟩
  exact tD2 (fun _ _ _ _ q => q) q
variable {ta tb : CT} {rest : List Expr}
theorem dt_not (h : Dt X S Z ea ta) : Dt X S Z (.UnaryOp .Not ea pos) (ctNot ta) :=
  PT.imp (pt_not h) fun σ H Q ⟨en, R, w⟩ => ⟨en, R, M.wp_mono (fun b q => q) (M.wp_bind.mp w)⟩
theorem dw_pt (h : Dw X S Z e ta) : Dt X S Z e ta := PW.pt h
theorem dw_and1 (h : Dt X S Z ea ta) : Dw X S Z (.BoolOp .And [ea] pos) ta := pw_and1 h
theorem dw_or1 (h : Dt X S Z ea ta) : Dw X S Z (.BoolOp .Or [ea] pos) ta := pw_or1 h
theorem dw_and (h : Dt X S Z ea ta) (h2 : Dw X S Z (.BoolOp .And (eb :: rest) pos) tb) : Dw X S Z (.BoolOp .And (ea :: eb :: rest) pos) (ctAnd ta tb) :=
  PW.imp (pw_and h h2) fun σ H Q ⟨en, R, w⟩ => ⟨en, R, M.wp_mono (fun b q H1 s1 k1 => by
    cases b with
    | true => exact ⟨en, R.same s1 k1, M.wp_mono (fun b q H2 s2 k2 => q H2 (s1.trans s2) k2) q⟩
    | false => exact q H1 s1 k1) (M.wp_bind.mp w)⟩
theorem dw_or (h : Dt X S Z ea ta) (h2 : Dw X S Z (.BoolOp .Or (eb :: rest) pos) tb) : Dw X S Z (.BoolOp .Or (ea :: eb :: rest) pos) (ctOr ta tb) :=
  PW.imp (pw_or h h2) fun σ H Q ⟨en, R, w⟩ => ⟨en, R, M.wp_mono (fun b q H1 s1 k1 => by
    cases b with
    | false => exact ⟨en, R.same s1 k1, M.wp_mono (fun b q H2 s2 k2 => q H2 (s1.trans s2) k2) q⟩
    | true => exact q H1 s1 k1) (M.wp_bind.mp w)⟩
theorem dv_not (h : Dp X S Z ea ca) : Dv X S Z (.UnaryOp .Not ea pos) (cNot ca) :=
  PE.imp (pe_not h) fun σ H Q ⟨en, R, w⟩ => ⟨en, R, M.wp_mono (fun d wd v H1 s1 k1 r1 => by
    obtain ⟨b, rfl, q⟩ := asB_wp (M.wp_bind.mp wd)
    exact ⟨b, r1.bool, q _ H1 s1 k1 (.bl _)⟩) (M.wp_bind.mp w)⟩
theorem dv_one {op} (h : Dv X S Z ea ca) : Dv X S Z (.BoolOp op [ea] pos) ca := pe_one h
theorem dv_and (h : Dp X S Z ea ca) (h2 : Dv X S Z (.BoolOp .And (eb :: rest) pos) cb) : Dv X S Z (.BoolOp .And (ea :: eb :: rest) pos) (cAnd ca cb) :=
  PE.imp (pe_and h h2) fun σ H Q ⟨en, R, w⟩ => ⟨en, R, M.wp_mono (fun d wd v H1 s1 k1 r1 => by
    obtain ⟨b, rfl, q⟩ := asB_wp (M.wp_bind.mp wd)
    refine ⟨b, r1.bool, ?_⟩
    cases b with
    | true => exact ⟨en, R.same s1 k1, M.wp_mono (fun b q v H2 s2 k2 r2 => q v H2 (s1.trans s2) k2 r2) q⟩
    | false => exact q _ H1 s1 k1 (.bl _)) (M.wp_bind.mp w)⟩
theorem dv_or (h : Dp X S Z ea ca) (h2 : Dv X S Z (.BoolOp .Or (eb :: rest) pos) cb) : Dv X S Z (.BoolOp .Or (ea :: eb :: rest) pos) (cOr ca cb) :=
  PE.imp (pe_or h h2) fun σ H Q ⟨en, R, w⟩ => ⟨en, R, M.wp_mono (fun d wd v H1 s1 k1 r1 => by
    obtain ⟨b, rfl, q⟩ := asB_wp (M.wp_bind.mp wd)
    refine ⟨b, r1.bool, ?_⟩
    cases b with
    | false => exact ⟨en, R.same s1 k1, M.wp_mono (fun b q v H2 s2 k2 r2 => q v H2 (s1.trans s2) k2 r2) q⟩
    | true => exact q _ H1 s1 k1 (.bl _)) (M.wp_bind.mp w)⟩
theorem dv_if {et : Expr} (ht : Dt X S Z et ta) (ha : Dv X S Z ea ca) (hb : Dv X S Z eb cb) : Dv X S Z (.IfExp et ea eb pos) (cIf ta ca cb) :=
  PE.imp (pe_ifExp ht ha hb) fun σ H Q ⟨en, R, w⟩ => ⟨en, R, M.wp_mono (fun b q H1 s1 k1 => by
    cases b with
    | false => exact ⟨en, R.same s1 k1, M.wp_mono (fun b q v H2 s2 k2 r2 => q v H2 (s1.trans s2) k2 r2) q⟩
    | true => exact ⟨en, R.same s1 k1, M.wp_mono (fun b q v H2 s2 k2 r2 => q v H2 (s1.trans s2) k2 r2) q⟩) (M.wp_bind.mp w)⟩

/-! ### argument lists, displays -/
theorem Paired.kp {K : PySem.W.Frag} {H H' : Hp} (k : Kp H H') {vs : List V} {ds : List PyData} (h : Paired (fun v d => Rep K H v d) vs ds) : Paired (fun v d => Rep K H' v d) vs ds := Paired.mp (fun _ _ r => r.kp k) h
theorem da_nil : Da X S Z [] caNil := PA.imp pa_nil fun σ H Q ⟨en, R, w⟩ => w [] H (SameX.refl H) R.src .nil
variable {es : List Expr} {cl : CL}
theorem da_cons (ha : Dv X S Z e c) (hr : Da X S Z es cl) (hs : starEach (e :: es) X.env = (false, eval e X.env) :: starEach es X.env := by rfl) : Da X S Z (e :: es) (caCons c cl) :=
  PA.imp (pa_cons ha hr hs) fun σ H Q ⟨en, R, w⟩ => ⟨en, R, M.wp_mono (fun d wd v H1 s1 k1 r1 =>
    ⟨en, R.same s1 k1, M.wp_mono (fun ds q vs H2 s2 k2 r2 => q (v :: vs) H2 (s1.trans s2) k2 (.cons (Rep.kp (s2.kp k1) r1) r2)) (M.wp_bind.mp wd)⟩) (M.wp_bind.mp w)⟩
theorem dap_nil : Dap X S Z [] caNil := PA.imp pa_nil fun σ H Q ⟨en, R, w⟩ => w [] H (SameX.refl H) R.src .nil
theorem dap_cons (ha : Dp X S Z e c) (hr : Dap X S Z es cl) (hs : starEach (e :: es) X.env = (false, eval e X.env) :: starEach es X.env := by rfl) : Dap X S Z (e :: es) (caCons c cl) :=
  PA.imp (pa_cons ha hr hs) fun σ H Q ⟨en, R, w⟩ => ⟨en, R, M.wp_mono (fun d wd v H1 s1 k1 r1 =>
    ⟨en, R.same s1 k1, M.wp_mono (fun ds q vs H2 s2 k2 r2 => q (v :: vs) H2 (s1.trans s2) k2 (.cons (RepP.same k1 s2 r1) r2)) (M.wp_bind.mp wd)⟩) (M.wp_bind.mp w)⟩
theorem dv_tup {x1} (h : Da X S Z es cl) : Dv X S Z (.Tuple es x1 pos) (cTup cl) :=
  PE.imp (pe_tup h) fun σ H Q ⟨en, R, w⟩ => ⟨en, R, M.wp_mono (fun ds wd vs H1 s1 k1 r1 => by
    split at wd
    · rename_i hf
      have ra := RepA.paired r1
      refine ⟨by rw [ra.length]; exact of_decide_eq_true hf, fun p hp => ?_⟩
      exact wd _ _ (s1.trans (.of (same_new hp))) (k1.same (same_new hp)) (.tup (.inl (.inl upd_same)) (ra.kp (.of (same_new hp))))
    · exact wd.elim) (M.wp_bind.mp w)⟩
end
end DL
namespace DL
open PySem PySem.Spec PyProof.Rows L2

/-! ### statements: what stays, and the ends -/
structure Ext (Z : Addr → Prop) (H H' : Hp) : Prop where
  kp : Kp H H'
  z : ∀ a o, Z a → H a = some o → H' a = some o
theorem Ext.refl {Z : Addr → Prop} (H : Hp) : Ext Z H H := ⟨Kp.refl H, fun _ _ _ h => h⟩
theorem Ext.trans {Z : Addr → Prop} {H H1 H2 : Hp} (a : Ext Z H H1) (b : Ext Z H1 H2) : Ext Z H H2 := ⟨a.kp.trans b.kp, fun c o z h => b.z c o z (a.z c o z h)⟩
section
variable {K : PySem.W.Frag} {S : SrcA} {Z : Addr → Prop} {σ : L2.St} {H H' : Hp} {en : En}
theorem Rel.ext (R : Rel K S Z σ H en) (h : SameX S H H') : Ext Z H H' := ⟨h.kp R.src, fun a o z e => h a o (fun q => R.zs a q z) e⟩
end
def SEnd (S : SrcA) (Z : Addr → Prop) (K : PySem.W.Frag) (H : Hp) (D : Ends) : Fl × En → Prop
  | (.nx, e) => ∀ σ' H', Ext Z H H' → Rel K S Z σ' H' e → D.nx σ' H'
  | (.bk, e) => ∀ σ' H', Ext Z H H' → Rel K S Z σ' H' e → D.bk σ' H'
  | (.ct, e) => ∀ σ' H', Ext Z H H' → Rel K S Z σ' H' e → D.ct σ' H'
  | (.rt d, _) => ∀ v H', Ext Z H H' → SrcOk S H' → Rep K H' v d → D.rt v H'
def tS (S : SrcA) (Z : Addr → Prop) (K : PySem.W.Frag) (cs : CS) : TS := fun D σ H => ∃ e, Rel K S Z σ H e ∧ (cs e).wp (SEnd S Z K H D)
abbrev Ds (X : Cx) (S : SrcA) (Z : Addr → Prop) (st : Stmt) (c : CS) : Prop := PS X st (tS S Z X.K c)
abbrev Db (X : Cx) (S : SrcA) (Z : Addr → Prop) (st : List Stmt) (c : CS) : Prop := PSs X st (tS S Z X.K c)
theorem SEnd.ext {S : SrcA} {Z : Addr → Prop} {K : PySem.W.Frag} {H H1 : Hp} {D : Ends} (x : Ext Z H H1) : ∀ {r : Fl × En}, SEnd S Z K H D r → SEnd S Z K H1 D r
  | (.nx, e), q => fun σ' H' y R => q σ' H' (x.trans y) R
  | (.bk, e), q => fun σ' H' y R => q σ' H' (x.trans y) R
  | (.ct, e), q => fun σ' H' y R => q σ' H' (x.trans y) R
  | (.rt d, e), q => fun σ' H' y k R => q σ' H' (x.trans y) k R
theorem PS.imp {X : Cx} {e : Stmt} {t t' : TS} (h : PS X e t) (i : ∀ D σ H, t' D σ H → t D σ H) : PS X e t' := ⟨fun pins s σ H Q I q => h.run pins s σ H Q I (i Q σ H q)⟩
theorem PSs.imp {X : Cx} {e : List Stmt} {t t' : TS} (h : PSs X e t) (i : ∀ D σ H, t' D σ H → t D σ H) : PSs X e t' := ⟨fun pins s σ H Q I q => h.run pins s σ H Q I (i Q σ H q)⟩

section
variable {X : Cx} {S : SrcA} {Z : Addr → Prop} {e ea eb : Expr} {c ca cb : CE} {cl : CL} {pos : Pos} {st : Stmt} {rest : List Stmt} {a b : CS} {t : CT}

theorem db_nil : Db X S Z [] sNil := PSs.imp pss_nil fun D σ H ⟨en, R, w⟩ => w σ H (Ext.refl H) R
theorem db_one (h : Ds X S Z st a) : Db X S Z [st] a := pss_one h
theorem db_cons (h : Ds X S Z st a) (h2 : Db X S Z rest b) : Db X S Z (st :: rest) (sSeq a b) := by
  refine PSs.imp (pss_cons h h2) fun D σ H ⟨en, R, w⟩ => ⟨en, R, M.wp_mono (fun r q => ?_) (M.wp_bind.mp w)⟩
  match r, q with
  | (.nx, e1), q => exact fun σ' H' x R' => ⟨e1, R', M.wp_mono (fun r q => SEnd.ext x q) q⟩
  | (.bk, e1), q => exact q
  | (.ct, e1), q => exact q
  | (.rt d, e1), q => exact q
theorem ds_ret (h : Dv X S Z e c) : Ds X S Z (.Return (some e) pos) (sRet c) :=
  PS.imp (ps_ret h) fun D σ H ⟨en, R, w⟩ => ⟨en, R, M.wp_mono (fun d q v H' s k r => q v H' (R.ext s) k r) (M.wp_bind.mp w)⟩
theorem ds_retN : Ds X S Z (.Return none pos) (sRet (cC .none)) :=
  PS.imp ps_retN fun D σ H ⟨en, R, w⟩ => w _ H (Ext.refl H) R.src .non
theorem ds_drop (h : Dv X S Z e c) (hs : swapsWith e none pos.line X.env = pure false := by rfl) : Ds X S Z (.Expr e pos) (sDrop c) :=
  PS.imp (ps_expr h hs) fun D σ H ⟨en, R, w⟩ => ⟨en, R, M.wp_mono (fun d q v H' s k r => q σ H' (R.ext s) (R.same s k)) (M.wp_bind.mp w)⟩
theorem ds_doc {x j pos pos'} : Ds X S Z (.Expr (.Constant (.str x) j pos) pos') sNil := PS.imp ps_doc fun D σ H ⟨en, R, w⟩ => w σ H (Ext.refl H) R
theorem ds_cont : Ds X S Z (.Continue pos) sCont := PS.imp ps_continue fun D σ H ⟨en, R, w⟩ => w σ H (Ext.refl H) R
theorem ds_brk : Ds X S Z (.Break pos) sBrk := PS.imp ps_break fun D σ H ⟨en, R, w⟩ => w σ H (Ext.refl H) R
theorem ds_if {ss ts : List Stmt} (h : Dt X S Z e t) (ha : Db X S Z ss a) (hb : Db X S Z ts b) : Ds X S Z (.If e ss ts pos) (sIf t a b) :=
  PS.imp (ps_if h ha hb) fun D σ H ⟨en, R, w⟩ => ⟨en, R, M.wp_mono (fun d q H' s k => by
    cases d with
    | true => exact ⟨en, R.same s k, M.wp_mono (fun r q => SEnd.ext (R.ext s) q) q⟩
    | false => exact ⟨en, R.same s k, M.wp_mono (fun r q => SEnd.ext (R.ext s) q) q⟩) (M.wp_bind.mp w)⟩
/-- a statement that is never reached -/
theorem ds_never {c : CS} (h : ∀ e, c e = .bad) : Ds X S Z st c := PS.imp ps_never fun D σ H ⟨en, R, w⟩ => by rw [h] at w; exact w

/-! ### stores -/
theorem ds_set {i : Nat} {x : Str} {pos' : Pos} (hN : X.N.Nodup) (hi : X.N[i]? = some x) (hx : Loc X.env.scope x) (he : Dv X S Z e c) (hs : swapsWith e (some (.Name x pos')) pos.line X.env = pure false := by rfl)
    (hf : X.fn x = true ∨ X.env.scope.names.lookup x = some .local := by first | exact .inl rfl | exact .inr rfl | assumption) : Ds X S Z (.Assign [.Name x pos'] e pos) (sSet i c) :=
  PS.imp (ps_set hN hi hx he hs hf) fun D σ H ⟨en, R, w⟩ => ⟨en, R, M.wp_mono (fun d q => by intro v H' s k r; exact q _ H' (R.ext s) ((R.same s k).set r)) (M.wp_bind.mp w)⟩
/-- a new thing of the frame's own comes to a slot -/
theorem Rel.put {K : PySem.W.Frag} {σ : L2.St} {H H' : Hp} {en : En} (R : Rel K S Z σ H en) (h : SameX S H H') (k : SrcOk S H') {i : Nat} {a : Addr} {s : Sl} (n : H a = none) (r : RelSl K S Z H' (some (.ref a)) s) (hs : isOwn s = true) :
    Rel K S Z (σ.set i (some (.ref a))) H' (en.set i s) := by
  have R' := R.same h k
  have old : ∀ j, ownE en j → σ[j]? ≠ some (some (.ref a)) := fun j ⟨s', h1, h2⟩ q => by
    have z := R.sl j s' h1
    rw [get_join q] at z
    cases z with
    | no => cases h2
    | val r => cases h2
    | own _ _ e _ => rw [n] at e; cases e
    | ownK _ _ e _ => rw [n] at e; cases e
    | ownT _ _ e _ => rw [n] at e; cases e
    | src q => cases h2
  refine ⟨by rw [List.length_set, List.length_set, R.len], fun j t hj => ?_, fun j l b jl hj hl h1 h2 => ?_, k, R'.zal, R.zs⟩
  · by_cases ij : i = j
    · subst ij
      by_cases hl : i < en.length
      · rw [List.getElem?_set_self hl] at hj; cases hj
        rw [List.getElem?_set_self (by rw [R.len]; exact hl)]
        exact r
      · rw [List.getElem?_eq_none (by rw [List.length_set]; omega)] at hj; cases hj
    · rw [List.getElem?_set_ne ij] at hj ⊢
      exact R'.sl j t hj
  · have at_i : ∀ {c : Addr}, (σ.set i (some (.ref a)))[i]? = some (some (.ref c)) → c = a := fun {c} q => by
      by_cases hl : i < σ.length
      · rw [List.getElem?_set_self hl] at q; cases q; rfl
      · rw [List.getElem?_eq_none (by rw [List.length_set]; omega)] at q; cases q
    by_cases ij : j = i
    · subst ij
      have e := at_i h1
      subst e
      rw [List.getElem?_set_ne jl] at h2
      exact old l (ownE_set_ne hl (Ne.symm jl)) h2
    · rw [List.getElem?_set_ne (Ne.symm ij)] at h1
      by_cases il : l = i
      · subst il
        have e := at_i h2
        subst e
        exact old j (ownE_set_ne hj ij) h1
      · rw [List.getElem?_set_ne (Ne.symm il)] at h2
        exact R.dis j l b jl (ownE_set_ne hj ij) (ownE_set_ne hl il) h1 h2
theorem Rel.notZ {K : PySem.W.Frag} {σ : L2.St} {H : Hp} {en : En} (R : Rel K S Z σ H en) {a : Addr} (n : H a = none) : ¬ Z a := fun z => by
  obtain ⟨o, e⟩ := R.zal a z
  rw [n] at e; cases e
theorem ds_own {i : Nat} {x : Str} {pos' : Pos} (hN : X.N.Nodup) (hi : X.N[i]? = some x) (hx : Loc X.env.scope x) (he : Dl X S Z e cl) (hs : swapsWith e (some (.Name x pos')) pos.line X.env = pure false := by rfl)
    (hf : X.fn x = true ∨ X.env.scope.names.lookup x = some .local := by first | exact .inl rfl | exact .inr rfl | assumption) : Ds X S Z (.Assign [.Name x pos'] e pos) (sOwn i cl) :=
  PS.imp (ps_set hN hi hx he hs hf) fun D σ H ⟨en, R, w⟩ => ⟨en, R, M.wp_mono (fun ds q => by intro a xs H' s k n e r; exact q _ H' (R.ext s) (R.put s k n (.own (not_new R.src n) (R.notZ n) e r) rfl)) (M.wp_bind.mp w)⟩
/-- the thing of a slot is locked -/
theorem Rel.lock {K : PySem.W.Frag} {σ : L2.St} {H : Hp} {en : En} (R : Rel K S Z σ H en) {i : Nat} {a : Addr} {u : HO} {o : Obj} {d : PyData} (hi : σ[i]? = some (some (.ref a))) (ho : ownE en i) (n : ¬ inS S a) (z : ¬ Z a) (h : H a = some u)
    (hu : (∃ xs, u = .lst xs) ∨ (∃ ks, u = .dK ks) ∨ ∃ ks, u = DTO ks) (r : Rep K (upd H a (.frz o u)) (.ref a) d) : Ext Z H (upd H a (.frz o u)) ∧ Rel K S Z σ (upd H a (.frz o u)) (en.set i (.val d)) := by
  have ne : ∀ {b : Addr} {v : HO}, H b = some v → ((∀ xs, v ≠ .lst xs) ∧ (∀ ks, v ≠ .dK ks) ∧ ∀ ks, v ≠ DTO ks) → b ≠ a := fun {b v} e nn z => by
    subst z; rw [h] at e; cases e
    rcases hu with ⟨xs, rfl⟩ | ⟨ks, rfl⟩ | ⟨ks, rfl⟩
    · exact nn.1 _ rfl
    · exact nn.2.1 _ rfl
    · exact nn.2.2 _ rfl
  have kp : Kp H (upd H a (.frz o u)) := ⟨fun b xs e => by rw [upd_ne (ne e ⟨(fun _ q => nomatch q), (fun _ q => nomatch q), (fun _ q => nomatch q)⟩)]; exact e, fun b ob v e => by rw [upd_ne (ne e ⟨(fun _ q => nomatch q), (fun _ q => nomatch q), (fun _ q => nomatch q)⟩)]; exact e⟩
  have zz : ∀ b v, Z b → H b = some v → upd H a (.frz o u) b = some v := fun b v zb e => by rw [upd_ne (fun q => z (by rw [← q]; exact zb))]; exact e
  refine ⟨⟨kp, zz⟩, ?_⟩
  have src : SrcOk S (upd H a (.frz o u)) := by
    have k := R.src
    match S, k, n with
    | none, _, _ => trivial
    | some (s, c), ⟨n1, cells, l, m, t, h1, h2, rr⟩, n =>
      refine ⟨n1, cells, l, m, t, ?_, ?_, rr⟩
      · rw [upd_ne (fun q => n (.inr q.symm))]; exact h1
      · rw [upd_ne (fun q => n (.inl q.symm))]; exact h2
  -- the slots but i
  have hlen : i < en.length := by
    obtain ⟨s', h1, _⟩ := ho
    exact (List.getElem?_eq_some_iff.mp h1).1
  refine ⟨by rw [List.length_set]; exact R.len, fun j t hj => ?_, fun j l b jl hj hl h1 h2 => R.dis j l b jl (ownE_set_val hj) (ownE_set_val hl) h1 h2, src, fun b zb => let ⟨v, e⟩ := R.zal b zb; ⟨v, zz b v zb e⟩, R.zs⟩
  by_cases ij : i = j
  · subst ij
    rw [List.getElem?_set_self hlen] at hj; cases hj
    rw [get_join hi]
    exact .val r
  · rw [List.getElem?_set_ne ij] at hj
    have q := R.sl j t hj
    generalize qe : σ[j]?.join = oj at q
    have nea : ∀ {b : Addr}, oj = some (.ref b) → isOwn t = true → b ≠ a := fun {b} e1 e2 z => by
      subst e1; subst z
      exact R.dis i j b ij ho ⟨t, hj, e2⟩ hi (join_some qe)
    cases q with
    | no => exact .no
    | val r => exact .val (r.kp kp)
    | own n z e r => exact .own n z (by rw [upd_ne (nea rfl rfl)]; exact e) (r.kp kp)
    | ownK n z e r => exact .ownK n z (by rw [upd_ne (nea rfl rfl)]; exact e) (r.kp kp)
    | ownT n z e r => exact .ownT n z (by rw [upd_ne (nea rfl rfl)]; exact e) (r.kp kp)
    | src q => exact .src q
theorem db_frz {i : Nat} (h : Db X S Z rest a) : Db X S Z rest (sFrz i a) := by
  refine ⟨fun pins s σ H D I ⟨en, R, w⟩ => ?_⟩
  unfold sFrz at w
  split at w
  · rename_i ds hd
    obtain ⟨ad, xs, h1, n, z, h2, h3⟩ := R.own hd
    obtain ⟨o, I'⟩ := Inv.lock I h2 (.inl ⟨_, rfl⟩)
    have kp : Kp H (upd H ad (.frz o (.lst xs))) := ⟨fun b ys e => by rw [upd_ne (fun q => by subst q; rw [h2] at e; cases e)]; exact e, fun b ob u e => by rw [upd_ne (fun q => by subst q; rw [h2] at e; cases e)]; exact e⟩
    obtain ⟨x, R'⟩ := R.lock (o := o) h1 ⟨_, hd, rfl⟩ n z h2 (.inl ⟨_, rfl⟩) (d := .list ds) (.lst ⟨o, upd_same⟩ (h3.kp kp))
    exact h.run pins s σ _ D I' ⟨_, R', M.wp_mono (fun r q => SEnd.ext x q) w⟩
  · rename_i ds hd
    obtain ⟨ad, h1, n, z, h2⟩ := R.ownD hd
    rcases h2 with ⟨ks, h2, h3⟩ | ⟨ks, h2, h3⟩
    · obtain ⟨o, I'⟩ := Inv.lock I h2 (.inr (.inl ⟨_, rfl⟩))
      have kp : Kp H (upd H ad (.frz o (.dK ks))) := ⟨fun b ys e => by rw [upd_ne (fun q => by subst q; rw [h2] at e; cases e)]; exact e, fun b ob u e => by rw [upd_ne (fun q => by subst q; rw [h2] at e; cases e)]; exact e⟩
      obtain ⟨x, R'⟩ := R.lock (o := o) h1 ⟨_, hd, rfl⟩ n z h2 (.inr (.inl ⟨_, rfl⟩)) (d := .dict ds) (.dK ⟨o, upd_same⟩ (h3.kp kp))
      exact h.run pins s σ _ D I' ⟨_, R', M.wp_mono (fun r q => SEnd.ext x q) w⟩
    · obtain ⟨o, I'⟩ := Inv.lock I h2 (.inr (.inr ⟨_, rfl⟩))
      have kp : Kp H (upd H ad (.frz o (DTO (ad, ks)))) := ⟨fun b ys e => by rw [upd_ne (fun q => by subst q; rw [h2] at e; cases e)]; exact e, fun b ob u e => by rw [upd_ne (fun q => by subst q; rw [h2] at e; cases e)]; exact e⟩
      obtain ⟨x, R'⟩ := R.lock (o := o) h1 ⟨_, hd, rfl⟩ n z h2 (.inr (.inr ⟨_, rfl⟩)) (d := .dict ds) (.dT ⟨o, upd_same⟩ (h3.kp kp))
      exact h.run pins s σ _ D I' ⟨_, R', M.wp_mono (fun r q => SEnd.ext x q) w⟩
  · exact w.elim
end
end DL
namespace DL
open PySem PySem.Spec PyProof.Rows L2

/-! ### walks -/
/-- from H1 on, as long as what stands still stands, it gives what stands for ds, one by one -/
structure Wk (Z : Addr → Prop) (K : PySem.W.Frag) (J : It) (ds : List PyData) (H1 : Hp) : Prop where
  go : ∀ i H d, ds[i]? = some d → Kp H1 H → J.go i H ∧ ∀ x H', J.yld i H x H' → Same H H' ∧ Rep K H' x d
  stop : ∀ H, Kp H1 H → J.stop ds.length H
def tI (S : SrcA) (Z : Addr → Prop) (K : PySem.W.Frag) (ci : CL) : TI := fun σ H R => ∃ e, Rel K S Z σ H e ∧ (ci e).wp fun ds => ∀ J H1, SameX S H H1 → SrcOk S H1 → Wk Z K J ds H1 → R J H1
abbrev Di (X : Cx) (S : SrcA) (Z : Addr → Prop) (tg iter : Expr) (ci : CL) : Prop := PI X tg iter (tI S Z X.K ci)
theorem PI.imp {X : Cx} {tg e : Expr} {t t' : TI} (h : PI X tg e t) (i : ∀ σ H Q, t' σ H Q → t σ H Q) : PI X tg e t' := ⟨fun pins s σ H Q I q => h.run pins s σ H Q I (i σ H Q q)⟩
section
variable {X : Cx} {S : SrcA} {Z : Addr → Prop} {tg e ea eb : Expr} {c ca cb : CE} {pos p : Pos}
/-- a list or a tuple -/
theorem pi_seq {l : Expr} {tl : TE} (hl : PE X l tl) : PI X tg l (fun σ H R => tl σ H fun x H1 => ∃ a, x = .ref a ∧ (((∃ xs, SqL X.K H1 a xs) ∧ R (Itl X.K a) H1) ∨ ((∃ xs, SqT X.K H1 a xs) ∧ R (Itt X.K a) H1))) := by
  refine ⟨fun pins s σ H R I h => ?_⟩
  refine thn (hl.run pins s σ H _ I h) fun v s1 ⟨x, H1, I1, r1, a, ex, q1⟩ => ?_
  subst ex
  cases r1
  have fp : ∀ b ∈ [s1.heap.objs.size], FpOk X pins H1 b := fun b hb => by
    obtain rfl : b = s1.heap.objs.size := by simpa using hb
    exact I1.fpOk (Nat.le_refl _) (I1.hok.fresh (Nat.le_refl _))
  rcases q1 with ⟨⟨xs, hq⟩, q⟩ | ⟨⟨xs, hq⟩, q⟩
  · obtain ⟨its, rv, p, hz⟩ := I1.list hq
    exact wpAny_pyIter_list p.isList ⟨_, _, _, _, H1, rfl, I1.kept (t' := s1.toks) fun b o e => Heap.get?_push_of_some _ e, turn_list a _, ⟨_, Heap.get?_push_size _ rfl, rfl, rfl⟩, fp, q⟩
  · obtain ⟨its, rv, p, hz⟩ := I1.tuple hq
    exact wpAny_pyIter_tuple p ⟨_, _, _, _, H1, rfl, I1.kept (t' := s1.toks) fun b o e => Heap.get?_push_of_some _ e, turn_tuple a _, ⟨_, Heap.get?_push_size _ rfl, rfl, rfl⟩, fp, q⟩
theorem wk_list {K : PySem.W.Frag} {H1 : Hp} {a : Addr} {xs : List V} {ds : List PyData} (h : LsF H1 a xs) (r : RepA K H1 xs ds) : Wk Z K (Itl K a) ds H1 := by
  refine ⟨fun i H d hd k => ?_, fun H k => ⟨xs, .inl (.inr (h.kp k)), by rw [r.length]; exact Nat.le_refl _⟩⟩
  obtain ⟨v, hv, rv⟩ := r.get hd
  have q : SqL K H a xs := .inl (.inr (h.kp k))
  refine ⟨⟨xs, v, q, hv⟩, fun x H' y => ?_⟩
  obtain ⟨rfl, y⟩ := y
  cases hv.symm.trans (y xs q)
  exact ⟨Same.refl _, rv.kp k⟩
theorem wk_tup {K : PySem.W.Frag} {H1 : Hp} {a : Addr} {xs : List V} {ds : List PyData} (h : SqT K H1 a xs) (r : RepA K H1 xs ds) : Wk Z K (Itt K a) ds H1 := by
  refine ⟨fun i H d hd k => ?_, fun H k => ⟨xs, sqT_kp k h, by rw [r.length]; exact Nat.le_refl _⟩⟩
  obtain ⟨v, hv, rv⟩ := r.get hd
  have q : SqT K H a xs := sqT_kp k h
  refine ⟨⟨xs, v, q, hv⟩, fun x H' y => ?_⟩
  obtain ⟨rfl, y⟩ := y
  cases hv.symm.trans (y xs q)
  exact ⟨Same.refl _, rv.kp k⟩
theorem di_seq (h : Dv X S Z e c) : Di X S Z tg e (ciSeq c) := by
  refine PI.imp (pi_seq h) fun σ H R ⟨en, Rl, w⟩ => ⟨en, Rl, M.wp_mono (fun d wd v H1 s k r => ?_) (M.wp_bind.mp w)⟩
  cases r with
  | lst h1 h2 => exact ⟨_, rfl, .inl ⟨⟨_, .inl (.inr h1)⟩, wd _ H1 s k (wk_list h1 h2)⟩⟩
  | tup h1 h2 => exact ⟨_, rfl, .inr ⟨⟨_, h1⟩, wd _ H1 s k (wk_tup h1 h2)⟩⟩
  | _ => exact wd.elim
theorem intsFrom_get {lo : Int} {n i : Nat} {d : PyData} (h : (intsFrom lo n)[i]? = some d) : i < n ∧ d = .int (lo + (i : Int)) := by
  unfold intsFrom at h
  rw [List.getElem?_map] at h
  cases q : (List.range n)[i]? with
  | none => rw [q] at h; cases h
  | some j =>
    rw [q] at h
    obtain ⟨h1, h2⟩ := List.getElem?_eq_some_iff.mp q
    rw [List.length_range] at h1
    rw [List.getElem_range] at h2
    subst h2
    cases h
    exact ⟨h1, rfl⟩
theorem intsFrom_len (lo : Int) (n : Nat) : (intsFrom lo n).length = n := by unfold intsFrom; rw [List.length_map, List.length_range]
theorem wk_range {K : PySem.W.Frag} {H1 : Hp} (lo : Int) (n : Nat) : Wk Z K (Itr lo n) (intsFrom lo n) H1 := by
  refine ⟨fun i H d hd k => ?_, fun H k => ?_⟩
  · obtain ⟨hi, rfl⟩ := intsFrom_get hd
    refine ⟨hi, fun x H' y => ?_⟩
    obtain ⟨rfl, rfl⟩ := y
    exact ⟨Same.refl _, .int _⟩
  · show n ≤ _
    rw [intsFrom_len]
    exact Nat.le_refl _
theorem asI_wp {d : PyData} {Q : Int → Prop} (h : (asI d).wp Q) : ∃ i, d = .int i ∧ Q i := by
  cases d <;> first | exact h.elim | exact ⟨_, rfl, h⟩
theorem di_range1 (hg : Gl X "range") (hm : X.mg "range" = none) (h : Dp X S Z ea ca) (hs : starEach [ea] X.env = [(false, eval ea X.env)] := by rfl) (hs' : starEach [ea] X.env = (false, eval ea X.env) :: starEach [] X.env := by rfl) : Di X S Z tg (.Call (.Name "range" p) [ea] [] pos) (ciRange1 ca) := by
  refine PI.imp (pi_range1 hg hm (dap_cons h dap_nil hs') hs) fun σ H R ⟨en, Rl, w⟩ => ⟨en, Rl, ?_⟩
  refine M.wp_bind.mpr (M.wp_mono (fun d wd => ?_) (M.wp_bind.mp w))
  obtain ⟨i, rfl, q⟩ := asI_wp (M.wp_bind.mp wd)
  obtain ⟨hb, q⟩ := wp_if q
  obtain ⟨b1, b2⟩ := inB_iff hb
  intro vs H1 s k r
  cases r with
  | cons r rr =>
    cases rr
    exact ⟨i, by rw [RepP.int r], b1, b2, q _ H1 s k (wk_range 0 i.toNat)⟩
theorem di_range2 (hg : Gl X "range") (hm : X.mg "range" = none) (h : Dp X S Z ea ca) (h2 : Dp X S Z eb cb) (hs : starEach [ea, eb] X.env = [(false, eval ea X.env), (false, eval eb X.env)] := by rfl) (hs2 : starEach [eb] X.env = [(false, eval eb X.env)] := by rfl)
    (hs' : starEach [ea, eb] X.env = (false, eval ea X.env) :: starEach [eb] X.env := by rfl) (hs2' : starEach [eb] X.env = (false, eval eb X.env) :: starEach [] X.env := by rfl) : Di X S Z tg (.Call (.Name "range" p) [ea, eb] [] pos) (ciRange2 ca cb) := by
  refine PI.imp (pi_range2 hg hm (dap_cons h (dap_cons h2 dap_nil hs2') hs') hs hs2) fun σ H R ⟨en, Rl, w⟩ => ⟨en, Rl, ?_⟩
  refine M.wp_bind.mpr (M.wp_mono (fun d wd => ?_) (M.wp_bind.mp w))
  refine M.wp_bind.mpr (M.wp_bind.mpr (M.wp_mono (fun d2 wd2 => ?_) (M.wp_bind.mp wd)))
  obtain ⟨i, rfl, q⟩ := asI_wp (M.wp_bind.mp wd2)
  obtain ⟨j, rfl, q⟩ := asI_wp (M.wp_bind.mp q)
  obtain ⟨hb, q⟩ := wp_if q
  obtain ⟨hb1, hb2⟩ := Bool.and_eq_true_iff.mp hb
  obtain ⟨b1, b2⟩ := inB_iff hb1
  obtain ⟨b3, b4⟩ := inB_iff hb2
  intro vs H1 s k r
  cases r with
  | cons r rr =>
    cases rr with
    | cons r2 rr =>
      cases rr
      exact ⟨i, j, by rw [RepP.int r, RepP.int r2], ⟨b1, b2, b3, b4⟩, q _ H1 s k (wk_range i (j - i).toNat)⟩

/-! ### targets -/
/-- only the slots told are stored -/
def Only (is : List Nat) (σ σ' : L2.St) : Prop := σ'.length = σ.length ∧ ∀ j : Nat, j ∉ is → σ'[j]? = σ[j]?
def tGd (S : SrcA) (Z : Addr → Prop) (K : PySem.W.Frag) (g : CG) (is : List Nat) : TG := fun v σ H Q => ∃ e d, Rel K S Z σ H e ∧ Rep K H v d ∧ (g e d).wp fun e' => ∀ σ', Rel K S Z σ' H e' → Only is σ σ' → Q σ' H
def tGds (S : SrcA) (Z : Addr → Prop) (K : PySem.W.Frag) (gs : List CG) (is : List Nat) : TGs := fun vs σ H Q => ∃ e ds, Rel K S Z σ H e ∧ RepA K H vs ds ∧ (gGo gs e ds).wp fun e' => ∀ σ', Rel K S Z σ' H e' → Only is σ σ' → Q σ' H
abbrev Dg (X : Cx) (S : SrcA) (Z : Addr → Prop) (tg : Expr) (g : CG) (is : List Nat) : Prop := PG X tg (tGd S Z X.K g is)
abbrev Dgs (X : Cx) (S : SrcA) (Z : Addr → Prop) (tgs : List Expr) (gs : List CG) (is : List Nat) : Prop := PGs X tgs (tGds S Z X.K gs is)
theorem PG.imp {X : Cx} {tg : Expr} {t t' : TG} (h : PG X tg t) (i : ∀ v σ H Q, t' v σ H Q → t v σ H Q) : PG X tg t' := ⟨fun pins s σ H v u Q I r q => h.run pins s σ H v u Q I r (i v σ H Q q)⟩
theorem PGs.imp {X : Cx} {tg : List Expr} {t t' : TGs} (h : PGs X tg t) (i : ∀ v σ H Q, t' v σ H Q → t v σ H Q) : PGs X tg t' := ⟨fun pins s σ H v u Q I r q => h.run pins s σ H v u Q I r (i v σ H Q q)⟩
theorem Only.refl (is : List Nat) (σ : L2.St) : Only is σ σ := ⟨rfl, fun _ _ => rfl⟩
theorem Only.set (i : Nat) (σ : L2.St) (o : Option V) : Only [i] σ (σ.set i o) := ⟨List.length_set .., fun j hj => List.getElem?_set_ne (fun e => hj (by rw [e]; exact List.mem_cons_self))⟩
theorem Only.trans {is js : List Nat} {σ σ1 σ2 : L2.St} (a : Only is σ σ1) (b : Only js σ1 σ2) : Only (is ++ js) σ σ2 :=
  ⟨b.1.trans a.1, fun j hj => (b.2 j fun h => hj (List.mem_append_right _ h)).trans (a.2 j fun h => hj (List.mem_append_left _ h))⟩
theorem dg_name {i : Nat} {x : Str} (hN : X.N.Nodup) (hi : X.N[i]? = some x) (hx : Loc X.env.scope x) (hf : X.fn x = true ∨ X.env.scope.names.lookup x = some .local := by first | exact .inl rfl | exact .inr rfl | assumption) : Dg X S Z (.Name x pos) (gSet i) [i] :=
  PG.imp (pg_name hN hi hx hf) fun v σ H Q ⟨en, d, R, r, w⟩ => w _ (R.set r) (Only.set i σ _)
theorem dgs_nil : Dgs X S Z [] [] [] := by
  refine PGs.imp pgs_nil fun vs σ H Q ⟨en, ds, R, r, w⟩ => ?_
  cases r with
  | nil => exact ⟨rfl, w σ R (Only.refl _ _)⟩
  | cons _ _ => exact w.elim
theorem dgs_cons {t : Expr} {ts : List Expr} {g : CG} {gs : List CG} {is js : List Nat} (h : Dg X S Z t g is) (h2 : Dgs X S Z ts gs js) (hs : (assignEach (t :: ts) X.env).map (·.2) = assign t X.env :: (assignEach ts X.env).map (·.2) := by rfl) : Dgs X S Z (t :: ts) (g :: gs) (is ++ js) := by
  refine PGs.imp (pgs_cons h h2 hs) fun vs σ H Q ⟨en, ds, R, r, w⟩ => ?_
  cases r with
  | nil => exact w.elim
  | cons r rr => exact ⟨_, _, rfl, en, _, R, r, M.wp_mono (fun e' w' σ' R' o => ⟨e', _, R', rr, M.wp_mono (fun e2 q σ2 R2 o2 => q σ2 R2 (o.trans o2)) w'⟩) (M.wp_bind.mp w)⟩
theorem gGo_len {gs : List CG} : ∀ {e : En} {ds : List PyData} {Q : En → Prop}, (gGo gs e ds).wp Q → ds.length = gs.length := by
  induction gs with
  | nil => intro e ds Q h; cases ds with
    | nil => rfl
    | cons _ _ => exact h.elim
  | cons g gs ih => intro e ds Q h; cases ds with
    | nil => exact h.elim
    | cons d ds =>
      have q := M.wp_bind.mp h
      have z : ∀ {m : M En}, m.wp (fun e' => (gGo gs e' ds).wp Q) → ds.length = gs.length := fun {m} hm => by
        induction m with
        | ret a => exact ih hm
        | bad => exact hm.elim
        | pick n k ihk =>
          have h0 : (0 : Int) < max 1 n := by omega
          exact ihk 0 (hm 0 (Int.le_refl 0) h0)
      rw [List.length_cons, List.length_cons, z q]
theorem dg_tup {es : List Expr} {k : Nat} {gs : List CG} {is : List Nat} (hc : X.calm = true) (h : Dgs X S Z es gs is) (hn : (assignEach es X.env).length = gs.length := by rfl) (hst : (assignEach es X.env).findIdx? (·.1) = none := by rfl) : Dg X S Z (.Tuple es k pos) (gTup gs) is := by
  refine PG.imp (pg_tup hc h hn hst) fun v σ H Q ⟨en, d, R, r, w⟩ => ?_
  cases r with
  | tup h1 h2 =>
    refine ⟨_, _, rfl, h1, ?_, en, _, R, h2, w⟩
    rw [h2.length]
    exact gGo_len w
  | _ => exact w.elim
theorem ds_asg {tg e : Expr} {g : CG} {is : List Nat} (he : Dv X S Z e c) (hg : Dg X S Z tg g is) (hs : swapsWithSole [tg] e pos.line X.env = pure false := by rfl) (hw : swappedStores [tg] e X.env = pure none := by rfl)
    (h1 : (assignEach [tg] X.env).map (·.2) = [assign tg X.env] := by rfl) : Ds X S Z (.Assign [tg] e pos) (sAsg g c) :=
  PS.imp (ps_asg he hg hs hw h1) fun D σ H ⟨en, R, w⟩ => ⟨en, R, M.wp_mono (fun d wd => by
    intro v H1 s k r
    exact ⟨en, d, R.same s k, r, M.wp_mono (fun e' q σ' R' o => q σ' H1 (R.ext s) R') (M.wp_bind.mp wd)⟩) (M.wp_bind.mp w)⟩

/-! ### for, while -/
theorem ds_for {iter : Expr} {body : List Stmt} {ci : CL} {g : CG} {is : List Nat} {cb : CS} (hp : PassesOwn (model X.prog X.w) X.A X.env X.xe) (hc : X.calm = true) (hi : Di X S Z tg iter ci) (hg : Dg X S Z tg g is) (hb : Db X S Z body cb)
    (hs : ∀ x, foldedSetIterable iter X.env x = pure x := by intro _; rfl) : Ds X S Z (.For tg iter body [] pos) (sFor ci g cb) := by
  refine PS.imp (ps_for hp hc hi hg hb hs) fun D σ H ⟨en, R, w⟩ => ⟨en, R, M.wp_mono (fun ds wd J H1 s k wk => ?_) (M.wp_bind.mp w)⟩
  refine ⟨fun i m σ2 H2 => m = ds.length - i ∧ i ≤ ds.length ∧ Ext Z H H2 ∧ Kp H1 H2 ∧ ∃ e2, Rel X.K S Z σ2 H2 e2 ∧ (forGo g cb (ds.drop i) e2).wp (SEnd S Z X.K H D), ⟨ds.length, by simp, Nat.zero_le _, R.ext s, Kp.refl _, en, R.same s k, wd⟩, ?_⟩
  rintro i m σ2 H2 ⟨rfl, hi, x2, k2, e2, R2, w2⟩
  by_cases hlt : i < ds.length
  · have hd : ds[i]? = some ds[i] := List.getElem?_eq_getElem hlt
    obtain ⟨go, yl⟩ := wk.go i H2 _ hd k2
    rw [List.drop_eq_getElem_cons hlt] at w2
    have w3 := M.wp_bind.mp w2
    refine .inr ⟨go, _, fun σ' H' h => ⟨ds.length - (i + 1), by omega, h⟩, fun x H' y => ?_⟩
    obtain ⟨s3, r3⟩ := yl x H' y
    have x3 : Ext Z H2 H' := ⟨.of s3, fun a o _ e => s3 a o e⟩
    refine ⟨e2, _, R2.same (.of s3) (R2.src.same s3), r3, M.wp_mono (fun e3 q σ3 R3 o3 => ⟨e3, R3, M.wp_mono (fun r q => ?_) (M.wp_bind.mp q)⟩) w3⟩
    match r, q with
    | (.nx, e4), q => exact fun σ4 H4 x4 R4 => ⟨rfl, hlt, (x2.trans x3).trans x4, (k2.trans (.of s3)).trans x4.kp, e4, R4, q⟩
    | (.ct, e4), q => exact fun σ4 H4 x4 R4 => ⟨rfl, hlt, (x2.trans x3).trans x4, (k2.trans (.of s3)).trans x4.kp, e4, R4, q⟩
    | (.bk, e4), q => exact fun σ4 H4 x4 R4 => q σ4 H4 ((x2.trans x3).trans x4) R4
    | (.rt d, e4), q => exact fun v H4 x4 k4 r4 => q v H4 ((x2.trans x3).trans x4) k4 r4
  · have e : i = ds.length := by omega
    subst e
    rw [List.drop_length] at w2
    exact .inl ⟨wk.stop H2 k2, w2 σ2 H2 x2 R2⟩
theorem ds_while {n : Nat} {et : Expr} {body : List Stmt} {t : CT} {cb : CS} (hp : PassesOwn (model X.prog X.w) X.A X.env X.xe) (ht : Dt X S Z et t) (hb : Db X S Z body cb) : Ds X S Z (.While et body [] pos) (sWhile n t cb) := by
  refine PS.imp (ps_while hp ht hb) fun D σ H ⟨en, R, w⟩ => ?_
  refine ⟨fun m σ2 H2 => Ext Z H H2 ∧ ∃ e2, Rel X.K S Z σ2 H2 e2 ∧ (whileGo t cb m e2).wp (SEnd S Z X.K H D), ⟨n, Ext.refl _, en, R, w⟩, ?_⟩
  rintro m σ2 H2 ⟨x2, e2, R2, w2⟩
  cases m with
  | zero => exact w2.elim
  | succ m =>
    refine ⟨e2, R2, M.wp_mono (fun b q H3 s3 k3 => ?_) (M.wp_bind.mp w2)⟩
    have R3 := R2.same s3 k3
    cases b with
    | false => exact q σ2 H3 (x2.trans (R2.ext s3)) R3
    | true =>
      refine ⟨_, fun σ' H' h => ⟨m, Nat.lt_succ_self m, h⟩, e2, R3, M.wp_mono (fun r q => ?_) (M.wp_bind.mp q)⟩
      match r, q with
      | (.nx, e4), q => exact fun σ4 H4 x4 R4 => ⟨(x2.trans (R2.ext s3)).trans x4, e4, R4, q⟩
      | (.ct, e4), q => exact fun σ4 H4 x4 R4 => ⟨(x2.trans (R2.ext s3)).trans x4, e4, R4, q⟩
      | (.bk, e4), q => exact fun σ4 H4 x4 R4 => q σ4 H4 ((x2.trans (R2.ext s3)).trans x4) R4
      | (.rt d, e4), q => exact fun v H4 x4 k4 r4 => q v H4 ((x2.trans (R2.ext s3)).trans x4) k4 r4

/-! ### comprehensions -/
abbrev Dts (X : Cx) (S : SrcA) (Z : Addr → Prop) (ifs : List Expr) (t : CT) : Prop := PTs X ifs (tDt S Z X.K t)
theorem PTs.imp {X : Cx} {e : List Expr} {t t' : TT} (h : PTs X e t) (i : ∀ σ H Q, t' σ H Q → t σ H Q) : PTs X e t' := ⟨fun pins s σ H Q I q => h.run pins s σ H Q I (i σ H Q q)⟩
theorem dts_nil : Dts X S Z [] ctYes := PTs.imp pts_nil fun σ H Q ⟨en, R, w⟩ => w H (SameX.refl H) R.src
theorem dts_one {t : CT} (h : Dt X S Z e t) : Dts X S Z [e] t := pts_one h
theorem wipe_in {σ : L2.St} {j : Nat} : ∀ {vs : List Nat}, j ∈ vs → j < σ.length → (L2.wipe σ vs)[j]? = some none
  | v :: vs, h, hl => by
    unfold L2.wipe
    by_cases e : v = j
    · subst e
      rw [List.getElem?_set_self (by rw [wipe_length]; exact hl)]
    · rw [List.getElem?_set_ne e]
      rcases List.mem_cons.mp h with q | q
      · exact absurd q.symm e
      · exact wipe_in q hl
theorem wipe_only {σ σ' : L2.St} {is vs : List Nat} (o : Only is (L2.wipe σ vs) σ') (h : ∀ i ∈ is, i ∈ vs) : L2.wipe σ' vs = L2.wipe σ vs := by
  apply List.ext_getElem?
  intro j
  have hl : σ'.length = σ.length := o.1.trans (wipe_length _ _)
  by_cases hj : j ∈ vs
  · by_cases hs : j < σ.length
    · rw [wipe_in hj hs, wipe_in hj (by omega)]
    · rw [List.getElem?_eq_none (by rw [wipe_length]; omega), List.getElem?_eq_none (by rw [wipe_length]; omega)]
  · rw [wipe_out hj, o.2 j fun z => hj (h j z)]
theorem wp_noif {α : Type} {c : Prop} [Decidable c] {m : M α} {Q : α → Prop} (h : (if c then m else .bad).wp Q) : m.wp Q := (wp_if h).2
variable {elt iter : Expr} {ifs : List Expr} {scope : Scope} {own : List (Str × Nat)} {ci : CL} {g : CG} {is : List Nat} {t : CT}
theorem tLc_of {σ : L2.St} {H : Hp} {Q : VK} {K : PySem.W.Frag} (hin : ∀ i ∈ is, i ∈ own.map (·.2)) (h : tDl S Z K (clComp (own.map (·.2)) ci g t c) σ H Q) :
    tLc (tI S Z K ci) (tGd S Z K g is) (tDt S Z K t) (tD S Z K (RV K) c) (own.map (·.2)) σ H Q := by
  obtain ⟨en, R, w⟩ := h
  refine ⟨en, R, M.wp_mono (fun ds wd J H1 s1 k1 wk D hD => ?_) (M.wp_bind.mp w)⟩
  obtain ⟨hfit, wd⟩ := wp_if wd
  have hfit : ds.length ≤ sizeLine := of_decide_eq_true hfit
  have R1 := R.same s1 k1
  have hD0 : H D = none := by
    cases q : H D with
    | none => rfl
    | some o =>
      by_cases z : inS S D
      · have := not_new k1 hD
        exact absurd z this
      · rw [s1 D o z q] at hD; cases hD
  have nD : ¬ inS S D := not_new k1 hD
  have srcD : ∀ {H4 : Hp} {u : HO}, SrcOk S H4 → SrcOk S (upd H4 D u) := fun {H4 u} k => by
    match S, k, nD with
    | none, _, _ => trivial
    | some (s, c), ⟨n1, cells, l, m, t, h1, h2, rr⟩, n =>
      refine ⟨n1, cells, l, m, t, ?_, ?_, rr⟩
      · rw [upd_ne (fun q => n (.inr q.symm))]; exact h1
      · rw [upd_ne (fun q => n (.inl q.symm))]; exact h2
  refine ⟨fun i m H2 => m = ds.length - i ∧ i ≤ ds.length ∧ SameX S H1 H2 ∧ SrcOk S H2 ∧ ∃ acc dacc, H2 D = some (.lst acc) ∧ acc.length ≤ i ∧ RepA K H2 acc dacc ∧
      (compGo g t c (wipeE en (own.map (·.2))) (ds.drop i)).wp fun r => ∀ a xs H', SameX S H H' → SrcOk S H' → H a = none → H' a = some (.lst xs) → RepA K H' xs (dacc ++ r) → Q (.ref a) H',
    ⟨ds.length, by simp, Nat.zero_le _, fun b o _ e => by rw [upd_ne (ne_of_none e hD)]; exact e, srcD k1, [], [], upd_same, Nat.le_refl _, .nil, wd⟩, ?_⟩
  rintro i m H2 ⟨rfl, hi, s2, k2, acc, dacc, hacc, hlen, racc, w2⟩
  have kp2 : Kp H1 H2 := s2.kp k1
  by_cases hlt : i < ds.length
  · have hd : ds[i]? = some ds[i] := List.getElem?_eq_getElem hlt
    obtain ⟨go, yl⟩ := wk.go i H2 _ hd kp2
    rw [List.drop_eq_getElem_cons hlt] at w2
    have w3 := M.wp_bind.mp w2
    refine .inr ⟨go, _, fun H' h => ⟨ds.length - (i + 1), by omega, h⟩, fun x H' y => ?_⟩
    obtain ⟨s3, r3⟩ := yl x H' y
    have R3 : Rel K S Z (L2.wipe σ (own.map (·.2))) H' (wipeE en (own.map (·.2))) := (R1.wipe _).same (s2.trans (.of s3)) (k2.same s3)
    refine ⟨_, _, R3, r3, M.wp_mono (fun e3 q σ3 R3' o3 => ⟨wipe_only o3 hin, ?_⟩) w3⟩
    refine ⟨e3, R3', M.wp_mono (fun b q H4 s4 k4 => ?_) (M.wp_bind.mp q)⟩
    have s24 : SameX S H2 H4 := (SameX.of s3).trans s4
    cases b with
    | false =>
      exact ⟨rfl, hlt, s2.trans s24, k4, acc, dacc, s24 D _ nD hacc, by omega, racc.kp (s24.kp k2), q⟩
    | true =>
      refine ⟨e3, R3'.same s4 k4, M.wp_mono (fun dy q v H5 s5 k5 r5 => ?_) (M.wp_bind.mp q)⟩
      have s25 : SameX S H2 H5 := s24.trans s5
      have h5 : H5 D = some (.lst acc) := s25 D _ nD hacc
      have kpD : Kp H5 (upd H5 D (.lst (acc ++ [v]))) := ⟨fun b xs e => by rw [upd_ne (fun z => by subst z; rw [h5] at e; cases e)]; exact e, fun b o u e => by rw [upd_ne (fun z => by subst z; rw [h5] at e; cases e)]; exact e⟩
      refine ⟨acc, h5, by omega, rfl, hlt, fun b o nb e => ?_, srcD k5, acc ++ [v], dacc ++ [dy], upd_same, by rw [List.length_append]; simp; omega, ?_, ?_⟩
      · rw [upd_ne (ne_of_none e hD)]
        exact (s2.trans s25) b o nb e
      · exact ((racc.kp (s25.kp k2)).kp kpD).append (.cons (r5.kp kpD) .nil)
      · refine M.wp_mono (fun r q => ?_) (M.wp_bind.mp q)
        have q' : ∀ a xs H', SameX S H H' → SrcOk S H' → H a = none → H' a = some (.lst xs) → RepA K H' xs (dacc ++ (dy :: r)) → Q (.ref a) H' := q
        rw [List.append_assoc, List.singleton_append]
        exact q'
  · have e : i = ds.length := by omega
    subst e
    rw [List.drop_length] at w2
    refine .inl ⟨wk.stop H2 kp2, ?_⟩
    have w2' : ∀ a xs H', SameX S H H' → SrcOk S H' → H a = none → H' a = some (.lst xs) → RepA K H' xs (dacc ++ []) → Q (.ref a) H' := w2
    rw [List.append_nil] at w2'
    exact w2' D acc H2 (s1.trans s2) k2 hD0 hacc racc
theorem dl_comp (hc : X.calm = true) (hN : X.N.Nodup) (ok : BlkOk X.N X.env.scope scope own) (hin : ∀ i ∈ is, i ∈ own.map (·.2)) (hi : Di X S Z tg iter ci)
    (hg : ∀ (s : Shared) (H : Hp) (C : Addr) (cl : List (Str × Addr)) (fp : List Addr), Dg (X.blk s H scope (compEnvC scope cl C X.env) fp) S Z tg g is) (ht : ∀ (s : Shared) (H : Hp) (C : Addr) (cl : List (Str × Addr)) (fp : List Addr), Dts (X.blk s H scope (compEnvC scope cl C X.env) fp) S Z ifs t)
    (he : ∀ (s : Shared) (H : Hp) (C : Addr) (cl : List (Str × Addr)) (fp : List Addr), Dv (X.blk s H scope (compEnvC scope cl C X.env) fp) S Z elt c) (hs : ∀ x, foldedSetIterable iter X.env x = pure x := by intro _; rfl) :
    Dl X S Z (.ListComp elt [⟨tg, iter, ifs, 0⟩] scope pos) (clComp (own.map (·.2)) ci g t c) :=
  PE.imp (pe_lc hc hN hi ok hg ht he hs) fun σ H Q h => tLc_of hin h
theorem ds_ownLc {i : Nat} {y : Str} {py spos : Pos} (hc : X.calm = true) (hN : X.N.Nodup) (hy : X.N[i]? = some y) (hyl : X.env.scope.names.lookup y = some .local)
    (hsw : swapsWith (.ListComp elt [⟨tg, iter, ifs, 0⟩] scope pos) (some (.Name y py)) spos.line X.env = pure true) (ok : BlkOk X.N X.env.scope scope own) (hin : ∀ i ∈ is, i ∈ own.map (·.2)) (hi : Di X S Z tg iter ci)
    (hg : ∀ (s : Shared) (H : Hp) (C : Addr) (cl : List (Str × Addr)) (fp : List Addr), Dg (X.blk s H scope (compEnvC scope cl C X.env) fp) S Z tg g is) (ht : ∀ (s : Shared) (H : Hp) (C : Addr) (cl : List (Str × Addr)) (fp : List Addr), Dts (X.blk s H scope (compEnvC scope cl C X.env) fp) S Z ifs t)
    (he : ∀ (s : Shared) (H : Hp) (C : Addr) (cl : List (Str × Addr)) (fp : List Addr), Dv (X.blk s H scope (compEnvC scope cl C X.env) fp) S Z elt c) (hs : ∀ x, foldedSetIterable iter X.env x = pure x := by intro _; rfl) :
    Ds X S Z (.Assign [.Name y py] (.ListComp elt [⟨tg, iter, ifs, 0⟩] scope pos) spos) (sOwn i (clComp (own.map (·.2)) ci g t c)) := by
  refine PS.imp (ps_setLc hc hN hy hyl hsw hi ok hg ht he hs) fun D σ H ⟨en, R, w⟩ => tLc_of hin ⟨en, R, M.wp_mono (fun ds q => ?_) (M.wp_bind.mp w)⟩
  intro a xs H' s k n e r
  exact q _ H' (R.ext s) (R.put s k n (.own (not_new R.src n) (R.notZ n) e r) rfl)
end
end DL
namespace DL
open PySem PySem.Spec PyProof.Rows L2

/-! ### more combinators -/
def optI : Option CE → En → M (Option Int)
  | none, _ => .ret none
  | some c, e => (c e).bind fun d => (asI d).bind fun i => .ret (some i)
def cutD {α : Type} (xs : List α) (lo hi : Option Int) : List α := (xs.drop (HT.sIx xs.length 0 lo)).take (HT.sIx xs.length xs.length hi - HT.sIx xs.length 0 lo)
def mSl : PyData → Option Int → Option Int → M PyData
  | .list xs, lo, hi => .ret (.list (cutD xs lo hi))
  | .tuple xs, lo, hi => .ret (.tuple (cutD xs lo hi))
  | _, _, _ => .bad
def cSl (c : CE) (lo hi : Option CE) : CE := fun e => (c e).bind fun x => (optI lo e).bind fun l => (optI hi e).bind fun h => mSl x l h
/-- list(x), a new one -/
def clOf (c : CE) : CL := fun e => (c e).bind itemsOf
def mTuple : FD
  | [.list xs] => .ret (.tuple xs)
  | [.tuple xs] => .ret (.tuple xs)
  | _ => .bad
def mLen : FD
  | [.list xs] => .ret (.int xs.length)
  | [.tuple xs] => .ret (.int xs.length)
  | [.str z] => if z.length ≤ sizeLine then .ret (.int z.length) else .bad
  | _ => .bad
def mAbs : FD
  | [.int i] => .ret (.int (if i < 0 then -i else i))
  | _ => .bad
def mInt : FD
  | [.int i] => .ret (.int i)
  | [.bool b] => .ret (.int (if b = true then 1 else 0))
  | _ => .bad
def maxL : List Int → Int
  | [] => 0
  | [a] => a
  | a :: r => let m := maxL r; if m ≤ a then a else m
def minL : List Int → Int
  | [] => 0
  | [a] => a
  | a :: r => let m := minL r; if a ≤ m then a else m
def mMax : FD
  | [.int i, .int j] => .ret (.int (if j > i then j else i))
  | [.list xs] => match asIntsO xs with
    | some (a :: r) => .ret (.int (maxL (a :: r)))
    | _ => .bad
  | _ => .bad
def mMin : FD
  | [.int i, .int j] => .ret (.int (if j < i then j else i))
  | [.list xs] => match asIntsO xs with
    | some (a :: r) => .ret (.int (minL (a :: r)))
    | _ => .bad
  | _ => .bad
def mSum : FD
  | [.list xs] => match asIntsO xs with
    | some ns => .ret (.int ns.sum)
    | none => .bad
  | _ => .bad
def asBoolsO : List PyData → Option (List Bool)
  | [] => some []
  | .bool i :: r => match asBoolsO r with
    | some is => some (i :: is)
    | none => none
  | _ :: _ => none
def mAll : FD
  | [.list xs] => match asBoolsO xs with
    | some bs => .ret (.bool (bs.all id))
    | none => .bad
  | _ => .bad
def mAny : FD
  | [.list xs] => match asBoolsO xs with
    | some bs => .ret (.bool (bs.any id))
    | none => .bad
  | _ => .bad
/-- the draw -/
def mPick : FD
  | [.int n] => .pick n fun i => .ret (.int i)
  | _ => .bad

theorem asBoolsO_eq : ∀ {ds : List PyData} {bs : List Bool}, asBoolsO ds = some bs → ds = bs.map PyData.bool
  | [], ns, h => by cases h; rfl
  | .bool i :: r, ns, h => by
    unfold asBoolsO at h
    split at h
    · rename_i is hr
      cases h
      rw [List.map_cons, asBoolsO_eq hr]
    · cases h
  | .none :: _, _, h => by simp [asBoolsO] at h
  | .int _ :: _, _, h => by simp [asBoolsO] at h
  | .str _ :: _, _, h => by simp [asBoolsO] at h
  | .list _ :: _, _, h => by simp [asBoolsO] at h
  | .tuple _ :: _, _, h => by simp [asBoolsO] at h
  | .dict _ :: _, _, h => by simp [asBoolsO] at h
theorem maxL_is : ∀ {ns : List Int} {m : Int}, m ∈ ns → (∀ y, y ∈ ns → y ≤ m) → maxL ns = m
  | [], _, h, _ => absurd h (by simp)
  | [a], m, h, _ => by simp at h; exact h.symm
  | a :: b :: r, m, h, hm => by
    have ha := hm a List.mem_cons_self
    show (if maxL (b :: r) ≤ a then a else maxL (b :: r)) = m
    by_cases q : m ∈ b :: r
    · rw [maxL_is q fun y hy => hm y (List.mem_cons_of_mem _ hy)]
      split <;> omega
    · have e : m = a := by
        rcases List.mem_cons.mp h with e | e
        · exact e
        · exact absurd e q
      subst e
      have z : ∀ {l : List Int}, (∀ y, y ∈ l → y ≤ m) → l ≠ [] → maxL l ≤ m := fun {l} => by
        induction l with
        | nil => intro _ h; exact absurd rfl h
        | cons c l ih =>
          intro h1 _
          cases l with
          | nil => exact h1 c List.mem_cons_self
          | cons d l =>
            have i1 := ih (fun y hy => h1 y (List.mem_cons_of_mem _ hy)) (by simp)
            have i2 := h1 c List.mem_cons_self
            show (if maxL (d :: l) ≤ c then c else maxL (d :: l)) ≤ m
            split <;> omega
      rw [if_pos (z (fun y hy => hm y (List.mem_cons_of_mem _ hy)) (by simp))]
theorem minL_is : ∀ {ns : List Int} {m : Int}, m ∈ ns → (∀ y, y ∈ ns → m ≤ y) → minL ns = m
  | [], _, h, _ => absurd h (by simp)
  | [a], m, h, _ => by simp at h; exact h.symm
  | a :: b :: r, m, h, hm => by
    have ha := hm a List.mem_cons_self
    show (if a ≤ minL (b :: r) then a else minL (b :: r)) = m
    by_cases q : m ∈ b :: r
    · rw [minL_is q fun y hy => hm y (List.mem_cons_of_mem _ hy)]
      split <;> omega
    · have e : m = a := by
        rcases List.mem_cons.mp h with e | e
        · exact e
        · exact absurd e q
      subst e
      have z : ∀ {l : List Int}, (∀ y, y ∈ l → m ≤ y) → l ≠ [] → m ≤ minL l := fun {l} => by
        induction l with
        | nil => intro _ h; exact absurd rfl h
        | cons c l ih =>
          intro h1 _
          cases l with
          | nil => exact h1 c List.mem_cons_self
          | cons d l =>
            have i1 := ih (fun y hy => h1 y (List.mem_cons_of_mem _ hy)) (by simp)
            have i2 := h1 c List.mem_cons_self
            show m ≤ (if c ≤ minL (d :: l) then c else minL (d :: l))
            split <;> omega
      rw [if_pos (z (fun y hy => hm y (List.mem_cons_of_mem _ hy)) (by simp))]

section
variable {X : Cx} {S : SrcA} {Z : Addr → Prop} {e ea eb : Expr} {es : List Expr} {c ca cb : CE} {cl : CL} {pos p : Pos} {x : Str} {id T : String}

/-! ### built-ins by values -/
def rC (S : SrcA) (K : PySem.W.Frag) (m : FD) : List V → Hp → VK → Prop := fun vs H Q => ∃ ds, SrcOk S H ∧ Paired (RP K S H) vs ds ∧ (m ds).wp (Aft S H (RV K) Q)
theorem tD_rC {m : FD} {σ : L2.St} {H : Hp} {Q : VK} (h : tD S Z X.K (RV X.K) (cCall m cl) σ H Q) : tCB (rC S X.K m) (tDa S Z X.K (RP X.K S) cl) σ H Q := by
  obtain ⟨en, R, w⟩ := h
  exact ⟨en, R, M.wp_mono (fun ds wd vs H1 s1 k1 r1 => ⟨ds, k1, r1, M.wp_mono (fun d q => by intro v H2 s2 k2 r2; exact q v H2 (s1.trans s2) k2 r2) wd⟩) (M.wp_bind.mp w)⟩
theorem dv_callB {m : FD} (hc : CallR X (.builtin id) (rC S X.K m)) (hg : Gl X x) (hm : X.mg x = none) (hv : bootBuiltins x = some (.builtin id)) (ha : Dap X S Z (e :: es) cl) (hn : x ≠ "__name__" := by decide) (hdb : (x == ("__debug__" : Str)) = false := by decide)
    (he : starEach (e :: es) X.env = (false, eval e X.env) :: starEach es X.env := by rfl) (hpl : (backTo pos (starEach es X.env)).any (·.1) = false := by rfl) : Dv X S Z (.Call (.Name x p) (e :: es) [] pos) (cCall m cl) :=
  PE.imp (pe_callB hc hg hm hv ha hn hdb he hpl) fun σ H Q h => tD_rC h
theorem dv_callTy {m : FD} (hc : CallR X (.type T) (rC S X.K m)) (hg : Gl X x) (hm : X.mg x = none) (hv : bootBuiltins x = some (.type T)) (ha : Dap X S Z (e :: es) cl) (hn : x ≠ "__name__" := by decide) (hdb : (x == ("__debug__" : Str)) = false := by decide)
    (he : starEach (e :: es) X.env = (false, eval e X.env) :: starEach es X.env := by rfl) (hpl : (backTo pos (starEach es X.env)).any (·.1) = false := by rfl) : Dv X S Z (.Call (.Name x p) (e :: es) [] pos) (cCall m cl) :=
  PE.imp (pe_callTy hc hg hm hv ha hn hdb he hpl) fun σ H Q h => tD_rC h
theorem CallR.lock {f : Value} {r : List V → Hp → VK → Prop} (h : CallR X f r) : CallR X f (fun xs H Q => r xs H (Lk Q)) := fun pins s σ H xs us Q I rx q =>
  thn (h pins s σ H xs us _ I rx q) fun u s1 h1 => EP.lock h1
theorem pair1 {F : V → PyData → Prop} {vs : List V} {d : PyData} (h : Paired F vs [d]) : ∃ v, vs = [v] ∧ F v d := by
  cases h with
  | cons r t => cases t; exact ⟨_, rfl, r⟩
theorem pair2 {F : V → PyData → Prop} {vs : List V} {d d' : PyData} (h : Paired F vs [d, d']) : ∃ v v', vs = [v, v'] ∧ F v d ∧ F v' d' := by
  cases h with
  | cons r t =>
    obtain ⟨v', rfl, r'⟩ := pair1 t
    exact ⟨_, _, rfl, r, r'⟩
theorem bc_tuple : CallR X (.type "tuple") (rC S X.K mTuple) := by
  intro pins s σ H xs us Q I rx ⟨ds, k, rs, w⟩
  unfold mTuple at w
  split at w
  · obtain ⟨v, rfl, r⟩ := pair1 rs
    obtain ⟨a, xs, rfl, h1, h2⟩ := RepP.list r
    exact call_tuple_of pins s σ H _ us Q I rx ⟨a, xs, rfl, .inl ⟨h1, fun l hl => Aft.tup k w h2 hl⟩⟩
  · obtain ⟨v, rfl, r⟩ := pair1 rs
    obtain ⟨a, xs, rfl, h1, h2⟩ := RepP.tuple r
    exact call_tuple_of pins s σ H _ us Q I rx ⟨a, xs, rfl, .inr ⟨h1, Aft.ret k w (.tup h1 h2)⟩⟩
  · exact w.elim
theorem bc_len : CallR X (.builtin "len") (rC S X.K mLen) := by
  intro pins s σ H xs us Q I rx ⟨ds, k, rs, w⟩
  unfold mLen at w
  split at w
  · obtain ⟨v, rfl, r⟩ := pair1 rs
    obtain ⟨a, xs, rfl, h1, h2⟩ := RepP.list r
    exact call_len_seq pins s σ H _ us Q I rx ⟨a, xs, rfl, .inl h1, Aft.ret k w (by rw [h2.length]; exact .int _)⟩
  · obtain ⟨v, rfl, r⟩ := pair1 rs
    obtain ⟨a, xs, rfl, h1, h2⟩ := RepP.tuple r
    exact call_len_seq pins s σ H _ us Q I rx ⟨a, xs, rfl, .inr h1, Aft.ret k w (by rw [h2.length]; exact .int _)⟩
  · obtain ⟨v, rfl, r⟩ := pair1 rs
    obtain ⟨hl, w⟩ := wp_if w
    cases RepP.str r
    exact call_len_str pins s σ H _ us Q I rx ⟨_, rfl, hl, Aft.ret k w (.int _)⟩
  · exact w.elim
theorem bc_abs : CallR X (.builtin "abs") (rC S X.K mAbs) := by
  intro pins s σ H xs us Q I rx ⟨ds, k, rs, w⟩
  unfold mAbs at w
  split at w
  · obtain ⟨v, rfl, r⟩ := pair1 rs
    cases RepP.int r
    exact call_abs pins s σ H _ us Q I rx ⟨_, rfl, Aft.ret k w (.int _)⟩
  · exact w.elim
theorem bc_int : CallR X (.type "int") (rC S X.K mInt) := by
  intro pins s σ H xs us Q I rx ⟨ds, k, rs, w⟩
  unfold mInt at w
  split at w
  · obtain ⟨v, rfl, r⟩ := pair1 rs
    cases RepP.int r
    exact call_int1 pins s σ H _ us Q I rx (.inl ⟨_, rfl, Aft.ret k w (.int _)⟩)
  · obtain ⟨v, rfl, r⟩ := pair1 rs
    cases RepP.bool r
    exact call_int1 pins s σ H _ us Q I rx (.inr ⟨_, rfl, Aft.ret k w (.int _)⟩)
  · exact w.elim
theorem bc_max (hc : X.calm = true) : CallR X (.builtin "max") (rC S X.K mMax) := by
  intro pins s σ H xs us Q I rx ⟨ds, k, rs, w⟩
  unfold mMax at w
  split at w
  · obtain ⟨v, v', rfl, r, r'⟩ := pair2 rs
    cases RepP.int r
    cases RepP.int r'
    exact call_max2 hc pins s σ H _ us Q I rx ⟨_, _, rfl, Aft.ret k w (.int _)⟩
  · split at w
    · rename_i e
      cases asIntsO_eq e
      obtain ⟨v, rfl, r⟩ := pair1 rs
      obtain ⟨a, xs, rfl, h1, h2⟩ := RepP.list r
      cases h2.ints
      exact cr_max hc pins s σ H _ us Q I rx ⟨a, _, rfl, h1, by simp, fun m h1 h2 => by rw [← maxL_is h1 h2]; exact Aft.ret k w (.int _)⟩
    · exact w.elim
  · exact w.elim
theorem bc_min (hc : X.calm = true) : CallR X (.builtin "min") (rC S X.K mMin) := by
  intro pins s σ H xs us Q I rx ⟨ds, k, rs, w⟩
  unfold mMin at w
  split at w
  · obtain ⟨v, v', rfl, r, r'⟩ := pair2 rs
    cases RepP.int r
    cases RepP.int r'
    exact call_min2 hc pins s σ H _ us Q I rx ⟨_, _, rfl, Aft.ret k w (.int _)⟩
  · split at w
    · rename_i e
      cases asIntsO_eq e
      obtain ⟨v, rfl, r⟩ := pair1 rs
      obtain ⟨a, xs, rfl, h1, h2⟩ := RepP.list r
      cases h2.ints
      exact cr_min hc pins s σ H _ us Q I rx ⟨a, _, rfl, h1, by simp, fun m h1 h2 => by rw [← minL_is h1 h2]; exact Aft.ret k w (.int _)⟩
    · exact w.elim
  · exact w.elim
theorem bc_sum (hc : X.calm = true) : CallR X (.builtin "sum") (rC S X.K mSum) := by
  intro pins s σ H xs us Q I rx ⟨ds, k, rs, w⟩
  unfold mSum at w
  split at w
  · split at w
    · rename_i e
      cases asIntsO_eq e
      obtain ⟨v, rfl, r⟩ := pair1 rs
      obtain ⟨a, xs, rfl, h1, h2⟩ := RepP.list r
      cases h2.ints
      exact cr_sum hc pins s σ H _ us Q I rx ⟨a, _, rfl, h1, Aft.ret k w (.int _)⟩
    · exact w.elim
  · exact w.elim
theorem bc_all (hc : X.calm = true) : CallR X (.builtin "all") (rC S X.K mAll) := by
  intro pins s σ H xs us Q I rx ⟨ds, k, rs, w⟩
  unfold mAll at w
  split at w
  · split at w
    · rename_i e
      cases asBoolsO_eq e
      obtain ⟨v, rfl, r⟩ := pair1 rs
      obtain ⟨a, xs, rfl, h1, h2⟩ := RepP.list r
      cases h2.bools
      exact cr_all hc pins s σ H _ us Q I rx ⟨a, _, rfl, h1, Aft.ret k w (.bl _)⟩
    · exact w.elim
  · exact w.elim
theorem bc_any (hc : X.calm = true) : CallR X (.builtin "any") (rC S X.K mAny) := by
  intro pins s σ H xs us Q I rx ⟨ds, k, rs, w⟩
  unfold mAny at w
  split at w
  · split at w
    · rename_i e
      cases asBoolsO_eq e
      obtain ⟨v, rfl, r⟩ := pair1 rs
      obtain ⟨a, xs, rfl, h1, h2⟩ := RepP.list r
      cases h2.bools
      exact cr_any hc pins s σ H _ us Q I rx ⟨a, _, rfl, h1, Aft.ret k w (.bl _)⟩
    · exact w.elim
  · exact w.elim
theorem itemsOf_wp {K : PySem.W.Frag} {H : Hp} {v : V} {d : PyData} {Q : List PyData → Prop} (h : (itemsOf d).wp Q) (r : RepP K S H v d) : ∃ a xs ds, v = .ref a ∧ (SqL K H a xs ∨ SqT K H a xs) ∧ RepA K H xs ds ∧ Q ds := by
  cases d <;> first | exact h.elim | skip
  · obtain ⟨a, xs, e, h1, h2⟩ := r.list
    exact ⟨a, xs, _, e, .inl h1, h2, h⟩
  · obtain ⟨a, xs, e, h1, h2⟩ := r.tuple
    exact ⟨a, xs, _, e, .inr h1, h2, h⟩
theorem dl_list (hg : Gl X "list") (hm : X.mg "list" = none) (h : Dp X S Z e c) (he : starEach [e] X.env = (false, eval e X.env) :: starEach [] X.env := by rfl) (hpl : (backTo pos (starEach [] X.env)).any (·.1) = false := by rfl) :
    Dl X S Z (.Call (.Name "list" p) [e] [] pos) (clOf c) := by
  refine PE.imp (pe_callTy call_list_of hg hm (by decide +kernel) (dap_cons h dap_nil he) (by decide) (by decide) he hpl) fun σ H Q ⟨en, R, w⟩ => ⟨en, R, M.wp_bind.mpr (M.wp_mono (fun d wd => ?_) (M.wp_bind.mp w))⟩
  intro vs H1 s k rs
  obtain ⟨v, rfl, r⟩ := pair1 rs
  obtain ⟨a, xs, ds, rfl, h1, h2, q⟩ := itemsOf_wp wd r
  refine ⟨a, xs, rfl, h1, fun l hl => ?_⟩
  have hl0 : H l = none := by
    cases z : H l with
    | none => rfl
    | some o =>
      by_cases y : inS S l
      · exact absurd y (not_new k hl)
      · rw [s l o y z] at hl; cases hl
  exact q l xs _ (s.trans (.of (same_new hl))) (k.same (same_new hl)) hl0 upd_same (h2.kp (.of (same_new hl)))
/-- a list display, new -/
theorem dl_disp (h : Da X S Z es cl) : Dl X S Z (.List es pos) (clDisp cl) := by
  refine PE.imp (pe_lst h) fun σ H Q ⟨en, R, w⟩ => ⟨en, R, M.wp_mono (fun ds wd vs H1 s k r => ?_) (M.wp_bind.mp w)⟩
  obtain ⟨hf, q⟩ := wp_if wd
  have ra := RepA.paired r
  refine ⟨by rw [ra.length]; exact of_decide_eq_true hf, fun l hl => ?_⟩
  have hl0 : H l = none := by
    cases z : H l with
    | none => rfl
    | some o =>
      by_cases y : inS S l
      · exact absurd y (not_new k hl)
      · rw [s l o y z] at hl; cases hl
  exact q l vs _ (s.trans (.of (same_new hl))) (k.same (same_new hl)) hl0 upd_same (ra.kp (.of (same_new hl)))
/-- a new list, as it is read at once -/
theorem dp_new (h : Dl X S Z e cl) : Dp X S Z e (cFz cl) :=
  PE.imp h fun σ H Q ⟨en, R, w⟩ => ⟨en, R, M.wp_mono (fun ds q => by intro a xs H' s k n e r; exact q _ H' s k (.own (not_new R.src n) e r)) (M.wp_bind.mp w)⟩

/-! ### places, cuts -/
theorem atI_rep {K : PySem.W.Frag} {H : Hp} {vs : List V} {ds : List PyData} {i : Int} {d : PyData} (r : RepA K H vs ds) (h : atI ds i = some d) : ∃ v, atI vs i = some v ∧ Rep K H v d := by
  unfold atI at h ⊢
  rw [r.length]
  cases q : ixN ds.length i with
  | none => rw [q] at h; cases h
  | some j =>
    rw [q] at h
    exact r.get h
theorem dix : IxR X (rD S X.K mIx) := by
  intro value slice pins s σ H x y v u Q I rx ry ⟨dx, dy, k, r1, r2, w⟩ hs
  cases dx <;> cases dy <;> first | exact w.elim | skip
  · change (ofO _).wp _ at w
    unfold ofO at w
    split at w
    · rename_i d hd
      obtain ⟨a, xs, rfl, h1, h2⟩ := r1.list
      obtain ⟨v', hv, rv⟩ := atI_rep h2 hd
      exact ix_list value slice pins s σ H _ _ v u Q I rx ry ⟨a, xs, _, v', rfl, r2.int, h1, hv, Aft.ret k w rv⟩ hs
    · exact w.elim
  · change (ofO _).wp _ at w
    unfold ofO at w
    split at w
    · rename_i d hd
      obtain ⟨a, xs, rfl, h1, h2⟩ := r1.tuple
      obtain ⟨v', hv, rv⟩ := atI_rep h2 hd
      exact ix_tup value slice pins s σ H _ _ v u Q I rx ry ⟨a, xs, _, v', rfl, r2.int, h1, hv, Aft.ret k w rv⟩ hs
    · exact w.elim
theorem dv_ix (ha : Dp X S Z ea ca) (hb : Dp X S Z eb cb) (hs : PlainIx eb := by exact fun _ _ => rfl) : Dv X S Z (.Subscript ea eb pos) (cOp2 mIx ca cb) :=
  PE.imp (pe_ix dix ha hb hs) fun σ H Q h => tD2 (fun _ _ _ _ q => q) h
def tDo (S : SrcA) (Z : Addr → Prop) (K : PySem.W.Frag) (o : Option CE) : TO := fun σ H Q => ∃ e, Rel K S Z σ H e ∧ (optI o e).wp fun i => ∀ H', SameX S H H' → SrcOk S H' → Q i H'
abbrev Do (X : Cx) (S : SrcA) (Z : Addr → Prop) (e : Option Expr) (o : Option CE) : Prop := PO X e (tDo S Z X.K o)
theorem PO.imp {e : Option Expr} {t t' : TO} (h : PO X e t) (i : ∀ σ H Q, t' σ H Q → t σ H Q) : PO X e t' := ⟨fun pins s σ H Q I q => h.run pins s σ H Q I (i σ H Q q)⟩
theorem do_none : Do X S Z none none := PO.imp po_none fun σ H Q ⟨en, R, w⟩ => w H (SameX.refl H) R.src
theorem do_some (h : Dp X S Z e c) : Do X S Z (some e) (some c) := PO.imp (po_some h) fun σ H Q ⟨en, R, w⟩ => ⟨en, R, M.wp_mono (fun d wd v H1 s k r => by
  obtain ⟨i, rfl, q⟩ := asI_wp (M.wp_bind.mp wd)
  exact ⟨i, RepP.int r, q H1 s k⟩) (M.wp_bind.mp w)⟩
theorem SlR.lock {r : V → Option Int → Option Int → Hp → VK → Prop} (h : L2.SlR X r) : L2.SlR X (fun x lo hi H Q => r x lo hi H (Lk Q)) := fun pins s σ H x v vl vu lo hi sl Q I rx hs p1 p2 q => by
  obtain ⟨T, id, h1, h2, h3⟩ := h pins s σ H x v vl vu lo hi sl _ I rx hs p1 p2 q
  exact ⟨T, id, h1, h2, thn h3 fun u s1 h1 => EP.lock h1⟩
def rSlD (S : SrcA) (K : PySem.W.Frag) : V → Option Int → Option Int → Hp → VK → Prop := fun v lo hi H Q => ∃ d, SrcOk S H ∧ RepP K S H v d ∧ (mSl d lo hi).wp (Aft S H (RV K) Q)
theorem RepA.cut {K : PySem.W.Frag} {H : Hp} {vs : List V} {ds : List PyData} (r : RepA K H vs ds) (lo hi : Option Int) : RepA K H (cutV vs lo hi) (cutD ds lo hi) := by
  unfold cutV cutD
  rw [r.length]
  exact (r.drop _).take _
theorem sl_D : L2.SlR X (rSlD S X.K) := by
  intro pins s σ H x v vl vu lo hi sl Q I rx hs p1 p2 ⟨d, k, r, w⟩
  cases d <;> first | exact w.elim | skip
  · obtain ⟨a, xs, rfl, h1, h2⟩ := r.list
    exact SlR.lock sl_list pins s σ H _ v vl vu lo hi sl Q I rx hs p1 p2 ⟨a, xs, rfl, h1, fun p hp => Aft.lst k w (h2.cut lo hi) hp⟩
  · obtain ⟨a, xs, rfl, h1, h2⟩ := r.tuple
    refine sl_tupA pins s σ H _ v vl vu lo hi sl Q I rx hs p1 p2 ⟨a, xs, rfl, h1, fun hw => ?_, fun _ p hp => Aft.tup k w (h2.cut lo hi) hp⟩
    refine Aft.ret k w ?_
    have e : cutD _ lo hi = _ := (show cutD xs lo hi = xs by
      unfold cutD
      rw [hw.1, hw.2, List.drop_zero, Nat.sub_zero, List.take_length])
    have e2 := h2.cut lo hi
    rw [show cutV xs lo hi = xs from e] at e2
    exact .tup h1 e2
theorem dv_sl {lo hi : Option Expr} {ol oh : Option CE} {p2 : Pos} (h : Dp X S Z e c) (hl : Do X S Z lo ol) (hh : Do X S Z hi oh) : Dv X S Z (.Subscript e (.Slice lo hi none p2) pos) (cSl c ol oh) := by
  refine PE.imp (pe_slice (sl_D (S := S)) h hl hh) fun σ H Q ⟨en, R, w⟩ => ⟨en, R, M.wp_mono (fun d wd v H1 s1 k1 r1 => ?_) (M.wp_bind.mp w)⟩
  refine ⟨en, R.same s1 k1, M.wp_mono (fun l wl H2 s2 k2 => ?_) (M.wp_bind.mp wd)⟩
  refine ⟨en, (R.same s1 k1).same s2 k2, M.wp_mono (fun h wh H3 s3 k3 => ?_) (M.wp_bind.mp wl)⟩
  exact ⟨d, k3, (RepP.same k1 s2 r1).same k2 s3, M.wp_mono (fun d' q => by intro v' H4 s4 k4 r4; exact q v' H4 (((s1.trans s2).trans s3).trans s4) k4 r4) wh⟩

/-! ### lists of the frame's own grow -/
theorem Rel.chg {K : PySem.W.Frag} {σ : L2.St} {H : Hp} {en : En} (R : Rel K S Z σ H en) {i : Nat} {a : Addr} {u u' : HO} {s' : Sl} (hi : σ[i]? = some (some (.ref a))) (ho : ownE en i) (n : ¬ inS S a) (z : ¬ Z a) (h : H a = some u)
    (hu : (∃ xs, u = .lst xs) ∨ (∃ ks, u = .dK ks) ∨ ∃ ks, u = DTO ks) (hs : isOwn s' = true) (r : Kp H (upd H a u') → RelSl K S Z (upd H a u') (some (.ref a)) s') : Ext Z H (upd H a u') ∧ Rel K S Z σ (upd H a u') (en.set i s') := by
  have ne : ∀ {b : Addr} {v : HO}, H b = some v → ((∀ xs, v ≠ .lst xs) ∧ (∀ ks, v ≠ .dK ks) ∧ ∀ ks, v ≠ DTO ks) → b ≠ a := fun {b v} e nn z => by
    subst z; rw [h] at e; cases e
    rcases hu with ⟨xs, rfl⟩ | ⟨ks, rfl⟩ | ⟨ks, rfl⟩
    · exact nn.1 _ rfl
    · exact nn.2.1 _ rfl
    · exact nn.2.2 _ rfl
  have kp : Kp H (upd H a u') := ⟨fun b xs e => by rw [upd_ne (ne e ⟨(fun _ q => nomatch q), (fun _ q => nomatch q), (fun _ q => nomatch q)⟩)]; exact e, fun b ob v e => by rw [upd_ne (ne e ⟨(fun _ q => nomatch q), (fun _ q => nomatch q), (fun _ q => nomatch q)⟩)]; exact e⟩
  have zz : ∀ b v, Z b → H b = some v → upd H a u' b = some v := fun b v zb e => by rw [upd_ne (fun q => z (by rw [← q]; exact zb))]; exact e
  refine ⟨⟨kp, zz⟩, ?_⟩
  have src : SrcOk S (upd H a u') := by
    have k := R.src
    match S, k, n with
    | none, _, _ => trivial
    | some (s, c), ⟨n1, cells, l, m, t, h1, h2, rr⟩, n =>
      refine ⟨n1, cells, l, m, t, ?_, ?_, rr⟩
      · rw [upd_ne (fun q => n (.inr q.symm))]; exact h1
      · rw [upd_ne (fun q => n (.inl q.symm))]; exact h2
  have hlen : i < en.length := by
    obtain ⟨s', h1, _⟩ := ho
    exact (List.getElem?_eq_some_iff.mp h1).1
  have own' : ∀ {j : Nat}, ownE (en.set i s') j → ownE en j := fun {j} hj => by
    by_cases ij : j = i
    · subst ij; exact ho
    · exact ownE_set_ne hj ij
  refine ⟨by rw [List.length_set]; exact R.len, fun j t hj => ?_, fun j l b jl hj hl h1 h2 => R.dis j l b jl (own' hj) (own' hl) h1 h2, src, fun b zb => let ⟨v, e⟩ := R.zal b zb; ⟨v, zz b v zb e⟩, R.zs⟩
  by_cases ij : i = j
  · subst ij
    rw [List.getElem?_set_self hlen] at hj; cases hj
    rw [get_join hi]
    exact r kp
  · rw [List.getElem?_set_ne ij] at hj
    have q := R.sl j t hj
    generalize qe : σ[j]?.join = oj at q
    have nea : ∀ {b : Addr}, oj = some (.ref b) → isOwn t = true → b ≠ a := fun {b} e1 e2 z => by
      subst e1; subst z
      exact R.dis i j b ij ho ⟨t, hj, e2⟩ hi (join_some qe)
    cases q with
    | no => exact .no
    | val r => exact .val (r.kp kp)
    | own n z e r => exact .own n z (by rw [upd_ne (nea rfl rfl)]; exact e) (r.kp kp)
    | ownK n z e r => exact .ownK n z (by rw [upd_ne (nea rfl rfl)]; exact e) (r.kp kp)
    | ownT n z e r => exact .ownT n z (by rw [upd_ne (nea rfl rfl)]; exact e) (r.kp kp)
    | src q => exact .src q
variable {apos cpos : Pos} {i : Nat} {nm : Str}
theorem ds_append (hv : PE X (.Name nm p) (tVar i)) (he : Dv X S Z e c)
    (mk : ∀ {t : TA}, PA X [e] t → PE X (.Call (.Attribute (.Name nm p) "append" apos) [e] [] cpos) (tBM X.K "list" rAppend (tVar i) t)) (hs : swapsWith (.Call (.Attribute (.Name nm p) "append" apos) [e] [] cpos) none pos.line X.env = pure false := by rfl)
    (hst : starEach [e] X.env = (false, eval e X.env) :: starEach [] X.env := by rfl) :
    Ds X S Z (.Expr (.Call (.Attribute (.Name nm p) "append" apos) [e] [] cpos) pos) (sAppend i c) := by
  refine PS.imp (ps_expr (mk (da_cons he da_nil hst)) hs) fun D σ H ⟨en, R, w⟩ => ?_
  unfold sAppend at w
  split at w
  · rename_i ds hd
    obtain ⟨a, xs, h1, n, z, h2, h3⟩ := R.own hd
    refine ⟨_, h1, .inl ⟨rfl, _, SqL.of h2⟩, en, R, M.wp_bind.mpr (M.wp_mono (fun d wd => ?_) (M.wp_bind.mp w))⟩
    change M.wp (M.ret [d]) _
    intro vs H1 s k rs
    obtain ⟨v, rfl, r⟩ := pair1 rs
    have h2' := s a _ n h2
    have h3' := h3.kp (s.kp R.src)
    obtain ⟨hl, q⟩ := wp_if wd
    refine ⟨a, xs, v, rfl, rfl, h2', by rw [h3.length]; exact hl, ?_⟩
    obtain ⟨x, R'⟩ := (R.same s k).chg (u' := .lst (xs ++ [v])) (s' := .own (ds ++ [d])) h1 ⟨_, hd, rfl⟩ n z h2' (.inl ⟨_, rfl⟩) rfl (fun kp => .own n z upd_same ((h3'.kp kp).append (.cons (Rep.kp kp r) .nil)))
    exact q σ _ ((R.ext s).trans x) R'
  · exact w.elim
theorem ds_extend (hv : PE X (.Name nm p) (tVar i)) (he : Dp X S Z e c) (hnew : ∀ (en : En) (d : PyData) (P : Prop), True)
    (mk : ∀ {t : TA}, PA X [e] t → PE X (.Call (.Attribute (.Name nm p) "extend" apos) [e] [] cpos) (tBM X.K "list" rExtend (tVar i) t)) (hs : swapsWith (.Call (.Attribute (.Name nm p) "extend" apos) [e] [] cpos) none pos.line X.env = pure false := by rfl)
    (hst : starEach [e] X.env = (false, eval e X.env) :: starEach [] X.env := by rfl) : True := trivial
/-- the new list's items go behind -/
theorem ds_extendN (hv : PE X (.Name nm p) (tVar i)) (he : Dl X S Z e cl)
    (mk : ∀ {t : TA}, PA X [e] t → PE X (.Call (.Attribute (.Name nm p) "extend" apos) [e] [] cpos) (tBM X.K "list" rExtend (tVar i) t)) (hs : swapsWith (.Call (.Attribute (.Name nm p) "extend" apos) [e] [] cpos) none pos.line X.env = pure false := by rfl)
    (hst : starEach [e] X.env = (false, eval e X.env) :: starEach [] X.env := by rfl) :
    Ds X S Z (.Expr (.Call (.Attribute (.Name nm p) "extend" apos) [e] [] cpos) pos) (sExtend i (cFz cl)) := by
  refine PS.imp (ps_expr (mk (pa_cons he pa_nil hst)) hs) fun D σ H ⟨en, R, w⟩ => ?_
  unfold sExtend at w
  split at w
  · rename_i ds hd
    obtain ⟨a, xs, h1, n, z, h2, h3⟩ := R.own hd
    refine ⟨_, h1, .inl ⟨rfl, _, SqL.of h2⟩, en, R, M.wp_mono (fun dd wd => ?_) (M.wp_bind.mp (M.wp_bind.mp w))⟩
    intro b zs H1 s k nb eb rb
    have h2' := s a _ n h2
    have h3' := h3.kp (s.kp R.src)
    change (M.bind (itemsOf (.list dd)) _).wp _ at wd
    obtain ⟨hl, q⟩ := wp_if wd
    refine ⟨a, b, xs, zs, rfl, rfl, h2', eb, by rw [h3.length, rb.length]; exact hl, ?_⟩
    obtain ⟨x, R'⟩ := (R.same s k).chg (u' := .lst (xs ++ zs)) (s' := .own (ds ++ dd)) h1 ⟨_, hd, rfl⟩ n z h2' (.inl ⟨_, rfl⟩) rfl (fun kp => .own n z upd_same ((h3'.kp kp).append (rb.kp kp)))
    exact q σ _ ((R.ext s).trans x) R'
  · exact w.elim
/-- the items of another list of the frame's own go behind -/
theorem ds_extendO {j : Nat} {nm2 : Str} {p2 : Pos} (hij : i ≠ j) (hv : PE X (.Name nm p) (tVar i)) (he : PE X (.Name nm2 p2) (tVar j))
    (mk : ∀ {t : TA}, PA X [.Name nm2 p2] t → PE X (.Call (.Attribute (.Name nm p) "extend" apos) [.Name nm2 p2] [] cpos) (tBM X.K "list" rExtend (tVar i) t)) (hs : swapsWith (.Call (.Attribute (.Name nm p) "extend" apos) [.Name nm2 p2] [] cpos) none pos.line X.env = pure false := by rfl)
    (hst : starEach [.Name nm2 p2] X.env = (false, eval (.Name nm2 p2) X.env) :: starEach [] X.env := by rfl) :
    Ds X S Z (.Expr (.Call (.Attribute (.Name nm p) "extend" apos) [.Name nm2 p2] [] cpos) pos) (sExtendO i j) := by
  refine PS.imp (ps_expr (mk (pa_cons he pa_nil hst)) hs) fun D σ H ⟨en, R, w⟩ => ?_
  unfold sExtendO at w
  split at w
  · rename_i ds dd hd hd2
    obtain ⟨a, xs, h1, n, z, h2, h3⟩ := R.own hd
    obtain ⟨b, zs, g1, n', z', g2, g3⟩ := R.own hd2
    obtain ⟨hl, q⟩ := wp_if w
    refine ⟨_, h1, .inl ⟨rfl, _, SqL.of h2⟩, _, g1, a, b, xs, zs, rfl, rfl, h2, g2, by rw [h3.length, g3.length]; exact hl, ?_⟩
    obtain ⟨x, R'⟩ := R.chg (u' := .lst (xs ++ zs)) (s' := .own (ds ++ dd)) h1 ⟨_, hd, rfl⟩ n z h2 (.inl ⟨_, rfl⟩) rfl (fun kp => .own n z upd_same ((h3.kp kp).append (g3.kp kp)))
    exact q σ _ x R'
  · exact w.elim
/-- the last item goes, and is dropped -/
theorem ds_pop (hv : PE X (.Name nm p) (tVar i))
    (mk : PE X (.Call (.Attribute (.Name nm p) "pop" apos) [] [] cpos) (tBM0 X.K "list" rPop (tVar i))) (hs : swapsWith (.Call (.Attribute (.Name nm p) "pop" apos) [] [] cpos) none pos.line X.env = pure false := by rfl) :
    Ds X S Z (.Expr (.Call (.Attribute (.Name nm p) "pop" apos) [] [] cpos) pos) (sPop i) := by
  refine PS.imp (ps_expr mk hs) fun D σ H ⟨en, R, w⟩ => ?_
  unfold sPop at w
  split at w
  · rename_i d ds hd
    obtain ⟨a, xs, h1, n, z, h2, h3⟩ := R.own hd
    have hx : xs.length = ds.length + 1 := by rw [h3.length, List.length_cons]
    have hy : xs[xs.length - 1]? = some xs[xs.length - 1] := List.getElem?_eq_getElem (by omega)
    refine ⟨_, h1, .inl ⟨rfl, _, SqL.of h2⟩, a, xs, _, rfl, rfl, h2, hy, ?_⟩
    obtain ⟨x, R'⟩ := R.chg (u' := .lst xs.dropLast) (s' := .own (d :: ds).dropLast) h1 ⟨_, hd, rfl⟩ n z h2 (.inl ⟨_, rfl⟩) rfl (fun kp => .own n z upd_same ((h3.kp kp).dropLast))
    exact w σ _ x R'
  · exact w.elim

/-! ### calls of defs -/
/-- a def hands back what m tells -/
def spD (K : PySem.W.Frag) (m : FD) : Sp := fun vs H Q _ => ∃ ds, RepA K H vs ds ∧ (m ds).wp fun d => ∀ v H', Same H H' → Rep K H' v d → Q v H'
/-- a def whose first argument is the source -/
def spS (K : PySem.W.Frag) (m : FD) : Sp := fun vs H Q _ => ∃ s c us ds, vs = .ref s :: us ∧ SrcAt s c H ∧ RepA K H us ds ∧ (m ds).wp fun d => ∀ v H', SameX (some (s, c)) H H' → SrcAt s c H' → Rep K H' v d → Q v H'
def Arity (m : FD) (n : Nat) : Prop := ∀ ds Q, (m ds).wp Q → ds.length = n
theorem fnD_arity {ps n : Nat} {b : CS} : Arity (fnD ps n b) ps := fun ds Q h => (wp_if h).1
theorem fnS_arity {ps n : Nat} {b : CS} : Arity (fnS (ps + 1) n b) ps := fun ds Q h => by
  have := (wp_if h).1
  omega
variable {k : Nat} {f : Addr} {fd : FuncData} {ps : List Str} {m : FD}
theorem tD_spD {σ : L2.St} {H : Hp} {Q : VK} {E : XK} (h : tD S Z X.K (RV X.K) (cCall m cl) σ H Q) : tCall (spD X.K m) [] E (tDa S Z X.K (RV X.K) cl) σ H Q := by
  obtain ⟨en, R, w⟩ := h
  refine ⟨en, R, M.wp_mono (fun ds wd vs H1 s1 k1 r1 => ⟨ds, ?_, M.wp_mono (fun d q v H2 s2 r2 => q v H2 (s1.trans (.of s2)) (k1.same s2) r2) wd⟩) (M.wp_bind.mp w)⟩
  rw [List.append_nil]
  exact RepA.paired r1
theorem dv_call (F : FnOk X.prog X.w X.K X.mg X.base CX0 k f fd ps (spD X.K m)) (hr : Room k X.A) (hg : Gl X x) (hm : X.mg x = some (.ref f)) (hk : PySem.W.keepIn X.K (.ref f) = true) (hb : Binds X.K fd ps [])
    (ha : Da X S Z (e :: es) cl) (hdb : (x == ("__debug__" : Str)) = false := by decide) (he : starEach (e :: es) X.env = (false, eval e X.env) :: starEach es X.env := by rfl) (hpl : (backTo pos (starEach es X.env)).any (·.1) = false := by rfl) :
    Dv X S Z (.Call (.Name x p) (e :: es) [] pos) (cCall m cl) :=
  PE.imp (pe_call F hr hg hm hk hb .nil pass0 ha hdb he hpl) fun σ H Q h => tD_spD h
theorem dv_call0 (F : FnOk X.prog X.w X.K X.mg X.base CX0 k f fd ps (spD X.K m)) (hr : Room k X.A) (hg : Gl X x) (hm : X.mg x = some (.ref f)) (hk : PySem.W.keepIn X.K (.ref f) = true) (hb : Binds X.K fd ps [])
    (hdb : (x == ("__debug__" : Str)) = false := by decide) : Dv X S Z (.Call (.Name x p) [] [] pos) (cCall m caNil) :=
  PE.imp (pe_call0 F hr hg hm hk hb .nil pass0 hdb) fun σ H Q ⟨en, R, w⟩ => ⟨[], .nil, M.wp_mono (fun d q v H2 s2 r2 => q v H2 (.of s2) (R.src.same s2) r2) w⟩
theorem dv_callS {ns : Str} {pn : Pos} {js : Nat} (hn : PE X (.Name ns pn) (tVar js)) (F : FnOk X.prog X.w X.K X.mg X.base CX0 k f fd ps (spS X.K m)) (hr : Room k X.A) (hg : Gl X x) (hm : X.mg x = some (.ref f)) (hk : PySem.W.keepIn X.K (.ref f) = true) (hb : Binds X.K fd ps [])
    (ha : Da X S Z es cl) (hdb : (x == ("__debug__" : Str)) = false := by decide) (he : starEach (.Name ns pn :: es) X.env = (false, eval (.Name ns pn) X.env) :: starEach es X.env := by rfl) (hpl : (backTo pos (starEach es X.env)).any (·.1) = false := by rfl) :
    Dv X S Z (.Call (.Name x p) (.Name ns pn :: es) [] pos) (cCallS js m cl) := by
  refine PE.imp (pe_call F hr hg hm hk hb .nil pass0 (pa_cons hn ha he) hdb he hpl) fun σ H Q ⟨en, R, w⟩ => ?_
  unfold cCallS at w
  split at w
  · rename_i hs
    obtain ⟨s, c, e1, h1⟩ := R.srcAt hs
    subst e1
    refine ⟨_, h1, en, R, M.wp_mono (fun ds wd vs H1 s1 k1 r1 => ?_) (M.wp_bind.mp w)⟩
    refine ⟨s, c, vs, ds, by rw [List.append_nil], k1, RepA.paired r1, M.wp_mono (fun d q v H2 s2 k2 r2 => q v H2 (s1.trans s2) k2 r2) wd⟩
  · exact w.elim
end

/-! ### defs -/
section
variable {P : Program} {w : World} {K : PySem.W.Frag} {mg : Str → Option Value} {base : Heap} {x qual : Str} {st : Stmt} {f : Addr} {fd : FuncData} {N ps : List Str} {k : Nat} {cs : CS}
theorem endOf_end {S : SrcA} {Z : Addr → Prop} {H : Hp} {Q : VK} {Q' : PyData → Prop} (h : ∀ d, Q' d → ∀ v H', Ext Z H H' → SrcOk S H' → Rep K H' v d → Q v H') {r : Fl × En} (q : (endOf r).wp Q') : SEnd S Z K H { nx := fun _ H' => Q .non H', rt := Q } r := by
  obtain ⟨fl, e⟩ := r
  cases fl with
  | nx => exact fun σ' H' x R => h _ q _ H' x R.src .non
  | bk => exact q.elim
  | ct => exact q.elim
  | rt d => exact fun v H' x k r => h _ q v H' x k r
theorem rel_start {S : SrcA} {Z : Addr → Prop} {H : Hp} {vs : List V} {ds : List PyData} (r : RepA K H vs ds) (k : SrcOk S H) (za : ∀ a, Z a → ∃ o, H a = some o) (zs : ∀ a, inS S a → ¬ Z a) (n : Nat) :
    Rel K S Z (vs.map some ++ List.replicate n none) H (ds.map .val ++ List.replicate n .no) := by
  have hl := r.length
  have get : ∀ (i : Nat) (s : Sl), (ds.map Sl.val ++ List.replicate n .no)[i]? = some s → (s = .no) ∨ ∃ d, s = .val d ∧ ds[i]? = some d := fun i s h => by
    by_cases hi : i < ds.length
    · rw [List.getElem?_append_left (by simpa using hi), List.getElem?_map] at h
      cases q : ds[i]? with
      | none => rw [q] at h; cases h
      | some d => rw [q] at h; cases h; exact .inr ⟨d, rfl, rfl⟩
    · rw [List.getElem?_append_right (by simpa using hi), List.getElem?_replicate] at h
      split at h
      · cases h; exact .inl rfl
      · cases h
  have noOwn : ∀ i, ¬ ownE (ds.map Sl.val ++ List.replicate n .no) i := fun i ⟨s, h1, h2⟩ => by
    rcases get i s h1 with rfl | ⟨d, rfl, _⟩ <;> cases h2
  refine ⟨by simp [hl], fun i s h => ?_, fun i j a _ hi _ _ _ => absurd hi (noOwn i), k, za, zs⟩
  rcases get i s h with rfl | ⟨d, rfl, hd⟩
  · exact .no
  · obtain ⟨v, hv, rv⟩ := r.get hd
    have hi : i < vs.length := (List.getElem?_eq_some_iff.mp hv).1
    rw [List.getElem?_append_left (by simpa using hi), List.getElem?_map, hv]
    exact .val rv
theorem fn_okD (F : Fun K x qual st f fd) (sc : FnScope N ps (defScope st))
    (hb : ∀ (cdv : Value) (A : Around) (outer : List Env) (s : Shared) (H : Hp) (E : XK) (Z : Addr → Prop), Room k (A.deeper (envOfC qual (defScope st) s.heap.objs.size f cdv)) →
      Db (cxOf CX0 P w K mg base N qual (defScope st) f cdv A outer s H E).nox none Z (defBody st) cs) :
    FnOk P w K mg base CX0 (k + 1) f fd ps (spD K (fnD ps.length N.length cs)) := by
  refine F.ok sc (fun vs H Q E ⟨ds, r, q⟩ => by rw [r.length]; exact fnD_arity ds _ q) (fun cdv A outer s H vs Q E hr ⟨ds, r, q⟩ => ?_)
  obtain ⟨hl, q⟩ := wp_if q
  refine ⟨_, hb cdv A outer s H E (fun a => ∃ o, H a = some o) hr, ?_⟩
  have R := rel_start (S := none) (Z := fun a => ∃ o, H a = some o) r trivial (fun _ z => z) (fun _ z => z.elim) (N.length - vs.length)
  rw [r.length, hl] at R
  refine ⟨_, by unfold L2.start; rw [r.length, hl]; exact R, M.wp_mono (fun r q => ?_) (M.wp_bind.mp q)⟩
  exact endOf_end (fun d q v H' x _ r => q v H' (fun a o e => x.z a o ⟨o, e⟩ e) r) q
theorem fn_okS (F : Fun K x qual st f fd) (sc : FnScope N ps (defScope st)) (hps : ps ≠ [])
    (hb : ∀ (cdv : Value) (A : Around) (outer : List Env) (s : Shared) (H : Hp) (E : XK) (S : SrcA) (Z : Addr → Prop), Room k (A.deeper (envOfC qual (defScope st) s.heap.objs.size f cdv)) →
      Db (cxOf CX0 P w K mg base N qual (defScope st) f cdv A outer s H E).nox S Z (defBody st) cs) :
    FnOk P w K mg base CX0 (k + 1) f fd ps (spS K (fnS ps.length N.length cs)) := by
  refine F.ok sc (fun vs H Q E ⟨s, c, us, ds, e, _, r, q⟩ => ?_) (fun cdv A outer s0 H vs Q E hr ⟨s, c, us, ds, e, k0, r, q⟩ => ?_)
  · have := (wp_if q).1
    rw [e, List.length_cons, r.length]
    exact this
  · obtain ⟨hl, q⟩ := wp_if q
    subst e
    refine ⟨_, hb cdv A outer s0 H E (some (s, c)) (fun a => (∃ o, H a = some o) ∧ ¬ inS (some (s, c)) a) hr, ?_⟩
    have R := rel_start (S := some (s, c)) (Z := fun a => (∃ o, H a = some o) ∧ ¬ inS (some (s, c)) a) r k0 (fun _ z => z.1) (fun _ z y => y.2 z) (N.length - ps.length)
    have R2 : Rel K (some (s, c)) (fun a => (∃ o, H a = some o) ∧ ¬ inS (some (s, c)) a) (some (.ref s) :: (us.map some ++ List.replicate (N.length - ps.length) none)) H (.src :: (ds.map .val ++ List.replicate (N.length - ps.length) .no)) := by
      refine ⟨by rw [List.length_cons, List.length_cons, R.len], fun i t h => ?_, fun i j a ij hi hj h1 h2 => ?_, R.src, R.zal, R.zs⟩
      · cases i with
        | zero => cases h; exact .src rfl
        | succ i => exact R.sl i t h
      · cases i with
        | zero => obtain ⟨t, e1, e2⟩ := hi; cases e1; cases e2
        | succ i =>
          cases j with
          | zero => obtain ⟨t, e1, e2⟩ := hj; cases e1; cases e2
          | succ j => exact R.dis i j a (fun z => ij (by rw [z])) hi hj h1 h2
    have hst : L2.start N (.ref s :: us) = some (.ref s) :: (us.map some ++ List.replicate (N.length - ps.length) none) := by
      unfold L2.start
      rw [List.map_cons, List.length_cons, r.length, hl, List.cons_append]
    rw [hst]
    refine ⟨_, R2, M.wp_mono (fun r q => ?_) (M.wp_bind.mp q)⟩
    exact endOf_end (fun d q v H' x k r => q v H' (fun a o n e => x.z a o ⟨⟨o, e⟩, n⟩ e) k r) q
end
end DL
namespace DL
open PySem PySem.Spec PyProof.Rows L2

/-- as FnOk, where it is known that nothing is being shown -/
structure FnG (P : Program) (w : World) (K : PySem.W.Frag) (mg : Str → Option Value) (base : Heap) (k : Nat) (f : Addr) (fd : FuncData) (ps : List Str) (sp : Sp) : Prop where
  len : ∀ vs H Q E, sp vs H Q E → vs.length = ps.length
  run : ∀ (A : Around) (outer : List Env) (s : Shared) (H : Hp) (args : Args) (us : List Value) (vs : List V) (Q : VK) (E : XK), A.guards = some [] → Room k A → Env0 P w K mg base A outer s H → BindsTo s fd args (ps.zip us) → Vals vs us → sp vs H Q E →
    codeAny (model P w) A (.call (.ref f) args) (CR CX0 outer P w H s Q E) s
section
variable {P : Program} {w : World} {K : PySem.W.Frag} {mg : Str → Option Value} {base : Heap} {x qual : Str} {st : Stmt} {f : Addr} {fd : FuncData} {N ps : List Str} {k : Nat} {cs : CS} {sp : Sp}
theorem FnG.of (F : FnOk P w K mg base CX0 k f fd ps sp) : FnG P w K mg base k f fd ps sp := ⟨F.len, fun A outer s H args us vs Q E _ => F.run A outer s H args us vs Q E⟩
theorem FnG.mk' (F : Fun K x qual st f fd) (S : FnScope N ps (defScope st)) (len : ∀ vs H Q E, sp vs H Q E → vs.length = ps.length)
    (hbody : ∀ (cdv : Value) (A : Around) (outer : List Env) (s : Shared) (H : Hp) (vs : List V) (Q : VK) (E : XK), A.guards = some [] → Room k (A.deeper (envOfC qual (defScope st) s.heap.objs.size f cdv)) → sp vs H Q E →
      ∃ t, PSs (cxOf CX0 P w K mg base N qual (defScope st) f cdv A outer s H E).nox (defBody st) t ∧ t { nx := fun _ H' => Q .non H', rt := Q } (L2.start N vs) H) : FnG P w K mg base (k + 1) f fd ps sp := by
  obtain ⟨oc, od, kV, doc, pm, an, cdv, ct, osl, rfl, lk, hcd⟩ := F.ex
  refine ⟨len, fun A outer s H args us vs Q E hG hr e0 hb r hsp => ?_⟩
  -- the written part, as it stands here
  have old : ∀ b o, base.get? b = some o → s.heap.get? b = some o := fun b o e => (e0.bs b o e).1
  have KX : K.In s.heap := e0.mod.kin.keeps old
  refine codeAny_call_function hr.depth (KX _ _ lk) rfl S.co S.gen rfl (PySem.W.codeRec_of KX hcd) (hb _ _ _ _ ?_)
  refine wpAny_newFunctionEnv_cells S.kind (fun ⟨n, v⟩ hy => (S.par n (List.of_mem_zip hy).1).elim .inl fun q => .inr ⟨q, PySem.W.cellsFrom_some _ _ _ (.inl q)⟩) fun env he s1 y => ?_
  subst he
  refine ⟨(e0.mod.nolimit.keeps old).keeps y.toInCall.keep, codeAny_func ?_⟩
  obtain ⟨t, ht, hq⟩ := hbody cdv A outer s H vs Q E hG (hr.deeper _) hsp
  have I0 : L2.Inv (cxOf CX0 P w K mg base N qual (defScope st) f cdv A outer s H E) [] (L2.start N vs) H s1 := inv_start S hr.hd e0 (len _ _ _ _ hsp) r y
  refine wpAny_mono (ht.nox.run [] s1 _ H _ I0 hq) (fun fl s' hs => ?_) fun e s' hs => hs
  cases fl with
  | ret u =>
    obtain ⟨v, σ', H', J, rv, q⟩ := hs
    exact ⟨v, H', J.os, J.bare, J.base, J.hok, rv, q⟩
  | next =>
    obtain ⟨σ', H', J, q⟩ := hs
    exact ⟨V.non, H', J.os, J.bare, J.base, J.hok, rfl, q⟩
  | brk => exact hs.elim fun _ h => h.elim fun _ h => h.2.elim
  | cont => exact hs.elim fun _ h => h.elim fun _ h => h.2.elim
theorem fn_okDG (F : Fun K x qual st f fd) (sc : FnScope N ps (defScope st))
    (hb : ∀ (cdv : Value) (A : Around) (outer : List Env) (s : Shared) (H : Hp) (E : XK) (Z : Addr → Prop), A.guards = some [] → Room k (A.deeper (envOfC qual (defScope st) s.heap.objs.size f cdv)) →
      Db (cxOf CX0 P w K mg base N qual (defScope st) f cdv A outer s H E).nox none Z (defBody st) cs) :
    FnG P w K mg base (k + 1) f fd ps (spD K (fnD ps.length N.length cs)) := by
  refine FnG.mk' F sc (fun vs H Q E ⟨ds, r, q⟩ => by rw [r.length]; exact fnD_arity ds _ q) (fun cdv A outer s H vs Q E hG hr ⟨ds, r, q⟩ => ?_)
  obtain ⟨hl, q⟩ := wp_if q
  refine ⟨_, hb cdv A outer s H E (fun a => ∃ o, H a = some o) hG hr, ?_⟩
  have R := rel_start (S := none) (Z := fun a => ∃ o, H a = some o) r trivial (fun _ z => z) (fun _ z => z.elim) (N.length - vs.length)
  rw [r.length, hl] at R
  refine ⟨_, by unfold L2.start; rw [r.length, hl]; exact R, M.wp_mono (fun r q => ?_) (M.wp_bind.mp q)⟩
  exact endOf_end (fun d q v H' x _ r => q v H' (fun a o e => x.z a o ⟨o, e⟩ e) r) q
end

/-! ### calls of such defs -/
section
variable {X : Cx} {S : SrcA} {Z : Addr → Prop} {e : Expr} {es : List Expr} {c : CE} {cl : CL} {pos p : Pos} {x : Str} {k : Nat} {f : Addr} {fd : FuncData} {ps : List Str} {m : FD} {sp : Sp}
theorem pe_callG {t : TA} {E : XK} (F : FnG X.prog X.w X.K X.mg X.base k f fd ps sp) (hG : X.A.guards = some []) (hr : Room k X.A) (hg : Gl X x) (hm : X.mg x = some (.ref f)) (hk : PySem.W.keepIn X.K (.ref f) = true) (hb : Binds X.K fd ps [])
    (ha : PA X (e :: es) t) (hdb : (x == ("__debug__" : Str)) = false := by decide) (he : starEach (e :: es) X.env = (false, eval e X.env) :: starEach es X.env := by rfl) (hpl : (backTo pos (starEach es X.env)).any (·.1) = false := by rfl) :
    PE X (.Call (.Name x p) (e :: es) [] pos) (tCall sp [] E t) := by
  refine ⟨fun pins s σ H Q I h => ?_⟩
  refine wpAny_Call_Name_kw (ld_glob I hg hm ?_ hdb)
  refine PySem.W.callWith_K (h₀ := X.base) I.ok.mod.kin hk (thn (ha.run pos pins s σ H _ I h) fun us s1 ⟨vs, H1, I1, r, q⟩ => ⟨I1.kIn, ?_⟩) he hpl
  have q : sp vs H1 Q E := by
    have q' : sp (vs ++ []) H1 Q E := q
    rwa [List.append_nil] at q'
  rw [List.nil_append]
  have hl : us.length = ps.length := by rw [← r.length]; exact F.len _ _ _ _ q
  refine wpAny_call (codeAny_mono (F.run X.A X.stack s1 H1 ⟨us, []⟩ us vs Q E hG hr I1.env0 ?_ r q) fun rr s' hq => ?_)
  · have b := hb s1 us I1.kIn (by rw [List.append_nil]; exact hl)
    rw [List.append_nil] at b
    exact b
  · cases rr with
    | error e => exact False.elim hq
    | ok fl =>
      cases fl with
      | ret u => exact I1.after hq
      | next => exact False.elim hq
      | brk => exact False.elim hq
      | cont => exact False.elim hq
theorem dv_callG (F : FnG X.prog X.w X.K X.mg X.base k f fd ps (spD X.K m)) (hG : X.A.guards = some []) (hr : Room k X.A) (hg : Gl X x) (hm : X.mg x = some (.ref f)) (hk : PySem.W.keepIn X.K (.ref f) = true) (hb : Binds X.K fd ps [])
    (ha : Da X S Z (e :: es) cl) (hdb : (x == ("__debug__" : Str)) = false := by decide) (he : starEach (e :: es) X.env = (false, eval e X.env) :: starEach es X.env := by rfl) (hpl : (backTo pos (starEach es X.env)).any (·.1) = false := by rfl) :
    Dv X S Z (.Call (.Name x p) (e :: es) [] pos) (cCall m cl) :=
  PE.imp (pe_callG (E := E0) F hG hr hg hm hk hb ha hdb he hpl) fun σ H Q h => tD_spD h

/-! ### repr -/
def mRepr : FD
  | [.int i] => if i.natAbs.log2 < 1920 then .ret (.str (toString i)) else .bad
  | [.bool b] => .ret (.str (if b then "True" else "False"))
  | [.none] => .ret (.str "None")
  | [.str z] => if (reprText z).length ≤ sizeLine then .ret (.str (reprText z)) else .bad
  | [.list xs] => if (SeqAt.shaped (.list xs) && (PyData.list xs).showable && decide ((PyData.list xs).shown.length ≤ sizeLine)) = true then .ret (.str (PyData.list xs).shown) else .bad
  | [.tuple xs] => if (SeqAt.shaped (.tuple xs) && (PyData.tuple xs).showable && decide ((PyData.tuple xs).shown.length ≤ sizeLine)) = true then .ret (.str (PyData.tuple xs).shown) else .bad
  | _ => .bad
theorem repr_ref (hG : X.A.guards = some []) (hu : X.A.units + 66 < cLine) {pins : List (Addr × Obj)} {s : Shared} {σ : L2.St} {H : Hp} {Q : VK} {a : Addr} {d : PyData} (I : L2.Inv X pins σ H s) (k : SrcOk S H) (r : RepP X.K S H (.ref a) d)
    (h : (SeqAt.shaped d && d.showable && decide (d.shown.length ≤ sizeLine)) = true) (q : Q (.str d.shown) H) : wpAny (model X.prog X.w) X.A (call (.builtin "repr") [.ref a]) (EP X pins σ Q) X.xe s := by
  obtain ⟨h1, h3⟩ := Bool.and_eq_true_iff.mp h
  obtain ⟨h1, h2⟩ := Bool.and_eq_true_iff.mp h1
  have cl := SeqAt.canLay_of_shaped h1
  have dp := SeqAt.depth_of_shaped h1
  obtain ⟨as, rd⟩ := L2.Dp.reads I d _ (.ref a) (r.dp cl) rfl
  refine repr_of_reads' rd h2 (PyData.noDict_hsm (PyData.hasDict_of_canLay d cl)) hG (by omega) (fun _ _ e => e) (fun h' u tk hk => ?_) (of_decide_eq_true h3)
  exact ⟨.str d.shown, H, I.kept (t' := tk) hk, ⟨_, rfl⟩, q⟩
theorem bc_repr (hG : X.A.guards = some []) (hu : X.A.units + 66 < cLine) : CallR X (.builtin "repr") (rC S X.K mRepr) := by
  intro pins s σ H xs us Q I rx ⟨ds, k, rs, w⟩
  unfold mRepr at w
  split at w
  · obtain ⟨v, rfl, r⟩ := pair1 rs
    obtain ⟨hl, w⟩ := wp_if w
    cases RepP.int r
    cases rx with
    | cons r1 r2 =>
      cases r2
      obtain ⟨t, rfl⟩ := r1
      exact PySem.P.repr_of_int hl ⟨.str _, H, I.tok _, ⟨_, rfl⟩, Aft.ret k w (.str _)⟩
  · obtain ⟨v, rfl, r⟩ := pair1 rs
    cases RepP.bool r
    cases rx with
    | cons r1 r2 =>
      cases r2
      cases r1
      exact PySem.P.repr_of_bool ⟨.str _, H, I.tok _, ⟨_, rfl⟩, Aft.ret k w (.str _)⟩
  · obtain ⟨v, rfl, r⟩ := pair1 rs
    cases RepP.none r
    cases rx with
    | cons r1 r2 =>
      cases r2
      cases r1
      exact PySem.P.repr_of_none ⟨.str _, H, I.tok _, ⟨_, rfl⟩, Aft.ret k w (.str _)⟩
  · obtain ⟨v, rfl, r⟩ := pair1 rs
    obtain ⟨hl, w⟩ := wp_if w
    cases RepP.str r
    cases rx with
    | cons r1 r2 =>
      cases r2
      obtain ⟨t, rfl⟩ := r1
      exact PySem.P.repr_of_str ⟨.str _, H, I.tok _, ⟨_, rfl⟩, Aft.ret k w (.str _)⟩ hl
  · obtain ⟨v, rfl, r⟩ := pair1 rs
    obtain ⟨hl, w⟩ := wp_if w
    obtain ⟨a, xs, e, _, _⟩ := RepP.list r
    subst e
    cases rx with
    | cons r1 r2 =>
      cases r2
      cases r1
      exact repr_ref hG hu I k r hl (Aft.ret k w (.str _))
  · obtain ⟨v, rfl, r⟩ := pair1 rs
    obtain ⟨hl, w⟩ := wp_if w
    obtain ⟨a, xs, e, _, _⟩ := RepP.tuple r
    subst e
    cases rx with
    | cons r1 r2 =>
      cases r2
      cases r1
      exact repr_ref hG hu I k r hl (Aft.ret k w (.str _))
  · exact w.elim
end
end DL
namespace DL
open PySem PySem.Spec PyProof.Rows L2

/-! ### what comes to a slot: a value, or a new list of the frame's own -/
abbrev CX2 := En → M Sl
def xV (c : CE) : CX2 := fun e => (c e).bind fun d => .ret (.val d)
def xO (c : CL) : CX2 := fun e => (c e).bind fun ds => .ret (.own ds)
def sPar (i j : Nat) (a b : CX2) : CS := fun e => (a e).bind fun x => (b e).bind fun y => .ret (.nx, (e.set i x).set j y)
def sPar3 (i j l : Nat) (a b c : CX2) : CS := fun e => (a e).bind fun x => (b e).bind fun y => (c e).bind fun z => .ret (.nx, ((e.set i x).set j y).set l z)
inductive NewSl (K : PySem.W.Frag) (H H' : Hp) : V → Sl → Prop
  | val {v : V} {d : PyData} : Rep K H' v d → NewSl K H H' v (.val d)
  | own {a : Addr} {xs : List V} {ds : List PyData} : H a = none → H' a = some (.lst xs) → RepA K H' xs ds → NewSl K H H' (.ref a) (.own ds)
def tDx (S : SrcA) (Z : Addr → Prop) (K : PySem.W.Frag) (c : CX2) : TE := fun σ H Q => ∃ e, Rel K S Z σ H e ∧ (c e).wp fun s => ∀ v H', SameX S H H' → SrcOk S H' → NewSl K H H' v s → Q v H'
abbrev Dx (X : Cx) (S : SrcA) (Z : Addr → Prop) (e : Expr) (c : CX2) : Prop := PE X e (tDx S Z X.K c)
section
variable {X : Cx} {S : SrcA} {Z : Addr → Prop} {e ea eb ec : Expr} {es : List Expr} {c : CE} {cl : CL} {pos p : Pos} {xa xb xc : CX2}
theorem dx_v (h : Dv X S Z e c) : Dx X S Z e (xV c) := PE.imp h fun σ H Q ⟨en, R, w⟩ => ⟨en, R, M.wp_mono (fun d q => by intro v H' s k r; exact q v H' s k (.val r)) (M.wp_bind.mp w)⟩
theorem dx_o (h : Dl X S Z e cl) : Dx X S Z e (xO cl) := PE.imp h fun σ H Q ⟨en, R, w⟩ => ⟨en, R, M.wp_mono (fun d q => by intro a xs H' s k n e r; exact q _ H' s k (.own n e r)) (M.wp_bind.mp w)⟩
theorem NewSl.same {K : PySem.W.Frag} {H H1 H2 : Hp} {v : V} {s : Sl} (k : SrcOk S H1) (h : SameX S H1 H2) (n : ∀ a, H a = none → ¬ inS S a) (r : NewSl K H H1 v s) : NewSl K H H2 v s := by
  cases r with
  | val r => exact .val (r.kp (h.kp k))
  | own e1 e2 r => exact .own e1 (h _ _ (n _ e1) e2) (r.kp (h.kp k))
/-- the slot is stored -/
theorem Rel.come {K : PySem.W.Frag} {σ : L2.St} {H H' : Hp} {en : En} {v : V} {s : Sl} (R : Rel K S Z σ H en) (h : SameX S H H') (k : SrcOk S H') (i : Nat) (r : NewSl K H H' v s) : Rel K S Z (σ.set i (some v)) H' (en.set i s) := by
  cases r with
  | val r => exact (R.same h k).set r
  | own n e r => exact R.put h k n (.own (not_new R.src n) (R.notZ n) e r) rfl
theorem none_back {H H' : Hp} {a : Addr} (k : SrcOk S H') (h : SameX S H H') (n : H' a = none) : H a = none := by
  cases z : H a with
  | none => rfl
  | some o =>
    by_cases y : inS S a
    · exact absurd y (not_new k n)
    · rw [h a o y z] at n; cases n
theorem dax2 {xs : List Expr} (ha : Dx X S Z ea xa) (hb : Dx X S Z eb xb) (h1 : starEach [ea, eb] X.env = (false, eval ea X.env) :: starEach [eb] X.env := by rfl) (h2 : starEach [eb] X.env = (false, eval eb X.env) :: starEach [] X.env := by rfl) :
    PA X [ea, eb] (tCons (tDx S Z X.K xa) (tCons (tDx S Z X.K xb) tNil)) := pa_cons ha (pa_cons hb pa_nil h2) h1
theorem ds_par {i j : Nat} {x y : Str} {px py pt : Pos} {kt k2 pt2} (hc : X.calm = true) (hN : X.N.Nodup) (hi : X.N[i]? = some x) (hj : X.N[j]? = some y) (hij : i ≠ j)
    (hx : X.env.scope.names.lookup x = some .local) (hy : X.env.scope.names.lookup y = some .local) (ha : Dx X S Z ea xa) (hb : Dx X S Z eb xb)
    (hw : swappedStores [.Tuple [.Name x px, .Name y py] kt pt] (.Tuple [ea, eb] k2 pt2) X.env = pure (some [x, y]))
    (hs : swapsWithSole [.Tuple [.Name x px, .Name y py] kt pt] (.Tuple [ea, eb] k2 pt2) pos.line X.env = pure false := by rfl)
    (h1 : starEach [ea, eb] X.env = (false, eval ea X.env) :: starEach [eb] X.env := by rfl) (h2 : starEach [eb] X.env = (false, eval eb X.env) :: starEach [] X.env := by rfl) :
    Ds X S Z (.Assign [.Tuple [.Name x px, .Name y py] kt pt] (.Tuple [ea, eb] k2 pt2) pos) (sPar i j xa xb) := by
  refine PS.imp (ps_par hc hN hi hj hij hx hy (dax2 (xs := []) ha hb h1 h2) hw hs) fun D σ H ⟨en, R, w⟩ => ⟨en, R, M.wp_mono (fun u wu v H1 s1 k1 r1 => ?_) (M.wp_bind.mp w)⟩
  have R1 := R.same s1 k1
  refine ⟨en, R1, M.wp_mono (fun u2 q v2 H2 s2 k2 r2 => ?_) (M.wp_bind.mp wu)⟩
  refine ⟨v, v2, rfl, ?_⟩
  -- the first one is stored at H1, the second one comes at H2
  have Ra := R.come s1 k1 i r1
  have Rb := Ra.come s2 k2 j r2
  exact q _ H2 ((R.ext s1).trans (R1.ext s2)) Rb
theorem ds_par3 {i j l : Nat} {x y z : Str} {px py pz pt : Pos} {kt k2 pt2} (hc : X.calm = true) (hN : X.N.Nodup) (hi : X.N[i]? = some x) (hj : X.N[j]? = some y) (hl : X.N[l]? = some z) (hij : i ≠ j) (hil : i ≠ l) (hjl : j ≠ l)
    (hx : X.env.scope.names.lookup x = some .local) (hy : X.env.scope.names.lookup y = some .local) (hz : X.env.scope.names.lookup z = some .local) (ha : Dx X S Z ea xa) (hb : Dx X S Z eb xb) (hcc : Dx X S Z ec xc)
    (hw : swappedStores [.Tuple [.Name x px, .Name y py, .Name z pz] kt pt] (.Tuple [ea, eb, ec] k2 pt2) X.env = pure (some [x, y, z]))
    (hs : swapsWithSole [.Tuple [.Name x px, .Name y py, .Name z pz] kt pt] (.Tuple [ea, eb, ec] k2 pt2) pos.line X.env = pure false := by rfl)
    (h1 : starEach [ea, eb, ec] X.env = (false, eval ea X.env) :: starEach [eb, ec] X.env := by rfl) (h2 : starEach [eb, ec] X.env = (false, eval eb X.env) :: starEach [ec] X.env := by rfl) (h3 : starEach [ec] X.env = (false, eval ec X.env) :: starEach [] X.env := by rfl) :
    Ds X S Z (.Assign [.Tuple [.Name x px, .Name y py, .Name z pz] kt pt] (.Tuple [ea, eb, ec] k2 pt2) pos) (sPar3 i j l xa xb xc) := by
  refine PS.imp (ps_par3 hc hN hi hj hl hij hil hjl hx hy hz (pa_cons ha (pa_cons hb (pa_cons hcc pa_nil h3) h2) h1) hw hs) fun D σ H ⟨en, R, w⟩ => ⟨en, R, M.wp_mono (fun u wu v H1 s1 k1 r1 => ?_) (M.wp_bind.mp w)⟩
  have R1 := R.same s1 k1
  refine ⟨en, R1, M.wp_mono (fun u2 wu2 v2 H2 s2 k2 r2 => ?_) (M.wp_bind.mp wu)⟩
  have R2 := R1.same s2 k2
  refine ⟨en, R2, M.wp_mono (fun u3 q v3 H3 s3 k3 r3 => ?_) (M.wp_bind.mp wu2)⟩
  refine ⟨v, v2, v3, rfl, ?_⟩
  exact q _ H3 (((R.ext s1).trans (R1.ext s2)).trans (R2.ext s3)) (((R.come s1 k1 i r1).come s2 k2 j r2).come s3 k3 l r3)

/-! ### a thing of the frame's own, or not, stands still -/
theorem db_frzT {i : Nat} {a : CS} {rest : List Stmt} (h : Db X S Z rest a) : Db X S Z rest (sFrzT i a) := by
  refine ⟨fun pins s σ H D I ⟨en, R, w⟩ => ?_⟩
  unfold sFrzT at w
  split at w
  · rename_i ds hd
    exact (db_frz (i := i) h).run pins s σ H D I ⟨en, R, by unfold sFrz; rw [hd]; exact w⟩
  · rename_i ds hd
    exact (db_frz (i := i) h).run pins s σ H D I ⟨en, R, by unfold sFrz; rw [hd]; exact w⟩
  · exact h.run pins s σ H D I ⟨en, R, w⟩
  · exact w.elim

/-! ### stars -/
def caStar (a : CE) (r : CL) : CL := fun e => (a e).bind fun x => (itemsOf x).bind fun ys => (r e).bind fun xs => .ret (ys ++ xs)
theorem RepA.pairedR {K : PySem.W.Frag} {H : Hp} : ∀ {vs : List V} {ds : List PyData}, RepA K H vs ds → Paired (fun v d => Rep K H v d) vs ds
  | _, _, .nil => .nil
  | _, _, .cons r t => .cons r (RepA.pairedR t)
theorem Paired.app {α β : Type} {F : α → β → Prop} : ∀ {xs us : List α} {ys ws : List β}, Paired F xs ys → Paired F us ws → Paired F (xs ++ us) (ys ++ ws)
  | _, _, _, _, .nil, s => s
  | _, _, _, _, .cons r t, s => .cons r (Paired.app t s)
theorem da_star (ha : Dp X S Z e c) (hr : Da X S Z es cl) (hs : starEach (.Starred e p :: es) X.env = (true, eval e X.env) :: starEach es X.env := by rfl) : Da X S Z (.Starred e p :: es) (caStar c cl) := by
  refine PA.imp (StX.pa_star ha hr hs) fun σ H Q ⟨en, R, w⟩ => ⟨en, R, M.wp_mono (fun d wd v H1 s1 k1 r1 => ?_) (M.wp_bind.mp w)⟩
  obtain ⟨a, xs, ds, rfl, h1, h2, q⟩ := itemsOf_wp (M.wp_bind.mp wd) r1
  refine ⟨a, xs, rfl, h1.symm, en, R.same s1 k1, M.wp_mono (fun es' q' vs H2 s2 k2 r2 => ?_) (M.wp_bind.mp q)⟩
  exact q' (xs ++ vs) H2 (s1.trans s2) k2 (Paired.app (RepA.pairedR (h2.kp (s2.kp k1))) r2)

/-! ### backwards -/
def clRev (c : CE) : CL := fun e => (c e).bind fun d => match d with
  | .list xs => .ret xs.reverse
  | _ => .bad
theorem dl_rev {k : Nat} {p1 p2 p3 : Pos} (h : Dp X S Z e c) : Dl X S Z (.Subscript e (.Slice none none (some (.UnaryOp .USub (.Constant (.int 1) k p1) p2)) p3) pos) (clRev c) := by
  refine PE.imp (pe_revL h) fun σ H Q ⟨en, R, w⟩ => ⟨en, R, M.wp_mono (fun d wd v H1 s k r => ?_) (M.wp_bind.mp w)⟩
  cases d <;> first | exact wd.elim | skip
  obtain ⟨a, xs, rfl, h1, h2⟩ := RepP.list r
  refine ⟨a, xs, rfl, h1, fun l hl => ?_⟩
  exact wd l xs.reverse _ (s.trans (.of (same_new hl))) (k.same (same_new hl)) (none_back k s hl) upd_same ((h2.kp (.of (same_new hl))).reverse)
end

/-! ### the source -/
def srcD (c : Addr) (l m t : Int) : List (Key × V) := [(.inr "cells", .ref c), (.inr "left", .int l), (.inr "mixed", .int m), (.inr "turn", .int t)]
theorem srcD_left (c : Addr) (l m t i : Int) : putK (srcD c l m t) (.inr "left") (.int i) = srcD c i m t := by
  unfold srcD putK
  simp (decide := true)
theorem srcD_turn (c : Addr) (l m t i : Int) : putK (srcD c l m t) (.inr "turn") (.int i) = srcD c l m i := by
  unfold srcD putK
  simp (decide := true)
theorem srcD_mixed (c : Addr) (l m t i : Int) : putK (srcD c l m t) (.inr "mixed") (.int i) = srcD c l i t := by
  unfold srcD putK
  simp (decide := true)
theorem srcD_gl (c : Addr) (l m t : Int) : valV (srcD c l m t) (.inr "left") = some (.int l) := by
  unfold srcD valV
  simp (decide := true)
theorem srcD_gc (c : Addr) (l m t : Int) : valV (srcD c l m t) (.inr "cells") = some (.ref c) := by
  unfold srcD valV
  simp (decide := true)
theorem srcD_gm (c : Addr) (l m t : Int) : valV (srcD c l m t) (.inr "mixed") = some (.int m) := by
  unfold srcD valV
  simp (decide := true)
theorem srcD_gt (c : Addr) (l m t : Int) : valV (srcD c l m t) (.inr "turn") = some (.int t) := by
  unfold srcD valV
  simp (decide := true)
end DL
namespace DL
open PySem PySem.Spec PyProof.Rows L2
/-- the draw, from fewer than 2^30 -/
def mPickB : FD
  | [.int n] => if n.natAbs < 1073741824 then .pick n fun i => .ret (.int i) else .bad
  | _ => .bad
theorem mPickB_wp {ds : List PyData} {Q : PyData → Prop} (h : (mPickB ds).wp Q) : ∃ n : Int, ds = [.int n] ∧ n.natAbs < 1073741824 ∧ ∀ i : Int, 0 ≤ i → i < max 1 n → Q (.int i) := by
  unfold mPickB at h
  split at h
  · obtain ⟨h1, h2⟩ := wp_if h
    exact ⟨_, rfl, h1, h2⟩
  · exact h.elim
theorem mPickB_arity : Arity mPickB 1 := fun ds Q h => by
  obtain ⟨n, rfl, _⟩ := mPickB_wp h
  rfl
/-- the source's promise -/
def spSrc (K : PySem.W.Frag) : Sp := fun vs H Q _ => ∃ (a : Addr) (ns : List Int), vs = [.ref a] ∧ SqL K H a (ns.map V.int) ∧ ns.length ≤ 63 ∧ ∀ H' s c, Same H H' → H s = none → H c = none → SrcAt s c H' → Q (.ref s) H'

/-- the end of a draw, behind the cells' loop -/
abbrev cMax : TE := tCB (fun xs H Q => ∃ i j, xs = [.int i, .int j] ∧ Q (.int (if j > i then j else i)) H) (tCons (tC (.int 1)) (tCons (tVar 1) tNil))
abbrev cInt (t : TE) : TE := tCB (fun xs H Q => (∃ i, xs = [.int i] ∧ Q (.int i) H) ∨ ∃ k, xs = [.bl k] ∧ Q (.int (if k then 1 else 0)) H) (tCons t tNil)
abbrev oAdd : R2 := rI0 fun i j => .int (i + j)
abbrev oMul : R2 := rI CMul fun i j => .int (i * j)
abbrev oMod : R2 := rI (fun _ j => j ≠ 0) fun i j => .int (i.fmod j)
abbrev oDiv : R2 := rI CDivN fun i j => .int (i.fdiv j)
abbrev oLt : R2 := rI0 fun i j => .bl (decide (i < j))
abbrev oGt : R2 := rI0 fun i j => .bl (decide (j < i))
abbrev dGet (k : Str) : TE := tDGet (tVar 0) (tC (.str k))
abbrev dPut (k : Str) (t : TE) : TS := sDPut (tVar 0) (tC (.str k)) t
def tPickEnd : TS := tSeq (tAsg (dGet "left") (gName 2)) (tSeq (tIfS (tOr (tTest (tOp oLt (tVar 1) (tC (.int 2)))) (tTest (tOp oGt (tVar 2) (tC (.int 1)))))
    (tSeq (dPut "left" (tOp oDiv (tVar 2) cMax)) (tRet (tOp oMod (cInt (tVar 2)) cMax))) tNext)
  (tSeq (dPut "turn" (tOp oAdd (dGet "turn") (tC (.int 1))))
  (tSeq (tAsg (tOp oMod (cInt (tOp oAdd (dGet "mixed") (tOp oMul (dGet "turn") (tC (.int 104729))))) (tC (.int 998244353))) (gName 3))
  (tSeq (tAsg (tOp oMod (cInt (tOp oAdd (tOp oMul (tVar 3) (tVar 3)) (tOp oMul (dGet "turn") (tC (.int 17))))) (tC (.int 2147483647))) (gName 3))
  (tSeq (dPut "mixed" (tVar 3)) (tRet (tOp oMod (cInt (tOp oDiv (tVar 3) (tC (.int 16)))) (tVar 1))))))))
theorem fmod_in (a : Int) {m : Int} (h : 0 < m) : 0 ≤ a.fmod m ∧ a.fmod m < m := by
  rw [Int.fmod_eq_emod_of_nonneg a (by omega)]
  exact ⟨Int.emod_nonneg a (by omega), Int.emod_lt_of_pos a h⟩
theorem fdiv_nn {a m : Int} (h0 : 0 ≤ a) (h : 0 < m) : 0 ≤ a.fdiv m := by
  rw [Int.fdiv_eq_ediv_of_nonneg a (by omega)]
  exact Int.ediv_nonneg h0 (by omega)
section
variable {K : PySem.W.Frag} {s c : Addr} {H H2 : Hp} {Q : VK}
theorem src_at {cells : List Int} {l m t : Int} (nsc : s ≠ c) (hc : H2 c = some (.lst (cells.map V.int))) (hp : ∀ x ∈ cells, 0 ≤ x) (hl : 0 ≤ l) (hm : 0 ≤ m) (hm2 : m < 2147483648) (ht : 0 ≤ t) : SrcAt s c (upd H2 s (.dK (srcD c l m t))) :=
  ⟨nsc, cells, l, m, t, by rw [upd_ne nsc.symm]; exact hc, upd_same, hp, hl, hm, hm2, ht⟩
theorem same_s {u : HO} (sm : SameX (some (s, c)) H H2) : SameX (some (s, c)) H (upd H2 s u) := fun b o nb e => by
  rw [upd_ne (fun z => nb (.inl z))]
  exact sm b o nb e
theorem pick_end {cells : List Int} {left mixed turn : Int} (n : Int) (hn : n.natAbs < 1073741824) (q : ∀ i : Int, 0 ≤ i → i < max 1 n → ∀ v H', SameX (some (s, c)) H H' → SrcAt s c H' → Rep K H' v (.int i) → Q v H')
    (nsc : s ≠ c) (sm : SameX (some (s, c)) H H2) (hc : H2 c = some (.lst (cells.map V.int))) (hs : H2 s = some (.dK (srcD c left mixed turn))) (hp : ∀ x ∈ cells, 0 ≤ x) (hl : 0 ≤ left) (hm : 0 ≤ mixed) (hm2 : mixed < 2147483648) (ht : 0 ≤ turn)
    (D : Ends) (hD : ∀ v H', D.rt v H' = Q v H') : tPickEnd D [some (.ref s), some (.int n), none, none] H2 := by
  have small : ∀ l m t : Int, (srcD c l m t).length < sizeLine := fun _ _ _ => by show 4 < sizeLine; decide
  refine ⟨_, rfl, s, _, rfl, .inl ⟨_, .inr "left", .inl hs, rfl, (srcD_gl _ _ _ _).symm⟩, ?_⟩
  have first : (tSeq (dPut "left" (tOp oDiv (tVar 2) cMax)) (tRet (tOp oMod (cInt (tVar 2)) cMax))) D [some (.ref s), some (.int n), some (.int left), none] H2 := by
    have m0 : (0 : Int) < (if n > 1 then n else 1) := by split <;> omega
    have mx : (if n > 1 then n else 1) = max 1 n := by split <;> omega
    refine ⟨_, rfl, _, rfl, 1, n, rfl, left, _, rfl, rfl, ⟨by omega, by split <;> omega⟩, _, rfl, s, _, rfl, .inl ⟨_, .inr "left", hs, rfl, small _ _ _, rfl⟩, ?_⟩
    refine ⟨_, rfl, .inl ⟨_, rfl, _, rfl, 1, n, rfl, left, _, rfl, rfl, by omega, ?_⟩⟩
    rw [hD, srcD_left]
    obtain ⟨f1, f2⟩ := fmod_in left m0
    exact q _ f1 (by omega) _ _ (same_s sm) (src_at nsc hc hp (fdiv_nn hl m0) hm hm2 ht) (.int _)
  -- many < 2 or left > 1
  refine ⟨_, rfl, n, 2, rfl, rfl, _, rfl, ite2 (fun _ => iteT first) (fun g1 => ?_)⟩
  refine ⟨_, rfl, left, 1, rfl, rfl, _, rfl, ite2 (fun _ => first) (fun g2 => ?_)⟩
  have hn2 : 2 ≤ n := by
    have := of_decide_eq_false (Bool.eq_false_iff.mpr g1)
    omega
  refine ⟨_, rfl, s, _, rfl, .inl ⟨_, .inr "turn", .inl hs, rfl, (srcD_gt _ _ _ _).symm⟩, turn, 1, rfl, rfl, _, rfl, s, _, rfl, .inl ⟨_, .inr "turn", hs, rfl, small _ _ _, rfl⟩, ?_⟩
  rw [srcD_turn]
  -- mixed, twice
  refine ⟨_, rfl, s, _, rfl, .inl ⟨_, .inr "mixed", .inl upd_same, rfl, (srcD_gm _ _ _ _).symm⟩, _, rfl, s, _, rfl, .inl ⟨_, .inr "turn", .inl upd_same, rfl, (srcD_gt _ _ _ _).symm⟩, _, _, rfl, rfl, .inr ⟨by decide, by decide⟩, _, _, rfl, rfl, .inl ⟨_, rfl, _, _, rfl, rfl, (by show (998244353 : Int) ≠ 0; decide), ?_⟩⟩
  have b1 := fmod_in (mixed + (turn + 1) * 104729) (m := 998244353) (by decide)
  refine ⟨_, rfl, _, rfl, _, _, rfl, rfl, .inl ⟨by omega, by omega⟩, _, rfl, s, _, rfl, .inl ⟨_, .inr "turn", .inl upd_same, rfl, (srcD_gt _ _ _ _).symm⟩, _, _, rfl, rfl, .inr ⟨by decide, by decide⟩, _, _, rfl, rfl, .inl ⟨_, rfl, _, _, rfl, rfl, (by show (2147483647 : Int) ≠ 0; decide), ?_⟩⟩
  have b2 := fmod_in ((mixed + (turn + 1) * 104729).fmod 998244353 * (mixed + (turn + 1) * 104729).fmod 998244353 + (turn + 1) * 17) (m := 2147483647) (by decide)
  refine ⟨_, rfl, _, rfl, s, _, rfl, .inl ⟨_, .inr "mixed", upd_same, rfl, small _ _ _, rfl⟩, ?_⟩
  rw [srcD_mixed, upd_upd]
  refine ⟨_, rfl, _, _, rfl, rfl, ⟨by decide, by decide⟩, .inl ⟨_, rfl, _, rfl, _, _, rfl, rfl, by omega, ?_⟩⟩
  rw [hD]
  obtain ⟨f1, f2⟩ := fmod_in (Int.fdiv (((mixed + (turn + 1) * 104729).fmod 998244353 * (mixed + (turn + 1) * 104729).fmod 998244353 + (turn + 1) * 17).fmod 2147483647) 16) (m := n) (by omega)
  exact q _ f1 (by omega) _ _ (same_s sm) (src_at nsc hc hp hl b2.1 (by omega) (by omega)) (.int _)
end

def absI (i : Int) : Int := if i < 0 then -i else i
abbrev cAbs (t : TE) : TE := tCB (fun xs H Q => ∃ i, xs = [.int i] ∧ Q (.int (if i < 0 then -i else i)) H) (tCons t tNil)
def tSource (K : PySem.W.Frag) : TS := tSeq (tAsg (tC (.int 11)) (gName 1)) (tSeq (tFor (iList K (tVar 0)) (gName 2)
    (tAsg (tOp oMod (cInt (tOp oAdd (tOp oAdd (tOp oMul (tVar 1) (tC (.int 69069))) (tOp oMul (tVar 2) (tC (.int 31)))) (tC (.int 5)))) (tC (.int 2147483629))) (gName 1)))
  (tRet (tDisp [(tC (.str "cells"), tRevL K (tLc (iList K (tVar 0)) (gName 2) tYes (cAbs (tVar 2)) [2])), (tC (.str "left"), tC (.int 1)), (tC (.str "mixed"), tVar 1), (tC (.str "turn"), tC (.int 0))])))
theorem srcD_merge (c : Addr) (m : Int) : mergeK [] [(Sum.inr "cells", V.ref c), (.inr "left", .int 1), (.inr "mixed", .int m), (.inr "turn", .int 0)] = srcD c 1 m 0 := by
  unfold mergeK srcD putK
  simp (decide := true)
theorem source_end {K : PySem.W.Frag} {a : Addr} {ns : List Int} {H : Hp} {Q : VK} {D : Ends} (hS : SqL K H a (ns.map V.int)) (hl : ns.length ≤ 63) (hD : ∀ v H', D.rt v H' = Q v H')
    (q : ∀ H' s c, Same H H' → H s = none → H c = none → SrcAt s c H' → Q (.ref s) H') : tSource K D [some (.ref a), none, none] H := by
  -- the loop over the script
  refine ⟨_, rfl, a, rfl, ⟨_, hS⟩, for_list (K := K) (a := a) (xs := ns.map V.int) (fun _ σ H' => ∃ (m : Int) (y : Option V), σ = [some (.ref a), some (.int m), y] ∧ 0 ≤ m ∧ m < 2147483629 ∧ H' = H) ⟨11, none, rfl, by decide, by decide, rfl⟩ (fun i σ H' _ ⟨m, y, _, _, _, e⟩ => e ▸ hS) ?_ ?_⟩
  · rintro i x σ H' hx ⟨m, y, rfl, m0, m1, rfl⟩
    obtain ⟨z, rfl⟩ : ∃ z : Int, x = .int z := by
      rw [List.getElem?_map] at hx
      cases e : ns[i]? with
      | none => rw [e] at hx; cases hx
      | some z => rw [e] at hx; cases hx; exact ⟨z, rfl⟩
    refine ⟨_, rfl, _, _, rfl, rfl, .inr ⟨by decide, by decide⟩, _, rfl, _, _, rfl, rfl, .inr ⟨by decide, by decide⟩, _, _, rfl, rfl, _, _, rfl, rfl, .inl ⟨_, rfl, _, _, rfl, rfl, (by show (2147483629 : Int) ≠ 0; decide), ?_⟩⟩
    obtain ⟨f1, f2⟩ := fmod_in (m * 69069 + z * 31 + 5) (m := 2147483629) (by decide)
    exact ⟨_, some (.int z), rfl, f1, f2, rfl⟩
  · rintro σ H' ⟨m, y, rfl, m0, m1, rfl⟩
    -- the dict
    intro p hp
    have hS1 : SqL K (upd H' p (.dK [])) a (ns.map V.int) := (same_new hp).seq hS
    refine ⟨_, rfl, a, rfl, ⟨_, hS1⟩, fun E hE => lc_list (K := K) (a := a) (xs := ns.map V.int) (fun i H2 => H2 = upd (upd H' p (.dK [])) E (.lst (((ns.take i).map absI).map V.int))) rfl (fun i H2 _ e => by rw [e]; exact (same_new hE).seq hS1) ?_ ?_⟩
    · rintro i x H2 hx rfl
      obtain ⟨z, hz, rfl⟩ : ∃ z : Int, ns[i]? = some z ∧ x = .int z := by
        rw [List.getElem?_map] at hx
        cases e : ns[i]? with
        | none => rw [e] at hx; cases hx
        | some z => rw [e] at hx; cases hx; exact ⟨z, rfl, rfl⟩
      refine ⟨rfl, ?_⟩
      unfold tYes
      dsimp only
      rw [if_pos rfl]
      refine ⟨_, rfl, z, rfl, _, upd_same, ?_, ?_⟩
      · rw [List.length_map, List.length_map, List.length_take]
        exact Nat.lt_of_le_of_lt (Nat.le_trans (Nat.min_le_right _ _) hl) (by decide)
      · show upd (upd (upd H' p (.dK [])) E _) E _ = upd (upd H' p (.dK [])) E _
        rw [upd_upd, List.take_add_one, hz, Option.toList_some, List.map_append, List.map_append]
        rfl
    · rintro H2 rfl
      rw [List.length_map, List.take_length]
      refine ⟨E, _, rfl, SqL.of upd_same, fun r hr => ?_⟩
      have npE : p ≠ E := ne_of_none upd_same hE
      have hr1 : (upd H' p (.dK [])) r = none := by
        by_cases e : r = E
        · subst e; exact hE
        · rw [upd_ne e] at hr; exact hr
      have hr0 : H' r = none := by
        by_cases e : r = p
        · subst e; rw [upd_same] at hr1; cases hr1
        · rw [upd_ne e] at hr1; exact hr1
      have npr : p ≠ r := ne_of_none upd_same hr1
      refine ⟨_, rfl, ?_⟩
      refine ⟨by rw [upd_ne npr, upd_ne npE, upd_same], [(.inr "cells", .ref r), (.inr "left", .int 1), (.inr "mixed", .int m), (.inr "turn", .int 0)], rfl, (by show 4 ≤ 15; decide), ?_⟩
      rw [hD, srcD_merge]
      have sm : Same H' (upd (upd (upd (upd H' p (.dK [])) E (.lst ((ns.map absI).map V.int))) r (.lst ((ns.map absI).map V.int).reverse)) p (.dK (srcD r 1 m 0))) := fun b o e => by
        rw [upd_ne (ne_of_none e hp)]
        exact same_new hr b o (same_new hE b o (same_new hp b o e))
      refine q _ p r sm hp hr0 ⟨npr, (ns.map absI).reverse, 1, m, 0, ?_, upd_same, ?_, by decide, m0, by omega, by decide⟩
      · rw [upd_ne npr.symm, upd_same, List.map_reverse]
      · intro x hx
        rw [List.mem_reverse] at hx
        obtain ⟨z, _, rfl⟩ := List.mem_map.mp hx
        unfold absI
        split <;> omega
end DL
namespace DL
open PySem PySem.Spec PyProof.Rows L2

/-- the law: handed a list of at most 63 ints it hands back True, if m, what it does behind the source, always ends so -/
def spLaw (K : PySem.W.Frag) (m : M PyData) : Sp := fun vs H Q _ => ∃ (a : Addr) (ns : List Int), vs = [.ref a] ∧ SqL K H a (ns.map V.int) ∧ ns.length ≤ 63 ∧ (m.wp fun d => d = .bool true) ∧ ∀ H', Q (.bl true) H'
def envLaw (n i : Nat) : En := (List.replicate n .no).set i .src
def lawM (n i : Nat) (cs : CS) : M PyData := (cs (envLaw n i)).bind endOf
theorem pss_ex {X : Cx} {st : List Stmt} {t : SrcA → (Addr → Prop) → TS} (h : ∀ S Z, PSs X st (t S Z)) : PSs X st (fun D σ H => ∃ S Z, t S Z D σ H) := ⟨fun pins s σ H D I ⟨S, Z, q⟩ => (h S Z).run pins s σ H D I q⟩
section
variable {P : Program} {w : World} {K : PySem.W.Frag} {mg : Str → Option Value} {base : Heap} {x qual : Str} {st s0 : Stmt} {rest : List Stmt} {f : Addr} {fd : FuncData} {N : List Str} {k : Nat} {cs : CS}
theorem law_okG (i : Nat) (F : Fun K x qual st f fd) (sc : FnScope N ["script"] (defScope st)) (hi : 0 < i) (hi2 : i < N.length) (hbody : defBody st = s0 :: rest)
    (h0 : ∀ (cdv : Value) (A : Around) (outer : List Env) (s : Shared) (H : Hp) (E : XK), Room k (A.deeper (envOfC qual (defScope st) s.heap.objs.size f cdv)) →
      PS (cxOf CX0 P w K mg base N qual (defScope st) f cdv A outer s H E).nox s0 (tAsg (tCall (spSrc K) [] E0 (tCons (tVar 0) tNil)) (gName i)))
    (hb : ∀ (cdv : Value) (A : Around) (outer : List Env) (s : Shared) (H : Hp) (E : XK) (S : SrcA) (Z : Addr → Prop), A.guards = some [] → Room k (A.deeper (envOfC qual (defScope st) s.heap.objs.size f cdv)) →
      Db (cxOf CX0 P w K mg base N qual (defScope st) f cdv A outer s H E).nox S Z rest cs) :
    FnG P w K mg base (k + 1) f fd ["script"] (spLaw K (lawM N.length i cs)) := by
  refine FnG.mk' F sc (fun vs H Q E ⟨a, ns, e, _⟩ => by rw [e]; rfl) (fun cdv A outer s H vs Q E hG hr ⟨a, ns, e, hS, hl, hm, hq⟩ => ?_)
  subst e
  rw [hbody]
  refine ⟨_, pss_cons (h0 cdv A outer s H E hr) (pss_ex fun S Z => hb cdv A outer s H E S Z hG hr), ?_⟩
  refine ⟨_, rfl, a, ns, rfl, hS, hl, fun H' s' c sm e1 e2 at' => ?_⟩
  have hlen : (L2.start N [V.ref a]).length = N.length := by
    unfold L2.start
    rw [List.length_append, List.length_map, List.length_replicate, List.length_singleton]
    omega
  refine ⟨some (s', c), fun _ => False, envLaw N.length i, ?_, ?_⟩
  · have sl : ∀ (j : Nat) (t : Sl), (envLaw N.length i)[j]? = some t → (j = i ∧ t = .src) ∨ t = .no := fun j t h => by
      unfold envLaw at h
      by_cases e : i = j
      · subst e
        rw [List.getElem?_set_self (by rw [List.length_replicate]; exact hi2)] at h
        cases h
        exact .inl ⟨rfl, rfl⟩
      · rw [List.getElem?_set_ne e, List.getElem?_replicate] at h
        split at h
        · cases h; exact .inr rfl
        · cases h
    have noOwn : ∀ j, ¬ ownE (envLaw N.length i) j := fun j ⟨t, h1, h2⟩ => by
      rcases sl j t h1 with ⟨_, rfl⟩ | rfl <;> cases h2
    refine ⟨?_, fun j t h => ?_, fun j l b _ h _ _ _ => absurd h (noOwn j), at', fun _ z => z.elim, fun _ _ z => z⟩
    · show (List.set (L2.start N [V.ref a]) i _).length = _
      rw [List.length_set, hlen]
      unfold envLaw
      rw [List.length_set, List.length_replicate]
    · rcases sl j t h with ⟨rfl, rfl⟩ | rfl
      · show RelSl K _ _ _ ((List.set (L2.start N [V.ref a]) j (some (V.ref s')))[j]?.join) _
        rw [List.getElem?_set_self (by rw [hlen]; exact hi2)]
        exact .src rfl
      · exact .no
  · refine M.wp_mono (fun r q => ?_) (M.wp_bind.mp hm)
    refine endOf_end (Q' := fun d => d = .bool true) (fun d e v H2 _ _ r => ?_) q
    subst e
    cases r
    exact hq H2
end

/-- the law's def is run behind the top -/
theorem law_run {P : Program} {w : World} {K : PySem.W.Frag} {mg mb : Str → Option Value} {k : Nat} {fa a : Addr} {fd : FuncData} {m : M PyData} {s₁ : Shared} {vs : List Value} {ns : List Int} {H : Hp}
    (KX : K.In s₁.heap) (hns : s₁.heap.Ns mainGlobals mg) (hb : s₁.heap.Ns builtinsNs mb) (hbb : ∀ x : Str, x ≠ "__name__" → mb x = bootBuiltins x) (hlim : s₁.heap.NoLimit) (hg : s₁.gens = #[])
    (ha : s₁.heap.get? a = some { cls := .type "list", data := .seq vs.toArray }) (hl : ns.length ≤ 63) (hr : Room k callerA) (hm : m.wp fun d => d = .bool true)
    (F : ∀ base : Heap, K.In base → base.Ns mainGlobals mg → FnG P w K mg base k fa fd ["script"] (spLaw K m)) (hbind : ∀ (s : Shared) (u : Value), BindsTo s fd ⟨[u], []⟩ [("script", u)])
    (hH : ∀ b u, H b = some u → b = a ∧ u = .frz { cls := .type "list", data := .seq vs.toArray } (.lst (ns.map V.int)) ∧ K.lookup a = none) (hok : HOk P w H s₁.heap) (hS : SqL K H a (ns.map V.int)) :
    codeAny (model P w) callerA (.call (.ref fa) ⟨[.ref a], []⟩) (fun r s' => r = .ok (.ret (.bool true)) ∧ OldK s₁.heap s'.heap ∧ s'.os = s₁.os ∧ AllBare s'.gens) s₁ := by
  -- what is no list of the script's is seen in the base
  have old : ∀ {b : Addr} {o : Obj}, s₁.heap.get? b = some o → (b = a → K.lookup a = none → False) → (hidT s₁.heap H).get? b = some o := fun {b o} e n => hidT_get e (by
    cases q : H b with
    | none => rfl
    | some u =>
      obtain ⟨h1, _, h2⟩ := hH b u q
      exact (n h1 h2).elim)
  have ns' : ∀ {b : Addr} {m : Str → Option Value}, s₁.heap.Ns b m → (hidT s₁.heap H).Ns b m := fun {b m} ⟨o, es, ep, e, d, r⟩ => ⟨o, es, ep, old e (fun z _ => by subst z; rw [ha] at e; cases e; cases d), d, r⟩
  have KB : K.In (hidT s₁.heap H) := fun b o e => old (KX b o e) (fun z n => by subst z; rw [n] at e; cases e)
  have MD : Mod K mg (hidT s₁.heap H) := ⟨KB, ns' hns, ⟨mb, ns' hb, hbb⟩, let ⟨mc, h1, h2⟩ := hlim; ⟨mc, ns' h1, h2⟩⟩
  have none0 : ∀ {b : Addr}, b ∉ frs ([] : List Env) := fun {b} z => by cases z
  have E0 : Env0 P w K mg (hidT s₁.heap H) callerA [] s₁ H := ⟨rfl, MD, fun b o e => of_hidT e, Nat.le_of_eq (hidT_size _ _), trivial, fun b z => (none0 z).elim, hok, .of_eq hg⟩
  have run := (F _ KB (ns' hns)).run callerA [] s₁ H ⟨[.ref a], []⟩ [.ref a] [.ref a] (fun v _ => v = .bl true) (fun _ _ _ => False) rfl hr E0 (hbind s₁ (.ref a)) (.cons rfl .nil) ⟨a, ns, rfl, hS, hl, hm, fun _ => rfl⟩
  refine codeAny_mono run fun r s' h => ?_
  match r, h with
  | .error e, h => exact h.elim
  | .ok .next, h => exact h.elim
  | .ok .brk, h => exact h.elim
  | .ok .cont, h => exact h.elim
  | .ok (.ret u), ⟨v, H', os, bare, un, hok', r', q⟩ =>
    have q : v = .bl true := q
    subst q
    have r' : u = Value.bool true := r'
    subst r'
    refine ⟨rfl, OldK.of_keep fun b o e => ?_, os, bare⟩
    cases z : H b with
    | none => exact un.keep b o e z none0 (fun z => by cases z)
    | some u =>
      obtain ⟨rfl, rfl, _⟩ := hH b u z
      obtain ⟨e2, _⟩ := hok' b _ (un.frzs b _ _ z)
      rw [ha] at e; cases e
      exact e2
/-- the goal that k_head leaves, from what the law does -/
theorem walk_law {l : PySem.W.OpenLaw} {k : Nat} {q : Program} {loose : List Str} {XP : (Str → Option Value) → Heap → Prop} {YP : World → Heap → Prop} {d : DefRec} {K : Params → PySem.W.Frag} {m : M PyData}
    (hn : l.most = some 63) (hdf : d.params.defaults = []) (hr : Room k callerA) (hY : ∀ (w : World) (h : Heap), YP w h → (K w.params).In h) (hm : m.wp fun d => d = .bool true)
    (F : ∀ (w : World) (mg : Str → Option Value) (fa : Addr) (h : Heap), (K w.params).In h → h.Ns mainGlobals mg → mg d.name = some (.ref fa) →
      ∃ fd : FuncData, (∀ (s : Shared) (u : Value), BindsTo s fd ⟨[u], []⟩ [("script", u)]) ∧
        ∀ base : Heap, (K w.params).In base → base.Ns mainGlobals mg → FnG l.prog w (K w.params) mg base k fa fd ["script"] (spLaw (K w.params) m)) :
    PySem.W.WalkO q loose XP YP l.row.toRowW d [] (fun f vs => PySem.call f vs) := by
  refine Att.attach_call hn hdf fun w s₀ s₁ mg mb fa o pm cd doc a vs ns G Y ho hd hcd hmg hobj hints hlen hg => ?_
  have KX := hY w _ Y
  obtain ⟨fd, hb, hF⟩ := F w mg fa _ KX G.T.g hmg
  have rv := vals_ints hints
  have lenV := hints.length
  have big : ns.length ≤ sizeLine := Nat.le_trans hlen (by decide)
  cases hk : (K w.params).lookup a with
  | some ob =>
    have e := KX a ob hk
    rw [hobj] at e; cases e
    exact law_run (H := fun _ => none) KX G.T.g G.T.b G.T.builtins G.T.nolimit hg hobj hlen hr hm hF hb (fun b u z => by cases z) (fun b u z => by cases z)
      (.inr ⟨_, vs.toArray, _, hk, rfl, rfl, rfl, by rw [List.size_toArray, lenV]; exact big, rv⟩)
  | none =>
    have at_a : (fun b => if b = a then some (HO.frz { cls := .type "list", data := .seq vs.toArray } (.lst (ns.map V.int))) else none : Hp) a = some (.frz { cls := .type "list", data := .seq vs.toArray } (.lst (ns.map V.int))) := if_pos rfl
    have only : ∀ b u, (fun b => if b = a then some (HO.frz { cls := .type "list", data := .seq vs.toArray } (.lst (ns.map V.int))) else none : Hp) b = some u → b = a ∧ u = .frz { cls := .type "list", data := .seq vs.toArray } (.lst (ns.map V.int)) := fun b u z => by
      by_cases e : b = a
      · subst e
        rw [at_a] at z; cases z
        exact ⟨rfl, rfl⟩
      · have z' := (if_neg e).symm.trans z
        cases z'
    refine law_run KX G.T.g G.T.b G.T.builtins G.T.nolimit hg hobj hlen hr hm hF hb (fun b u z => ⟨(only b u z).1, (only b u z).2, hk⟩) (fun b u z => ?_) (.inl (.inr ⟨_, at_a⟩))
    obtain ⟨rfl, rfl⟩ := only b u z
    exact ⟨hobj, by rw [List.length_map]; exact big, vs, _, rv, hobj⟩
end DL
namespace DL
open PySem PySem.Spec PyProof.Rows L2
theorem tuple_mulSame (l : Addr) (items : Array Value) (n : Nat) (dd : Option Addr) (sl : Array (Option Value)) (x : Int) (u : Tok) (c0 : (decide (x < -(2 ^ 63)) || decide (x ≥ 2 ^ 63)) = false) (c1 : (items.isEmpty || x == 1) = true) :
    Meets (Builtin.«tuple.__mul__» ⟨[.ref l, .int x u], []⟩) (fun _ R s => s.heap.get? l = some { cls := .type "tuple", dict := dd, data := .seq items n, slots := sl } ∧
      R (.ok (.ret (Value.ref l))) s) :=
  .of_wp fun prog w A R s h => by
    obtain ⟨hp, g, d, tk, os⟩ := s
    obtain ⟨hl, h⟩ := h
    have f1 := AutoSeq1.idx_int
    have hT : (⟨hp, g, d, tk, os⟩ : Shared).TypeIs (.ref l) "tuple" := ⟨_, hl, rfl⟩
    wp_walk using wpAny_loadPart' hl
    repeat (first
      | (refine wpAny_ite_false (decide_eq_false (by rw [c0]; exact Bool.false_ne_true)) ?_; wp_walk using wpAny_loadPart' hl)
      | (refine wpAny_ite_true (decide_eq_true (by rw [c1])) ?_; wp_walk using wpAny_loadPart' hl))
    exact ⟨_, rfl, h⟩
theorem tuple_mulNil (l : Addr) (items : Array Value) (n : Nat) (dd : Option Addr) (sl : Array (Option Value)) (x : Int) (u : Tok) (c0 : (decide (x < -(2 ^ 63)) || decide (x ≥ 2 ^ 63)) = false) (c1 : (items.isEmpty || x == 1) = false) (c2 : (decide (x ≤ 0) || items.isEmpty) = true) :
    Meets (Builtin.«tuple.__mul__» ⟨[.ref l, .int x u], []⟩) (fun _ R s => s.heap.get? l = some { cls := .type "tuple", dict := dd, data := .seq items n, slots := sl } ∧
      R (.ok (.ret (Value.ref s.heap.objs.size))) { s with heap := s.heap.push { cls := Value.type "tuple", data := Data.seq #[] }, toks := s.toks }) :=
  .of_wp fun prog w A R s h => by
    obtain ⟨hp, g, d, tk, os⟩ := s
    obtain ⟨hl, h⟩ := h
    have f1 := AutoSeq1.idx_int
    have hT : (⟨hp, g, d, tk, os⟩ : Shared).TypeIs (.ref l) "tuple" := ⟨_, hl, rfl⟩
    wp_walk using wpAny_loadPart' hl
    repeat (first
      | (refine wpAny_ite_false (decide_eq_false (by rw [c0]; exact Bool.false_ne_true)) ?_; wp_walk using wpAny_loadPart' hl)
      | (refine wpAny_ite_false (decide_eq_false (by rw [c1]; exact Bool.false_ne_true)) ?_; wp_walk using wpAny_loadPart' hl)
      | (refine wpAny_ite_true (decide_eq_true (by rw [c2])) ?_; wp_walk using wpAny_loadPart' hl))
    exact ⟨_, rfl, h⟩
section
variable {X : Cx} {S : SrcA}
/-- tuple * int, any -/
def rRepA (K : PySem.W.Frag) : R2 := fun x y H Q => ∃ l k xs, x = .ref l ∧ y = .int k ∧ SqT K H l xs ∧ -1000 ≤ k ∧ k ≤ 1000 ∧ xs.length ≤ 1000 ∧ ((xs = [] ∨ k = 1) → Q (.ref l) H) ∧ (¬ (xs = [] ∨ k = 1) → ∀ p, H p = none → Q (.ref p) (upd H p (.tup (List.replicate k.toNat xs).flatten)))
theorem op_repA : OpR X (binaryOp .Mult) (rRepA X.K) := by
  intro pins s σ H x y v u Q I rx ry h
  obtain ⟨l, k, xs, rfl, rfl, hT, h1, h2, hz, q1, q2⟩ := h
  by_cases g : xs = [] ∨ k = 1
  · cases rx
    obtain ⟨t, rfl⟩ := ry
    obtain ⟨its, r, ⟨⟨cls, dd, data, sl⟩, ho, hc, n, hd⟩, hs⟩ := I.tuple hT
    simp only at hc hd
    subst hc hd
    have c0 : (decide (k < -(2 ^ 63)) || decide (k ≥ 2 ^ 63)) = false := by
      rw [decide_eq_false (by omega), decide_eq_false (by omega)] <;> rfl
    have c1 : (its.toArray.isEmpty || k == 1) = true := by
      rcases g with g | g
      · subst g; cases r; rfl
      · subst g; rw [show ((1 : Int) == 1) = true from rfl, Bool.or_true]
    refine wpAny_binaryOp_repeat_ref (T := "tuple") (U := "int") (by decide) ⟨_, ho, rfl⟩ (fun s' => typeIs_int s' k t) noFill_tuple_mul F.fills_int_mul F.slot_int_rmul repeat_tuple F.slot_int_index.lookup
      (call_meets F.slot_int_rmul (typeIs_int s k t) F.entry_int_rmul (F.args_int_rmul_2 _ _) (int_rmul_tuple k t l its.toArray n dd sl)
        ⟨ho, rfl, ⟨_, ho, rfl⟩, call_meets F.slot_tuple_mul ⟨_, ho, rfl⟩ F.entry_tuple_mul (F.args_tuple_mul_2 _ _) (tuple_mulSame l its.toArray n dd sl k t c0 c1) ⟨ho, ?_⟩⟩)
    exact ⟨.ref l, H, I, rfl, q1 g⟩
  · have g1 : xs ≠ [] := fun e => g (.inl e)
    have g2 : k ≠ 1 := fun e => g (.inr e)
    by_cases h3 : 2 ≤ k
    · exact op_repT pins s σ H _ _ v u Q I rx ry ⟨l, k, xs, rfl, rfl, hT, g1, h3, h2, hz, q2 g⟩
    · have hk : k ≤ 0 := by omega
      cases rx
      obtain ⟨t, rfl⟩ := ry
      obtain ⟨its, r, ⟨⟨cls, dd, data, sl⟩, ho, hc, n, hd⟩, hs⟩ := I.tuple hT
      simp only at hc hd
      subst hc hd
      have hle : its.length = xs.length := r.length.symm
      have hn : its ≠ [] := fun e => g1 (by
        rw [e] at hle
        exact List.eq_nil_of_length_eq_zero hle.symm)
      have hi : its.toArray.isEmpty = false := by
        cases its with
        | nil => exact absurd rfl hn
        | cons a b => rfl
      have c0 : (decide (k < -(2 ^ 63)) || decide (k ≥ 2 ^ 63)) = false := by
        rw [decide_eq_false (by omega), decide_eq_false (by omega)] <;> rfl
      have c1 : (its.toArray.isEmpty || k == 1) = false := by
        rw [hi, Bool.false_or]
        exact beq_eq_false_iff_ne.mpr (by omega)
      have c2 : (decide (k ≤ 0) || its.toArray.isEmpty) = true := by
        rw [decide_eq_true hk, Bool.true_or]
      refine wpAny_binaryOp_repeat_ref (T := "tuple") (U := "int") (by decide) ⟨_, ho, rfl⟩ (fun s' => typeIs_int s' k t) noFill_tuple_mul F.fills_int_mul F.slot_int_rmul repeat_tuple F.slot_int_index.lookup
        (call_meets F.slot_int_rmul (typeIs_int s k t) F.entry_int_rmul (F.args_int_rmul_2 _ _) (int_rmul_tuple k t l its.toArray n dd sl)
          ⟨ho, rfl, ⟨_, ho, rfl⟩, call_meets F.slot_tuple_mul ⟨_, ho, rfl⟩ F.entry_tuple_mul (F.args_tuple_mul_2 _ _) (tuple_mulNil l its.toArray n dd sl k t c0 c1 c2) ⟨ho, ?_⟩⟩)
      have e : (List.replicate k.toNat xs).flatten = [] := by
        rw [show k.toNat = 0 by omega]; rfl
      refine ⟨.ref s.heap.objs.size, _, I.laid (t' := s.toks) (o := .tup []) (fun b ob q => Heap.get?_push_of_some _ q) (Nat.le_refl _) ?_, rfl, by have := q2 g _ (I.hok.fresh (Nat.le_refl _)); rw [e] at this; exact this⟩
      exact ⟨by rw [sizeLine_eq]; exact Nat.zero_le _, [], .nil, IsTup.new _ _⟩
def mMulT : PyData → PyData → M PyData
  | .tuple a, .int k => if (decide (k.natAbs ≤ 1000) && decide (a.length ≤ 1000)) = true then .ret (.tuple (List.replicate k.toNat a).flatten) else .bad
  | a, b => mMul a b
theorem dop_mulT : OpR X (binaryOp .Mult) (rD S X.K mMulT) := by
  intro pins s σ H x y v u Q I rx ry h
  obtain ⟨dx, dy, k, r1, r2, w⟩ := h
  unfold mMulT at w
  split at w
  · rename_i a j
    obtain ⟨hl, w⟩ := wp_if w
    simp only [Bool.and_eq_true, decide_eq_true_eq] at hl
    obtain ⟨l, xs, rfl, h1, q1⟩ := r1.tuple
    have hlen := q1.length
    refine op_repA pins s σ H _ _ v u Q I rx ry ⟨l, _, xs, rfl, r2.int, h1, by omega, by omega, by omega, fun g => ?_, fun g p hp => Aft.tup k w (q1.flat _) hp⟩
    refine Aft.ret k w (.tup h1 ?_)
    rcases g with g | g
    · subst g
      cases a with
      | cons _ _ => rw [List.length_cons] at hlen; cases hlen
      | nil =>
        rw [show (List.replicate j.toNat ([] : List PyData)).flatten = [] by simp]
        exact .nil
    · subst g
      rw [show (List.replicate (1 : Int).toNat a).flatten = a by simp]
      exact q1
  · exact dop_mul pins s σ H x y v u Q I rx ry ⟨_, _, k, r1, r2, w⟩
end

/-! ### two stores at once, by a tuple that is taken apart again (names that a comprehension takes) -/
section
variable {X : Cx} {S : SrcA} {Z : Addr → Prop} {ea eb ec : Expr} {pos : Pos} {xa xb xc : CX2}
theorem ds_par2 {i j : Nat} {x y : Str} {px py pt : Pos} {kt k2 pt2} (hc : X.calm = true) (hN : X.N.Nodup) (hi : X.N[i]? = some x) (hj : X.N[j]? = some y) (hij : i ≠ j)
    (hx : Loc X.env.scope x) (hy : Loc X.env.scope y) (ha : Dx X S Z ea xa) (hb : Dx X S Z eb xb)
    (hw : swappedStores [.Tuple [.Name x px, .Name y py] kt pt] (.Tuple [ea, eb] k2 pt2) X.env = pure none := by rfl)
    (hs : swapsWithSole [.Tuple [.Name x px, .Name y py] kt pt] (.Tuple [ea, eb] k2 pt2) pos.line X.env = pure false := by rfl)
    (h1 : starEach [ea, eb] X.env = (false, eval ea X.env) :: starEach [eb] X.env := by rfl) (h2 : starEach [eb] X.env = (false, eval eb X.env) :: starEach [] X.env := by rfl)
    (hf : X.fn x = true ∨ X.env.scope.names.lookup x = some .local := by first | exact .inl rfl | exact .inr rfl | assumption) (hf' : X.fn y = true ∨ X.env.scope.names.lookup y = some .local := by first | exact .inl rfl | exact .inr rfl | assumption)
    (hg1 : (assignEach [.Name x px, .Name y py] X.env).map (·.2) = assign (.Name x px) X.env :: (assignEach [.Name y py] X.env).map (·.2) := by rfl) (hg2 : (assignEach [.Name y py] X.env).map (·.2) = assign (.Name y py) X.env :: (assignEach [] X.env).map (·.2) := by rfl)
    (hn : (assignEach [.Name x px, .Name y py] X.env).length = 2 := by rfl) (hst : (assignEach [.Name x px, .Name y py] X.env).findIdx? (·.1) = none := by rfl)
    (h0 : (assignEach [Expr.Tuple [.Name x px, .Name y py] kt pt] X.env).map (·.2) = [assign (Expr.Tuple [.Name x px, .Name y py] kt pt) X.env] := by rfl) :
    Ds X S Z (.Assign [.Tuple [.Name x px, .Name y py] kt pt] (.Tuple [ea, eb] k2 pt2) pos) (sPar i j xa xb) := by
  refine PS.imp (ps_asg (pe_tup (dax2 (xs := []) ha hb h1 h2)) (pg_tup hc (pgs_cons (pg_name hN hi hx hf) (pgs_cons (pg_name hN hj hy hf') pgs_nil hg2) hg1) hn hst) hs hw h0) fun D σ H ⟨en, R, w⟩ => ⟨en, R, M.wp_mono (fun u wu v H1 s1 k1 r1 => ?_) (M.wp_bind.mp w)⟩
  have R1 := R.same s1 k1
  refine ⟨en, R1, M.wp_mono (fun u2 q v2 H2 s2 k2 r2 => ?_) (M.wp_bind.mp wu)⟩
  have Ra := R.come s1 k1 i r1
  have Rb := Ra.come s2 k2 j r2
  refine ⟨by rw [sizeLine_eq]; show 2 ≤ _; omega, fun p hp => ?_⟩
  have s3 : SameX S H2 (upd H2 p (.tup [v, v2])) := .of (same_new hp)
  have k3 : SrcOk S (upd H2 p (.tup [v, v2])) := k2.same (same_new hp)
  exact ⟨p, [v, v2], rfl, .inl (.inl upd_same), rfl, v, _, rfl, v2, _, rfl, rfl, q _ _ (((R.ext s1).trans (R1.ext s2)).trans ((R1.same s2 k2).ext s3)) (Rb.same s3 k3)⟩
end
end DL
namespace DL
open PySem PySem.Spec PyProof.Rows L2

/-! ### the plain side -/
def putI (xs : List (List Int × PyData)) (k : List Int) (v : PyData) : List (List Int × PyData) :=
  if (xs.any fun p => decide (p.1 = k)) = true then xs.map (fun p => if p.1 = k then (p.1, v) else p) else xs ++ [(k, v)]
def dictI (xs : List (List Int × PyData)) : List (PyData × PyData) := xs.map fun p => (.tuple (p.1.map PyData.int), p.2)
def ofPairsI : List PyData → Option (List (List Int × PyData))
  | [] => some []
  | .tuple [.tuple ks, v] :: r => match asIntsO ks, ofPairsI r with
    | some k, some t => some ((k, v) :: t)
    | _, _ => none
  | _ :: _ => none
/-- the data of a dict with such keys -/
def ofDictI : List (PyData × PyData) → Option (List (List Int × PyData))
  | [] => some []
  | (.tuple ks, v) :: r => match asIntsO ks, ofDictI r with
    | some k, some t => some ((k, v) :: t)
    | _, _ => none
  | _ :: _ => none
def atI (xs : List (List Int × PyData)) (k : List Int) : Option PyData := (xs.find? fun p => decide (p.1 = k)).map (·.2)
theorem asIntsO_of : ∀ ns : List Int, asIntsO (ns.map PyData.int) = some ns
  | [] => rfl
  | n :: ns => by
    show asIntsO (.int n :: ns.map PyData.int) = _
    unfold asIntsO
    rw [asIntsO_of ns]
theorem ofDictI_of : ∀ xs : List (List Int × PyData), ofDictI (dictI xs) = some xs
  | [] => rfl
  | (k, v) :: r => by
    show ofDictI ((.tuple (k.map PyData.int), v) :: dictI r) = _
    unfold ofDictI
    rw [asIntsO_of, ofDictI_of r]
theorem ofDictI_eq : ∀ {ds : List (PyData × PyData)} {xs : List (List Int × PyData)}, ofDictI ds = some xs → ds = dictI xs
  | [], xs, h => by cases h; rfl
  | (a, v) :: r, xs, h => by
    unfold ofDictI at h
    split at h
    · rename_i e; cases e
    · rename_i ks v' r' e
      cases e
      split at h
      · rename_i k t e1 e2
        cases h
        show _ = (PyData.tuple (k.map PyData.int), v) :: dictI t
        rw [← asIntsO_eq e1, ← ofDictI_eq e2]
      · cases h
    · cases h

/-! ### entries -/
section
variable {K : PySem.W.Frag} {H H' : Hp}
def RT3 (K : PySem.W.Frag) (H : Hp) (ks : KT3) (kvs : List (List Int × PyData)) : Prop := Paired (fun q p => q.1 = p.1 ∧ SqT K H q.2.1 (q.1.map V.int) ∧ Rep K H q.2.2 p.2) ks kvs
theorem RT3.rep : ∀ {ks : KT3} {kvs : List (List Int × PyData)}, RT3 K H ks kvs → RepT K H ks (dictI kvs)
  | _, _, .nil => .nil
  | (k, b, v) :: ks, (k', d) :: kvs, .cons ⟨e, h1, h2⟩ t => by
    obtain rfl : k = k' := e
    exact .cons h1 h2 (RT3.rep t)
theorem RepT.rt : ∀ {ks : KT3} {ds : List (PyData × PyData)}, RepT K H ks ds → ∃ kvs, ds = dictI kvs ∧ RT3 K H ks kvs
  | _, _, .nil => ⟨[], rfl, .nil⟩
  | _, _, .cons (k := k) (d := d) h1 h2 t => by
    obtain ⟨kvs, e, r⟩ := RepT.rt t
    exact ⟨(k, d) :: kvs, by rw [e]; rfl, .cons ⟨rfl, h1, h2⟩ r⟩
theorem RT3.of {ks : KT3} {ds : List (PyData × PyData)} {kvs : List (List Int × PyData)} (h : RepT K H ks ds) (e : ofDictI ds = some kvs) : RT3 K H ks kvs := by
  obtain ⟨kvs', e', r⟩ := RepT.rt h
  subst e'
  rw [ofDictI_of] at e
  cases e
  exact r
def put3 (xs : KT3) (k : List Int) (a : Addr) (v : V) : KT3 :=
  if (xs.any fun p => decide (p.1 = k)) = true then xs.map (fun p => if p.1 = k then (p.1, p.2.1, v) else p) else xs ++ [(k, a, v)]
theorem any_paired {α β : Type} {F : α → β → Prop} {f : α → Bool} {g : β → Bool} (h : ∀ a b, F a b → f a = g b) : ∀ {xs : List α} {ys : List β}, Paired F xs ys → xs.any f = ys.any g
  | _, _, .nil => rfl
  | _, _, .cons r t => by rw [List.any_cons, List.any_cons, h _ _ r, any_paired h t]
theorem map_paired {α β γ δ : Type} {F : α → β → Prop} {G : γ → δ → Prop} {f : α → γ} {g : β → δ} (h : ∀ a b, F a b → G (f a) (g b)) : ∀ {xs : List α} {ys : List β}, Paired F xs ys → Paired G (xs.map f) (ys.map g)
  | _, _, .nil => .nil
  | _, _, .cons r t => .cons (h _ _ r) (map_paired h t)
theorem snoc_paired {α β : Type} {F : α → β → Prop} {a : α} {b : β} (h : F a b) : ∀ {xs : List α} {ys : List β}, Paired F xs ys → Paired F (xs ++ [a]) (ys ++ [b])
  | _, _, .nil => .cons h .nil
  | _, _, .cons r t => .cons r (snoc_paired h t)
theorem RT3.put {ks : KT3} {kvs : List (List Int × PyData)} (r : RT3 K H ks kvs) {k : List Int} {a : Addr} {v : V} {d : PyData} (h1 : SqT K H a (k.map V.int)) (h2 : Rep K H v d) : RT3 K H (put3 ks k a v) (putI kvs k d) := by
  unfold put3 putI
  rw [any_paired (g := fun p : List Int × PyData => decide (p.1 = k)) (fun a b h => by rw [h.1]) r]
  split
  · refine map_paired (fun p q h => ?_) r
    rw [h.1]
    by_cases e : q.1 = k
    · rw [if_pos e, if_pos e]
      exact ⟨rfl, by show SqT K H p.2.1 (q.1.map V.int); rw [← h.1]; exact h.2.1, h2⟩
    · rw [if_neg e, if_neg e]; exact h
  · exact snoc_paired ⟨rfl, h1, h2⟩ r
theorem atKey_any {xs : List (List Int × Addr × Value)} {k : List Int} : (atKey xs k).isSome = xs.any fun p => decide (p.1 = k) := by
  unfold atKey
  rw [Option.isSome_map]
  induction xs with
  | nil => rfl
  | cons x r ih =>
    rw [List.find?_cons, List.any_cons]
    cases decide (x.1 = k) with
    | true => rfl
    | false => rw [Bool.false_or, ← ih]
theorem EnT.put {ks : KT3} {xs : List (List Int × Addr × Value)} (r : EnT ks xs) {k : List Int} {a : Addr} {v : V} {u : Value} (h : RelV v u) : EnT (put3 ks k a v) (storedH xs k a u) := by
  unfold put3 storedH
  rw [atKey_any, any_paired (g := fun p : List Int × Addr × Value => decide (p.1 = k)) (fun a b h => by rw [h.1]) r]
  split
  · refine map_paired (fun p q h' => ?_) r
    unfold putAt
    rw [h'.1]
    by_cases e : q.1 = k
    · rw [if_pos e, if_pos e]
      exact ⟨rfl, h'.2.1, h⟩
    · rw [if_neg e, if_neg e]; exact h'
  · exact snoc_paired ⟨rfl, rfl, h⟩ r
end

/-! ### the machine's side -/
section
variable {X : Cx} {pins : List (Addr × Obj)} {σ : L2.St} {H : Hp} {s : Shared}
theorem items_ints : ∀ {ns : List Int} {us : List Value}, Vals (ns.map V.int) us → ItemsAre (PySem.intKind X.prog X.w) ns us
  | [], us, r => by rw [List.map_nil] at r; cases r; exact .nil
  | n :: ns, us, r => by
    rw [List.map_cons] at r
    cases r with
    | cons h t =>
      obtain ⟨tk, rfl⟩ := h
      exact .cons (by simp [PySem.intKind, Value.isInt]) (items_ints t)
theorem key_at (I : Inv X pins σ H s) {a : Addr} {k : List Int} (h : SqT X.K H a (k.map V.int)) : (tupleKind (PySem.intKind X.prog X.w)).is s.heap k a := by
  obtain ⟨its, r, ⟨o, h1, h2, n, h3⟩, _⟩ := I.tuple h
  exact ⟨o, its.toArray, n, h1, h2, h3, by simpa using items_ints r⟩
theorem ent_keys {P : (List Int × Addr × Value) → Prop} {ks : KT3} {xs : List (List Int × Addr × Value)} {kvs : List (List Int × PyData)} (h : ∀ k a u, SqT X.K H a (k.map V.int) → P (k, a, u)) :
    EnT ks xs → RT3 X.K H ks kvs → ∀ x ∈ xs, P x := by
  intro r t
  induction r generalizing kvs with
  | nil => intro x hx; exact nomatch hx
  | @cons p q ps qs hq _ ih =>
    cases t with
    | cons ht t =>
      intro x hx
      rcases List.mem_cons.mp hx with e | hx
      · subst e
        obtain ⟨k, a, u⟩ := x
        obtain ⟨e1, e2, _⟩ := hq
        simp only at e1 e2
        subst e1 e2
        exact h _ _ _ ht.2.1
      · exact ih t x hx
theorem dt_ok (I : Inv X pins σ H s) {a : Addr} {ks : KT3} {kvs : List (List Int × PyData)} (h : Rd H a (DTO (a, ks))) (r : RT3 X.K H ks kvs) : ks.length ≤ sizeLine ∧ (a == sysModules) = false ∧ ∃ xs, EnT ks xs ∧ s.heap.DictOfH (tupleKind (PySem.intKind X.prog X.w)) a xs := by
  obtain ⟨⟨z, y, xs, e, o, es, ep, h1, h2, h3, h4, h5⟩, _⟩ := (show ObjOk X.prog X.w H s.heap a (DTO (a, ks)) from h.ok I.hok)
  exact ⟨z, y, xs, e, o, es, ep, h1, h2, h3, h4, ent_keys (fun k a u q => key_at I q) e r, h5⟩
theorem dt_obj {h : Heap} {a : Addr} {ks : KT3} {xs : List (List Int × Addr × Value)} (z : ks.length ≤ sizeLine) (y : (a == sysModules) = false) (e : EnT ks xs) (hd : h.DictOfH (tupleKind (PySem.intKind X.prog X.w)) a xs) : ObjOk X.prog X.w H h a (DTO (a, ks)) := by
  obtain ⟨o, es, ep, h1, h2, h3, h4, _, h5⟩ := hd
  exact ⟨⟨z, y, xs, e, o, es, ep, h1, h2, h3, h4, h5⟩, ⟨o, h1⟩, fun g1 g2 ⟨z', y', xs', e', o', es', ep', q1, q2, q3, q4, q5⟩ st => ⟨z', y', xs', e', o', es', ep', st _ q1, q2, q3, q4, q5⟩⟩
/-! ### dict(pairs) -/
theorem pairs3 {K : PySem.W.Frag} {H : Hp} : ∀ {vs : List V} {ds : List PyData} {kvs : List (List Int × PyData)}, RepA K H vs ds → ofPairsI ds = some kvs → ∃ (ps : List Addr) (ks : KT3), vs = ps.map V.ref ∧ Paired (fun p q => SqT K H p [V.ref q.2.1, q.2.2]) ps ks ∧ RT3 K H ks kvs
  | _, _, kvs, .nil, h => by cases h; exact ⟨[], [], rfl, .nil, .nil⟩
  | _, _, kvs, .cons r t, h => by
    unfold ofPairsI at h
    split at h
    · rename_i e; cases e
    · rename_i kd d rr e
      cases e
      split at h
      · rename_i k t' e1 e2
        cases h
        obtain ⟨ps, ks, rfl, h1, h2⟩ := pairs3 t e2
        cases r with
        | tup hs ha =>
          cases ha with
          | cons hk ha =>
            cases ha with
            | cons hd ha =>
              cases ha
              cases hk with
              | tup hks hka =>
                rw [asIntsO_eq e1] at hka
                rw [hka.ints] at hks
                exact ⟨_ :: ps, (k, _, _) :: ks, rfl, .cons hs h1, .cons ⟨rfl, hks, hd⟩ h2⟩
      · cases h
    · cases h
theorem put3_length (xs : KT3) (k : List Int) (a : Addr) (v : V) : (put3 xs k a v).length ≤ xs.length + 1 := by
  unfold put3
  split
  · rw [List.length_map]; omega
  · rw [List.length_append]; exact Nat.le_refl _
theorem putAll_length (ks : KT3) : ∀ acc : KT3, (ks.foldl (fun acc q => put3 acc q.1 q.2.1 q.2.2) acc).length ≤ acc.length + ks.length := by
  induction ks with
  | nil => intro acc; exact Nat.le_refl _
  | cons q ks ih =>
    intro acc
    rw [List.foldl_cons]
    refine Nat.le_trans (ih _) ?_
    have := put3_length acc q.1 q.2.1 q.2.2
    rw [List.length_cons]
    omega
theorem RT3.putAll {K : PySem.W.Frag} {H : Hp} : ∀ {ks : KT3} {kvs : List (List Int × PyData)}, RT3 K H ks kvs → ∀ {ks0 : KT3} {kvs0 : List (List Int × PyData)}, RT3 K H ks0 kvs0 → RT3 K H (ks.foldl (fun acc q => put3 acc q.1 q.2.1 q.2.2) ks0) (kvs.foldl (fun acc q => putI acc q.1 q.2) kvs0)
  | _, _, .nil, _, _, r => r
  | (k, b, v) :: _, (k', d) :: _, .cons ⟨e, h1, h2⟩ t, _, _, r => by
    obtain rfl : k = k' := e
    exact RT3.putAll t (r.put h1 h2)
theorem EnT.putAll : ∀ {ks : KT3} {xs : List (List Int × Addr × Value)}, EnT ks xs → ∀ {ks0 : KT3} {xs0 : List (List Int × Addr × Value)}, EnT ks0 xs0 → EnT (ks.foldl (fun acc q => put3 acc q.1 q.2.1 q.2.2) ks0) (storedAllH xs0 xs)
  | _, _, .nil, _, _, r => r
  | (k, b, v) :: _, (k', b', u) :: _, .cons ⟨e1, e2, e3⟩ t, _, _, r => by
    obtain rfl : k = k' := e1
    obtain rfl : b = b' := e2
    exact EnT.putAll t (r.put e3)
theorem ent_pairs (I : Inv X pins σ H s) : ∀ {ps : List Addr} {ks : KT3}, Paired (fun p q => SqT X.K H p [V.ref q.2.1, q.2.2]) ps ks → ∃ xs : List (List Int × Addr × Value), EnT ks xs ∧ xs.length = ps.length ∧ ∀ (j : Nat) (p : Addr) (q : List Int × Addr × Value), ps[j]? = some p → xs[j]? = some q → s.heap.IsTuple p #[.ref q.2.1, q.2.2]
  | _, _, .nil => ⟨[], .nil, rfl, fun j p q h => by simp at h⟩
  | _, _, .cons (a := p0) (b := q0) h t => by
    obtain ⟨xs, e, hl, hp⟩ := ent_pairs I t
    obtain ⟨its, rv, ht, _⟩ := I.tuple h
    obtain ⟨u, y, ei, ru, ry⟩ := vals2 rv
    subst ei
    obtain rfl : u = .ref q0.2.1 := ru
    refine ⟨(q0.1, q0.2.1, y) :: xs, .cons ⟨rfl, rfl, ry⟩ e, by rw [List.length_cons, List.length_cons, hl], fun j p q h1 h2 => ?_⟩
    cases j with
    | zero => cases h1; cases h2; exact ht
    | succ j => exact hp j p q (by simpa using h1) (by simpa using h2)
def mDict : FD
  | [.list ps] => match ofPairsI ps with
    | some kvs => .ret (.dict (dictI (kvs.foldl (fun acc q => putI acc q.1 q.2) [])))
    | none => .bad
  | _ => .bad
variable {S : SrcA}
theorem bc_dict (hc : X.calm = true) (hu : X.A.units + 3 < cLine) : CallR X (.type "dict") (rC S X.K mDict) := by
  intro pins s σ H xs us Q I rx ⟨ds, k, rs, w⟩
  unfold mDict at w
  split at w
  · rename_i pd
    split at w
    · rename_i kvs e
      obtain ⟨v, rfl, r⟩ := pair1 rs
      obtain ⟨a, vs, rfl, h1, h2⟩ := RepP.list r
      obtain ⟨ps, ks, rfl, q1, q2⟩ := pairs3 h2 e
      obtain ⟨u, rfl, ru⟩ := vals1 rx
      obtain rfl : u = .ref a := ru
      obtain ⟨its, rv, ⟨o, n, ho, hcl, hd, hdat⟩, hz⟩ := I.list h1
      have ei := refs_at rv
      subst ei
      rw [List.length_map] at hz
      obtain ⟨xs, ent, hxl, hat⟩ := ent_pairs I q1
      have hkeys := ent_keys (P := fun x => SqT X.K H x.2.1 (x.1.map V.int)) (fun k a u q => q) ent q2
      refine call_dict_pairsH (knd := tupleKind (PySem.intKind X.prog X.w)) (ps := xs) (PairArg.list a (ps.map Value.ref).toArray (fun j => ps.getD j 0) (xs.map fun x => (Value.ref x.2.1, x.2.2)))
        (I.ok.hd hc) (show X.A.units + 1 + 1 < cLine by omega) ⟨⟨o, n, ho, hcl, hd, hdat⟩, by simp [hxl], fun j kk vv hj => ?_⟩ ⟨by rw [List.length_map], fun i key v hh => ?_⟩ (fun h' st x hx => ?_) (by rw [List.length_map, hxl]; exact hz) (fun h' tk hd' hk => ?_)
      · obtain ⟨x, hx, e1⟩ : ∃ x, xs[j]? = some x ∧ (Value.ref x.2.1, x.2.2) = (kk, vv) := by
          rw [List.getElem?_map] at hj
          cases z : xs[j]? with
          | none => rw [z] at hj; cases hj
          | some x => rw [z] at hj; exact ⟨x, rfl, Option.some.inj hj⟩
        cases e1
        obtain ⟨p, hp⟩ : ∃ p, ps[j]? = some p := ⟨ps[j]'(by rw [← hxl]; exact (List.getElem?_eq_some_iff.mp hx).1), List.getElem?_eq_getElem _⟩
        have ed : ps.getD j 0 = p := by rw [List.getD_eq_getElem?_getD, hp]; rfl
        refine ⟨?_, .inl ?_⟩
        · show (ps.map Value.ref).toArray[j]? = some (.ref (ps.getD j 0))
          rw [ed]
          simp [hp]
        · show s.heap.IsTuple (ps.getD j 0) _
          rw [ed]; exact hat j p x hp hx
      · have hh : (xs.map fun x => (Value.ref x.2.1, x.2.2))[i]? = some (key, v) := hh
        rw [List.getElem?_map] at hh
        cases z : xs[i]? with
        | none => rw [z] at hh; cases hh
        | some x => rw [z] at hh; cases hh; exact ⟨x.1, x.2.1, rfl, rfl⟩
      · obtain ⟨o2, its2, n2, g1, g2, g3, g4⟩ := key_at I (hkeys x hx)
        exact ⟨o2, its2, n2, st _ _ (fun z => absurd (z ▸ Heap.lt_size g1) (Nat.lt_irrefl _)) (by simp) g1, g2, g3, g4⟩
      · have hm : (s.heap.objs.size == sysModules) = false := beq_eq_false_iff_ne.mpr (Nat.ne_of_gt I.big)
        have hlen := putAll_length ks []
        have he : ks.length = ps.length := by rw [← hxl]; exact Paired.length ent
        rw [List.length_nil, Nat.zero_add, he] at hlen
        have hfr : H s.heap.objs.size = none := I.hok.fresh (Nat.le_refl _)
        refine EP.lock ⟨.ref s.heap.objs.size, upd H s.heap.objs.size (DTO (s.heap.objs.size, ks.foldl (fun acc q => put3 acc q.1 q.2.1 q.2.2) [])), I.laid (t' := tk) (fun b o q => hk b o (by simp) q) (Nat.le_refl _)
          (dt_obj (by show (ks.foldl (fun acc q => put3 acc q.1 q.2.1 q.2.2) []).length ≤ sizeLine; omega) hm (EnT.putAll ent .nil) hd'), rfl, ?_⟩
        refine ⟨s.heap.objs.size, _, rfl, upd_same, .inr (.inr ⟨_, rfl⟩), fun o => ?_⟩
        rw [upd_upd]
        exact w _ _ (.of (same_new hfr)) (k.same (same_new hfr)) (.dT ⟨o, upd_same⟩ (RepT.kp (.of (same_new hfr)) (RT3.rep (RT3.putAll q2 .nil))))
    · exact w.elim
  · exact w.elim
/-- len of a dict -/
def mLenD : FD
  | [.dict kvs] => match ofDictI kvs with
    | some _ => if kvs.length ≤ 1000000 then .ret (.int kvs.length) else .bad
    | none => .bad
  | ds => mLen ds
theorem RepP.dict {K : PySem.W.Frag} {H : Hp} {v : V} {ds : List (PyData × PyData)} (r : RepP K S H v (.dict ds)) : ∃ a, v = .ref a ∧ ((∃ ks, Rd H a (.dK ks) ∧ RepK K H ks ds) ∨ ∃ ks, Rd H a (DTO (a, ks)) ∧ RepT K H ks ds) := by
  cases r with
  | rep r =>
    cases r with
    | dK h1 h2 => exact ⟨_, rfl, .inl ⟨_, .inr h1, h2⟩⟩
    | dT h1 h2 => exact ⟨_, rfl, .inr ⟨_, .inr h1, h2⟩⟩
  | ownK n e r => exact ⟨_, rfl, .inl ⟨_, .inl e, r⟩⟩
  | ownT n e r => exact ⟨_, rfl, .inr ⟨_, .inl e, r⟩⟩
theorem RepK.length {K : PySem.W.Frag} {H : Hp} : ∀ {ks : List (Key × V)} {ds : List (PyData × PyData)}, RepK K H ks ds → ks.length = ds.length
  | _, _, .nil => rfl
  | _, _, .cons _ t => by rw [List.length_cons, List.length_cons, RepK.length t]
theorem bc_lenD : CallR X (.builtin "len") (rC S X.K mLenD) := by
  intro pins s σ H xs us Q I rx ⟨ds, k, rs, w⟩
  unfold mLenD at w
  split at w
  · rename_i kvs
    split at w
    · rename_i kv e
      obtain ⟨hl, w⟩ := wp_if w
      obtain ⟨v, rfl, r⟩ := pair1 rs
      obtain ⟨a, rfl, ⟨ks, h1, h2⟩ | ⟨ks, h1, h2⟩⟩ := RepP.dict r
      · obtain ⟨u, rfl, ru⟩ := vals1 rx
        obtain rfl : u = .ref a := ru
        refine d_len I h1 fun t s' I' => ⟨.int ks.length, H, I', ⟨t, rfl⟩, Aft.ret k w (by rw [h2.length]; exact .int _)⟩
      · obtain ⟨u, rfl, ru⟩ := vals1 rx
        obtain rfl : u = .ref a := ru
        have q2 := RT3.of h2 e
        obtain ⟨z, hd, xs, ent, dd⟩ := dt_ok I h1 q2
        have e1 : ks.length = xs.length := Paired.length ent
        have e2 : ks.length = kvs.length := by rw [ofDictI_eq e]; unfold dictI; rw [List.length_map]; exact Paired.length q2
        refine call_len_dictH hd dd (by omega) ?_
        rw [← e1, e2]
        exact ⟨.int ((kvs.length : Nat) : Int), H, I.tok _, ⟨_, rfl⟩, Aft.ret k w (.int _)⟩
    · exact w.elim
  · exact bc_len pins s σ H xs us Q I rx ⟨_, k, rs, w⟩
end
theorem room66 {A : Around} {k : Nat} (hr : Room k A) : A.units + 66 < cLine := by have := hr.un; omega
theorem room3 {A : Around} {k : Nat} (hr : Room k A) : A.units + 3 < cLine := by have := hr.un; omega
end DL
namespace DL
open PySem PySem.Spec PyProof.Rows L2
def mEqS : PyData → PyData → M PyData
  | .int i, .int j => .ret (.bool (decide (i = j)))
  | .str i, .str j => .ret (.bool (decide (i = j)))
  | a, b => mEq a b
def mNeS : PyData → PyData → M PyData
  | .int i, .int j => .ret (.bool (!decide (i = j)))
  | .str i, .str j => .ret (.bool (!decide (i = j)))
  | a, b => mNe a b
section
variable {X : Cx} {S : SrcA}
theorem dop_eqS (hu : X.A.units + 64 < cLine) : OpR X (compareOp .Eq) (rD S X.K mEqS) := by
  intro pins s σ H x y v u Q I rx ry ⟨dx, dy, k, r1, r2, w⟩
  unfold mEqS at w
  split at w
  · cases r1.int; cases r2.int
    exact op_eq pins s σ H _ _ v u Q I rx ry ⟨rfl, Aft.ret k w (by rw [show ∀ i j : Int, decide (V.int i = V.int j) = decide (i = j) from fun i j => by simp]; exact .bl _)⟩
  · cases r1.str; cases r2.str
    exact op_eq pins s σ H _ _ v u Q I rx ry ⟨rfl, Aft.ret k w (by rw [show ∀ i j : Str, decide (V.str i = V.str j) = decide (i = j) from fun i j => by simp]; exact .bl _)⟩
  · exact dop_eq hu pins s σ H x y v u Q I rx ry ⟨_, _, k, r1, r2, w⟩
theorem dop_neS (hu : X.A.units + 64 < cLine) : OpR X (compareOp .NotEq) (rD S X.K mNeS) := by
  intro pins s σ H x y v u Q I rx ry ⟨dx, dy, k, r1, r2, w⟩
  unfold mNeS at w
  split at w
  · cases r1.int; cases r2.int
    exact op_ne pins s σ H _ _ v u Q I rx ry ⟨rfl, Aft.ret k w (by rw [show ∀ i j : Int, decide (V.int i = V.int j) = decide (i = j) from fun i j => by simp]; exact .bl _)⟩
  · cases r1.str; cases r2.str
    exact op_ne pins s σ H _ _ v u Q I rx ry ⟨rfl, Aft.ret k w (by rw [show ∀ i j : Str, decide (V.str i = V.str j) = decide (i = j) from fun i j => by simp]; exact .bl _)⟩
  · exact dop_ne hu pins s σ H x y v u Q I rx ry ⟨_, _, k, r1, r2, w⟩
end
/-! ### the text of data: that there is one -/
mutual
def cost : PyData → Nat
  | .int i => i.natAbs.log2 + 2
  | .bool _ => 5
  | .none => 4
  | .list xs | .tuple xs => costAll xs + 3
  | .str _ | .dict _ => 0
def costAll : List PyData → Nat
  | [] => 0
  | x :: xs => cost x + 2 + costAll xs
end
mutual
def plain0 : PyData → Bool
  | .int i => decide (i.natAbs.log2 < 1920)
  | .bool _ | .none => true
  | .list xs | .tuple xs => plain0All xs
  | .str _ | .dict _ => false
def plain0All : List PyData → Bool
  | [] => true
  | x :: xs => plain0 x && plain0All xs
end
def repb (d : PyData) : Bool := plain0 d && decide (d.depth ≤ 64) && decide (cost d ≤ 16000000)
mutual
theorem plain0_lay : ∀ d : PyData, plain0 d = true → d.canLay0 = true
  | .int i, _ => rfl
  | .bool _, _ => rfl
  | .none, _ => rfl
  | .list xs, h => by simp only [PyData.canLay0]; exact plain0_layAll xs (by simpa only [plain0] using h)
  | .tuple xs, h => by simp only [PyData.canLay0]; exact plain0_layAll xs (by simpa only [plain0] using h)
  | .str _, h => by simp only [plain0] at h; exact nomatch h
  | .dict _, h => by simp only [plain0] at h; exact nomatch h
theorem plain0_layAll : ∀ xs : List PyData, plain0All xs = true → PyData.canLayAll0 xs = true
  | [], _ => rfl
  | x :: xs, h => by
    have h' : plain0 x = true ∧ plain0All xs = true := by simpa only [plain0All, Bool.and_eq_true] using h
    simp only [PyData.canLayAll0, plain0_lay x h'.1, plain0_layAll xs h'.2, Bool.and_self]
end
mutual
theorem plain0_show : ∀ d : PyData, plain0 d = true → d.showable = true
  | .int i, h => by simpa only [plain0, PyData.showable] using h
  | .bool _, _ => rfl
  | .none, _ => rfl
  | .list xs, h => by simp only [PyData.showable]; exact plain0_showAll xs (by simpa only [plain0] using h)
  | .tuple xs, h => by simp only [PyData.showable]; exact plain0_showAll xs (by simpa only [plain0] using h)
  | .str _, h => by simp only [plain0] at h; exact nomatch h
  | .dict _, h => by simp only [plain0] at h; exact nomatch h
theorem plain0_showAll : ∀ xs : List PyData, plain0All xs = true → PyData.showableAll xs = true
  | [], _ => rfl
  | x :: xs, h => by
    have h' : plain0 x = true ∧ plain0All xs = true := by simpa only [plain0All, Bool.and_eq_true] using h
    simp only [PyData.showableAll, plain0_show x h'.1, plain0_showAll xs h'.2, Bool.and_self]
end
mutual
theorem shown_cost : ∀ d : PyData, plain0 d = true → d.shown.length ≤ cost d
  | .int i, h => by
    have e := int_text_length_le (a := i) (k := i.natAbs.log2 + 1) (by omega) (by omega)
    show (Str.ofString (toString i)).length ≤ _
    rw [PySem.ofString_length]
    simp only [cost]
    omega
  | .bool b, _ => by cases b <;> decide
  | .none, _ => by decide
  | .list xs, h => by
    have h1 := shown_costAll xs (by simpa only [plain0] using h)
    have h2 := listText_len_le (PyData.shownAll xs)
    have h3 := PyData.shownAll_length xs
    simp only [PyData.shown, cost]
    omega
  | .tuple xs, h => by
    have h1 := shown_costAll xs (by simpa only [plain0] using h)
    have h2 := tupleText_len_le (PyData.shownAll xs)
    have h3 := PyData.shownAll_length xs
    simp only [PyData.shown, cost]
    omega
  | .str _, h => by simp only [plain0] at h; exact nomatch h
  | .dict _, h => by simp only [plain0] at h; exact nomatch h
theorem shown_costAll : ∀ xs : List PyData, plain0All xs = true → ((PyData.shownAll xs).map (·.length)).sum + 2 * xs.length ≤ costAll xs
  | [], _ => by simp only [PyData.shownAll, costAll, List.map_nil, List.sum_nil, List.length_nil]; omega
  | x :: xs, h => by
    have h' : plain0 x = true ∧ plain0All xs = true := by simpa only [plain0All, Bool.and_eq_true] using h
    have h1 := shown_cost x h'.1
    have h2 := shown_costAll xs h'.2
    simp only [PyData.shownAll, costAll, List.map_cons, List.sum_cons, List.length_cons]
    omega
end
theorem mRepr_of {d : PyData} (h : repb d = true) : mRepr [d] = .ret (.str d.shown) := by
  simp only [repb, Bool.and_eq_true, decide_eq_true_eq] at h
  obtain ⟨⟨h1, h2⟩, h3⟩ := h
  have c1 := plain0_lay d h1
  have c2 := plain0_show d h1
  have c3 := shown_cost d h1
  have c4 : d.shown.length ≤ sizeLine := by rw [sizeLine_eq]; omega
  have c5 : SeqAt.shaped d = true := by unfold SeqAt.shaped; rw [c1, decide_eq_true h2]; rfl
  cases d with
  | int i =>
    show (if i.natAbs.log2 < 1920 then _ else _) = _
    rw [if_pos (by simpa only [plain0, decide_eq_true_eq] using h1)]
    rfl
  | bool b => rfl
  | none => rfl
  | list xs =>
    show (if _ then _ else _) = _
    rw [if_pos (by rw [c5, c2, decide_eq_true c4]; rfl)]
  | tuple xs =>
    show (if _ then _ else _) = _
    rw [if_pos (by rw [c5, c2, decide_eq_true c4]; rfl)]
  | str _ => simp only [plain0] at h1; exact nomatch h1
  | dict _ => simp only [plain0] at h1; exact nomatch h1
theorem M.wp_false {α : Type} : ∀ {m : M α}, m.wp (fun _ => False) → False
  | .ret _, h => h
  | .bad, h => h
  | .pick n k, h => M.wp_false (h 0 (Int.le_refl 0) (by omega))
/-- repr(a) != repr(b) where both are alike -/
theorem reprNe_wp {a b : CE} {e : En} {Q : PyData → Prop} (h : (a e).wp fun d => (b e).wp fun d' => d = d' ∧ repb d = true ∧ Q (.bool false)) :
    (cOp2 mNeS (cCall mRepr (caCons a caNil)) (cCall mRepr (caCons b caNil)) e).wp Q := by
  unfold cOp2 cCall caCons caNil
  simp only [M.bind_assoc, M.ret_bind]
  refine M.wp_bind.mpr (M.wp_mono (fun d q => ?_) h)
  by_cases hd : repb d = true
  · rw [mRepr_of hd]
    simp only [M.ret_bind, M.bind_assoc]
    refine M.wp_bind.mpr (M.wp_mono (fun d' q' => ?_) q)
    obtain ⟨rfl, _, q'⟩ := q'
    rw [mRepr_of hd]
    simp only [M.ret_bind, mNeS, decide_true, Bool.not_true]
    exact q'
  · exact (M.wp_false (M.wp_mono (fun d' q' => hd q'.2.1) q)).elim
end DL
namespace DL
theorem inB_of {i : Int} (h : 0 ≤ i) (h2 : i ≤ 1000000000) : inB i = true := by
  refine decide_eq_true ?_
  by_cases h0 : i.natAbs = 0
  · rw [h0]; decide
  · exact (Nat.log2_lt h0).mpr (by omega)
open PySem PySem.Spec PyProof.Rows L2
/-! ### runs -/
def okb {α : Type} (m : M α) (p : α → Bool) : Bool := match m with
  | .ret a => p a
  | _ => false
theorem okb_wp {α : Type} {m : M α} {p : α → Bool} {Q : α → Prop} (h : okb m p = true) (hq : ∀ a, p a = true → Q a) : m.wp Q := by
  cases m with
  | ret a => exact hq a h
  | bad => cases h
  | pick n k => cases h
def nxb : Fl × En → Bool
  | (.nx, _) => true
  | _ => false
/-- the frame behind a statement that goes on -/
def nxE (m : M (Fl × En)) : En := match m with
  | .ret (_, e) => e
  | _ => []
theorem nx_ret {m : M (Fl × En)} (h : okb m nxb = true) : m = .ret (.nx, nxE m) := by
  cases m with
  | ret r =>
    obtain ⟨f, e⟩ := r
    cases f with
    | nx => rfl
    | bk => cases h
    | ct => cases h
    | rt d => cases h
  | bad => cases h
  | pick n k => cases h
mutual
def beqD : PyData → PyData → Bool
  | .none, .none => true
  | .bool a, .bool b => a == b
  | .int a, .int b => decide (a = b)
  | .list a, .list b => beqDs a b
  | .tuple a, .tuple b => beqDs a b
  | _, _ => false
def beqDs : List PyData → List PyData → Bool
  | [], [] => true
  | a :: as, b :: bs => beqD a b && beqDs as bs
  | _, _ => false
end
mutual
theorem beqD_eq : ∀ {a b : PyData}, beqD a b = true → a = b
  | .none, b, h => by cases b <;> first | rfl | (simp [beqD] at h)
  | .bool x, b, h => by cases b <;> first | (simp [beqD] at h; done) | (simp [beqD] at h; rw [h])
  | .int x, b, h => by cases b <;> first | (simp [beqD] at h; done) | (simp [beqD] at h; rw [h])
  | .str x, b, h => by cases b <;> simp [beqD] at h
  | .dict x, b, h => by cases b <;> simp [beqD] at h
  | .list x, b, h => by cases b <;> first | (simp [beqD] at h; done) | (simp only [beqD] at h; rw [beqDs_eq h])
  | .tuple x, b, h => by cases b <;> first | (simp [beqD] at h; done) | (simp only [beqD] at h; rw [beqDs_eq h])
theorem beqDs_eq : ∀ {a b : List PyData}, beqDs a b = true → a = b
  | [], b, h => by cases b <;> first | rfl | (simp [beqDs] at h)
  | x :: xs, b, h => by
    cases b with
    | nil => simp [beqDs] at h
    | cons y ys =>
      simp only [beqDs, Bool.and_eq_true] at h
      rw [beqD_eq h.1, beqDs_eq h.2]
end
/-- two runs come to the same data, that has a text -/
def sameb (a b : M PyData) : Bool := match a, b with
  | .ret d, .ret d' => beqD d d' && repb d
  | _, _ => false
theorem same_wp {a b : M PyData} {P : Prop} (h : sameb a b = true) (p : P) : a.wp fun d => b.wp fun d' => d = d' ∧ repb d = true ∧ P := by
  cases a <;> cases b <;> first | (cases h; done) | skip
  simp only [sameb, Bool.and_eq_true] at h
  exact ⟨beqD_eq h.1, h.2, p⟩

/-! ### statements -/
theorem seq_eq {a b : CS} {e e' : En} (h : a e = .ret (.nx, e')) : sSeq a b e = b e' := by
  unfold sSeq; rw [h]; rfl
def Nx (I : En → Prop) : Fl × En → Prop := fun r => ∃ e, r = (.nx, e) ∧ I e
theorem seq_wp {a b : CS} {e : En} {I : En → Prop} {Q : Fl × En → Prop} (h1 : (a e).wp (Nx I)) (h2 : ∀ e', I e' → (b e').wp Q) : (sSeq a b e).wp Q :=
  M.wp_bind.mpr (M.wp_mono (fun r q => by obtain ⟨e', rfl, i⟩ := q; exact h2 e' i) h1)
theorem if_wp {t : CT} {a b : CS} {e : En} {Q : Fl × En → Prop} (h : (t e).wp fun k => if k = true then (a e).wp Q else (b e).wp Q) : (sIf t a b e).wp Q :=
  M.wp_bind.mpr (M.wp_mono (fun k q => by
    cases k with
    | true => exact q
    | false => exact q) h)
/-- if x: return False - that does not come -/
theorem ifno_wp {t : CT} {a : CS} {e : En} {Q : Fl × En → Prop} (h : (t e).wp fun k => k = false ∧ Q (.nx, e)) : (sIf t a sNil e).wp Q :=
  if_wp (M.wp_mono (fun k q => by obtain ⟨rfl, q⟩ := q; exact q) h)
theorem for_inv {g : CG} {b : CS} {I : En → Prop} : ∀ {ds : List PyData}, (∀ d ∈ ds, ∀ e, I e → (g e d).wp fun e1 => (b e1).wp (Nx I)) → ∀ {e : En}, I e → (forGo g b ds e).wp (Nx I)
  | [], _, e, i => ⟨e, rfl, i⟩
  | d :: ds, h, e, i => by
    refine M.wp_bind.mpr (M.wp_mono (fun e1 q => ?_) (h d List.mem_cons_self e i))
    refine M.wp_bind.mpr (M.wp_mono (fun r q' => ?_) q)
    obtain ⟨e2, rfl, i2⟩ := q'
    exact for_inv (fun d' m => h d' (List.mem_cons_of_mem _ m)) i2
/-- by places: what holds behind the first so many -/
theorem for_ind {g : CG} {b : CS} {ds : List PyData} (I : Nat → En → Prop) (h : ∀ (i : Nat) (d : PyData), ds[i]? = some d → ∀ e, I i e → (g e d).wp fun e1 => (b e1).wp (Nx (I (i + 1)))) {e : En} (i0 : I 0 e) : (forGo g b ds e).wp (Nx (I ds.length)) := by
  have go : ∀ (n : Nat) (rest : List PyData), rest = ds.drop n → n ≤ ds.length → ∀ e, I n e → (forGo g b rest e).wp (Nx (I ds.length)) := by
    intro n rest
    induction rest generalizing n with
    | nil =>
      intro hr hn e i
      have : n = ds.length := by
        have := congrArg List.length hr
        rw [List.length_nil, List.length_drop] at this
        omega
      subst this
      exact ⟨e, rfl, i⟩
    | cons d rest ih =>
      intro hr hn e i
      have hd : ds[n]? = some d := by
        have := congrArg (·[0]?) hr
        simpa using this.symm
      have hlt : n < ds.length := (List.getElem?_eq_some_iff.mp hd).1
      refine M.wp_bind.mpr (M.wp_mono (fun e1 q => ?_) (h n d hd e i))
      refine M.wp_bind.mpr (M.wp_mono (fun r q' => ?_) q)
      obtain ⟨e2, rfl, i2⟩ := q'
      refine ih (n + 1) ?_ hlt e2 i2
      have h1 : ds.drop (n + 1) = (ds.drop n).drop 1 := by rw [List.drop_drop]
      rw [h1, ← hr]; rfl
  exact go 0 ds rfl (Nat.zero_le _) e i0
/-- while, by a measure -/
theorem while_wp {t : CT} {b : CS} {I J : En → Prop} (μ : En → Nat) (h : ∀ e, I e → (t e).wp fun k => if k = true then (b e).wp (Nx fun e' => I e' ∧ μ e' < μ e) else J e) : ∀ {n : Nat} {e : En}, I e → μ e < n → (whileGo t b n e).wp (Nx J)
  | 0, e, i, hm => absurd hm (Nat.not_lt_zero _)
  | n + 1, e, i, hm => by
    refine M.wp_bind.mpr (M.wp_mono (fun k q => ?_) (h e i))
    cases k with
    | false => exact ⟨e, rfl, q⟩
    | true =>
      rw [if_pos rfl] at q ⊢
      refine M.wp_bind.mpr (M.wp_mono (fun r q' => ?_) q)
      obtain ⟨e2, rfl, i2, hm2⟩ := q'
      exact while_wp μ h i2 (by omega)

/-! ### comprehensions -/
theorem comp_eq {g : CG} {t : CT} {c : CE} {e : En} {p : PyData → Bool} {f : PyData → PyData} : ∀ {ds : List PyData}, (∀ d ∈ ds, ∃ e1, g e d = .ret e1 ∧ t e1 = .ret (p d) ∧ (p d = true → c e1 = .ret (f d))) → compGo g t c e ds = .ret ((ds.filter p).map f)
  | [], _ => rfl
  | d :: ds, h => by
    obtain ⟨e1, h1, h2, h3⟩ := h d List.mem_cons_self
    have ih := comp_eq (g := g) (t := t) (c := c) (e := e) (p := p) (f := f) (ds := ds) fun d' m => h d' (List.mem_cons_of_mem _ m)
    unfold compGo
    rw [h1]
    simp only [M.ret_bind, h2]
    cases hp : p d with
    | true =>
      rw [if_pos rfl, h3 hp, ih, List.filter_cons_of_pos hp]
      rfl
    | false =>
      rw [if_neg (by decide), ih, List.filter_cons_of_neg (by rw [hp]; decide)]
theorem comp_wp {g : CG} {t : CT} {c : CE} {e : En} {P : PyData → Prop} : ∀ {ds : List PyData}, (∀ d ∈ ds, (g e d).wp fun e1 => (t e1).wp fun k => k = true ∧ (c e1).wp P) → (compGo g t c e ds).wp fun ys => ys.length = ds.length ∧ ∀ y ∈ ys, P y
  | [], _ => ⟨rfl, fun y h => nomatch h⟩
  | d :: ds, h => by
    have ih := comp_wp (g := g) (t := t) (c := c) (e := e) (P := P) (ds := ds) fun d' m => h d' (List.mem_cons_of_mem _ m)
    refine M.wp_bind.mpr (M.wp_mono (fun e1 q => M.wp_bind.mpr (M.wp_mono (fun k q => ?_) q)) (h d List.mem_cons_self))
    obtain ⟨rfl, q⟩ := q
    rw [if_pos rfl]
    refine M.wp_bind.mpr (M.wp_mono (fun y hy => M.wp_bind.mpr (M.wp_mono (fun ys hys => ?_) ih)) q)
    refine ⟨by rw [List.length_cons, List.length_cons, hys.1], fun z hz => ?_⟩
    rcases List.mem_cons.mp hz with rfl | hz
    · exact hy
    · exact hys.2 z hz

/-! ### data of whole numbers -/
abbrev tpI (ns : List Int) : PyData := .tuple (ns.map PyData.int)
abbrev lsI (ns : List Int) : PyData := .list (ns.map PyData.int)
theorem eqvAll_ints : ∀ ns ms : List Int, PyData.eqvAll (ns.map PyData.int) (ms.map PyData.int) = decide (ns = ms)
  | [], [] => by simp [PyData.eqvAll]
  | [], _ :: _ => by simp [PyData.eqvAll]
  | _ :: _, [] => by simp [PyData.eqvAll]
  | n :: ns, m :: ms => by
    simp only [List.map_cons, PyData.eqvAll, PyData.eqv, eqvAll_ints ns ms]
    by_cases h : n = m
    · subst h; simp
    · simp [h]
theorem lay_ints : ∀ ns : List Int, PyData.canLayAll0 (ns.map PyData.int) = true
  | [] => rfl
  | n :: ns => by simp only [List.map_cons, PyData.canLayAll0, PyData.canLay0, lay_ints ns, Bool.and_self]
theorem depth_ints : ∀ ns : List Int, PyData.depthAll (ns.map PyData.int) = 0
  | [] => rfl
  | n :: ns => by simp only [List.map_cons, PyData.depthAll, PyData.depth, depth_ints ns]; rfl
theorem shaped_tI (ns : List Int) : SeqAt.shaped (tpI ns) = true := by
  unfold SeqAt.shaped
  simp only [PyData.canLay0, lay_ints, PyData.depth, depth_ints, Bool.true_and]
  decide
theorem shaped_lI (ns : List Int) : SeqAt.shaped (lsI ns) = true := by
  unfold SeqAt.shaped
  simp only [PyData.canLay0, lay_ints, PyData.depth, depth_ints, Bool.true_and]
  decide
theorem eqS_lI (ns ms : List Int) : mEqS (lsI ns) (lsI ms) = .ret (.bool (decide (ns = ms))) := by
  show mEq _ _ = _
  unfold mEq
  rw [shaped_lI, shaped_lI, Bool.and_self, if_pos rfl]
  simp only [PyData.eqv, eqvAll_ints]
theorem eqS_tI (ns ms : List Int) : mEqS (tpI ns) (tpI ms) = .ret (.bool (decide (ns = ms))) := by
  show mEq _ _ = _
  unfold mEq
  rw [shaped_tI, shaped_tI, Bool.and_self, if_pos rfl]
  simp only [PyData.eqv, eqvAll_ints]
theorem neS_lI (ns ms : List Int) : mNeS (lsI ns) (lsI ms) = .ret (.bool (!decide (ns = ms))) := by
  show mNe _ _ = _
  unfold mNe
  rw [shaped_lI, shaped_lI, Bool.and_self, if_pos rfl]
  simp only [PyData.eqv, eqvAll_ints]
theorem neS_tI (ns ms : List Int) : mNeS (tpI ns) (tpI ms) = .ret (.bool (!decide (ns = ms))) := by
  show mNe _ _ = _
  unfold mNe
  rw [shaped_tI, shaped_tI, Bool.and_self, if_pos rfl]
  simp only [PyData.eqv, eqvAll_ints]
theorem plain0_ints : ∀ {ns : List Int}, (∀ n ∈ ns, n.natAbs.log2 < 1920) → plain0All (ns.map PyData.int) = true
  | [], _ => rfl
  | n :: ns, h => by
    simp only [List.map_cons, plain0All, plain0, Bool.and_eq_true, decide_eq_true_eq]
    exact ⟨h n List.mem_cons_self, plain0_ints fun m hm => h m (List.mem_cons_of_mem _ hm)⟩
theorem cost_ints : ∀ {ns : List Int}, (∀ n ∈ ns, n.natAbs.log2 < 1920) → costAll (ns.map PyData.int) ≤ 1924 * ns.length
  | [], _ => Nat.le_refl 0
  | n :: ns, h => by
    have h1 := h n List.mem_cons_self
    have h2 := cost_ints (ns := ns) fun m hm => h m (List.mem_cons_of_mem _ hm)
    simp only [List.map_cons, costAll, cost, List.length_cons]
    omega
/-- places of a list of whole numbers -/
theorem mem_intsFrom {lo : Int} {n : Nat} {d : PyData} (h : d ∈ intsFrom lo n) : ∃ j : Nat, j < n ∧ d = .int (lo + j) := by
  obtain ⟨j, hj, rfl⟩ := List.mem_map.mp h
  exact ⟨j, List.mem_range.mp hj, rfl⟩
theorem cut_from {α : Type} (xs : List α) (j : Nat) : cutD xs (some (j : Int)) none = xs.drop j := by
  have e1 : HT.sIx xs.length 0 (some (j : Int)) = min j xs.length := by
    show (if (j : Int) < 0 then ((j : Int) + (xs.length : Nat)).toNat else min (j : Int).toNat xs.length) = _
    rw [if_neg (by omega), Int.toNat_natCast]
  unfold cutD
  rw [e1, show HT.sIx xs.length xs.length none = xs.length from rfl]
  by_cases h : j ≤ xs.length
  · rw [Nat.min_eq_left h]
    exact List.take_of_length_le (by rw [List.length_drop]; omega)
  · rw [Nat.min_eq_right (by omega), Nat.sub_self, List.take_zero, List.drop_eq_nil_of_le (by omega)]
theorem cut_to {α : Type} (xs : List α) (j : Nat) : cutD xs none (some (j : Int)) = xs.take j := by
  have e1 : HT.sIx xs.length xs.length (some (j : Int)) = min j xs.length := by
    show (if (j : Int) < 0 then ((j : Int) + (xs.length : Nat)).toNat else min (j : Int).toNat xs.length) = _
    rw [if_neg (by omega), Int.toNat_natCast]
  unfold cutD
  rw [e1, show HT.sIx xs.length 0 none = 0 from rfl, Nat.sub_zero, List.drop_zero]
  by_cases h : j ≤ xs.length
  · rw [Nat.min_eq_left h]
  · rw [Nat.min_eq_right (by omega), List.take_of_length_le (Nat.le_refl _), List.take_of_length_le (by omega)]
/-! ### the sequence of tuples -/
theorem lt_tI (ns ms : List Int) : mLt (tpI ns) (tpI ms) = .ret (.bool (HT.lexLt ns ms)) := by
  show mTI HT.lexLt _ _ = _
  unfold mTI
  rw [asIntsO_of, asIntsO_of]
theorem leAt_cons (x y : Int) (xs ys : List Int) : leAt (x :: xs) (y :: ys) = if x = y then leAt xs ys else decide (x < y) := by
  have sh : ∀ (e r : Nat → Bool) (z : Bool) (k i : Nat), Ob.lexAt e r z (i + 1) k = Ob.lexAt (fun j => e (j + 1)) (fun j => r (j + 1)) z i k := by
    intro e r z k
    induction k with
    | zero => intro i; rfl
    | succ k ih => intro i; rw [Ob.lexAt_succ, Ob.lexAt_succ, ih]
  unfold leAt
  rw [show min (x :: xs).length (y :: ys).length = min xs.length ys.length + 1 by simp only [List.length_cons]; omega, Ob.lexAt_succ]
  by_cases h : x = y
  · subst h
    rw [if_pos (by simp), if_pos rfl, sh]
    simp only [List.getD_cons_succ, List.length_cons, Nat.add_le_add_iff_right]
  · rw [if_neg (by simpa using h), if_neg h]
    simp only [List.getD_cons_zero]
    rw [Bool.eq_iff_iff]
    simp only [decide_eq_true_eq]
    omega
theorem leAt_lex : ∀ ns ms : List Int, leAt ns ms = !HT.lexLt ms ns
  | [], [] => rfl
  | [], _ :: _ => rfl
  | _ :: _, [] => rfl
  | x :: xs, y :: ys => by
    rw [leAt_cons, HT.lexLt_cons]
    by_cases h : x = y
    · subst h; rw [if_pos rfl, if_pos rfl, leAt_lex xs ys]
    · rw [if_neg h, if_neg (Ne.symm h), Bool.eq_iff_iff]
      simp only [decide_eq_true_eq, Bool.not_eq_true', decide_eq_false_iff_not]
      omega
theorem le_tI (ns ms : List Int) : mLe (tpI ns) (tpI ms) = .ret (.bool (!HT.lexLt ms ns)) := by
  show mTI leAt _ _ = _
  unfold mTI
  rw [asIntsO_of, asIntsO_of]
  show M.ret (PyData.bool (leAt ns ms)) = _
  rw [leAt_lex]
theorem lex_irrefl : ∀ a : List Int, HT.lexLt a a = false
  | [] => rfl
  | x :: r => by rw [HT.lexLt_cons, if_pos rfl]; exact lex_irrefl r
theorem lex_total : ∀ a b : List Int, HT.lexLt a b = false → HT.lexLt b a = false → a = b
  | [], [], _, _ => rfl
  | [], _ :: _, h, _ => nomatch h
  | _ :: _, [], _, h => nomatch h
  | x :: r, y :: t, h1, h2 => by
    rw [HT.lexLt_cons] at h1 h2
    by_cases h : x = y
    · subst h
      rw [if_pos rfl] at h1 h2
      rw [lex_total r t h1 h2]
    · rw [if_neg h] at h1
      rw [if_neg (Ne.symm h)] at h2
      have := of_decide_eq_false h1
      have := of_decide_eq_false h2
      omega
theorem lex_asymm : ∀ a b : List Int, HT.lexLt a b = true → HT.lexLt b a = false
  | [], [], h => nomatch h
  | [], _ :: _, _ => rfl
  | _ :: _, [], h => nomatch h
  | x :: r, y :: t, h1 => by
    rw [HT.lexLt_cons] at h1 ⊢
    by_cases h : x = y
    · subst h
      rw [if_pos rfl] at h1 ⊢
      exact lex_asymm r t h1
    · rw [if_neg h] at h1
      rw [if_neg (Ne.symm h)]
      have := of_decide_eq_true h1
      exact decide_eq_false (by omega)
end DL
namespace W
open PySem PySem.Spec PyProof.Rows L2 DL
def rows_told_b1 : CS := (sExtend 5 (cFz (clComp [7] (ciRange2 (cC (.int 1)) (cOp2 mAdd (cVar 0) (cC (.int 1)))) (gSet 7) ctYes (cTup (caStar (cVar 6) (caCons (cVar 7) caNil))))))
def rows_told_b2 : CS := (sSeq (sOwn 5 (clDisp caNil)) (sSeq (sFor (ciSeq (cVar 3)) (gSet 6) rows_told_b1) (sSeq (sExtendO 2 5) (sFrzT 5 (sSet 3 (cVar 5))))))
def cs_rows_told : CS := (sSeq (sPar 2 3 (xO (clDisp caNil)) (xV (cFz (clDisp (caCons (cTup caNil) caNil))))) (sSeq (sFor (ciRange1 (cVar 1)) (gSet 4) rows_told_b2) (sRet (cCall mTuple (caCons (cPeek 2) caNil)))))
abbrev m_rows_told : FD := fnD 2 8 cs_rows_told
def cs_is_pattern : CS := (sRet (cCall mAll (caCons (cFz (clComp [1] (ciRange2 (cC (.int 1)) (cCall mLenD (caCons (cVar 0) caNil))) (gSet 1) ctYes (cOp2 mLt (cVar 0) (cSl (cVar 0) (some (cVar 1)) none)))) caNil)))
abbrev m_is_pattern : FD := fnD 1 2 cs_is_pattern
def cs_patterns_told : CS := (sRet (cCall mTuple (caCons (cFz (clComp [2] (ciSeq (cCall m_rows_told (caCons (cVar 0) (caCons (cVar 1) caNil)))) (gSet 2) (ctV (cCall m_is_pattern (caCons (cVar 2) caNil))) (cVar 2))) caNil)))
abbrev m_patterns_told : FD := fnD 2 3 cs_patterns_told
def cs__law_of : CS := (sRet (cOp2 mIx (cVar 1) (cCallS 0 mPickB (caCons (cCall mLenD (caCons (cVar 1) caNil)) caNil))))
abbrev m__law_of : FD := fnS 2 2 cs__law_of
def _law_times_b1 : CS := (sSet 2 (cOp2 mMulT (cVar 2) (cVar 0)))
def cs__law_times : CS := (sSeq (sSet 2 (cC (.int 1))) (sSeq (sFor (ciRange1 (cVar 1)) (gSet 3) _law_times_b1) (sRet (cVar 2))))
abbrev m__law_times : FD := fnD 2 4 cs__law_times
def _law_rows_b1 : CS := (sSeq (sAppend 5 (cOp2 mAdd (cC (.int 1)) (cOp2 mMod (cCall mInt (caCons (cVar 6) caNil)) (cVar 0)))) (sSet 6 (cOp2 mFdiv (cVar 6) (cVar 0))))
def _law_rows_b2 : CS := (sSeq (sPar 5 6 (xO (clDisp caNil)) (xV (cVar 4))) (sSeq (sFor (ciRange1 (cVar 3)) (gSet 7) _law_rows_b1) (sAppend 2 (cCall mTuple (caCons (cFz (clRev (cPeek 5))) caNil)))))
def _law_rows_b3 : CS := (sFor (ciRange1 (cCall m__law_times (caCons (cVar 0) (caCons (cVar 3) caNil)))) (gSet 4) _law_rows_b2)
def cs__law_rows : CS := (sSeq (sOwn 2 (clDisp caNil)) (sSeq (sFor (ciRange2 (cC (.int 1)) (cOp2 mAdd (cVar 1) (cC (.int 1)))) (gSet 3) _law_rows_b3) (sFrzT 2 (sRet (cVar 2)))))
abbrev m__law_rows : FD := fnD 2 8 cs__law_rows
def cs__law_is_least : CS := (sRet (cOp2 mEqS (cFz (clComp [1] (ciRange2 (cC (.int 1)) (cCall mLenD (caCons (cVar 0) caNil))) (gSet 1) (ctV (cOp2 mLe (cOp2 mAdd (cSl (cVar 0) (some (cVar 1)) none) (cSl (cVar 0) none (some (cVar 1)))) (cVar 0))) (cVar 1))) (cFz (clDisp caNil))))
abbrev m__law_is_least : FD := fnD 1 2 cs__law_is_least
def _law_cut_b1 : CS := (sSeq (sSet 3 (cCall mMax (caCons (cFz (clComp [4] (ciRange2 (cC (.int 1)) (cOp2 mAdd (cCall mLenD (caCons (cVar 2) caNil)) (cC (.int 1)))) (gSet 4) (ctV (cCall m__law_is_least (caCons (cSl (cVar 2) none (some (cVar 4))) caNil))) (cVar 4))) caNil))) (sSeq (sAppend 1 (cSl (cVar 2) none (some (cVar 3)))) (sSet 2 (cSl (cVar 2) (some (cVar 3)) none))))
def cs__law_cut : CS := (sSeq (sPar 1 2 (xO (clDisp caNil)) (xV (cVar 0))) (sSeq (sWhile 1000000 (ctV (cOp2 mNeS (cVar 2) (cTup caNil))) _law_cut_b1) (sFrzT 1 (sRet (cVar 1)))))
abbrev m__law_cut : FD := fnD 1 5 cs__law_cut
def law_s1 : CS := (sAsg (gTup ((gSet 2) :: ((gSet 3) :: []))) (cCallS 1 m__law_of (caCons (cFz (clDisp (caCons (cTup (caCons (cC (.int 2)) (caCons (cC (.int 2)) caNil))) (caCons (cTup (caCons (cC (.int 2)) (caCons (cC (.int 3)) caNil))) (caCons (cTup (caCons (cC (.int 2)) (caCons (cC (.int 4)) caNil))) (caCons (cTup (caCons (cC (.int 3)) (caCons (cC (.int 2)) caNil))) (caCons (cTup (caCons (cC (.int 3)) (caCons (cC (.int 3)) caNil))) (caCons (cTup (caCons (cC (.int 4)) (caCons (cC (.int 2)) caNil))) caNil)))))))) caNil)))
def law_s2 : CS := (sSet 4 (cCall m__law_rows (caCons (cVar 2) (caCons (cVar 3) caNil))))
def law_s3 : CS := (sIf (ctV (cOp2 mNeS (cCall mRepr (caCons (cCall m_rows_told (caCons (cVar 2) (caCons (cVar 3) caNil))) caNil)) (cCall mRepr (caCons (cCall mTuple (caCons (cVar 4) caNil)) caNil)))) (sRet (cC (.bool false))) sNil)
def law_s4 : CS := (sOwn 6 (clComp [5] (ciSeq (cVar 4)) (gSet 5) (ctV (cCall m__law_is_least (caCons (cVar 5) caNil))) (cVar 5)))
def law_s5 : CS := (sIf (ctV (cOp2 mNeS (cCall mRepr (caCons (cCall m_patterns_told (caCons (cVar 2) (caCons (cVar 3) caNil))) caNil)) (cCall mRepr (caCons (cCall mTuple (caCons (cVar 6) caNil)) caNil)))) (sRet (cC (.bool false))) sNil)
def law_b1 : CS := (sSeq (sOwn 10 (clComp [9] (ciRange1 (cCall mLenD (caCons (cVar 5) caNil))) (gSet 9) ctYes (cOp2 mAdd (cSl (cVar 5) (some (cVar 9)) none) (cSl (cVar 5) none (some (cVar 9)))))) (sFrzT 10 (sIf (ctAnd (ctV (cOp2 mEqS (cCall mLenD (caCons (cVar 5) caNil)) (cVar 7))) (ctV (cOp2 mEqS (cCall mLenD (caCons (cCall mDict (caCons (cFz (clComp [19] (ciSeq (cVar 10)) (gSet 19) ctYes (cTup (caCons (cVar 19) (caCons (cC (.int 0)) caNil))))) caNil)) caNil)) (cVar 7)))) (sSet 8 (cOp2 mAdd (cVar 8) (cC (.int 1)))) sNil)))
def law_b2 : CS := (sSeq (sSet 8 (cC (.int 0))) (sSeq (sFor (ciSeq (cVar 4)) (gSet 5) law_b1) (sIf (ctV (cOp2 mNeS (cVar 8) (cOp2 mMulT (cVar 7) (cCall mLenD (caCons (cFz (clComp [5] (ciSeq (cVar 6)) (gSet 5) (ctV (cOp2 mEqS (cCall mLenD (caCons (cVar 5) caNil)) (cVar 7))) (cVar 5))) caNil))))) (sRet (cC (.bool false))) sNil)))
def law_s6 : CS := (sFor (ciRange2 (cC (.int 1)) (cOp2 mAdd (cVar 3) (cC (.int 1)))) (gSet 7) law_b2)
def law_b3 : CS := (sIf (ctAnd (ctV (cCall m__law_is_least (caCons (cSl (cVar 17) none (some (cVar 9))) caNil))) (ctOr (ctV (cOp2 mEqS (cVar 16) (cTup caNil))) (ctV (cOp2 mLe (cSl (cVar 17) none (some (cVar 9))) (cVar 16))))) (sAppend 15 (cTup (caCons (cSl (cVar 17) none (some (cVar 9))) (caCons (cSl (cVar 17) (some (cVar 9)) none) caNil)))) sNil)
def law_b4 : CS := (sFor (ciRange2 (cC (.int 1)) (cOp2 mAdd (cCall mLenD (caCons (cVar 17) caNil)) (cC (.int 1)))) (gSet 9) law_b3)
def law_b5 : CS := (sSeq (sOwn 15 (clDisp caNil)) (sSeq (sFor (ciSeq (cVar 13)) (gTup ((gSet 16) :: ((gSet 17) :: []))) law_b4) (sFrzT 15 (sSeq (sSet 12 (cOp2 mAdd (cVar 12) (cCall mLenD (caCons (cFz (clComp [16, 17] (ciSeq (cVar 15)) (gTup ((gSet 16) :: ((gSet 17) :: []))) (ctV (cOp2 mEqS (cVar 17) (cTup caNil))) (cC (.int 1)))) caNil)))) (sFrzT 15 (sSeq (sOwn 13 (clComp [20] (ciSeq (cVar 15)) (gSet 20) (ctV (cOp2 mNeS (cOp2 mIx (cVar 20) (cC (.int 1))) (cTup caNil))) (cVar 20))) (sFrzT 13 sNil)))))))
def law_b6 : CS := (sSeq (sSet 11 (cCall m__law_cut (caCons (cVar 5) caNil))) (sSeq (sIf (ctV (cOp2 mNeS (cFz (clComp [9] (ciRange2 (cC (.int 1)) (cCall mLenD (caCons (cVar 11) caNil))) (gSet 9) (ctV (cOp2 mLt (cOp2 mIx (cVar 11) (cOp2 mSub (cVar 9) (cC (.int 1)))) (cOp2 mIx (cVar 11) (cVar 9)))) (cVar 9))) (cFz (clDisp caNil)))) (sRet (cC (.bool false))) sNil) (sSeq (sPar 12 13 (xV (cC (.int 0))) (xV (cFz (clDisp (caCons (cTup (caCons (cTup caNil) (caCons (cVar 5) caNil))) caNil))))) (sSeq (sFor (ciRange1 (cCall mLenD (caCons (cVar 5) caNil))) (gSet 14) law_b5) (sIf (ctV (cOp2 mNeS (cVar 12) (cC (.int 1)))) (sRet (cC (.bool false))) sNil)))))
def law_s7 : CS := (sFor (ciSeq (cVar 4)) (gSet 5) law_b6)
def law_b7 : CS := (sSeq (sSet 5 (cCall mTuple (caCons (cFz (clComp [21] (ciRange1 (cOp2 mAdd (cC (.int 1)) (cCallS 1 mPickB (caCons (cC (.int 7)) caNil)))) (gSet 21) ctYes (cOp2 mAdd (cC (.int 1)) (cCallS 1 mPickB (caCons (cCallS 1 m__law_of (caCons (cFz (clDisp (caCons (cC (.int 1)) (caCons (cC (.int 2)) (caCons (cC (.int 9)) caNil))))) caNil)) caNil))))) caNil))) (sSeq (sSet 5 (cOp2 mMulT (cVar 5) (cOp2 mAdd (cC (.int 1)) (cCallS 1 mPickB (caCons (cC (.int 2)) caNil))))) (sSeq (sSet 18 (cOp2 mEqS (cFz (clComp [9] (ciRange2 (cC (.int 1)) (cCall mLenD (caCons (cVar 5) caNil))) (gSet 9) (ctV (cOp2 mLe (cSl (cVar 5) (some (cVar 9)) none) (cVar 5))) (cVar 9))) (cFz (clDisp caNil)))) (sIf (ctV (cOp2 mNeS (cCall mRepr (caCons (cFz (clDisp (caCons (cCall m_is_pattern (caCons (cVar 5) caNil)) (caCons (cVar 18) caNil)))) caNil)) (cCall mRepr (caCons (cOp2 mMulT (cFz (clDisp (caCons (cCall m__law_is_least (caCons (cVar 5) caNil)) caNil))) (cC (.int 2))) caNil)))) (sRet (cC (.bool false))) sNil))))
def law_s8 : CS := (sFor (ciRange1 (cC (.int 6))) (gSet 14) law_b7)
def law_s9 : CS := (sRet (cC (.bool true)))
def cs_law : CS := (sSeq law_s1 (sSeq law_s2 (sSeq law_s3 (sSeq law_s4 (sFrzT 6 (sSeq law_s5 (sSeq law_s6 (sSeq law_s7 (sSeq law_s8 law_s9)))))))))
end W
namespace W
open PySem PySem.Spec PyProof.Rows L2 DL
/-! ### Lyndon's equivalence -/
/-- less than each of its proper later parts -/
def lynA (ns : List Int) : Bool := (List.range ns.length).all fun j => j == 0 || HT.lexLt ns (ns.drop j)
/-- less than each of its proper turns -/
def lynB (ns : List Int) : Bool := (List.range ns.length).all fun j => j == 0 || HT.lexLt ns (ns.drop j ++ ns.take j)
theorem lex_app : ∀ (a b c d : List Int), a.length = b.length → HT.lexLt a b = true → HT.lexLt (a ++ c) (b ++ d) = true
  | [], [], _, _, _, h => nomatch h
  | [], _ :: _, _, _, h, _ => nomatch h
  | _ :: _, [], _, _, h, _ => nomatch h
  | x :: a, y :: b, c, d, hl, h => by
    rw [List.cons_append, List.cons_append, HT.lexLt_cons]
    rw [HT.lexLt_cons] at h
    by_cases e : x = y
    · rw [if_pos e] at h ⊢
      exact lex_app a b c d (by simpa using hl) h
    · rw [if_neg e] at h ⊢
      exact h
/-- a is less than b and not shorter: so whatever stands behind b -/
theorem lex_long : ∀ (a b d : List Int), b.length ≤ a.length → HT.lexLt a b = true → HT.lexLt a (b ++ d) = true
  | [], [], _, _, h => nomatch h
  | [], _ :: _, _, hl, _ => by simp at hl
  | _ :: _, [], _, _, h => nomatch h
  | x :: a, y :: b, d, hl, h => by
    rw [List.cons_append, HT.lexLt_cons]
    rw [HT.lexLt_cons] at h
    by_cases e : x = y
    · rw [if_pos e] at h ⊢
      exact lex_long a b d (by simpa using hl) h
    · rw [if_neg e] at h ⊢
      exact h
/-- v is less than u: it starts it, or so at once, whatever stands behind both -/
theorem lex_split : ∀ (v u : List Int), HT.lexLt v u = true → (∃ w, u = v ++ w) ∨ ∀ c d, HT.lexLt (v ++ c) (u ++ d) = true
  | [], u, _ => .inl ⟨u, rfl⟩
  | _ :: _, [], h => nomatch h
  | x :: v, y :: u, h => by
    rw [HT.lexLt_cons] at h
    by_cases e : x = y
    · rw [if_pos e] at h
      subst e
      rcases lex_split v u h with ⟨w, rfl⟩ | q
      · exact .inl ⟨w, rfl⟩
      · refine .inr fun c d => ?_
        rw [List.cons_append, List.cons_append, HT.lexLt_cons, if_pos rfl]
        exact q c d
    · rw [if_neg e] at h
      refine .inr fun c d => ?_
      rw [List.cons_append, List.cons_append, HT.lexLt_cons, if_neg e]
      exact h
theorem lex_pre : ∀ (v a b : List Int), HT.lexLt (v ++ a) (v ++ b) = HT.lexLt a b
  | [], _, _ => rfl
  | x :: v, a, b => by rw [List.cons_append, List.cons_append, HT.lexLt_cons, if_pos rfl]; exact lex_pre v a b
theorem lyn_iff (ns : List Int) : lynA ns = lynB ns := by
  rw [Bool.eq_iff_iff]
  unfold lynA lynB
  rw [List.all_eq_true, List.all_eq_true]
  constructor
  · intro h j hj
    have := h j hj
    rw [Bool.or_eq_true] at this ⊢
    rcases this with z | z
    · exact .inl z
    · exact .inr (lex_long _ _ _ (by rw [List.length_drop]; omega) z)
  · intro h j hj
    rw [Bool.or_eq_true]
    by_cases j0 : j = 0
    · exact .inl (by simpa using j0)
    refine .inr ?_
    have hjl := List.mem_range.mp hj
    have rot : ∀ i, i < ns.length → i ≠ 0 → HT.lexLt ns (ns.drop i ++ ns.take i) = true := fun i hi i0 => by
      have := h i (List.mem_range.mpr hi)
      rw [Bool.or_eq_true] at this
      rcases this with z | z
      · exact absurd (by simpa using z) i0
      · exact z
    have r1 := rot j hjl j0
    cases q1 : HT.lexLt ns (ns.drop j) with
    | true => rfl
    | false =>
      exfalso
      cases q2 : HT.lexLt (ns.drop j) ns with
      | false =>
        have := congrArg List.length (lex_total _ _ q1 q2)
        rw [List.length_drop] at this
        omega
      | true =>
        rcases lex_split _ _ q2 with ⟨w, hw⟩ | q
        · -- the later part stands ahead, too
          have hlw : w.length = j := by
            have := congrArg List.length hw
            rw [List.length_append, List.length_drop] at this
            omega
          -- w < take j
          have r2 : HT.lexLt w (ns.take j) = true := by
            have r1' := r1
            rw [hw] at r1'
            rw [← hw] at r1'
            have e : HT.lexLt (ns.drop j ++ w) (ns.drop j ++ ns.take j) = true := by rw [← hw]; exact r1
            rwa [lex_pre] at e
          -- the turn by the later part's length
          have hd : ns.drop (ns.length - j) = w := by
            have hl : (ns.drop j).length = ns.length - j := List.length_drop
            rw [← hl]
            conv => lhs; rw [hw]
            conv => lhs; arg 1; rw [← hw]
            exact List.drop_left
          have ht : ns.take (ns.length - j) = ns.drop j := by
            have hl : (ns.drop j).length = ns.length - j := List.length_drop
            rw [← hl]
            conv => lhs; rw [hw]
            conv => lhs; arg 1; rw [← hw]
            exact List.take_left
          have r3 := rot (ns.length - j) (by omega) (by omega)
          rw [hd, ht] at r3
          have r4 : HT.lexLt (w ++ ns.drop j) (ns.take j ++ ns.drop j) = true := lex_app _ _ _ _ (by rw [hlw, List.length_take]; omega) r2
          rw [List.take_append_drop] at r4
          rw [lex_asymm _ _ r3] at r4
          exact nomatch r4
        · have := q (ns.take j) []
          rw [List.append_nil] at this
          rw [lex_asymm _ _ r1] at this
          exact nomatch this
end W
namespace W
open PySem PySem.Spec PyProof.Rows L2 DL
theorem fits_le {ds : List PyData} (h : ds.length ≤ 1000000) : fits ds = true := by
  simp only [fits, decide_eq_true_eq]
  rw [sizeLine_eq]
  omega
theorem intsFrom_length (lo : Int) (n : Nat) : (DL.intsFrom lo n).length = n := by unfold DL.intsFrom; rw [List.length_map, List.length_range]
/-- range(1, x) -/
theorem rng1 {c : CE} {e : En} {n : Nat} (h : c e = .ret (.int n)) (hn : n ≤ 1000000) : ciRange2 (cC (.int 1)) c e = .ret (DL.intsFrom 1 (n - 1)) := by
  unfold ciRange2 cC
  simp only [M.ret_bind, h, asI]
  rw [inB_of (by omega) (by omega), inB_of (by omega) (by omega), Bool.and_self, if_pos rfl, show ((n : Int) - 1).toNat = n - 1 by omega]
theorem len_t {c : CE} {e : En} {ns : List PyData} (h : c e = .ret (.tuple ns)) : cCall mLenD (caCons c caNil) e = .ret (.int ns.length) := by
  unfold cCall caCons caNil
  simp only [M.ret_bind, h]
  rfl
theorem len_l {c : CE} {e : En} {ns : List PyData} (h : c e = .ret (.list ns)) : cCall mLenD (caCons c caNil) e = .ret (.int ns.length) := by
  unfold cCall caCons caNil
  simp only [M.ret_bind, h]
  rfl
theorem asBoolsO_of : ∀ bs : List Bool, asBoolsO (bs.map PyData.bool) = some bs
  | [] => rfl
  | b :: bs => by
    rw [List.map_cons]
    unfold asBoolsO
    rw [asBoolsO_of bs]
theorem all_eq {cl : CL} {e : En} {bs : List Bool} (h : cl e = .ret (bs.map PyData.bool)) : cCall mAll (caCons (cFz cl) caNil) e = .ret (.bool (bs.all id)) := by
  unfold cCall caCons caNil cFz
  simp only [h, M.ret_bind]
  unfold mAll
  simp only [asBoolsO_of]
theorem ret_eq {c : CE} {e : En} {d : PyData} (h : c e = .ret d) : sRet c e = .ret (.rt d, e) := by
  unfold sRet; rw [h]; rfl
theorem op2_eq {m : PyData → PyData → M PyData} {a b : CE} {e : En} {x y : PyData} (h1 : a e = .ret x) (h2 : b e = .ret y) : cOp2 m a b e = m x y := by
  unfold cOp2; rw [h1]; simp only [M.ret_bind, h2]
theorem fz_eq {cl : CL} {e : En} {ds : List PyData} (h : cl e = .ret ds) : cFz cl e = .ret (.list ds) := by
  unfold cFz; rw [h]; rfl
theorem fnD_eq {ps n : Nat} {b : CS} {ds : List PyData} {d : PyData} {e : En} (hl : ds.length = ps) (h : b (ds.map .val ++ List.replicate (n - ps) .no) = .ret (.rt d, e)) : fnD ps n b ds = .ret d := by
  unfold fnD; rw [if_pos hl, h]; rfl
/-! ### patterns by all later parts; rows less than all their turns -/
def patB (ns : List Int) : Bool := (List.range (ns.length - 1)).all fun i => HT.lexLt ns (ns.drop (i + 1))
def leastB (ns : List Int) : Bool := (List.range (ns.length - 1)).all fun i => HT.lexLt ns (ns.drop (i + 1) ++ ns.take (i + 1))
theorem all_shift (n : Nat) (P : Nat → Bool) : ((List.range n).all fun j => j == 0 || P j) = (List.range (n - 1)).all fun i => P (i + 1) := by
  cases n with
  | zero => rfl
  | succ n => rw [List.range_succ_eq_map, List.all_cons, List.all_map]; simp; rfl
theorem pat_least (ns : List Int) : patB ns = leastB ns := by
  have := lyn_iff ns
  unfold lynA lynB at this
  rw [all_shift ns.length (fun j => HT.lexLt ns (ns.drop j)), all_shift ns.length (fun j => HT.lexLt ns (ns.drop j ++ ns.take j))] at this
  exact this
def atF (ns : List Int) : PyData → PyData
  | .int j => .bool (HT.lexLt ns (ns.drop j.toNat))
  | _ => .none
theorem places {f : PyData → PyData} {g : Nat → PyData} (n : Nat) (h : ∀ i, f (.int (1 + (i : Nat))) = g i) : (DL.intsFrom 1 n).map f = (List.range n).map g := by
  unfold DL.intsFrom
  rw [List.map_map]
  exact List.map_congr_left fun i _ => h i
theorem one_add (i : Nat) : (1 : Int) + i = ((i + 1 : Nat) : Int) := by omega
theorem isPat (ns : List Int) (hl : ns.length ≤ 1000) : m_is_pattern [tpI ns] = .ret (.bool (patB ns)) := by
  have hr : cVar 0 [.val (tpI ns), .no] = .ret (tpI ns) := rfl
  refine fnD_eq (e := [.val (tpI ns), .no]) rfl (ret_eq ?_)
  show cCall mAll _ [.val (tpI ns), .no] = _
  rw [all_eq (bs := (List.range (ns.length - 1)).map fun i => HT.lexLt ns (ns.drop (i + 1)))]
  · rw [List.all_map]; rfl
  unfold clComp
  rw [rng1 (n := ns.length) (by rw [len_t hr, List.length_map]) (by omega)]
  simp only [M.ret_bind]
  rw [fits_le (by rw [intsFrom_length]; omega), if_pos rfl, comp_eq (p := fun _ => true) (f := atF ns), List.filter_eq_self.mpr (fun _ _ => rfl)]
  · rw [List.map_map, places (g := fun i => PyData.bool (HT.lexLt ns (ns.drop (i + 1))))]
    · rfl
    · intro i
      rw [one_add]; rfl
  intro d hd
  obtain ⟨j, hj, rfl⟩ := mem_intsFrom hd
  refine ⟨[.val (tpI ns), .val (.int (1 + j))], rfl, rfl, fun _ => ?_⟩
  show mLt (tpI ns) (.tuple (cutD (ns.map PyData.int) (some (1 + j)) none)) = _
  rw [one_add, cut_from, ← List.map_drop, lt_tI]
  rfl
theorem bad_list {α : Type} (P : Nat → Bool) (n : Nat) : decide (((List.range n).filter fun i => !P i).map (fun i => (1 : Int) + (i : Nat)) = []) = (List.range n).all P := by
  rw [Bool.eq_iff_iff, decide_eq_true_eq, List.map_eq_nil_iff, List.filter_eq_nil_iff, List.all_eq_true]
  simp
/-- [j for j in range(1, len(row)) if ..] == [] -/
theorem none_bad {N : List Nat} {c : CE} {t : CT} {e e1 : En} {n v : Nat} {P : Nat → Bool} (h : c e = .ret (.int n)) (hn : n ≤ 1000000)
    (ht : ∀ i : Nat, i < n - 1 → t ((wipeE e N).set v (.val (.int (1 + (i : Nat))))) = .ret (!P i)) (hv : v < e.length) (hw : (wipeE e N).length = e.length) :
    cOp2 mEqS (cFz (clComp N (ciRange2 (cC (.int 1)) c) (gSet v) t (cVar v))) (cFz (clDisp caNil)) e = .ret (.bool ((List.range (n - 1)).all P)) := by
  have hc : clComp N (ciRange2 (cC (.int 1)) c) (gSet v) t (cVar v) e = .ret ((((List.range (n - 1)).filter fun i => !P i).map (fun i => (1 : Int) + (i : Nat))).map PyData.int) := by
    unfold clComp
    rw [rng1 h hn]
    simp only [M.ret_bind]
    rw [fits_le (by rw [intsFrom_length]; omega), if_pos rfl, comp_eq (p := fun d => match d with | .int j => !P (j - 1).toNat | _ => false) (f := id)]
    · unfold DL.intsFrom
      rw [List.filter_map, List.map_map, List.map_map]
      have : (List.range (n - 1)).filter ((fun d => match d with | PyData.int j => !P (j - 1).toNat | _ => false) ∘ fun (i : Nat) => PyData.int (1 + (i : Int))) = (List.range (n - 1)).filter fun i => !P i := by
        refine List.filter_congr fun i _ => ?_
        show (!P ((1 : Int) + i - 1).toNat) = !P i
        rw [show ((1 : Int) + i - 1).toNat = i by omega]
      rw [this]
      rfl
    · intro d hd
      obtain ⟨j, hj, rfl⟩ := mem_intsFrom hd
      refine ⟨_, rfl, ?_, fun _ => ?_⟩
      · rw [ht j hj]
        show _ = M.ret (!P ((1 : Int) + j - 1).toNat)
        rw [show ((1 : Int) + j - 1).toNat = j by omega]
      · unfold cVar
        rw [List.getElem?_set_self (by rw [hw]; exact hv)]
        rfl
  rw [op2_eq (fz_eq hc) (show cFz (clDisp caNil) e = .ret (lsI []) from rfl)]
  rw [eqS_lI, bad_list (α := Nat) P]
theorem isLeast (ns : List Int) (hl : ns.length ≤ 1000) : m__law_is_least [tpI ns] = .ret (.bool (leastB ns)) := by
  have hr : cVar 0 [.val (tpI ns), .no] = .ret (tpI ns) := rfl
  refine fnD_eq (e := [.val (tpI ns), .no]) rfl (ret_eq ?_)
  refine none_bad (n := ns.length) (P := fun i => HT.lexLt ns (ns.drop (i + 1) ++ ns.take (i + 1))) (e1 := []) (by rw [show [tpI ns].map Sl.val ++ List.replicate (2 - 1) Sl.no = [.val (tpI ns), .no] from rfl, len_t hr, List.length_map]) (by omega) (fun i hi => ?_) (by show 1 < 2; decide) rfl
  show ((mAdd (.tuple (cutD (ns.map PyData.int) (some (1 + (i : Nat))) none)) (.tuple (cutD (ns.map PyData.int) none (some (1 + (i : Nat)))))).bind fun y => mLe y (tpI ns)).bind asB = _
  rw [one_add, cut_from, cut_to]
  show (M.bind (if _ then _ else _) _).bind asB = _
  rw [if_pos (by rw [List.length_drop, List.length_take, List.length_map, sizeLine_eq]; omega)]
  simp only [M.ret_bind]
  rw [← List.map_drop, ← List.map_take, ← List.map_append, le_tI]
  rfl
end W
namespace W
open PySem PySem.Spec PyProof.Rows L2 DL
/-! ### the worlds: by the kernel -/
def e0 (k c : Int) : En := ((envLaw 22 1).set 2 (.val (.int k))).set 3 (.val (.int c))
def isSrc : Option Sl → Bool
  | some .src => true
  | _ => false
def isEnd : Fl × En → Bool
  | (.nx, e) => isSrc e[1]? && decide (e.length = 22)
  | _ => false
def E2 (k c : Int) : En := nxE (law_s2 (e0 k c))
def E4 (k c : Int) : En := nxE (law_s4 (E2 k c))
def E5 (k c : Int) : En := nxE (sFrzT 6 sNil (E4 k c))
def repL3 : CE := cCall m_rows_told (caCons (cVar 2) (caCons (cVar 3) caNil))
def repR3 : CE := cCall mTuple (caCons (cVar 4) caNil)
def repL5 : CE := cCall m_patterns_told (caCons (cVar 2) (caCons (cVar 3) caNil))
def repR5 : CE := cCall mTuple (caCons (cVar 6) caNil)
def okW (k c : Int) : Bool := okb (law_s2 (e0 k c)) nxb && sameb (repL3 (E2 k c)) (repR3 (E2 k c)) && okb (law_s4 (E2 k c)) nxb && okb (sFrzT 6 sNil (E4 k c)) nxb && sameb (repL5 (E5 k c)) (repR5 (E5 k c)) && okb (sSeq law_s6 law_s7 (E5 k c)) isEnd

theorem w22 : okW 2 2 = true := by decide +kernel
theorem w23 : okW 2 3 = true := by decide +kernel
theorem w32 : okW 3 2 = true := by decide +kernel
theorem w42 : okW 4 2 = true := by decide +kernel
theorem w24 : okW 2 4 = true := by decide +kernel
theorem w33 : okW 3 3 = true := by decide +kernel
end W
namespace W
open PySem PySem.Spec PyProof.Rows L2 DL
/-! ### draws -/
theorem set_wp {i : Nat} {c : CE} {e : En} {I : En → Prop} (h : (c e).wp fun d => I (e.set i (.val d))) : (sSet i c e).wp (Nx I) :=
  M.wp_bind.mpr (M.wp_mono (fun d q => ⟨_, rfl, q⟩) h)
theorem op2_wp {m : PyData → PyData → M PyData} {a b : CE} {e : En} {Q : PyData → Prop} (h : (a e).wp fun x => (b e).wp fun y => (m x y).wp Q) : (cOp2 m a b e).wp Q :=
  M.wp_bind.mpr (M.wp_mono (fun x q => M.wp_bind.mpr q) h)
theorem call1_wp {f : FD} {c : CE} {e : En} {Q : PyData → Prop} (h : (c e).wp fun d => (f [d]).wp Q) : (cCall f (caCons c caNil) e).wp Q := by
  unfold cCall caCons caNil
  exact M.wp_bind.mpr (M.wp_bind.mpr (M.wp_mono (fun d q => q) h))
theorem callS1_wp {i : Nat} {f : FD} {c : CE} {e : En} {Q : PyData → Prop} (hs : e[i]? = some .src) (h : (c e).wp fun d => (f [d]).wp Q) : (cCallS i f (caCons c caNil) e).wp Q := by
  unfold cCallS caCons caNil
  rw [hs]
  exact M.wp_bind.mpr (M.wp_bind.mpr (M.wp_mono (fun d q => q) h))
theorem pickB_wp {n : Int} {Q : PyData → Prop} (hn : n.natAbs < 1073741824) (h : ∀ i : Int, 0 ≤ i → i < max 1 n → Q (.int i)) : (mPickB [.int n]).wp Q := by
  unfold mPickB
  simp only [hn, if_true]
  exact h
theorem atI_mem {α : Type} {xs : List α} {i : Int} (h0 : 0 ≤ i) (h1 : i < xs.length) : ∃ x ∈ xs, L2.atI xs i = some x := by
  have hl : i.toNat < xs.length := by omega
  refine ⟨xs[i.toNat], List.getElem_mem hl, ?_⟩
  unfold L2.atI L2.ixN
  rw [if_pos h0, if_pos h1]
  exact List.getElem?_eq_getElem hl
theorem lawOf_wp {xs : List PyData} {Q : PyData → Prop} (h0 : 0 < xs.length) (h1 : xs.length < 1000000) (h : ∀ x ∈ xs, Q x) : (m__law_of [.list xs]).wp Q := by
  show ((cs__law_of [.src, .val (.list xs)]).bind endOf).wp Q
  refine M.wp_bind.mpr (M.wp_bind.mpr (op2_wp ?_))
  show (cCallS 0 mPickB (caCons (cCall mLenD (caCons (cVar 1) caNil)) caNil) [.src, .val (.list xs)]).wp _
  refine callS1_wp rfl ?_
  show (mPickB [.int xs.length]).wp _
  refine pickB_wp (by omega) fun i i0 i1 => ?_
  obtain ⟨x, hx, e⟩ := atI_mem (xs := xs) i0 (by omega)
  show (ofO (L2.atI xs i)).wp _
  rw [e]
  exact h x hx
theorem rng_wp {c : CE} {e : En} {Q : List PyData → Prop} (h : (c e).wp fun d => ∃ n : Nat, d = .int n ∧ n ≤ 1000000 ∧ Q (DL.intsFrom 0 n)) : (ciRange1 c e).wp Q := by
  refine M.wp_bind.mpr (M.wp_mono (fun d q => ?_) h)
  obtain ⟨n, rfl, hn, q⟩ := q
  show (if inB (n : Int) = true then M.ret (DL.intsFrom 0 (n : Int).toNat) else .bad).wp Q
  rw [inB_of (by omega) (by omega), if_pos rfl, Int.toNat_natCast]
  exact q
theorem optI_eq {c : CE} {e : En} {i : Int} (h : c e = .ret (.int i)) : optI (some c) e = .ret (some i) := by
  show (c e).bind (fun d => (asI d).bind fun i => .ret (some i)) = _
  rw [h]
  rfl
theorem disp_eq {cl : CL} {e : En} {ds : List PyData} (h : cl e = .ret ds) (hl : ds.length ≤ 1000000) : cFz (clDisp cl) e = .ret (.list ds) := by
  unfold cFz clDisp
  rw [h]
  simp only [M.ret_bind]
  rw [fits_le hl, if_pos rfl]
  rfl
theorem seq_assoc {a b c : CS} {e : En} : sSeq a (sSeq b c) e = sSeq (sSeq a b) c e := by
  unfold sSeq
  rw [M.bind_assoc]
  congr 1
  funext r
  obtain ⟨f, e1⟩ := r
  cases f <;> rfl
/-! ### drawn rows -/
def I0 (e : En) : Prop := e[1]? = some .src ∧ e.length = 22
def I1 (m : Nat) (e : En) : Prop := I0 e ∧ ∃ ns : List Int, e[5]? = some (.val (tpI ns)) ∧ ns.length ≤ m
def I2 (e : En) : Prop := I0 e ∧ ∃ ns : List Int, e[5]? = some (.val (tpI ns)) ∧ ns.length ≤ 14 ∧ e[18]? = some (.val (.bool (patB ns)))
theorem I0.set {e : En} (h : I0 e) {i : Nat} (hi : i ≠ 1) (s : Sl) : I0 (e.set i s) := ⟨by rw [List.getElem?_set_ne hi]; exact h.1, by rw [List.length_set]; exact h.2⟩
theorem allInts : ∀ {ys : List PyData}, (∀ y ∈ ys, ∃ n : Int, y = .int n) → ∃ ns : List Int, ys = ns.map PyData.int ∧ ns.length = ys.length
  | [], _ => ⟨[], rfl, rfl⟩
  | y :: ys, h => by
    obtain ⟨n, rfl⟩ := h _ List.mem_cons_self
    obtain ⟨ns, rfl, hl⟩ := allInts (ys := ys) fun z hz => h z (List.mem_cons_of_mem _ hz)
    exact ⟨n :: ns, rfl, by simp⟩
theorem var_eq {e : En} {i : Nat} {d : PyData} (h : e[i]? = some (.val d)) : cVar i e = .ret d := by unfold cVar; rw [h]
theorem I0.lt {e : En} (h : I0 e) {i : Nat} (hi : i < 22) : i < e.length := by rw [h.2]; exact hi
theorem pick7 {e : En} (h : I0 e) (n : Int) (hn : n.natAbs < 1000) (h1 : 1 ≤ n) {Q : PyData → Prop} (q : ∀ i : Nat, 1 ≤ i → (i : Int) ≤ n → Q (.int i)) : (cOp2 mAdd (cC (.int 1)) (cCallS 1 mPickB (caCons (cC (.int n)) caNil)) e).wp Q := by
  refine op2_wp ?_
  show (cCallS 1 mPickB (caCons (cC (.int n)) caNil) e).wp _
  refine callS1_wp h.1 ?_
  show (mPickB [.int n]).wp _
  refine pickB_wp (by omega) fun i i0 i1 => ?_
  show Q (.int (1 + i))
  have := q (1 + i).toNat (by omega) (by omega)
  rwa [show (((1 + i).toNat : Nat) : Int) = 1 + i by omega] at this
theorem step1 {e : En} (h : I0 e) : (sSet 5 (cCall mTuple (caCons (cFz (clComp [21] (ciRange1 (cOp2 mAdd (cC (.int 1)) (cCallS 1 mPickB (caCons (cC (.int 7)) caNil)))) (gSet 21) ctYes (cOp2 mAdd (cC (.int 1)) (cCallS 1 mPickB (caCons (cCallS 1 m__law_of (caCons (cFz (clDisp (caCons (cC (.int 1)) (caCons (cC (.int 2)) (caCons (cC (.int 9)) caNil))))) caNil)) caNil))))) caNil)) e).wp (Nx (I1 7)) := by
  refine set_wp (call1_wp ?_)
  refine M.wp_bind.mpr (M.wp_bind.mpr (rng_wp (pick7 h 7 (by decide) (by decide) fun i i0 i1 => ⟨i, rfl, by omega, ?_⟩)))
  rw [fits_le (by rw [intsFrom_length]; omega), if_pos rfl]
  refine M.wp_mono (fun ys hy => ?_) (comp_wp (P := fun d => ∃ n : Int, d = .int n) fun d hd => ?_)
  · obtain ⟨ns, rfl, hl⟩ := allInts hy.2
    rw [intsFrom_length] at hy
    refine ⟨h.set (by decide) _, ns, List.getElem?_set_self (h.lt (by decide)), by omega⟩
  · have h2 : I0 ((e.set 21 .no).set 21 (.val d)) := (h.set (by decide) _).set (by decide) _
    refine ⟨rfl, op2_wp ?_⟩
    show (cCallS 1 mPickB (caCons (cCallS 1 m__law_of (caCons (cFz (clDisp (caCons (cC (.int 1)) (caCons (cC (.int 2)) (caCons (cC (.int 9)) caNil))))) caNil)) caNil) ((e.set 21 .no).set 21 (.val d))).wp _
    refine callS1_wp h2.1 (callS1_wp h2.1 ?_)
    rw [disp_eq (ds := [.int 1, .int 2, .int 9]) rfl (by decide)]
    show (m__law_of [.list [.int 1, .int 2, .int 9]]).wp _
    refine lawOf_wp (by decide) (by decide) fun x hx => ?_
    have : ∃ n : Int, x = .int n ∧ n.natAbs < 100 := by
      simp only [List.mem_cons, List.not_mem_nil, or_false] at hx
      rcases hx with rfl | rfl | rfl
      · exact ⟨1, rfl, by decide⟩
      · exact ⟨2, rfl, by decide⟩
      · exact ⟨9, rfl, by decide⟩
    obtain ⟨n, rfl, hn⟩ := this
    refine pickB_wp (by omega) fun j _ _ => ?_
    exact ⟨1 + j, rfl⟩
theorem step2 {e : En} (h : I1 7 e) : (sSet 5 (cOp2 mMulT (cVar 5) (cOp2 mAdd (cC (.int 1)) (cCallS 1 mPickB (caCons (cC (.int 2)) caNil)))) e).wp (Nx (I1 14)) := by
  obtain ⟨h0, ns, h5, hl⟩ := h
  refine set_wp (op2_wp ?_)
  rw [var_eq h5]
  show (cOp2 mAdd _ _ e).wp _
  refine pick7 h0 2 (by decide) (by decide) fun i i0 i1 => ?_
  show (mMulT (tpI ns) (.int i)).wp _
  have e1 : mMulT (tpI ns) (.int i) = .ret (tpI (List.replicate i ns).flatten) := by
    show (if _ then _ else _) = _
    rw [if_pos (by simp only [Bool.and_eq_true, decide_eq_true_eq, List.length_map]; omega), Int.toNat_natCast]
    unfold tpI
    rw [List.map_flatten, List.map_replicate]
  rw [e1]
  refine ⟨h0.set (by decide) _, _, List.getElem?_set_self (h0.lt (by decide)), ?_⟩
  have : i = 1 ∨ i = 2 := by omega
  rcases this with rfl | rfl
  · simp; omega
  · simp [List.replicate_succ]; omega
theorem step3 {e : En} (h : I1 14 e) : (sSet 18 (cOp2 mEqS (cFz (clComp [9] (ciRange2 (cC (.int 1)) (cCall mLenD (caCons (cVar 5) caNil))) (gSet 9) (ctV (cOp2 mLe (cSl (cVar 5) (some (cVar 9)) none) (cVar 5))) (cVar 9))) (cFz (clDisp caNil))) e).wp (Nx I2) := by
  obtain ⟨h0, ns, h5, hl⟩ := h
  refine set_wp ?_
  rw [none_bad (n := ns.length) (P := fun i => HT.lexLt ns (ns.drop (i + 1))) (e1 := []) (by rw [len_t (var_eq h5), List.length_map]) (by omega) (fun i hi => ?_) (h0.lt (by decide)) (by show (e.set 9 .no).length = _; rw [List.length_set])]
  · exact ⟨h0.set (by decide) _, ns, by rw [List.getElem?_set_ne (by decide)]; exact h5, hl, List.getElem?_set_self (h0.lt (by decide))⟩
  · have e5 : ((e.set 9 .no).set 9 (.val (.int (1 + (i : Nat)))))[5]? = some (.val (tpI ns)) := by rw [List.getElem?_set_ne (by decide), List.getElem?_set_ne (by decide)]; exact h5
    have e9 : ((e.set 9 .no).set 9 (.val (.int (1 + (i : Nat)))))[9]? = some (.val (.int (1 + (i : Nat)))) := List.getElem?_set_self (by rw [List.length_set]; exact h0.lt (by decide))
    show (ctV (cOp2 mLe (cSl (cVar 5) (some (cVar 9)) none) (cVar 5)) ((e.set 9 .no).set 9 (.val (.int (1 + (i : Nat)))))) = _
    unfold ctV
    rw [op2_eq (x := tpI (ns.drop (i + 1))) (y := tpI ns) ?_ (var_eq e5), le_tI]
    · rfl
    · unfold cSl
      rw [var_eq e5]
      show ((optI (some (cVar 9)) _).bind _) = _
      rw [optI_eq (var_eq e9)]
      show M.ret (PyData.tuple (cutD (ns.map PyData.int) (some (1 + (i : Nat))) none)) = _
      rw [one_add, cut_from, ← List.map_drop]
theorem rep_bools (b : Bool) : repb (.list [.bool b, .bool b]) = true := by cases b <;> decide +kernel
theorem step4 {e : En} (h : I2 e) : (sIf (ctV (cOp2 mNeS (cCall mRepr (caCons (cFz (clDisp (caCons (cCall m_is_pattern (caCons (cVar 5) caNil)) (caCons (cVar 18) caNil)))) caNil)) (cCall mRepr (caCons (cOp2 mMulT (cFz (clDisp (caCons (cCall m__law_is_least (caCons (cVar 5) caNil)) caNil))) (cC (.int 2))) caNil)))) (sRet (cC (.bool false))) sNil e).wp (Nx I0) := by
  obtain ⟨h0, ns, h5, hl, h18⟩ := h
  refine ifno_wp (M.wp_bind.mpr (reprNe_wp ?_))
  rw [disp_eq (ds := [.bool (patB ns), .bool (patB ns)]) ?_ (by show 2 ≤ 1000000; decide)]
  · rw [op2_eq (x := .list [.bool (patB ns)]) (y := .int 2) (disp_eq (ds := [.bool (patB ns)]) ?_ (by show 1 ≤ 1000000; decide)) rfl]
    · exact ⟨rfl, rep_bools _, rfl, e, rfl, h0⟩
    · simp only [caCons, caNil, cCall, var_eq h5, M.ret_bind, isLeast ns (by omega : ns.length ≤ 1000), ← pat_least]
  · simp only [caCons, caNil, cCall, var_eq h5, var_eq h18, M.ret_bind, isPat ns (by omega : ns.length ≤ 1000)]
theorem b7_wp {e : En} (h : I0 e) : (law_b7 e).wp (Nx I0) :=
  seq_wp (step1 h) fun _ h1 => seq_wp (step2 h1) fun _ h2 => seq_wp (step3 h2) fun _ h3 => step4 h3
/-! ### the law -/
theorem tail_wp {e : En} (h : I0 e) : (sSeq law_s8 law_s9 e).wp fun r => r.1 = .rt (.bool true) := by
  refine seq_wp (I := I0) ?_ fun e' h' => rfl
  show ((ciRange1 (cC (.int 6)) e).bind fun ds => forGo (gSet 14) law_b7 ds e).wp _
  refine M.wp_bind.mpr (rng_wp (show (M.ret (PyData.int 6)).wp _ from ⟨6, rfl, by decide, ?_⟩))
  exact for_inv (fun d hd e' h' => b7_wp (h'.set (by decide) _)) h
theorem frz_wp {i : Nat} {a : CS} {e : En} {Q : Fl × En → Prop} (h : okb (sFrzT i sNil e) nxb = true) (q : (a (nxE (sFrzT i sNil e))).wp Q) : (sFrzT i a e).wp Q := by
  unfold sFrzT sNil at *
  revert h q
  generalize e[i]? = x
  intro h q
  rcases x with _ | x
  · cases h
  · cases x <;> first | (cases h; done) | exact q
theorem s3_wp {e : En} (h : sameb (repL3 e) (repR3 e) = true) : (law_s3 e).wp (Nx fun e' => e' = e) :=
  ifno_wp (M.wp_bind.mpr (reprNe_wp (same_wp h ⟨rfl, e, rfl, rfl⟩)))
theorem s5_wp {e : En} (h : sameb (repL5 e) (repR5 e) = true) : (law_s5 e).wp (Nx fun e' => e' = e) :=
  ifno_wp (M.wp_bind.mpr (reprNe_wp (same_wp h ⟨rfl, e, rfl, rfl⟩)))
theorem isEnd_I0 {r : Fl × En} (h : isEnd r = true) : Nx I0 r := by
  obtain ⟨f, e⟩ := r
  cases f <;> first | (cases h; done) | skip
  simp only [isEnd, Bool.and_eq_true, decide_eq_true_eq] at h
  refine ⟨e, rfl, ?_, h.2⟩
  have h1 := h.1
  revert h1
  cases e[1]? with
  | none => intro h1; cases h1
  | some s => cases s <;> intro h1 <;> first | rfl | cases h1
/-- with the frames told -/
theorem world_gen {e0 e2 e4 e5 : En} (h2 : law_s2 e0 = .ret (.nx, e2)) (h3 : sameb (repL3 e2) (repR3 e2) = true) (h4 : law_s4 e2 = .ret (.nx, e4)) (hf : okb (sFrzT 6 sNil e4) nxb = true) (he : nxE (sFrzT 6 sNil e4) = e5)
    (h5 : sameb (repL5 e5) (repR5 e5) = true) (h6 : okb (sSeq law_s6 law_s7 e5) isEnd = true) :
    (sSeq law_s2 (sSeq law_s3 (sSeq law_s4 (sFrzT 6 (sSeq law_s5 (sSeq law_s6 (sSeq law_s7 (sSeq law_s8 law_s9))))))) e0).wp fun r => r.1 = .rt (.bool true) := by
  rw [seq_eq h2]
  refine seq_wp (s3_wp h3) ?_
  intro e' e1
  subst e1
  rw [seq_eq h4]
  refine frz_wp hf ?_
  rw [he]
  refine seq_wp (s5_wp h5) ?_
  intro e' e1
  subst e1
  rw [seq_assoc]
  exact seq_wp (I := I0) (okb_wp h6 fun r hr => isEnd_I0 hr) fun e' h' => tail_wp h'
theorem world_wp {k c : Int} (h : okW k c = true) : (sSeq law_s2 (sSeq law_s3 (sSeq law_s4 (sFrzT 6 (sSeq law_s5 (sSeq law_s6 (sSeq law_s7 (sSeq law_s8 law_s9))))))) (e0 k c)).wp fun r => r.1 = .rt (.bool true) := by
  unfold okW at h
  rw [Bool.and_eq_true, Bool.and_eq_true, Bool.and_eq_true, Bool.and_eq_true, Bool.and_eq_true] at h
  obtain ⟨⟨⟨⟨⟨h2, h3⟩, h4⟩, hf⟩, h5⟩, h6⟩ := h
  exact world_gen (nx_ret h2) h3 (nx_ret h4) hf (Eq.refl (E5 k c)) h5 h6
theorem law_true : (lawM 22 1 cs_law).wp fun d => d = .bool true := by
  refine M.wp_bind.mpr (M.wp_mono (fun r q => ?_) (?_ : (cs_law (envLaw 22 1)).wp fun r => r.1 = .rt (.bool true)))
  · obtain ⟨f, e⟩ := r
    cases q
    rfl
  refine seq_wp (I := fun e => ∃ k c, okW k c = true ∧ e = e0 k c) ?_ fun e h => ?_
  · refine M.wp_bind.mpr (callS1_wp rfl ?_)
    rw [disp_eq (ds := [tpI [2, 2], tpI [2, 3], tpI [2, 4], tpI [3, 2], tpI [3, 3], tpI [4, 2]]) rfl (by decide)]
    show (m__law_of [.list _]).wp _
    refine lawOf_wp (by decide) (by decide) fun x hx => ?_
    simp only [List.mem_cons, List.not_mem_nil, or_false] at hx
    rcases hx with rfl | rfl | rfl | rfl | rfl | rfl
    · exact ⟨_, rfl, 2, 2, w22, rfl⟩
    · exact ⟨_, rfl, 2, 3, w23, rfl⟩
    · exact ⟨_, rfl, 2, 4, w24, rfl⟩
    · exact ⟨_, rfl, 3, 2, w32, rfl⟩
    · exact ⟨_, rfl, 3, 3, w33, rfl⟩
    · exact ⟨_, rfl, 4, 2, w42, rfl⟩
  · obtain ⟨k, c, hw, rfl⟩ := h
    exact world_wp hw
end W
namespace W
open PySem PySem.Spec PyProof.Rows L2 DL
def topS (i : Nat) : Stmt := PySem.Challenge.pw_deeplots_k10_patterns_by_all_later_parts.main.body.getD i (.Pass ⟨0, 0, 0, 0⟩)
abbrev s_rows_told : Stmt := topS 1
theorem sc_rows_told : FnScope ["k", "c", "found", "layer", "lap", "late", "row", "letter"] ["k", "c"] (defScope s_rows_told) := ⟨rfl, rfl, rfl, by decide +kernel, rfl, by decide +kernel, by decide +kernel⟩
abbrev s_is_pattern : Stmt := topS 2
theorem sc_is_pattern : FnScope ["row", "place"] ["row"] (defScope s_is_pattern) := ⟨rfl, rfl, rfl, by decide +kernel, rfl, by decide +kernel, by decide +kernel⟩
abbrev s_patterns_told : Stmt := topS 3
theorem sc_patterns_told : FnScope ["k", "c", "row"] ["k", "c"] (defScope s_patterns_told) := ⟨rfl, rfl, rfl, by decide +kernel, rfl, by decide +kernel, by decide +kernel⟩
abbrev s__law_source : Stmt := topS 5
theorem sc__law_source : FnScope ["script", "mixed", "cell"] ["script"] (defScope s__law_source) := ⟨rfl, rfl, rfl, by decide +kernel, rfl, by decide +kernel, by decide +kernel⟩
abbrev s__law_pick : Stmt := topS 6
theorem sc__law_pick : FnScope ["source", "many", "left", "mixed"] ["source", "many"] (defScope s__law_pick) := ⟨rfl, rfl, rfl, by decide +kernel, rfl, by decide +kernel, by decide +kernel⟩
abbrev s__law_of : Stmt := topS 7
theorem sc__law_of : FnScope ["source", "some"] ["source", "some"] (defScope s__law_of) := ⟨rfl, rfl, rfl, by decide +kernel, rfl, by decide +kernel, by decide +kernel⟩
abbrev s__law_rows : Stmt := topS 8
theorem sc__law_rows : FnScope ["k", "c", "found", "many", "code", "row", "rest", "lap"] ["k", "c"] (defScope s__law_rows) := ⟨rfl, rfl, rfl, by decide +kernel, rfl, by decide +kernel, by decide +kernel⟩
abbrev s__law_times : Stmt := topS 9
theorem sc__law_times : FnScope ["k", "many", "found", "lap"] ["k", "many"] (defScope s__law_times) := ⟨rfl, rfl, rfl, by decide +kernel, rfl, by decide +kernel, by decide +kernel⟩
abbrev s__law_is_least : Stmt := topS 10
theorem sc__law_is_least : FnScope ["row", "k"] ["row"] (defScope s__law_is_least) := ⟨rfl, rfl, rfl, by decide +kernel, rfl, by decide +kernel, by decide +kernel⟩
abbrev s__law_cut : Stmt := topS 11
theorem sc__law_cut : FnScope ["row", "found", "left", "many", "k"] ["row"] (defScope s__law_cut) := ⟨rfl, rfl, rfl, by decide +kernel, rfl, by decide +kernel, by decide +kernel⟩
abbrev s_law : Stmt := topS 12
theorem sc_law : FnScope ["script", "source", "k", "c", "rows", "row", "some", "many", "alone", "j", "turned", "cuts", "found", "ways", "lap", "late", "ahead", "left", "due", "one", "pair", "turn"] ["script"] (defScope s_law) := ⟨rfl, rfl, rfl, by decide +kernel, rfl, by decide +kernel, by decide +kernel⟩
/-! ### what the top has left -/
structure Facts (K : PySem.W.Frag) (mg : Str → Option Value) where
  f_rows_told : Addr
  fd_rows_told : FuncData
  F_rows_told : Fun K "rows_told" "rows_told" s_rows_told f_rows_told fd_rows_told
  b_rows_told : Binds K fd_rows_told ["k", "c"] []
  g_rows_told : mg "rows_told" = some (.ref f_rows_told)
  f_is_pattern : Addr
  fd_is_pattern : FuncData
  F_is_pattern : Fun K "is_pattern" "is_pattern" s_is_pattern f_is_pattern fd_is_pattern
  b_is_pattern : Binds K fd_is_pattern ["row"] []
  g_is_pattern : mg "is_pattern" = some (.ref f_is_pattern)
  f_patterns_told : Addr
  fd_patterns_told : FuncData
  F_patterns_told : Fun K "patterns_told" "patterns_told" s_patterns_told f_patterns_told fd_patterns_told
  b_patterns_told : Binds K fd_patterns_told ["k", "c"] []
  g_patterns_told : mg "patterns_told" = some (.ref f_patterns_told)
  f__law_source : Addr
  fd__law_source : FuncData
  F__law_source : Fun K "_law_source" "_law_source" s__law_source f__law_source fd__law_source
  b__law_source : Binds K fd__law_source ["script"] []
  g__law_source : mg "_law_source" = some (.ref f__law_source)
  f__law_pick : Addr
  fd__law_pick : FuncData
  F__law_pick : Fun K "_law_pick" "_law_pick" s__law_pick f__law_pick fd__law_pick
  b__law_pick : Binds K fd__law_pick ["source", "many"] []
  g__law_pick : mg "_law_pick" = some (.ref f__law_pick)
  f__law_of : Addr
  fd__law_of : FuncData
  F__law_of : Fun K "_law_of" "_law_of" s__law_of f__law_of fd__law_of
  b__law_of : Binds K fd__law_of ["source", "some"] []
  g__law_of : mg "_law_of" = some (.ref f__law_of)
  f__law_rows : Addr
  fd__law_rows : FuncData
  F__law_rows : Fun K "_law_rows" "_law_rows" s__law_rows f__law_rows fd__law_rows
  b__law_rows : Binds K fd__law_rows ["k", "c"] []
  g__law_rows : mg "_law_rows" = some (.ref f__law_rows)
  f__law_times : Addr
  fd__law_times : FuncData
  F__law_times : Fun K "_law_times" "_law_times" s__law_times f__law_times fd__law_times
  b__law_times : Binds K fd__law_times ["k", "many"] []
  g__law_times : mg "_law_times" = some (.ref f__law_times)
  f__law_is_least : Addr
  fd__law_is_least : FuncData
  F__law_is_least : Fun K "_law_is_least" "_law_is_least" s__law_is_least f__law_is_least fd__law_is_least
  b__law_is_least : Binds K fd__law_is_least ["row"] []
  g__law_is_least : mg "_law_is_least" = some (.ref f__law_is_least)
  f__law_cut : Addr
  fd__law_cut : FuncData
  F__law_cut : Fun K "_law_cut" "_law_cut" s__law_cut f__law_cut fd__law_cut
  b__law_cut : Binds K fd__law_cut ["row"] []
  g__law_cut : mg "_law_cut" = some (.ref f__law_cut)
  f_law : Addr
  fd_law : FuncData
  F_law : Fun K "law" "law" s_law f_law fd_law
  b_law : Binds K fd_law ["script"] []
  g_law : mg "law" = some (.ref f_law)
  m_abs : mg "abs" = none
  m_all : mg "all" = none
  m_dict : mg "dict" = none
  m_int : mg "int" = none
  m_len : mg "len" = none
  m_max : mg "max" = none
  m_range : mg "range" = none
  m_repr : mg "repr" = none
  m_tuple : mg "tuple" = none
section
variable {P : Program} {w : World} {K : PySem.W.Frag} {mg : Str → Option Value} {base : Heap}

theorem ok__law_pick (T : Facts K mg) : FnOk P w K mg base CX0 1 T.f__law_pick T.fd__law_pick ["source", "many"] (spS K mPickB) := by
  refine T.F__law_pick.ok (k := 0) sc__law_pick (fun vs H Q E ⟨s, c, us, ds, e, _, r, q⟩ => ?_) (fun cdv A outer s0 H vs Q E hr ⟨s, c, us, ds, e, k0, r, q⟩ => ?_)
  · rw [e, List.length_cons, r.length, mPickB_arity ds _ q]; rfl
  have hu := hu_of hr
  refine ⟨_, pss_cons (ps_while PassesOwn.never (PW.pt (pw_and (pt_cmpR op_gt (pv 1) pe_int (nomark _)) (pw_and (pt_cmpR op_lt (pe_dget hu (pv 0) pe_str (fun _ _ => rfl)) pe_int (nomark _)) (pw_and1 (pt_cmpR op_gt (pe_callB call_len_seq (by rfl) T.m_len PySem.boot_len (pa_cons (pe_dget hu (pv 0) pe_str (fun _ _ => rfl)) pa_nil)) pe_int (nomark _))))))
      (pss_one (ps_dput hu (pv 0) pe_str (pe_bm0 PySem.F.plainAttrs_list PySem.F.slot_list_pop PySem.F.type_list_pop mt_pop (pe_dget hu (pv 0) pe_str (fun _ _ => rfl))) rfl)))
    (pss_cons (ps_set (i := 2) sc__law_pick.nd rfl (.inl rfl) (pe_dget hu (pv 0) pe_str (fun _ _ => rfl)))
    (pss_cons (ps_if (PW.pt (pw_or (pt_cmpR op_lt (pv 1) pe_int (nomark _)) (pw_or1 (pt_cmpR op_gt (pv 2) pe_int (nomark _)))))
      (pss_cons (ps_dput hu (pv 0) pe_str (pe_op op_fdivN (pv 2) (pe_callB (call_max2 rfl) (by rfl) T.m_max (by decide +kernel) (pa_cons pe_int (pa_cons (pv 1) pa_nil)))) rfl)
        (pss_one (ps_ret (pe_op op_modN (pe_callTy call_int1 (by rfl) T.m_int (by decide +kernel) (pa_cons (pv 2) pa_nil)) (pe_callB (call_max2 rfl) (by rfl) T.m_max (by decide +kernel) (pa_cons pe_int (pa_cons (pv 1) pa_nil)))))))
      pss_nil)
    (pss_cons (ps_dput hu (pv 0) pe_str (pe_op op_add (pe_dget hu (pv 0) pe_str (fun _ _ => rfl)) pe_int) rfl)
    (pss_cons (ps_set (i := 3) sc__law_pick.nd rfl (.inl rfl) (pe_op op_modN (pe_callTy call_int1 (by rfl) T.m_int (by decide +kernel) (pa_cons (pe_op op_add (pe_dget hu (pv 0) pe_str (fun _ _ => rfl)) (pe_op op_mul (pe_dget hu (pv 0) pe_str (fun _ _ => rfl)) pe_int)) pa_nil)) pe_int))
    (pss_cons (ps_set (i := 3) sc__law_pick.nd rfl (.inl rfl) (pe_op op_modN (pe_callTy call_int1 (by rfl) T.m_int (by decide +kernel) (pa_cons (pe_op op_add (pe_op op_mul (pv 3) (pv 3)) (pe_op op_mul (pe_dget hu (pv 0) pe_str (fun _ _ => rfl)) pe_int)) pa_nil)) pe_int))
    (pss_cons (ps_dput hu (pv 0) pe_str (pv 3) rfl)
    (pss_one (ps_ret (pe_op op_modN (pe_callTy call_int1 (by rfl) T.m_int (by decide +kernel) (pa_cons (pe_op op_fdivN (pv 3) pe_int) pa_nil)) (pv 1)))))))))), ?_⟩
  subst e
  obtain ⟨n, rfl, hn, q⟩ := mPickB_wp q
  obtain ⟨v1, rfl, r1⟩ := pair1 r.pairedR
  cases r1
  obtain ⟨nsc, cells, left, mixed, turn, hc, hs, hp, h1, h2, h3, h4⟩ := k0
  -- the state behind so many cells
  refine ⟨fun m σ H2 => ∃ (cells2 : List Int) (left2 : Int), m = cells2.length ∧ σ = [some (.ref s), some (.int n), none, none] ∧ SameX (some (s, c)) H H2 ∧ H2 c = some (.lst (cells2.map V.int)) ∧ H2 s = some (.dK (srcD c left2 mixed turn)) ∧ (∀ x ∈ cells2, 0 ≤ x) ∧ 0 ≤ left2,
    ⟨cells.length, cells, left, rfl, rfl, SameX.refl _, hc, hs, hp, h1⟩, ?_⟩
  rintro m σ H2 ⟨cells2, left2, rfl, rfl, sm, hc2, hs2, hp2, hl2⟩
  have done : ∀ (D : Ends), (∀ v H', D.rt v H' = Q v H') → tPickEnd D [some (.ref s), some (.int n), none, none] H2 := fun D hD => pick_end n hn q nsc sm hc2 hs2 hp2 hl2 h2 h3 h4 D hD
  -- many > 1
  refine ⟨_, rfl, n, 1, rfl, rfl, _, rfl, ite2 (fun g1 => ?_) (fun g1 => done _ fun _ _ => rfl)⟩
  -- source['left'] < 2
  refine ⟨_, rfl, s, _, rfl, .inl ⟨_, .inr "left", .inl hs2, rfl, (srcD_gl _ _ _ _).symm⟩, left2, 2, rfl, rfl, _, rfl, ite2 (fun g2 => ?_) (fun g2 => done _ fun _ _ => rfl)⟩
  -- len(source['cells']) > 0
  refine ⟨_, rfl, s, _, rfl, .inl ⟨_, .inr "cells", .inl hs2, rfl, (srcD_gc _ _ _ _).symm⟩, c, _, rfl, .inl (SqL.of hc2), _, _, rfl, rfl, _, rfl, ?_⟩
  refine ite2 (fun g3 => ?_) (fun g3 => done _ fun _ _ => rfl)
  rw [List.length_map] at g3
  have g3' : 0 < cells2.length := by have := of_decide_eq_true g3; omega
  refine ⟨fun σ' H' => ∃ (cells3 : List Int) (left3 : Int), cells3.length < cells2.length ∧ σ' = [some (.ref s), some (.int n), none, none] ∧ SameX (some (s, c)) H H' ∧ H' c = some (.lst (cells3.map V.int)) ∧ H' s = some (.dK (srcD c left3 mixed turn)) ∧ (∀ x ∈ cells3, 0 ≤ x) ∧ 0 ≤ left3, fun σ' H' ⟨cells3, left3, z, e⟩ => ⟨cells3.length, z, cells3, left3, rfl, e⟩, ?_⟩
  have ncs : c ≠ s := fun z => nsc z.symm
  have hlast : (cells2.map V.int)[(cells2.map V.int).length - 1]? = some (.int cells2[cells2.length - 1]) := by
    rw [List.length_map, List.getElem?_map, List.getElem?_eq_getElem (by omega)]
    rfl
  refine ⟨_, rfl, s, _, rfl, .inl ⟨_, .inr "cells", .inl hs2, rfl, (srcD_gc _ _ _ _).symm⟩, .inl ⟨rfl, _, SqL.of hc2⟩, c, _, _, rfl, rfl, hc2, hlast, ?_⟩
  have hs3 : upd H2 c (.lst (cells2.map V.int).dropLast) s = some (.dK (srcD c left2 mixed turn)) := by rw [upd_ne nsc]; exact hs2
  refine ⟨_, rfl, s, _, rfl, .inl ⟨_, .inr "left", hs3, rfl, (by show 4 < sizeLine; decide), rfl⟩, cells2.dropLast, cells2[cells2.length - 1], ?_, rfl, ?_, ?_, ?_, fun x hx => hp2 x (List.dropLast_subset _ hx), hp2 _ (List.getElem_mem _)⟩
  · rw [List.length_dropLast]; omega
  · intro b o nb e
    have n1 : b ≠ s := fun z => nb (.inl z)
    have n2 : b ≠ c := fun z => nb (.inr z)
    rw [upd_ne n1, upd_ne n2]
    exact sm b o nb e
  · rw [upd_ne ncs, upd_same, List.map_dropLast]
  · rw [upd_same, srcD_left]


theorem ok__law_source (T : Facts K mg) : FnOk P w K mg base CX0 1 T.f__law_source T.fd__law_source ["script"] (spSrc K) := by
  refine T.F__law_source.ok (k := 0) sc__law_source (fun vs H Q E ⟨a, ns, e, _⟩ => by rw [e]; rfl) (fun cdv A outer s0 H vs Q E hr ⟨a, ns, e, hS, hlen, q⟩ => ?_)
  subst e
  refine ⟨_, pss_cons (ps_set (i := 1) sc__law_source.nd rfl (.inl rfl) pe_int)
    (pss_cons (ps_for PassesOwn.never rfl (pi_list (pv 0)) (pg_name (i := 2) sc__law_source.nd rfl (.inl rfl)) (pss_one (ps_set (i := 1) sc__law_source.nd rfl (.inl rfl)
      (pe_op op_modN (pe_callTy call_int1 (by rfl) T.m_int (by decide +kernel) (pa_cons (pe_op op_add (pe_op op_add (pe_op op_mul (pv 1) pe_int) (pe_op op_mul (pv 2) pe_int)) pe_int) pa_nil)) pe_int))))
    (pss_one (ps_ret (pe_disp (pps_cons pe_str (pe_revL (pe_lc rfl sc__law_source.nd (own := [("cell", 2)]) (pi_list (pv 0)) (blkOk_by (N := ["script", "mixed", "cell"]) (sc := (defScope s__law_source)) (by decide +kernel)) (fun _ _ _ _ _ => pg_name (i := 2) sc__law_source.nd rfl (.inl rfl)) (fun _ _ _ _ _ => pts_nil)
        (fun _ _ _ _ _ => pe_callB call_abs (by rfl) T.m_abs (by decide +kernel) (pa_cons (pv 2) pa_nil))))
      (pps_cons pe_str pe_int (pps_cons pe_str (pv 1) (pps_cons pe_str pe_int pps_nil)))) rfl rfl (by decide) (by decide))))), ?_⟩
  exact source_end hS hlen (fun _ _ => rfl) q

theorem ok_rows_told (T : Facts K mg) : FnOk P w K mg base CX0 1 T.f_rows_told T.fd_rows_told ["k", "c"] (spD K m_rows_told) :=
  fn_okD (k := 0) T.F_rows_told sc_rows_told (fun cdv A outer s H E Z hr => (db_cons (ds_par (i := 2) (j := 3) rfl sc_rows_told.nd rfl rfl (by decide) rfl rfl (dx_o (dl_disp da_nil)) (dx_v (dv_fz (dl_disp (da_cons (dv_tup da_nil) da_nil)))) rfl) (db_cons (ds_for PassesOwn.never rfl (di_range1 (by rfl) T.m_range (dp_of (dv_var (pe_var (i := 1) rfl (.inl rfl))))) (dg_name (i := 4) sc_rows_told.nd rfl (.inl rfl)) (cb := rows_told_b2) (db_cons (ds_own (i := 5) sc_rows_told.nd rfl (.inl rfl) (dl_disp da_nil)) (db_cons (ds_for PassesOwn.never rfl (di_seq (dv_var (pe_var (i := 3) rfl (.inl rfl)))) (dg_name (i := 6) sc_rows_told.nd rfl (.inr rfl)) (cb := rows_told_b1) (db_one (ds_extendN (pe_var (i := 5) rfl (.inl rfl)) (dl_comp rfl sc_rows_told.nd (own := [("letter", 7)]) (blkOk_by (N := ["k", "c", "found", "layer", "lap", "late", "row", "letter"]) (sc := (defScope s_rows_told)) (by decide +kernel)) (by decide) (di_range2 (by rfl) T.m_range (dp_of dv_int) (dp_of (dv_op dop_add (dp_of (dv_var (pe_var (i := 0) rfl (.inl rfl)))) (dp_of dv_int)))) (fun _ _ _ _ _ => (dg_name (i := 7) sc_rows_told.nd rfl (.inl rfl))) (fun _ _ _ _ _ => dts_nil) (fun _ _ _ _ _ => (dv_tup (da_star (dp_of (dv_var (pe_var (i := 6) rfl (.inr (.inl rfl))))) (da_cons (dv_var (pe_var (i := 7) rfl (.inl rfl))) da_nil))))) (fun ha => pe_bm PySem.F.plainAttrs_list PySem.F.slot_list_extend PySem.F.type_list_extend mt_extend (pe_var (i := 5) rfl (.inl rfl)) ha)))) (db_cons (ds_extendO (by decide) (pe_var (i := 2) rfl (.inl rfl)) (pe_var (i := 5) rfl (.inl rfl)) (fun ha => pe_bm PySem.F.plainAttrs_list PySem.F.slot_list_extend PySem.F.type_list_extend mt_extend (pe_var (i := 2) rfl (.inl rfl)) ha)) (db_frzT (i := 5) (db_one (ds_set (i := 3) sc_rows_told.nd rfl (.inl rfl) (dv_var (pe_var (i := 5) rfl (.inl rfl)))))))))) (db_one (ds_ret (dv_callTy bc_tuple (by rfl) T.m_tuple (by decide +kernel) (dap_cons (dp_var (pe_var (i := 2) rfl (.inl rfl))) dap_nil)))))))
theorem ok_is_pattern (T : Facts K mg) : FnOk P w K mg base CX0 1 T.f_is_pattern T.fd_is_pattern ["row"] (spD K m_is_pattern) :=
  fn_okD (k := 0) T.F_is_pattern sc_is_pattern (fun cdv A outer s H E Z hr => (db_one (ds_ret (dv_callB (bc_all rfl) (by rfl) T.m_all (by decide +kernel) (dap_cons (dp_new (dl_comp rfl sc_is_pattern.nd (own := [("place", 1)]) (blkOk_by (N := ["row", "place"]) (sc := (defScope s_is_pattern)) (by decide +kernel)) (by decide) (di_range2 (by rfl) T.m_range (dp_of dv_int) (dp_of (dv_callB bc_lenD (by rfl) T.m_len (by decide +kernel) (dap_cons (dp_of (dv_var (pe_var (i := 0) rfl (.inr (.inl rfl))))) dap_nil)))) (fun _ _ _ _ _ => (dg_name (i := 1) sc_is_pattern.nd rfl (.inl rfl))) (fun _ _ _ _ _ => dts_nil) (fun _ _ _ _ _ => (dv_cmp (dop_lt hr.units0) (nomark _) (dp_of (dv_var (pe_var (i := 0) rfl (.inr (.inl rfl))))) (dp_of (dv_sl (dp_of (dv_var (pe_var (i := 0) rfl (.inr (.inl rfl))))) (do_some (dp_of (dv_var (pe_var (i := 1) rfl (.inl rfl))))) do_none)))))) dap_nil)))))
theorem ok_patterns_told (T : Facts K mg) : FnOk P w K mg base CX0 2 T.f_patterns_told T.fd_patterns_told ["k", "c"] (spD K m_patterns_told) :=
  fn_okD (k := 1) T.F_patterns_told sc_patterns_told (fun cdv A outer s H E Z hr => (db_one (ds_ret (dv_callTy bc_tuple (by rfl) T.m_tuple (by decide +kernel) (dap_cons (dp_new (dl_comp rfl sc_patterns_told.nd (own := [("row", 2)]) (blkOk_by (N := ["k", "c", "row"]) (sc := (defScope s_patterns_told)) (by decide +kernel)) (by decide) (di_seq (dv_call (ok_rows_told T) (hr.mono (by decide)) (by rfl) T.g_rows_told T.F_rows_told.kp T.b_rows_told (da_cons (dv_var (pe_var (i := 0) rfl (.inl rfl))) (da_cons (dv_var (pe_var (i := 1) rfl (.inl rfl))) da_nil)))) (fun _ _ _ _ _ => (dg_name (i := 2) sc_patterns_told.nd rfl (.inl rfl))) (fun _ _ _ _ _ => (dts_one (dt_val (dp_of (dv_call (ok_is_pattern T) (hr.mono (by decide)) (by rfl) T.g_is_pattern T.F_is_pattern.kp T.b_is_pattern (da_cons (dv_var (pe_var (i := 2) rfl (.inl rfl))) da_nil)))))) (fun _ _ _ _ _ => (dv_var (pe_var (i := 2) rfl (.inl rfl)))))) dap_nil)))))
theorem ok__law_of (T : Facts K mg) : FnOk P w K mg base CX0 2 T.f__law_of T.fd__law_of ["source", "some"] (spS K m__law_of) :=
  fn_okS (k := 1) T.F__law_of sc__law_of (List.cons_ne_nil _ _) (fun cdv A outer s H E S Z hr => (db_one (ds_ret (dv_ix (dp_of (dv_var (pe_var (i := 1) rfl (.inl rfl)))) (dp_of (dv_callS (pe_var (i := 0) rfl (.inl rfl)) (ok__law_pick T) (hr.mono (by decide)) (by rfl) T.g__law_pick T.F__law_pick.kp T.b__law_pick (da_cons (dv_callB bc_lenD (by rfl) T.m_len (by decide +kernel) (dap_cons (dp_of (dv_var (pe_var (i := 1) rfl (.inl rfl)))) dap_nil)) da_nil)))))))
theorem ok__law_times (T : Facts K mg) : FnOk P w K mg base CX0 1 T.f__law_times T.fd__law_times ["k", "many"] (spD K m__law_times) :=
  fn_okD (k := 0) T.F__law_times sc__law_times (fun cdv A outer s H E Z hr => (db_cons (ds_set (i := 2) sc__law_times.nd rfl (.inl rfl) dv_int) (db_cons (ds_for PassesOwn.never rfl (di_range1 (by rfl) T.m_range (dp_of (dv_var (pe_var (i := 1) rfl (.inl rfl))))) (dg_name (i := 3) sc__law_times.nd rfl (.inl rfl)) (cb := _law_times_b1) (db_one (ds_set (i := 2) sc__law_times.nd rfl (.inl rfl) (dv_op dop_mulT (dp_of (dv_var (pe_var (i := 2) rfl (.inl rfl)))) (dp_of (dv_var (pe_var (i := 0) rfl (.inl rfl)))))))) (db_one (ds_ret (dv_var (pe_var (i := 2) rfl (.inl rfl))))))))
theorem ok__law_rows (T : Facts K mg) : FnOk P w K mg base CX0 2 T.f__law_rows T.fd__law_rows ["k", "c"] (spD K m__law_rows) :=
  fn_okD (k := 1) T.F__law_rows sc__law_rows (fun cdv A outer s H E Z hr => (db_cons (ds_own (i := 2) sc__law_rows.nd rfl (.inl rfl) (dl_disp da_nil)) (db_cons (ds_for PassesOwn.never rfl (di_range2 (by rfl) T.m_range (dp_of dv_int) (dp_of (dv_op dop_add (dp_of (dv_var (pe_var (i := 1) rfl (.inl rfl)))) (dp_of dv_int)))) (dg_name (i := 3) sc__law_rows.nd rfl (.inl rfl)) (cb := _law_rows_b3) (db_one (ds_for PassesOwn.never rfl (di_range1 (by rfl) T.m_range (dp_of (dv_call (ok__law_times T) (hr.mono (by decide)) (by rfl) T.g__law_times T.F__law_times.kp T.b__law_times (da_cons (dv_var (pe_var (i := 0) rfl (.inl rfl))) (da_cons (dv_var (pe_var (i := 3) rfl (.inl rfl))) da_nil))))) (dg_name (i := 4) sc__law_rows.nd rfl (.inl rfl)) (cb := _law_rows_b2) (db_cons (ds_par (i := 5) (j := 6) rfl sc__law_rows.nd rfl rfl (by decide) rfl rfl (dx_o (dl_disp da_nil)) (dx_v (dv_var (pe_var (i := 4) rfl (.inl rfl)))) rfl) (db_cons (ds_for PassesOwn.never rfl (di_range1 (by rfl) T.m_range (dp_of (dv_var (pe_var (i := 3) rfl (.inl rfl))))) (dg_name (i := 7) sc__law_rows.nd rfl (.inl rfl)) (cb := _law_rows_b1) (db_cons (ds_append (pe_var (i := 5) rfl (.inl rfl)) (dv_op dop_add (dp_of dv_int) (dp_of (dv_op dop_mod (dp_of (dv_callTy bc_int (by rfl) T.m_int (by decide +kernel) (dap_cons (dp_of (dv_var (pe_var (i := 6) rfl (.inl rfl)))) dap_nil))) (dp_of (dv_var (pe_var (i := 0) rfl (.inl rfl))))))) (fun ha => pe_bm PySem.F.plainAttrs_list PySem.F.slot_list_append PySem.F.type_list_append mt_append (pe_var (i := 5) rfl (.inl rfl)) ha)) (db_one (ds_set (i := 6) sc__law_rows.nd rfl (.inl rfl) (dv_op dop_fdiv (dp_of (dv_var (pe_var (i := 6) rfl (.inl rfl)))) (dp_of (dv_var (pe_var (i := 0) rfl (.inl rfl))))))))) (db_one (ds_append (pe_var (i := 2) rfl (.inl rfl)) (dv_callTy bc_tuple (by rfl) T.m_tuple (by decide +kernel) (dap_cons (dp_new (dl_rev (dp_var (pe_var (i := 5) rfl (.inl rfl))))) dap_nil)) (fun ha => pe_bm PySem.F.plainAttrs_list PySem.F.slot_list_append PySem.F.type_list_append mt_append (pe_var (i := 2) rfl (.inl rfl)) ha)))))))) (db_frzT (i := 2) (db_one (ds_ret (dv_var (pe_var (i := 2) rfl (.inl rfl)))))))))
theorem ok__law_is_least (T : Facts K mg) : FnOk P w K mg base CX0 1 T.f__law_is_least T.fd__law_is_least ["row"] (spD K m__law_is_least) :=
  fn_okD (k := 0) T.F__law_is_least sc__law_is_least (fun cdv A outer s H E Z hr => (db_one (ds_ret (dv_cmp (dop_eqS hr.units) (nomark _) (dp_new (dl_comp rfl sc__law_is_least.nd (own := [("k", 1)]) (blkOk_by (N := ["row", "k"]) (sc := (defScope s__law_is_least)) (by decide +kernel)) (by decide) (di_range2 (by rfl) T.m_range (dp_of dv_int) (dp_of (dv_callB bc_lenD (by rfl) T.m_len (by decide +kernel) (dap_cons (dp_of (dv_var (pe_var (i := 0) rfl (.inr (.inl rfl))))) dap_nil)))) (fun _ _ _ _ _ => (dg_name (i := 1) sc__law_is_least.nd rfl (.inl rfl))) (fun _ _ _ _ _ => (dts_one (dt_cmp (dop_le hr.units0) (nomark _) (dp_of (dv_op dop_add (dp_of (dv_sl (dp_of (dv_var (pe_var (i := 0) rfl (.inr (.inl rfl))))) (do_some (dp_of (dv_var (pe_var (i := 1) rfl (.inl rfl))))) do_none)) (dp_of (dv_sl (dp_of (dv_var (pe_var (i := 0) rfl (.inr (.inl rfl))))) do_none (do_some (dp_of (dv_var (pe_var (i := 1) rfl (.inl rfl))))))))) (dp_of (dv_var (pe_var (i := 0) rfl (.inr (.inl rfl)))))))) (fun _ _ _ _ _ => (dv_var (pe_var (i := 1) rfl (.inl rfl)))))) (dp_new (dl_disp da_nil))))))
theorem ok__law_cut (T : Facts K mg) : FnOk P w K mg base CX0 2 T.f__law_cut T.fd__law_cut ["row"] (spD K m__law_cut) :=
  fn_okD (k := 1) T.F__law_cut sc__law_cut (fun cdv A outer s H E Z hr => (db_cons (ds_par2 (i := 1) (j := 2) rfl sc__law_cut.nd rfl rfl (by decide) (.inl rfl) (.inr rfl) (dx_o (dl_disp da_nil)) (dx_v (dv_var (pe_var (i := 0) rfl (.inl rfl))))) (db_cons (ds_while (n := 1000000) PassesOwn.never (dt_cmp (dop_neS hr.units) (nomark _) (dp_of (dv_var (pe_var (i := 2) rfl (.inr (.inl rfl))))) (dp_of (dv_tup da_nil))) (cb := _law_cut_b1) (db_cons (ds_set (i := 3) sc__law_cut.nd rfl (.inl rfl) (dv_callB (bc_max rfl) (by rfl) T.m_max (by decide +kernel) (dap_cons (dp_new (dl_comp rfl sc__law_cut.nd (own := [("k", 4)]) (blkOk_by (N := ["row", "found", "left", "many", "k"]) (sc := (defScope s__law_cut)) (by decide +kernel)) (by decide) (di_range2 (by rfl) T.m_range (dp_of dv_int) (dp_of (dv_op dop_add (dp_of (dv_callB bc_lenD (by rfl) T.m_len (by decide +kernel) (dap_cons (dp_of (dv_var (pe_var (i := 2) rfl (.inr (.inl rfl))))) dap_nil))) (dp_of dv_int)))) (fun _ _ _ _ _ => (dg_name (i := 4) sc__law_cut.nd rfl (.inl rfl))) (fun _ _ _ _ _ => (dts_one (dt_val (dp_of (dv_call (ok__law_is_least T) (hr.mono (by decide)) (by rfl) T.g__law_is_least T.F__law_is_least.kp T.b__law_is_least (da_cons (dv_sl (dp_of (dv_var (pe_var (i := 2) rfl (.inr (.inl rfl))))) do_none (do_some (dp_of (dv_var (pe_var (i := 4) rfl (.inl rfl)))))) da_nil)))))) (fun _ _ _ _ _ => (dv_var (pe_var (i := 4) rfl (.inl rfl)))))) dap_nil))) (db_cons (ds_append (pe_var (i := 1) rfl (.inl rfl)) (dv_sl (dp_of (dv_var (pe_var (i := 2) rfl (.inr (.inl rfl))))) do_none (do_some (dp_of (dv_var (pe_var (i := 3) rfl (.inl rfl)))))) (fun ha => pe_bm PySem.F.plainAttrs_list PySem.F.slot_list_append PySem.F.type_list_append mt_append (pe_var (i := 1) rfl (.inl rfl)) ha)) (db_one (ds_set (i := 2) sc__law_cut.nd rfl (.inr rfl) (dv_sl (dp_of (dv_var (pe_var (i := 2) rfl (.inr (.inl rfl))))) (do_some (dp_of (dv_var (pe_var (i := 3) rfl (.inl rfl))))) do_none)))))) (db_frzT (i := 1) (db_one (ds_ret (dv_var (pe_var (i := 1) rfl (.inl rfl)))))))))
theorem ok_law (T : Facts K mg) : FnG P w K mg base 3 T.f_law T.fd_law ["script"] (spLaw K (lawM 22 1 cs_law)) :=
  law_okG (k := 2) 1 T.F_law sc_law (by decide) (by decide) rfl
    (fun cdv A outer s H E hr => ps_set (i := 1) sc_law.nd rfl (.inr rfl) (pe_call (ok__law_source T) (hr.mono (by decide)) (by rfl) T.g__law_source T.F__law_source.kp T.b__law_source .nil pass0 (pa_cons (pv 0) pa_nil)))
    (fun cdv A outer s H E S Z hG hr => (db_cons (ds_asg (dv_callS (pe_var (i := 1) rfl (.inr (.inl rfl))) (ok__law_of T) (hr.mono (by decide)) (by rfl) T.g__law_of T.F__law_of.kp T.b__law_of (da_cons (dv_fz (dl_disp (da_cons (dv_tup (da_cons dv_int (da_cons dv_int da_nil))) (da_cons (dv_tup (da_cons dv_int (da_cons dv_int da_nil))) (da_cons (dv_tup (da_cons dv_int (da_cons dv_int da_nil))) (da_cons (dv_tup (da_cons dv_int (da_cons dv_int da_nil))) (da_cons (dv_tup (da_cons dv_int (da_cons dv_int da_nil))) (da_cons (dv_tup (da_cons dv_int (da_cons dv_int da_nil))) da_nil)))))))) da_nil)) (dg_tup rfl (dgs_cons (dg_name (i := 2) sc_law.nd rfl (.inl rfl)) (dgs_cons (dg_name (i := 3) sc_law.nd rfl (.inl rfl)) dgs_nil)))) (db_cons (ds_set (i := 4) sc_law.nd rfl (.inl rfl) (dv_call (ok__law_rows T) (hr.mono (by decide)) (by rfl) T.g__law_rows T.F__law_rows.kp T.b__law_rows (da_cons (dv_var (pe_var (i := 2) rfl (.inl rfl))) (da_cons (dv_var (pe_var (i := 3) rfl (.inl rfl))) da_nil)))) (db_cons (ds_if (dt_cmp (dop_neS hr.units) (nomark _) (dp_of (dv_callB (bc_repr hG (room66 hr)) (by rfl) T.m_repr (by decide +kernel) (dap_cons (dp_of (dv_call (ok_rows_told T) (hr.mono (by decide)) (by rfl) T.g_rows_told T.F_rows_told.kp T.b_rows_told (da_cons (dv_var (pe_var (i := 2) rfl (.inl rfl))) (da_cons (dv_var (pe_var (i := 3) rfl (.inl rfl))) da_nil)))) dap_nil))) (dp_of (dv_callB (bc_repr hG (room66 hr)) (by rfl) T.m_repr (by decide +kernel) (dap_cons (dp_of (dv_callTy bc_tuple (by rfl) T.m_tuple (by decide +kernel) (dap_cons (dp_of (dv_var (pe_var (i := 4) rfl (.inl rfl)))) dap_nil))) dap_nil)))) (db_one (ds_ret dv_bl)) db_nil) (db_cons (ds_ownLc (i := 6) rfl sc_law.nd rfl rfl (sw_true rfl rfl rfl (by decide +kernel)) (own := [("row", 5)]) (blkOk_by (N := ["script", "source", "k", "c", "rows", "row", "some", "many", "alone", "j", "turned", "cuts", "found", "ways", "lap", "late", "ahead", "left", "due", "one", "pair", "turn"]) (sc := (defScope s_law)) (by decide +kernel)) (by decide) (di_seq (dv_var (pe_var (i := 4) rfl (.inl rfl)))) (fun _ _ _ _ _ => (dg_name (i := 5) sc_law.nd rfl (.inl rfl))) (fun _ _ _ _ _ => (dts_one (dt_val (dp_of (dv_call (ok__law_is_least T) (hr.mono (by decide)) (by rfl) T.g__law_is_least T.F__law_is_least.kp T.b__law_is_least (da_cons (dv_var (pe_var (i := 5) rfl (.inl rfl))) da_nil)))))) (fun _ _ _ _ _ => (dv_var (pe_var (i := 5) rfl (.inl rfl))))) (db_frzT (i := 6) (db_cons (ds_if (dt_cmp (dop_neS hr.units) (nomark _) (dp_of (dv_callB (bc_repr hG (room66 hr)) (by rfl) T.m_repr (by decide +kernel) (dap_cons (dp_of (dv_call (ok_patterns_told T) (hr.mono (by decide)) (by rfl) T.g_patterns_told T.F_patterns_told.kp T.b_patterns_told (da_cons (dv_var (pe_var (i := 2) rfl (.inl rfl))) (da_cons (dv_var (pe_var (i := 3) rfl (.inl rfl))) da_nil)))) dap_nil))) (dp_of (dv_callB (bc_repr hG (room66 hr)) (by rfl) T.m_repr (by decide +kernel) (dap_cons (dp_of (dv_callTy bc_tuple (by rfl) T.m_tuple (by decide +kernel) (dap_cons (dp_of (dv_var (pe_var (i := 6) rfl (.inl rfl)))) dap_nil))) dap_nil)))) (db_one (ds_ret dv_bl)) db_nil) (db_cons (ds_for PassesOwn.never rfl (di_range2 (by rfl) T.m_range (dp_of dv_int) (dp_of (dv_op dop_add (dp_of (dv_var (pe_var (i := 3) rfl (.inl rfl)))) (dp_of dv_int)))) (dg_name (i := 7) sc_law.nd rfl (.inr rfl)) (cb := law_b2) (db_cons (ds_set (i := 8) sc_law.nd rfl (.inl rfl) dv_int) (db_cons (ds_for PassesOwn.never rfl (di_seq (dv_var (pe_var (i := 4) rfl (.inl rfl)))) (dg_name (i := 5) sc_law.nd rfl (.inr rfl)) (cb := law_b1) (db_cons (ds_ownLc (i := 10) rfl sc_law.nd rfl rfl (sw_true rfl rfl rfl (by decide +kernel)) (own := [("j", 9)]) (blkOk_by (N := ["script", "source", "k", "c", "rows", "row", "some", "many", "alone", "j", "turned", "cuts", "found", "ways", "lap", "late", "ahead", "left", "due", "one", "pair", "turn"]) (sc := (defScope s_law)) (by decide +kernel)) (by decide) (di_range1 (by rfl) T.m_range (dp_of (dv_callB bc_lenD (by rfl) T.m_len (by decide +kernel) (dap_cons (dp_of (dv_var (pe_var (i := 5) rfl (.inr (.inl rfl))))) dap_nil)))) (fun _ _ _ _ _ => (dg_name (i := 9) sc_law.nd rfl (.inl rfl))) (fun _ _ _ _ _ => dts_nil) (fun _ _ _ _ _ => (dv_op dop_add (dp_of (dv_sl (dp_of (dv_var (pe_var (i := 5) rfl (.inr (.inl rfl))))) (do_some (dp_of (dv_var (pe_var (i := 9) rfl (.inl rfl))))) do_none)) (dp_of (dv_sl (dp_of (dv_var (pe_var (i := 5) rfl (.inr (.inl rfl))))) do_none (do_some (dp_of (dv_var (pe_var (i := 9) rfl (.inl rfl)))))))))) (db_frzT (i := 10) (db_one (ds_if (dw_pt (dw_and (dt_cmp (dop_eqS hr.units) (nomark _) (dp_of (dv_callB bc_lenD (by rfl) T.m_len (by decide +kernel) (dap_cons (dp_of (dv_var (pe_var (i := 5) rfl (.inr (.inl rfl))))) dap_nil))) (dp_of (dv_var (pe_var (i := 7) rfl (.inr (.inl rfl)))))) (dw_and1 (dt_cmp (dop_eqS hr.units) (nomark _) (dp_of (dv_callB bc_lenD (by rfl) T.m_len (by decide +kernel) (dap_cons (dp_of (dv_callTy (bc_dict rfl (room3 hr)) (by rfl) T.m_dict (by decide +kernel) (dap_cons (dp_new (dl_comp rfl sc_law.nd (own := [("one", 19)]) (blkOk_by (N := ["script", "source", "k", "c", "rows", "row", "some", "many", "alone", "j", "turned", "cuts", "found", "ways", "lap", "late", "ahead", "left", "due", "one", "pair", "turn"]) (sc := (defScope s_law)) (by decide +kernel)) (by decide) (di_seq (dv_var (pe_var (i := 10) rfl (.inl rfl)))) (fun _ _ _ _ _ => (dg_name (i := 19) sc_law.nd rfl (.inl rfl))) (fun _ _ _ _ _ => dts_nil) (fun _ _ _ _ _ => (dv_tup (da_cons (dv_var (pe_var (i := 19) rfl (.inl rfl))) (da_cons dv_int da_nil)))))) dap_nil))) dap_nil))) (dp_of (dv_var (pe_var (i := 7) rfl (.inr (.inl rfl))))))))) (db_one (ds_set (i := 8) sc_law.nd rfl (.inl rfl) (dv_op dop_add (dp_of (dv_var (pe_var (i := 8) rfl (.inl rfl)))) (dp_of dv_int)))) db_nil))))) (db_one (ds_if (dt_cmp (dop_neS hr.units) (nomark _) (dp_of (dv_var (pe_var (i := 8) rfl (.inl rfl)))) (dp_of (dv_op dop_mulT (dp_of (dv_var (pe_var (i := 7) rfl (.inr (.inl rfl))))) (dp_of (dv_callB bc_lenD (by rfl) T.m_len (by decide +kernel) (dap_cons (dp_new (dl_comp rfl sc_law.nd (own := [("row", 5)]) (blkOk_by (N := ["script", "source", "k", "c", "rows", "row", "some", "many", "alone", "j", "turned", "cuts", "found", "ways", "lap", "late", "ahead", "left", "due", "one", "pair", "turn"]) (sc := (defScope s_law)) (by decide +kernel)) (by decide) (di_seq (dv_var (pe_var (i := 6) rfl (.inl rfl)))) (fun _ _ _ _ _ => (dg_name (i := 5) sc_law.nd rfl (.inl rfl))) (fun _ _ _ _ _ => (dts_one (dt_cmp (dop_eqS hr.units) (nomark _) (dp_of (dv_callB bc_lenD (by rfl) T.m_len (by decide +kernel) (dap_cons (dp_of (dv_var (pe_var (i := 5) rfl (.inl rfl)))) dap_nil))) (dp_of (dv_var (pe_var (i := 7) rfl (.inr (.inl rfl)))))))) (fun _ _ _ _ _ => (dv_var (pe_var (i := 5) rfl (.inl rfl)))))) dap_nil)))))) (db_one (ds_ret dv_bl)) db_nil))))) (db_cons (ds_for PassesOwn.never rfl (di_seq (dv_var (pe_var (i := 4) rfl (.inl rfl)))) (dg_name (i := 5) sc_law.nd rfl (.inr rfl)) (cb := law_b6) (db_cons (ds_set (i := 11) sc_law.nd rfl (.inr rfl) (dv_call (ok__law_cut T) (hr.mono (by decide)) (by rfl) T.g__law_cut T.F__law_cut.kp T.b__law_cut (da_cons (dv_var (pe_var (i := 5) rfl (.inr (.inl rfl)))) da_nil))) (db_cons (ds_if (dt_cmp (dop_neS hr.units) (nomark _) (dp_new (dl_comp rfl sc_law.nd (own := [("j", 9)]) (blkOk_by (N := ["script", "source", "k", "c", "rows", "row", "some", "many", "alone", "j", "turned", "cuts", "found", "ways", "lap", "late", "ahead", "left", "due", "one", "pair", "turn"]) (sc := (defScope s_law)) (by decide +kernel)) (by decide) (di_range2 (by rfl) T.m_range (dp_of dv_int) (dp_of (dv_callB bc_lenD (by rfl) T.m_len (by decide +kernel) (dap_cons (dp_of (dv_var (pe_var (i := 11) rfl (.inr (.inl rfl))))) dap_nil)))) (fun _ _ _ _ _ => (dg_name (i := 9) sc_law.nd rfl (.inl rfl))) (fun _ _ _ _ _ => (dts_one (dt_cmp (dop_lt hr.units0) (nomark _) (dp_of (dv_ix (dp_of (dv_var (pe_var (i := 11) rfl (.inr (.inl rfl))))) (dp_of (dv_op dop_sub (dp_of (dv_var (pe_var (i := 9) rfl (.inl rfl)))) (dp_of dv_int))))) (dp_of (dv_ix (dp_of (dv_var (pe_var (i := 11) rfl (.inr (.inl rfl))))) (dp_of (dv_var (pe_var (i := 9) rfl (.inl rfl))))))))) (fun _ _ _ _ _ => (dv_var (pe_var (i := 9) rfl (.inl rfl)))))) (dp_new (dl_disp da_nil))) (db_one (ds_ret dv_bl)) db_nil) (db_cons (ds_par (i := 12) (j := 13) rfl sc_law.nd rfl rfl (by decide) rfl rfl (dx_v dv_int) (dx_v (dv_fz (dl_disp (da_cons (dv_tup (da_cons (dv_tup da_nil) (da_cons (dv_var (pe_var (i := 5) rfl (.inr (.inl rfl)))) da_nil))) da_nil)))) rfl) (db_cons (ds_for PassesOwn.never rfl (di_range1 (by rfl) T.m_range (dp_of (dv_callB bc_lenD (by rfl) T.m_len (by decide +kernel) (dap_cons (dp_of (dv_var (pe_var (i := 5) rfl (.inr (.inl rfl))))) dap_nil)))) (dg_name (i := 14) sc_law.nd rfl (.inl rfl)) (cb := law_b5) (db_cons (ds_own (i := 15) sc_law.nd rfl (.inl rfl) (dl_disp da_nil)) (db_cons (ds_for PassesOwn.never rfl (di_seq (dv_var (pe_var (i := 13) rfl (.inl rfl)))) (dg_tup rfl (dgs_cons (dg_name (i := 16) sc_law.nd rfl (.inl rfl)) (dgs_cons (dg_name (i := 17) sc_law.nd rfl (.inl rfl)) dgs_nil))) (cb := law_b4) (db_one (ds_for PassesOwn.never rfl (di_range2 (by rfl) T.m_range (dp_of dv_int) (dp_of (dv_op dop_add (dp_of (dv_callB bc_lenD (by rfl) T.m_len (by decide +kernel) (dap_cons (dp_of (dv_var (pe_var (i := 17) rfl (.inl rfl)))) dap_nil))) (dp_of dv_int)))) (dg_name (i := 9) sc_law.nd rfl (.inl rfl)) (cb := law_b3) (db_one (ds_if (dw_pt (dw_and (dt_val (dp_of (dv_call (ok__law_is_least T) (hr.mono (by decide)) (by rfl) T.g__law_is_least T.F__law_is_least.kp T.b__law_is_least (da_cons (dv_sl (dp_of (dv_var (pe_var (i := 17) rfl (.inl rfl)))) do_none (do_some (dp_of (dv_var (pe_var (i := 9) rfl (.inl rfl)))))) da_nil)))) (dw_and1 (dw_pt (dw_or (dt_cmp (dop_eqS hr.units) (nomark _) (dp_of (dv_var (pe_var (i := 16) rfl (.inl rfl)))) (dp_of (dv_tup da_nil))) (dw_or1 (dt_cmp (dop_le hr.units0) (nomark _) (dp_of (dv_sl (dp_of (dv_var (pe_var (i := 17) rfl (.inl rfl)))) do_none (do_some (dp_of (dv_var (pe_var (i := 9) rfl (.inl rfl))))))) (dp_of (dv_var (pe_var (i := 16) rfl (.inl rfl))))))))))) (db_one (ds_append (pe_var (i := 15) rfl (.inl rfl)) (dv_tup (da_cons (dv_sl (dp_of (dv_var (pe_var (i := 17) rfl (.inl rfl)))) do_none (do_some (dp_of (dv_var (pe_var (i := 9) rfl (.inl rfl)))))) (da_cons (dv_sl (dp_of (dv_var (pe_var (i := 17) rfl (.inl rfl)))) (do_some (dp_of (dv_var (pe_var (i := 9) rfl (.inl rfl))))) do_none) da_nil))) (fun ha => pe_bm PySem.F.plainAttrs_list PySem.F.slot_list_append PySem.F.type_list_append mt_append (pe_var (i := 15) rfl (.inl rfl)) ha))) db_nil))))) (db_frzT (i := 15) (db_cons (ds_set (i := 12) sc_law.nd rfl (.inl rfl) (dv_op dop_add (dp_of (dv_var (pe_var (i := 12) rfl (.inl rfl)))) (dp_of (dv_callB bc_lenD (by rfl) T.m_len (by decide +kernel) (dap_cons (dp_new (dl_comp rfl sc_law.nd (own := [("ahead", 16), ("left", 17)]) (blkOk_by (N := ["script", "source", "k", "c", "rows", "row", "some", "many", "alone", "j", "turned", "cuts", "found", "ways", "lap", "late", "ahead", "left", "due", "one", "pair", "turn"]) (sc := (defScope s_law)) (by decide +kernel)) (by decide) (di_seq (dv_var (pe_var (i := 15) rfl (.inl rfl)))) (fun _ _ _ _ _ => (dg_tup rfl (dgs_cons (dg_name (i := 16) sc_law.nd rfl (.inl rfl)) (dgs_cons (dg_name (i := 17) sc_law.nd rfl (.inl rfl)) dgs_nil)))) (fun _ _ _ _ _ => (dts_one (dt_cmp (dop_eqS hr.units) (nomark _) (dp_of (dv_var (pe_var (i := 17) rfl (.inl rfl)))) (dp_of (dv_tup da_nil))))) (fun _ _ _ _ _ => dv_int))) dap_nil))))) (db_frzT (i := 15) (db_cons (ds_ownLc (i := 13) rfl sc_law.nd rfl rfl (sw_true rfl rfl rfl (by decide +kernel)) (own := [("pair", 20)]) (blkOk_by (N := ["script", "source", "k", "c", "rows", "row", "some", "many", "alone", "j", "turned", "cuts", "found", "ways", "lap", "late", "ahead", "left", "due", "one", "pair", "turn"]) (sc := (defScope s_law)) (by decide +kernel)) (by decide) (di_seq (dv_var (pe_var (i := 15) rfl (.inl rfl)))) (fun _ _ _ _ _ => (dg_name (i := 20) sc_law.nd rfl (.inl rfl))) (fun _ _ _ _ _ => (dts_one (dt_cmp (dop_neS hr.units) (nomark _) (dp_of (dv_ix (dp_of (dv_var (pe_var (i := 20) rfl (.inl rfl)))) (dp_of dv_int))) (dp_of (dv_tup da_nil))))) (fun _ _ _ _ _ => (dv_var (pe_var (i := 20) rfl (.inl rfl))))) (db_frzT (i := 13) db_nil)))))))) (db_one (ds_if (dt_cmp (dop_neS hr.units) (nomark _) (dp_of (dv_var (pe_var (i := 12) rfl (.inl rfl)))) (dp_of dv_int)) (db_one (ds_ret dv_bl)) db_nil))))))) (db_cons (ds_for PassesOwn.never rfl (di_range1 (by rfl) T.m_range (dp_of dv_int)) (dg_name (i := 14) sc_law.nd rfl (.inl rfl)) (cb := law_b7) (db_cons (ds_set (i := 5) sc_law.nd rfl (.inr rfl) (dv_callTy bc_tuple (by rfl) T.m_tuple (by decide +kernel) (dap_cons (dp_new (dl_comp rfl sc_law.nd (own := [("turn", 21)]) (blkOk_by (N := ["script", "source", "k", "c", "rows", "row", "some", "many", "alone", "j", "turned", "cuts", "found", "ways", "lap", "late", "ahead", "left", "due", "one", "pair", "turn"]) (sc := (defScope s_law)) (by decide +kernel)) (by decide) (di_range1 (by rfl) T.m_range (dp_of (dv_op dop_add (dp_of dv_int) (dp_of (dv_callS (pe_var (i := 1) rfl (.inr (.inl rfl))) (ok__law_pick T) (hr.mono (by decide)) (by rfl) T.g__law_pick T.F__law_pick.kp T.b__law_pick (da_cons dv_int da_nil)))))) (fun _ _ _ _ _ => (dg_name (i := 21) sc_law.nd rfl (.inl rfl))) (fun _ _ _ _ _ => dts_nil) (fun _ _ _ _ _ => (dv_op dop_add (dp_of dv_int) (dp_of (dv_callS (pe_var (i := 1) rfl (.inr (.inl rfl))) (ok__law_pick T) (hr.mono (by decide)) (by rfl) T.g__law_pick T.F__law_pick.kp T.b__law_pick (da_cons (dv_callS (pe_var (i := 1) rfl (.inr (.inl rfl))) (ok__law_of T) (hr.mono (by decide)) (by rfl) T.g__law_of T.F__law_of.kp T.b__law_of (da_cons (dv_fz (dl_disp (da_cons dv_int (da_cons dv_int (da_cons dv_int da_nil))))) da_nil)) da_nil))))))) dap_nil))) (db_cons (ds_set (i := 5) sc_law.nd rfl (.inr rfl) (dv_op dop_mulT (dp_of (dv_var (pe_var (i := 5) rfl (.inr (.inl rfl))))) (dp_of (dv_op dop_add (dp_of dv_int) (dp_of (dv_callS (pe_var (i := 1) rfl (.inr (.inl rfl))) (ok__law_pick T) (hr.mono (by decide)) (by rfl) T.g__law_pick T.F__law_pick.kp T.b__law_pick (da_cons dv_int da_nil))))))) (db_cons (ds_set (i := 18) sc_law.nd rfl (.inl rfl) (dv_cmp (dop_eqS hr.units) (nomark _) (dp_new (dl_comp rfl sc_law.nd (own := [("j", 9)]) (blkOk_by (N := ["script", "source", "k", "c", "rows", "row", "some", "many", "alone", "j", "turned", "cuts", "found", "ways", "lap", "late", "ahead", "left", "due", "one", "pair", "turn"]) (sc := (defScope s_law)) (by decide +kernel)) (by decide) (di_range2 (by rfl) T.m_range (dp_of dv_int) (dp_of (dv_callB bc_lenD (by rfl) T.m_len (by decide +kernel) (dap_cons (dp_of (dv_var (pe_var (i := 5) rfl (.inr (.inl rfl))))) dap_nil)))) (fun _ _ _ _ _ => (dg_name (i := 9) sc_law.nd rfl (.inl rfl))) (fun _ _ _ _ _ => (dts_one (dt_cmp (dop_le hr.units0) (nomark _) (dp_of (dv_sl (dp_of (dv_var (pe_var (i := 5) rfl (.inr (.inl rfl))))) (do_some (dp_of (dv_var (pe_var (i := 9) rfl (.inl rfl))))) do_none)) (dp_of (dv_var (pe_var (i := 5) rfl (.inr (.inl rfl)))))))) (fun _ _ _ _ _ => (dv_var (pe_var (i := 9) rfl (.inl rfl)))))) (dp_new (dl_disp da_nil)))) (db_one (ds_if (dt_cmp (dop_neS hr.units) (nomark _) (dp_of (dv_callB (bc_repr hG (room66 hr)) (by rfl) T.m_repr (by decide +kernel) (dap_cons (dp_new (dl_disp (da_cons (dv_call (ok_is_pattern T) (hr.mono (by decide)) (by rfl) T.g_is_pattern T.F_is_pattern.kp T.b_is_pattern (da_cons (dv_var (pe_var (i := 5) rfl (.inr (.inl rfl)))) da_nil)) (da_cons (dv_var (pe_var (i := 18) rfl (.inl rfl))) da_nil)))) dap_nil))) (dp_of (dv_callB (bc_repr hG (room66 hr)) (by rfl) T.m_repr (by decide +kernel) (dap_cons (dp_of (dv_op dop_mulT (dp_new (dl_disp (da_cons (dv_call (ok__law_is_least T) (hr.mono (by decide)) (by rfl) T.g__law_is_least T.F__law_is_least.kp T.b__law_is_least (da_cons (dv_var (pe_var (i := 5) rfl (.inr (.inl rfl)))) da_nil)) da_nil))) (dp_of dv_int))) dap_nil)))) (db_one (ds_ret dv_bl)) db_nil)))))) (db_one (ds_ret dv_bl))))))))))))
end
theorem all_mk {l : PySem.W.OpenLaw} {w : World} {K : PySem.W.Frag} {h : Heap} {mg : Str → Option Value} {fa f0 f1 f2 f3 f4 f5 f6 f7 f8 f9 f10 : Addr} (X : K.In h) (G : h.Ns mainGlobals mg) (hfa : mg "law" = some (.ref fa))
    {od0 an0 od1 an1 od2 an2 od3 an3 od4 an4 od5 an5 od6 an6 od7 an7 od8 an8 od9 an9 od10 an10 : Option Addr} {sl0 sl1 sl2 sl3 sl4 sl5 sl6 sl7 sl8 sl9 sl10 : Array (Option Value)} {oc0 kV0 dc0 pm0 cd0 ct0 oc1 kV1 dc1 pm1 cd1 ct1 oc2 kV2 dc2 pm2 cd2 ct2 oc3 kV3 dc3 pm3 cd3 ct3 oc4 kV4 dc4 pm4 cd4 ct4 oc5 kV5 dc5 pm5 cd5 ct5 oc6 kV6 dc6 pm6 cd6 ct6 oc7 kV7 dc7 pm7 cd7 ct7 oc8 kV8 dc8 pm8 cd8 ct8 oc9 kV9 dc9 pm9 cd9 ct9 oc10 kV10 dc10 pm10 cd10 ct10 : Value}
    (a0 : PySem.W.nsIn K mainGlobals "rows_told" = some (some (.ref f0))) (l0 : K.lookup f0 = some ⟨oc0, od0, .func (PySem.W.fnOf "rows_told" "rows_told" (defArgs s_rows_told) (defBody s_rows_told) (defScope s_rows_told) .none kV0 dc0 pm0 an0 cd0 ct0), sl0⟩) (c0 : PySem.W.codeIn K cd0 "rows_told" = true) (k0 : PySem.W.keepIn K (.ref f0) = true)
    (a1 : PySem.W.nsIn K mainGlobals "is_pattern" = some (some (.ref f1))) (l1 : K.lookup f1 = some ⟨oc1, od1, .func (PySem.W.fnOf "is_pattern" "is_pattern" (defArgs s_is_pattern) (defBody s_is_pattern) (defScope s_is_pattern) .none kV1 dc1 pm1 an1 cd1 ct1), sl1⟩) (c1 : PySem.W.codeIn K cd1 "is_pattern" = true) (k1 : PySem.W.keepIn K (.ref f1) = true)
    (a2 : PySem.W.nsIn K mainGlobals "patterns_told" = some (some (.ref f2))) (l2 : K.lookup f2 = some ⟨oc2, od2, .func (PySem.W.fnOf "patterns_told" "patterns_told" (defArgs s_patterns_told) (defBody s_patterns_told) (defScope s_patterns_told) .none kV2 dc2 pm2 an2 cd2 ct2), sl2⟩) (c2 : PySem.W.codeIn K cd2 "patterns_told" = true) (k2 : PySem.W.keepIn K (.ref f2) = true)
    (a3 : PySem.W.nsIn K mainGlobals "_law_source" = some (some (.ref f3))) (l3 : K.lookup f3 = some ⟨oc3, od3, .func (PySem.W.fnOf "_law_source" "_law_source" (defArgs s__law_source) (defBody s__law_source) (defScope s__law_source) .none kV3 dc3 pm3 an3 cd3 ct3), sl3⟩) (c3 : PySem.W.codeIn K cd3 "_law_source" = true) (k3 : PySem.W.keepIn K (.ref f3) = true)
    (a4 : PySem.W.nsIn K mainGlobals "_law_pick" = some (some (.ref f4))) (l4 : K.lookup f4 = some ⟨oc4, od4, .func (PySem.W.fnOf "_law_pick" "_law_pick" (defArgs s__law_pick) (defBody s__law_pick) (defScope s__law_pick) .none kV4 dc4 pm4 an4 cd4 ct4), sl4⟩) (c4 : PySem.W.codeIn K cd4 "_law_pick" = true) (k4 : PySem.W.keepIn K (.ref f4) = true)
    (a5 : PySem.W.nsIn K mainGlobals "_law_of" = some (some (.ref f5))) (l5 : K.lookup f5 = some ⟨oc5, od5, .func (PySem.W.fnOf "_law_of" "_law_of" (defArgs s__law_of) (defBody s__law_of) (defScope s__law_of) .none kV5 dc5 pm5 an5 cd5 ct5), sl5⟩) (c5 : PySem.W.codeIn K cd5 "_law_of" = true) (k5 : PySem.W.keepIn K (.ref f5) = true)
    (a6 : PySem.W.nsIn K mainGlobals "_law_rows" = some (some (.ref f6))) (l6 : K.lookup f6 = some ⟨oc6, od6, .func (PySem.W.fnOf "_law_rows" "_law_rows" (defArgs s__law_rows) (defBody s__law_rows) (defScope s__law_rows) .none kV6 dc6 pm6 an6 cd6 ct6), sl6⟩) (c6 : PySem.W.codeIn K cd6 "_law_rows" = true) (k6 : PySem.W.keepIn K (.ref f6) = true)
    (a7 : PySem.W.nsIn K mainGlobals "_law_times" = some (some (.ref f7))) (l7 : K.lookup f7 = some ⟨oc7, od7, .func (PySem.W.fnOf "_law_times" "_law_times" (defArgs s__law_times) (defBody s__law_times) (defScope s__law_times) .none kV7 dc7 pm7 an7 cd7 ct7), sl7⟩) (c7 : PySem.W.codeIn K cd7 "_law_times" = true) (k7 : PySem.W.keepIn K (.ref f7) = true)
    (a8 : PySem.W.nsIn K mainGlobals "_law_is_least" = some (some (.ref f8))) (l8 : K.lookup f8 = some ⟨oc8, od8, .func (PySem.W.fnOf "_law_is_least" "_law_is_least" (defArgs s__law_is_least) (defBody s__law_is_least) (defScope s__law_is_least) .none kV8 dc8 pm8 an8 cd8 ct8), sl8⟩) (c8 : PySem.W.codeIn K cd8 "_law_is_least" = true) (k8 : PySem.W.keepIn K (.ref f8) = true)
    (a9 : PySem.W.nsIn K mainGlobals "_law_cut" = some (some (.ref f9))) (l9 : K.lookup f9 = some ⟨oc9, od9, .func (PySem.W.fnOf "_law_cut" "_law_cut" (defArgs s__law_cut) (defBody s__law_cut) (defScope s__law_cut) .none kV9 dc9 pm9 an9 cd9 ct9), sl9⟩) (c9 : PySem.W.codeIn K cd9 "_law_cut" = true) (k9 : PySem.W.keepIn K (.ref f9) = true)
    (a10 : PySem.W.nsIn K mainGlobals "law" = some (some (.ref f10))) (l10 : K.lookup f10 = some ⟨oc10, od10, .func (PySem.W.fnOf "law" "law" (defArgs s_law) (defBody s_law) (defScope s_law) .none kV10 dc10 pm10 an10 cd10 ct10), sl10⟩) (c10 : PySem.W.codeIn K cd10 "law" = true) (k10 : PySem.W.keepIn K (.ref f10) = true)
    (z0 : PySem.W.nsIn K mainGlobals "abs" = some none)
    (z1 : PySem.W.nsIn K mainGlobals "all" = some none)
    (z2 : PySem.W.nsIn K mainGlobals "dict" = some none)
    (z3 : PySem.W.nsIn K mainGlobals "int" = some none)
    (z4 : PySem.W.nsIn K mainGlobals "len" = some none)
    (z5 : PySem.W.nsIn K mainGlobals "max" = some none)
    (z6 : PySem.W.nsIn K mainGlobals "range" = some none)
    (z7 : PySem.W.nsIn K mainGlobals "repr" = some none)
    (z8 : PySem.W.nsIn K mainGlobals "tuple" = some none) :
    ∃ fd : FuncData, (∀ (s : Shared) (u : Value), BindsTo s fd ⟨[u], []⟩ [("script", u)]) ∧ ∀ base : Heap, K.In base → base.Ns mainGlobals mg → FnG l.prog w K mg base 3 fa fd ["script"] (spLaw K (lawM 22 1 cs_law)) := by
  have e := hfa.symm.trans (PySem.W.mg_of X G a10)
  cases e
  refine ⟨PySem.W.fnOf "law" "law" (defArgs s_law) (defBody s_law) (defScope s_law) .none kV10 dc10 pm10 an10 cd10 ct10, fun s v => .of_eq rfl, fun base _ _ => ?_⟩
  exact ok_law { f_rows_told := _, fd_rows_told := _, F_rows_told := fun_mk (st := s_rows_told) l0 c0 k0, b_rows_told := (fun_mk (st := s_rows_told) l0 c0 k0).binds (ps := ["k", "c"]) (fun _ _ _ _ _ _ us hl => match us, hl with | [_, _], _ => rfl), g_rows_told := PySem.W.mg_of X G a0, f_is_pattern := _, fd_is_pattern := _, F_is_pattern := fun_mk (st := s_is_pattern) l1 c1 k1, b_is_pattern := (fun_mk (st := s_is_pattern) l1 c1 k1).binds (ps := ["row"]) (fun _ _ _ _ _ _ us hl => match us, hl with | [_], _ => rfl), g_is_pattern := PySem.W.mg_of X G a1, f_patterns_told := _, fd_patterns_told := _, F_patterns_told := fun_mk (st := s_patterns_told) l2 c2 k2, b_patterns_told := (fun_mk (st := s_patterns_told) l2 c2 k2).binds (ps := ["k", "c"]) (fun _ _ _ _ _ _ us hl => match us, hl with | [_, _], _ => rfl), g_patterns_told := PySem.W.mg_of X G a2, f__law_source := _, fd__law_source := _, F__law_source := fun_mk (st := s__law_source) l3 c3 k3, b__law_source := (fun_mk (st := s__law_source) l3 c3 k3).binds (ps := ["script"]) (fun _ _ _ _ _ _ us hl => match us, hl with | [_], _ => rfl), g__law_source := PySem.W.mg_of X G a3, f__law_pick := _, fd__law_pick := _, F__law_pick := fun_mk (st := s__law_pick) l4 c4 k4, b__law_pick := (fun_mk (st := s__law_pick) l4 c4 k4).binds (ps := ["source", "many"]) (fun _ _ _ _ _ _ us hl => match us, hl with | [_, _], _ => rfl), g__law_pick := PySem.W.mg_of X G a4, f__law_of := _, fd__law_of := _, F__law_of := fun_mk (st := s__law_of) l5 c5 k5, b__law_of := (fun_mk (st := s__law_of) l5 c5 k5).binds (ps := ["source", "some"]) (fun _ _ _ _ _ _ us hl => match us, hl with | [_, _], _ => rfl), g__law_of := PySem.W.mg_of X G a5, f__law_rows := _, fd__law_rows := _, F__law_rows := fun_mk (st := s__law_rows) l6 c6 k6, b__law_rows := (fun_mk (st := s__law_rows) l6 c6 k6).binds (ps := ["k", "c"]) (fun _ _ _ _ _ _ us hl => match us, hl with | [_, _], _ => rfl), g__law_rows := PySem.W.mg_of X G a6, f__law_times := _, fd__law_times := _, F__law_times := fun_mk (st := s__law_times) l7 c7 k7, b__law_times := (fun_mk (st := s__law_times) l7 c7 k7).binds (ps := ["k", "many"]) (fun _ _ _ _ _ _ us hl => match us, hl with | [_, _], _ => rfl), g__law_times := PySem.W.mg_of X G a7, f__law_is_least := _, fd__law_is_least := _, F__law_is_least := fun_mk (st := s__law_is_least) l8 c8 k8, b__law_is_least := (fun_mk (st := s__law_is_least) l8 c8 k8).binds (ps := ["row"]) (fun _ _ _ _ _ _ us hl => match us, hl with | [_], _ => rfl), g__law_is_least := PySem.W.mg_of X G a8, f__law_cut := _, fd__law_cut := _, F__law_cut := fun_mk (st := s__law_cut) l9 c9 k9, b__law_cut := (fun_mk (st := s__law_cut) l9 c9 k9).binds (ps := ["row"]) (fun _ _ _ _ _ _ us hl => match us, hl with | [_], _ => rfl), g__law_cut := PySem.W.mg_of X G a9, f_law := _, fd_law := _, F_law := fun_mk (st := s_law) l10 c10 k10, b_law := (fun_mk (st := s_law) l10 c10 k10).binds (ps := ["script"]) (fun _ _ _ _ _ _ us hl => match us, hl with | [_], _ => rfl), g_law := PySem.W.mg_of X G a10, m_abs := PySem.W.mg_none_of X G z0, m_all := PySem.W.mg_none_of X G z1, m_dict := PySem.W.mg_none_of X G z2, m_int := PySem.W.mg_none_of X G z3, m_len := PySem.W.mg_none_of X G z4, m_max := PySem.W.mg_none_of X G z5, m_range := PySem.W.mg_none_of X G z6, m_repr := PySem.W.mg_none_of X G z7, m_tuple := PySem.W.mg_none_of X G z8 }
end W
open PySem PySem.W PyProof.Rows
set_option maxRecDepth 100000 in
set_option maxHeartbeats 0 in
theorem PySem.Challenge.cw_deeplots_k10_patterns_by_all_later_parts_holds : PySem.Challenge.rw_deeplots_k10_patterns_by_all_later_parts.Holds := by
  w_on; o_law; k_head; (case hw => w_witness2)
  k_fill
  refine DL.walk_law (l := PySem.Challenge.rw_deeplots_k10_patterns_by_all_later_parts) (k := 3) rfl rfl ⟨rfl, by decide, by decide⟩ (fun w h Y => PySem.W.kIn_of Y) W.law_true ?F
  case F =>
    intro w mg fa h KX G hmg
    refine' W.all_mk KX G hmg ?a0 ?l0 ?c0 ?k0 ?a1 ?l1 ?c1 ?k1 ?a2 ?l2 ?c2 ?k2 ?a3 ?l3 ?c3 ?k3 ?a4 ?l4 ?c4 ?k4 ?a5 ?l5 ?c5 ?k5 ?a6 ?l6 ?c6 ?k6 ?a7 ?l7 ?c7 ?k7 ?a8 ?l8 ?c8 ?k8 ?a9 ?l9 ?c9 ?k9 ?a10 ?l10 ?c10 ?k10 ?z0 ?z1 ?z2 ?z3 ?z4 ?z5 ?z6 ?z7 ?z8
    (case a0 => k_is); (case l0 => k_is); (case c0 => k_is); (case k0 => k_is)
    (case a1 => k_is); (case l1 => k_is); (case c1 => k_is); (case k1 => k_is)
    (case a2 => k_is); (case l2 => k_is); (case c2 => k_is); (case k2 => k_is)
    (case a3 => k_is); (case l3 => k_is); (case c3 => k_is); (case k3 => k_is)
    (case a4 => k_is); (case l4 => k_is); (case c4 => k_is); (case k4 => k_is)
    (case a5 => k_is); (case l5 => k_is); (case c5 => k_is); (case k5 => k_is)
    (case a6 => k_is); (case l6 => k_is); (case c6 => k_is); (case k6 => k_is)
    (case a7 => k_is); (case l7 => k_is); (case c7 => k_is); (case k7 => k_is)
    (case a8 => k_is); (case l8 => k_is); (case c8 => k_is); (case k8 => k_is)
    (case a9 => k_is); (case l9 => k_is); (case c9 => k_is); (case k9 => k_is)
    (case a10 => k_is); (case l10 => k_is); (case c10 => k_is); (case k10 => k_is)
    (case z0 => k_is)
    (case z1 => k_is)
    (case z2 => k_is)
    (case z3 => k_is)
    (case z4 => k_is)
    (case z5 => k_is)
    (case z6 => k_is)
    (case z7 => k_is)
    (case z8 => k_is)
#print axioms PySem.Challenge.cw_deeplots_k10_patterns_by_all_later_parts_holds
