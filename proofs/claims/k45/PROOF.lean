import PyProof.Rows.All
import HandS.ForExc
import Wide.All
import OpenK.AllK
import Wide.FinOn
import HandS.ForMost
import HandS.Exc
import HandS.ExcOwn
import HandS.WordsExc
import HandS.TupAny
import HandS.TupMul
import HandS.ReCall
import HandS.Walk
import HandS.Zip
import HandS.Flow
import HandS.CallSlots
import KE.KDictKeyed
import KE.KDictWalk
import KE.KeyNested
import KE.KDictList
import KE.KDictSum
import KE.SortData
import HandS.Iter
import KE.DataMinMax
import KE.DataCmp
import HandS.SortKw
import HandS.IsInst
import HandS.TupLe
import KE.DataEq
import KE.DataFind
import KE.DataIsa
import KE.GoesEnum
import HandS.Style
import HandS.SetFor
import HandS.Defaults
import HandS.SortInts
import PyProof.AutoSeq1
import KE.KDictDisplayH
import HandS.Set
import HandS.Strs
import HandS.Conv
import HandS.TryOnly
import HandS.DictComp
import HandS.More
import PyProof.DictUpdate
import PySem.Challenge.RW_glassbays_k45_forbidden_back_through_tra
set_option Elab.async false
set_option linter.all false
set_option maxRecDepth 100000
set_option autoImplicit false
set_option maxHeartbeats 4000000
/-! GbA: plain values, plain heaps, what a statement comes to: no Python in sight -/
namespace Gb
open PySem

/-- a value: refs point into the plain heap -/
inductive D where
  | non | bl (b : Bool) | int (i : Int) | str (x : Str) | tup (xs : List D) | ref (n : Nat)
  /-- a list that nobody writes (the script) -/
  | fro (xs : List D)
  /-- a list, a dict, as a value: on the side without a heap alone -/
  | lst (xs : List D)
  | dct (ks vs : List D)
  /-- a dict that nobody writes any more: its items, each a pair -/
  | map (xs : List D)

mutual
def D.beq : D → D → Bool
  | .non, .non => true
  | .bl a, .bl b => a == b
  | .int a, .int b => a == b
  | .str a, .str b => a == b
  | .tup a, .tup b => D.beqL a b
  | .ref a, .ref b => a == b
  | .fro a, .fro b => D.beqL a b
  | .lst a, .lst b => D.beqL a b
  | .dct a c, .dct b d => D.beqL a b && D.beqL c d
  | .map a, .map b => D.beqL a b
  | _, _ => false
def D.beqL : List D → List D → Bool
  | [], [] => true
  | a :: r, b :: s => D.beq a b && D.beqL r s
  | _, _ => false
end
mutual
theorem D.beq_iff : ∀ a b : D, D.beq a b = true ↔ a = b
  | .non, b => by cases b <;> simp [D.beq]
  | .bl x, b => by cases b <;> simp [D.beq]
  | .int x, b => by cases b <;> simp [D.beq]
  | .str x, b => by cases b <;> simp [D.beq]
  | .ref x, b => by cases b <;> simp [D.beq]
  | .tup xs, b => by
    cases b with
    | tup ys => simp only [D.beq, D.tup.injEq]; exact D.beqL_iff xs ys
    | _ => simp [D.beq]
  | .fro xs, b => by
    cases b with
    | fro ys => simp only [D.beq, D.fro.injEq]; exact D.beqL_iff xs ys
    | _ => simp [D.beq]
  | .lst xs, b => by
    cases b with
    | lst ys => simp only [D.beq, D.lst.injEq]; exact D.beqL_iff xs ys
    | _ => simp [D.beq]
  | .map xs, b => by
    cases b with
    | map ys => simp only [D.beq, D.map.injEq]; exact D.beqL_iff xs ys
    | _ => simp [D.beq]
  | .dct xs zs, b => by
    cases b with
    | dct ys ws => simp only [D.beq, Bool.and_eq_true, D.beqL_iff xs ys, D.beqL_iff zs ws, D.dct.injEq]
    | _ => simp [D.beq]
theorem D.beqL_iff : ∀ a b : List D, D.beqL a b = true ↔ a = b
  | [], b => by cases b <;> simp [D.beqL]
  | x :: xs, b => by
    cases b with
    | nil => simp [D.beqL]
    | cons y ys => simp only [D.beqL, Bool.and_eq_true, D.beq_iff x y, D.beqL_iff xs ys, List.cons.injEq]
end
instance : DecidableEq D := fun a b => decidable_of_iff _ (D.beq_iff a b)

/-- what a ref points at: a list, a dict, an instance -/
inductive Cell where
  | lst (xs : List D)
  | map (xs : List D)
  /-- what was a dict, and is a value now -/
  | dead
  /-- a dict of ints to True -/
  | kst (ks : List Int)
  | ins (c : Nat) (fs : List (Str × D))
  deriving DecidableEq
abbrev PHeap := List Cell
abbrev PEnv := List (Option D)

inductive Res (α : Type) where
  | ok (a : α) (h : PHeap)
  | exc (e : D) (h : PHeap)
  | stuck
/-- behind a statement -/
inductive Out where
  | nx (env : PEnv) (h : PHeap)
  | rt (d : D) (h : PHeap)
  | bk (env : PEnv) (h : PHeap)
  | ct (env : PEnv) (h : PHeap)
  | exc (e : D) (env : PEnv) (h : PHeap)
  | stuck

def Res.bind {α β : Type} (r : Res α) (f : α → PHeap → Res β) : Res β := match r with
  | .ok a h => f a h
  | .exc e h => .exc e h
  | .stuck => .stuck
@[simp] theorem Res.bind_ok {α β : Type} (a : α) (h : PHeap) (f : α → PHeap → Res β) : (Res.ok a h).bind f = f a h := rfl
@[simp] theorem Res.bind_stuck {α β : Type} (f : α → PHeap → Res β) : (Res.stuck : Res α).bind f = .stuck := rfl
@[simp] theorem Res.bind_exc {α β : Type} (e : D) (h : PHeap) (f : α → PHeap → Res β) : (Res.exc e h : Res α).bind f = .exc e h := rfl
/-- an expression's end, within a statement -/
def Res.out {α : Type} (r : Res α) (env : PEnv) (f : α → PHeap → Out) : Out := match r with
  | .ok a h => f a h
  | .exc e h => .exc e env h
  | .stuck => .stuck
@[simp] theorem Res.out_ok {α : Type} (a : α) (h : PHeap) (env : PEnv) (f : α → PHeap → Out) : (Res.ok a h).out env f = f a h := rfl
@[simp] theorem Res.out_stuck {α : Type} (env : PEnv) (f : α → PHeap → Out) : (Res.stuck : Res α).out env f = .stuck := rfl
@[simp] theorem Res.out_exc {α : Type} (e : D) (h : PHeap) (env : PEnv) (f : α → PHeap → Out) : (Res.exc e h : Res α).out env f = .exc e env h := rfl

/-- within a comprehension nothing may be raised -/
def Res.calm {α : Type} (r : Res α) : Res α := match r with
  | .exc _ _ => .stuck
  | r => r
@[simp] theorem Res.calm_ok {α : Type} (a : α) (h : PHeap) : (Res.ok a h).calm = .ok a h := rfl
@[simp] theorem Res.calm_stuck {α : Type} : (Res.stuck : Res α).calm = .stuck := rfl
@[simp] theorem Res.calm_exc {α : Type} (e : D) (h : PHeap) : (Res.exc e h : Res α).calm = .stuck := rfl

abbrev ME := PEnv → PHeap → Res D
abbrev MT := PEnv → PHeap → Res Bool
abbrev MA := PEnv → PHeap → Res (List D)
abbrev MS := PEnv → PHeap → Out
/-- what is walked: its items, and the lists that must stand as they do -/
structure Itr where
  items : List D
  deps : List (Nat × List D)
abbrev MI := PEnv → PHeap → Res Itr
/-- a target: a slot, or several in a tuple -/
inductive TgM where
  | name (i : Nat) | tup (ts : List TgM)
mutual
def TgM.set : TgM → D → PEnv → Option PEnv
  | .name i, d, env => some (env.set i (some d))
  | .tup ts, d, env => match d with
    | .tup xs => TgM.sets ts xs env
    | _ => none
def TgM.sets : List TgM → List D → PEnv → Option PEnv
  | [], [], env => some env
  | t :: ts, x :: xs, env => match TgM.set t x env with
    | some e => TgM.sets ts xs e
    | none => none
  | _, _, _ => none
end
mutual
def TgM.slots : TgM → List Nat
  | .name i => [i]
  | .tup ts => TgM.slotsL ts
def TgM.slotsL : List TgM → List Nat
  | [] => []
  | t :: ts => TgM.slots t ++ TgM.slotsL ts
end

def Itr.live (t : Itr) (h : PHeap) : Bool := t.deps.all fun p => match h[p.1]? with
  | some (.lst xs) => decide (xs = p.2)
  | _ => false

/-! ### small refs, what a call leaves behind -/
mutual
def D.small (n : Nat) : D → Bool
  | .ref k => decide (k < n)
  | .tup xs => D.smallL n xs
  | .fro xs => D.smallL n xs
  | .lst xs => D.smallL n xs
  | .dct xs ys => D.smallL n xs && D.smallL n ys
  | .map xs => D.smallL n xs
  | _ => true
def D.smallL (n : Nat) : List D → Bool
  | [] => true
  | x :: xs => D.small n x && D.smallL n xs
end
def Cell.small (n : Nat) : Cell → Bool
  | .lst xs => D.smallL n xs
  | .map xs => D.smallL n xs
  | .dead => true
  | .kst _ => true
  | .ins _ fs => fs.all fun p => p.2.small n
def gc (n : Nat) (d : D) (h : PHeap) : PHeap :=
  if h.length ≤ n then h else if d.small n && (h.take n).all (Cell.small n) then h.take n else h

/-! ### the words of expressions -/
def mVar (i : Nat) : ME := fun env h => match env[i]? with
  | some (some d) => .ok d h
  | _ => .stuck
def mC (d : D) : ME := fun _ h => .ok d h
def mBin (f : D → D → PHeap → Res D) (a b : ME) : ME := fun env h => (a env h).bind fun x h1 => (b env h1).bind fun y h2 => f x y h2
def mUn (f : D → PHeap → Res D) (a : ME) : ME := fun env h => (a env h).bind f
def mIf (c : MT) (a b : ME) : ME := fun env h => (c env h).bind fun k h1 => match k with
  | true => a env h1
  | false => b env h1
def mNil : MA := fun _ h => .ok [] h
def mCons (a : ME) (r : MA) : MA := fun env h => (a env h).bind fun x h1 => (r env h1).bind fun xs h2 => .ok (x :: xs) h2
def mTup (a : MA) : ME := fun env h => (a env h).bind fun xs h1 => if xs.length ≤ 16777216 then .ok (.tup xs) h1 else .stuck
/-- a new list -/
def mLst (a : MA) : ME := fun env h => (a env h).bind fun xs h1 => if xs.length ≤ 16777216 then .ok (.ref h1.length) (h1 ++ [.lst xs]) else .stuck
def mCall (f : List D → PHeap → Res D) (a : MA) : ME := fun env h => (a env h).bind f

/-! tests -/
def mTst (a : ME) (f : D → PHeap → Res Bool) : MT := fun env h => (a env h).bind f
def mTB (a : ME) : MT := fun env h => (a env h).bind fun d h1 => match d with
  | .bl b => .ok b h1
  | _ => .stuck
def tNotM (c : MT) : MT := fun env h => (c env h).bind fun k h1 => .ok (!k) h1
def tAndM (a b : MT) : MT := fun env h => (a env h).bind fun k h1 => match k with
  | true => b env h1
  | false => .ok false h1
def tOrM (a b : MT) : MT := fun env h => (a env h).bind fun k h1 => match k with
  | true => .ok true h1
  | false => b env h1
def truthD : D → PHeap → Res Bool := fun d h => match d with
  | .non => .ok false h
  | .bl b => .ok b h
  | .int i => .ok (i != 0) h
  | .str x => if x.length ≤ 16777216 then .ok ((x.length : Int) != 0) h else .stuck
  | .tup xs => .ok (!xs.isEmpty) h
  | .ref n => match h[n]? with
    | some (.lst xs) => .ok (!xs.isEmpty) h
    | _ => .stuck
  | .fro xs => .ok (!xs.isEmpty) h
  | .lst _ => .stuck
  | .dct _ _ => .stuck
  | .map _ => .stuck
/-- x and y, x or y, as values -/
def mAnd (a b : ME) : ME := fun env h => (a env h).bind fun d h1 => (truthD d h1).bind fun k h2 => match k with
  | true => b env h2
  | false => .ok d h2
def mOr (a b : ME) : ME := fun env h => (a env h).bind fun d h1 => (truthD d h1).bind fun k h2 => match k with
  | true => .ok d h2
  | false => b env h2
def mNot (a : ME) : ME := fun env h => (a env h).bind fun d h1 => (truthD d h1).bind fun k h2 => .ok (.bl (!k)) h2
/-- a op1 b op2 c -/
def mChain (f g : D → D → PHeap → Res D) (a b c : ME) : ME := fun env h => (a env h).bind fun x h1 => (b env h1).bind fun y h2 => (f x y h2).bind fun z h3 => match z with
  | .bl true => (c env h3).bind fun w h4 => g y w h4
  | .bl false => .ok (.bl false) h3
  | _ => .stuck

/-! statements -/
def sSeq (a b : MS) : MS := fun env h => match a env h with
  | .nx e h1 => b e h1
  | o => o
def sNext : MS := fun env h => .nx env h
def sAsg (a : ME) (g : TgM) : MS := fun env h => (a env h).out env fun d h1 => match g.set d env with
  | some e => .nx e h1
  | none => .stuck
/-- a, b = x, y -/
def sPar (is : List Nat) (a : MA) : MS := fun env h => (a env h).out env fun xs h1 => if xs.length = is.length then .nx ((is.zip xs).foldl (fun e p => e.set p.1 (some p.2)) env) h1 else .stuck
def sDrop (a : ME) : MS := fun env h => (a env h).out env fun _ h1 => .nx env h1
def sRet (a : ME) : MS := fun env h => (a env h).out env fun d h1 => .rt d h1
def sRetN : MS := fun _ h => .rt .non h
def sIf (c : MT) (a b : MS) : MS := fun env h => (c env h).out env fun k h1 => match k with
  | true => a env h1
  | false => b env h1
def sBreak : MS := fun env h => .bk env h
def sCont : MS := fun env h => .ct env h
def sStuck : MS := fun _ _ => .stuck
/-- slots forgotten -/
def wipeE (env : PEnv) : List Nat → PEnv
  | [] => env
  | v :: vs => (wipeE env vs).set v none
def forL (g : TgM) (body : MS) (kill : List Nat) (t : Itr) : List D → PEnv → PHeap → Out
  | [], env, h => if t.live h then .nx (wipeE env kill) h else .stuck
  | d :: ds, env, h => if t.live h then match g.set d (wipeE env kill) with
      | none => .stuck
      | some e1 => match body e1 h with
        | .nx e h1 => forL g body kill t ds e h1
        | .ct e h1 => forL g body kill t ds e h1
        | .bk e h1 => .nx e h1
        | .rt d h1 => .rt d h1
        | .exc x e h1 => .exc x e h1
        | .stuck => .stuck
    else .stuck
def sFor (i : MI) (g : TgM) (body : MS) (kill : List Nat) : MS := fun env h => (i env h).out env fun t h1 => forL g body kill t t.items env h1
def whileL (c : MT) (body : MS) (kill : List Nat) : Nat → PEnv → PHeap → Out
  | 0, _, _ => .stuck
  | n + 1, env, h => (c (wipeE env kill) h).out env fun k h1 => match k with
    | false => .nx (wipeE env kill) h1
    | true => match body (wipeE env kill) h1 with
      | .nx e h2 => whileL c body kill n e h2
      | .ct e h2 => whileL c body kill n e h2
      | .bk e h2 => .nx e h2
      | .rt d h2 => .rt d h2
      | .exc x e h2 => .exc x e h2
      | .stuck => .stuck
def sWhile (c : MT) (body : MS) (kill : List Nat) : MS := fun env h => whileL c body kill 1000000000000 env h
/-- a value's items, and the cell that it is -/
def depsOf : D → List D → List (Nat × List D)
  | .ref n, xs => [(n, xs)]
  | _, _ => []
/-- [elt for target in iter if test]: the items that are made; own: the slots of the block's own names -/
def lcL (g : TgM) (c : MT) (elt : ME) (t : Itr) (env : PEnv) : List D → List D → PHeap → Res (List D)
  | [], acc, h => if t.live h then .ok acc h else .stuck
  | d :: ds, acc, h => if t.live h then match g.set d env with
      | none => .stuck
      | some e1 => (c e1 h).calm.bind fun k h1 => match k with
        | false => lcL g c elt t env ds acc h1
        | true => (elt e1 h1).calm.bind fun y h2 => if acc.length < 16777216 then lcL g c elt t env ds (acc ++ [y]) h2 else .stuck
    else .stuck
/-- two generators -/
def lc2In (g : TgM) (c : MT) (elt : ME) (t : Itr) (env : PEnv) : List D → List D → PHeap → Res (List D)
  | [], acc, h => if t.live h then .ok acc h else .stuck
  | d :: ds, acc, h => if t.live h then match g.set d env with
      | none => .stuck
      | some e1 => (c e1 h).calm.bind fun k h1 => match k with
        | false => lc2In g c elt t env ds acc h1
        | true => (elt e1 h1).calm.bind fun y h2 => if acc.length < 16777216 then lc2In g c elt t env ds (acc ++ [y]) h2 else .stuck
    else .stuck
def lc2L (g : TgM) (c : MT) (i1 : MI) (g1 : TgM) (c1 : MT) (elt : ME) (own1 : List Nat) (t : Itr) (env : PEnv) : List D → List D → PHeap → Res (List D)
  | [], acc, h => if t.live h then .ok acc h else .stuck
  | d :: ds, acc, h => if t.live h then match g.set d env with
      | none => .stuck
      | some e1 => (c e1 h).calm.bind fun k h1 => match k with
        | false => lc2L g c i1 g1 c1 elt own1 t env ds acc h1
        | true => (i1 e1 h1).calm.bind fun t1 h2 => (lc2In g1 c1 elt t1 (wipeE e1 own1) t1.items acc h2).bind fun acc' h3 => lc2L g c i1 g1 c1 elt own1 t env ds acc' h3
    else .stuck
def tYesM : MT := fun _ h => .ok true h
/-- the items of a comprehension -/
def mLc (i : MI) (g : TgM) (c : MT) (elt : ME) (own : List Nat) : MA := fun env h => (i env h).bind fun t h1 => lcL g c elt t (wipeE env own) t.items [] h1
def mLc2 (i : MI) (g : TgM) (c : MT) (i1 : MI) (g1 : TgM) (c1 : MT) (elt : ME) (own own1 : List Nat) : MA := fun env h => (i env h).bind fun t h1 => lc2L g c i1 g1 c1 elt own1 t (wipeE env own) t.items [] h1
/-- .. as a new list -/
def mNew (a : MA) : ME := fun env h => (a env h).bind fun xs h1 => .ok (.ref h1.length) (h1 ++ [.lst xs])

/-- a def's run: the parameters, then the other names -/
def runFn (np slots : Nat) (body : MS) : List D → PHeap → Res D := fun args h => if args.length = np then (match body (args.map some ++ List.replicate (slots - np) none) h with
  | .nx _ h1 => .ok .non (gc h.length .non h1)
  | .rt d h1 => .ok d (gc h.length d h1)
  | .exc e _ h1 => .exc e h1
  | _ => .stuck) else .stuck
end Gb

/-! GbT: tuples that are tracked as they were made (no dict of their own), and what is done with them -/
namespace Gb
open PySem PySem.Spec PyProof.Rows L2

/-- a tuple that is tracked as the object it is, with no dict of its own -/
def TupA (K : PySem.W.Frag) (H : Hp) (a : Addr) (xs : List V) : Prop :=
  (∃ o : Obj, H a = some (.frz o (.tup xs)) ∧ o.dict = none) ∨
    ∃ (o : Obj) (its : Array Value) (n : Nat), K.lookup a = some o ∧ o.cls = .type "tuple" ∧ o.dict = none ∧ o.data = .seq its n ∧ its.size ≤ sizeLine ∧ Vals xs its.toList
theorem TupA.of {K : PySem.W.Frag} {H : Hp} {a : Addr} {xs : List V} {o : Obj} (h : H a = some (.frz o (.tup xs))) (n : o.dict = none) : TupA K H a xs := .inl ⟨o, h, n⟩
theorem TupA.sq {K : PySem.W.Frag} {H : Hp} {a : Addr} {xs : List V} (h : TupA K H a xs) : SqT K H a xs := by
  rcases h with ⟨o, h, _⟩ | ⟨o, its, n, h1, h2, _, h3, h4, h5⟩
  · exact .inl (.inr ⟨o, h⟩)
  · exact .inr ⟨o, its, n, h1, h2, h3, h4, h5⟩
section
variable {X : Cx} {pins : List (Addr × Obj)} {σ : L2.St} {H : Hp} {s : Shared} {a : Addr} {xs ys : List V}
theorem _root_.L2.Inv.tupD (I : Inv X pins σ H s) (h : TupA X.K H a xs) : ∃ o, s.heap.get? a = some o ∧ o.cls = .type "tuple" ∧ o.dict = none := by
  rcases h with ⟨o, h, hd⟩ | ⟨o, its, n, hk, hc, hdn, _⟩
  · obtain ⟨e, _, its, r, ⟨o', e', hc, _⟩⟩ := I.hok a _ h
    rw [e] at e'; cases e'
    exact ⟨o, e, hc, hd⟩
  · exact ⟨o, I.kIn a o hk, hc, hdn⟩
/-- the object of a new tuple -/
abbrev tupO (its : List Value) : Obj := { cls := .type "tuple", data := .seq its.toArray }
theorem tup_ok {P : Program} {w : World} {h : Heap} {its : List Value} (hv : Vals ys its) (hz : ys.length ≤ sizeLine) (e : h.get? a = some (tupO its)) : ObjOk P w H h a (.frz (tupO its) (.tup ys)) :=
  ⟨e, hz, its, hv, ⟨_, e, rfl, _, rfl⟩⟩
/-- a new tuple is laid -/
theorem _root_.L2.Inv.tnew {its : List Value} {t' : Nat} (I : Inv X pins σ H s) (hv : Vals ys its) (hz : ys.length ≤ sizeLine) :
    Inv X pins σ (upd H s.heap.objs.size (.frz (tupO its) (.tup ys))) { s with heap := s.heap.push (tupO its), toks := t' } :=
  I.laid (fun b u e => Heap.get?_push_of_some _ e) (Nat.le_refl _) (tup_ok hv hz (Heap.get?_push_size _ rfl))
/-- it ends as is wished with a new tuple -/
abbrev NewT (H : Hp) (xs : List V) (Q : VK) : Prop := ∀ p o, H p = none → Obj.dict o = none → Q (.ref p) (upd H p (.frz o (.tup xs)))

variable {e : Expr} {es : List Expr} {te : TE} {t : TA} {pos : Pos}
def tTupA (t : TA) : TE := fun σ H Q => t σ H fun xs H1 => xs.length ≤ sizeLine ∧ NewT H1 xs Q
theorem pe_tupA {x1} (h : PA X es t) : PE X (.Tuple es x1 pos) (tTupA t) := by
  refine ⟨fun pins s σ H Q I hq => ?_⟩
  refine wpAny_Tuple_spliced (thn (h.run pos pins s σ H _ I hq) fun us s1 ⟨xs, H1, I1, r, z, q⟩ => ⟨by rw [← r.length]; exact z, ?_⟩)
  exact ⟨.ref s1.heap.objs.size, _, I1.tnew (t' := s1.toks) r z, rfl, q _ _ I1.fresh rfl⟩
/-- (a, b, ..) = a tuple of that length -/
def gTupA (K : PySem.W.Frag) (n : Nat) (t : TGs) : TG := fun v σ H Q => ∃ a xs, v = .ref a ∧ TupA K H a xs ∧ xs.length = n ∧ t xs σ H Q
theorem pg_tupA {k : Nat} {t : TGs} {n : Nat} (hc : X.calm = true) (h : PGs X es t)
    (hn : (assignEach es X.env).length = n := by rfl) (hst : (assignEach es X.env).findIdx? (·.1) = none := by rfl) : PG X (.Tuple es k pos) (gTupA X.K n t) := by
  refine ⟨fun pins s σ H v u Q I r hw => ?_⟩
  obtain ⟨a, xs, e1, hq, hl, hw⟩ := hw
  subst e1
  cases r
  obtain ⟨its, rv, ht, hz⟩ := I.tuple hq.sq
  refine assign_Tuple_tuple (I.ok.hd hc) ht (by simp [hn, ← hl, rv.length]) hst fun h' hx => ?_
  have I1 : Inv X pins σ H { s with heap := h' } := I.kept (t' := s.toks) fun b o e => hx b o (Nat.ne_of_lt (Heap.lt_size e)) e
  exact h.run pins _ σ H xs _ Q I1 (by simpa using rv) hw
/-- t[lo:hi] -/
def rSlAA (K : PySem.W.Frag) : V → Option Int → Option Int → Hp → VK → Prop := fun x lo hi H Q => ∃ a xs, x = .ref a ∧ TupA K H a xs ∧
  (HT.sIx xs.length 0 lo = 0 ∧ HT.sIx xs.length xs.length hi = xs.length → Q (.ref a) H) ∧ (¬ (HT.sIx xs.length 0 lo = 0 ∧ HT.sIx xs.length xs.length hi = xs.length) → NewT H (cutV xs lo hi) Q)
theorem sl_tupAA : SlR X (rSlAA X.K) := by
  intro pins s σ H x v vl vu lo hi sl Q I rx hs pl pu h
  obtain ⟨a, xs, rfl, hx, q1, q2⟩ := h
  cases rx
  obtain ⟨its, r, ht, hz⟩ := I.tuple hx.sq
  have hlen : its.toArray.size = xs.length := by rw [List.size_toArray]; exact r.length.symm
  refine ⟨"tuple", _, PyProof.Rows.slot_tuple_getitem.lookup, ht.typeIs, ?_⟩
  by_cases hw : HT.sIx xs.length 0 lo = 0 ∧ HT.sIx xs.length xs.length hi = xs.length
  · exact L2.getItem_tuple_whole ht hs pl pu (by rw [hlen]; exact hw) ⟨.ref a, H, I, rfl, q1 hw⟩
  · refine HT.getItem_tuple_cut ht hs pl pu (by rw [hlen]; exact hw) ?_ (by rw [hlen]; exact hz)
    rw [hlen]
    exact ⟨.ref s.heap.objs.size, _, I.tnew (t' := s.toks) ((r.drop (HT.sIx xs.length 0 lo)).take (HT.sIx xs.length xs.length hi - HT.sIx xs.length 0 lo)) (Nat.le_trans (cutV_length xs lo hi) hz), rfl, q2 hw _ _ I.fresh rfl⟩
/-- t + u -/
def rCatAA (K : PySem.W.Frag) : R2 := fun x y H Q => ∃ a b xs ys, x = .ref a ∧ y = .ref b ∧ TupA K H a xs ∧ TupA K H b ys ∧ xs.length + ys.length ≤ sizeLine ∧
  (xs = [] → Q (.ref b) H) ∧ (xs ≠ [] → ys = [] → Q (.ref a) H) ∧ (xs ≠ [] → ys ≠ [] → NewT H (xs ++ ys) Q)
theorem op_catAA : OpR X (binaryOp .Add) (rCatAA X.K) := by
  intro pins s σ H x y v u Q I rx ry h
  obtain ⟨a, b, xs, ys, rfl, rfl, ha, hb, hz, q0, q1, q2⟩ := h
  cases rx
  cases ry
  obtain ⟨its, r1, p1, _⟩ := I.tuple ha.sq
  obtain ⟨its2, r2, p2, _⟩ := I.tuple hb.sq
  by_cases hx : xs = []
  · subst hx
    cases r1
    exact L2.cat_tup0 p1 p2 ⟨.ref b, H, I, rfl, q0 rfl⟩
  · refine HT.cat_tup p1 p2 (fun z => hx (r1.nil_iff.mp z)) (fun z => ⟨.ref a, H, I, rfl, q1 hx (r2.nil_iff.mp z)⟩) (fun z => ?_) (by rw [← r1.length, ← r2.length]; exact hz)
    exact ⟨.ref s.heap.objs.size, _, I.tnew (t' := s.toks) (r1.append r2) (by rw [List.length_append]; exact hz), rfl, q2 hx (fun w => z (r2.nil_iff.mpr w)) _ _ I.fresh rfl⟩
/-- tuple(x) of a list or a tuple -/
def rTupleA (K : PySem.W.Frag) : List V → Hp → VK → Prop := fun xs H Q => ∃ p ys, xs = [.ref p] ∧ ((SqL K H p ys ∧ NewT H ys Q) ∨ (TupA K H p ys ∧ Q (.ref p) H))
theorem call_tupleA : CallR X (.type "tuple") (rTupleA X.K) := by
  intro pins s σ H xs us Q I r h
  obtain ⟨p, ys, rfl, h⟩ := h
  obtain ⟨u, rfl, rx⟩ := vals1 r
  cases rx
  rcases h with ⟨hq, q⟩ | ⟨hq, q⟩
  · obtain ⟨its, r', pl, hz⟩ := I.list hq
    have hlen := r'.length
    refine call_tuple_list pl.isList (fun h' kp => ?_) (by simp only [List.size_toArray] <;> omega)
    have I1 : Inv X pins σ H { s with heap := h' } := I.kept (t' := s.toks) kp
    exact ⟨.ref h'.objs.size, _, I1.tnew (t' := s.toks) r' hz, rfl, q _ _ (I1.hok.fresh (Nat.le_refl _)) rfl⟩
  · obtain ⟨its, r', pl, hz⟩ := I.tuple hq.sq
    exact call_tuple_same pl ⟨.ref p, H, I, rfl, q⟩

theorem tuple_mulS (l : Addr) (items : Array Value) (n : Nat) (dd : Option Addr) (sl : Array (Option Value)) (x : Int) (u : Tok) (c0 : (decide (x < -(2 ^ 63)) || decide (x ≥ 2 ^ 63)) = false) (c1 : (items.isEmpty || x == 1) = true) :
    Meets (Builtin.«tuple.__mul__» ⟨[.ref l, .int x u], []⟩) (fun _ R s => s.heap.get? l = some { cls := .type "tuple", dict := dd, data := .seq items n, slots := sl } ∧
      R (.ok (.ret (Value.ref l))) s) :=
  .of_wp fun prog w A R s h => by
    obtain ⟨hp, g, d, tk, os⟩ := s
    obtain ⟨hl, h⟩ := h
    have f1 := AutoSeq1.idx_int
    wp_walk using wpAny_loadPart' hl
    repeat (first
      | (refine wpAny_ite_false (decide_eq_false (by rw [c0]; exact Bool.false_ne_true)) ?_; wp_walk using wpAny_loadPart' hl)
      | (refine wpAny_ite_true (decide_eq_true c1) ?_; wp_walk using wpAny_loadPart' hl))
    exact ⟨_, rfl, h⟩
theorem tuple_mul0 (l : Addr) (items : Array Value) (n : Nat) (dd : Option Addr) (sl : Array (Option Value)) (x : Int) (u : Tok) (c0 : (decide (x < -(2 ^ 63)) || decide (x ≥ 2 ^ 63)) = false) (c1 : (items.isEmpty || x == 1) = false) (c2 : (decide (x ≤ 0) || items.isEmpty) = true) :
    Meets (Builtin.«tuple.__mul__» ⟨[.ref l, .int x u], []⟩) (fun _ R s => s.heap.get? l = some { cls := .type "tuple", dict := dd, data := .seq items n, slots := sl } ∧
      R (.ok (.ret (Value.ref s.heap.objs.size))) { s with heap := s.heap.push { cls := Value.type "tuple", data := Data.seq #[] }, toks := s.toks }) :=
  .of_wp fun prog w A R s h => by
    obtain ⟨hp, g, d, tk, os⟩ := s
    obtain ⟨hl, h⟩ := h
    have f1 := AutoSeq1.idx_int
    wp_walk using wpAny_loadPart' hl
    repeat (first
      | (refine wpAny_ite_false (decide_eq_false (by rw [c0]; exact Bool.false_ne_true)) ?_; wp_walk using wpAny_loadPart' hl)
      | (refine wpAny_ite_false (decide_eq_false (by rw [c1]; exact Bool.false_ne_true)) ?_; wp_walk using wpAny_loadPart' hl)
      | (refine wpAny_ite_true (decide_eq_true c2) ?_; wp_walk using wpAny_loadPart' hl))
    exact ⟨_, rfl, h⟩
/-- t * k -/
def rRepA (K : PySem.W.Frag) : R2 := fun x y H Q => ∃ l k xs, x = .ref l ∧ y = .int k ∧ TupA K H l xs ∧ -1000 ≤ k ∧ k ≤ 1000 ∧ xs.length ≤ 1000 ∧
  ((xs = [] ∨ k = 1) → Q (.ref l) H) ∧ (xs ≠ [] → k ≠ 1 → NewT H (List.replicate k.toNat xs).flatten Q)
theorem op_repA : OpR X (binaryOp .Mult) (rRepA X.K) := by
  intro pins s σ H x y v u Q I rx ry h
  obtain ⟨l, k, xs, rfl, rfl, hT, h1, h2, hz, qs, qn⟩ := h
  cases rx
  obtain ⟨t, rfl⟩ := ry
  obtain ⟨its, r, ⟨⟨cls, dd, data, sl⟩, ho, hc, n, hd⟩, hs⟩ := I.tuple hT.sq
  simp only at hc hd
  subst hc hd
  have hle : its.length = xs.length := r.length.symm
  have c0 : (decide (k < -(2 ^ 63)) || decide (k ≥ 2 ^ 63)) = false := by
    rw [decide_eq_false (by omega), decide_eq_false (by omega)] <;> rfl
  by_cases hsame : xs = [] ∨ k = 1
  · have c1 : (its.toArray.isEmpty || k == 1) = true := by
      rcases hsame with e | e
      · subst e; cases r; rfl
      · subst e; simp
    exact wpAny_binaryOp_repeat_ref (T := "tuple") (U := "int") (by decide) ⟨_, ho, rfl⟩ (fun s' => typeIs_int s' k t) noFill_tuple_mul F.fills_int_mul F.slot_int_rmul repeat_tuple F.slot_int_index.lookup
      (call_meets F.slot_int_rmul (typeIs_int s k t) F.entry_int_rmul (F.args_int_rmul_2 _ _) (int_rmul_tuple k t l its.toArray n dd sl)
        ⟨ho, rfl, ⟨_, ho, rfl⟩, call_meets F.slot_tuple_mul ⟨_, ho, rfl⟩ F.entry_tuple_mul (F.args_tuple_mul_2 _ _) (tuple_mulS l its.toArray n dd sl k t c0 c1) ⟨ho, ⟨.ref l, H, I, rfl, qs hsame⟩⟩⟩)
  have hne : xs ≠ [] := fun e => hsame (.inl e)
  have hk1 : k ≠ 1 := fun e => hsame (.inr e)
  have q := qn hne hk1
  have hn : its ≠ [] := fun e => hne (by
    rw [e] at hle
    exact List.eq_nil_of_length_eq_zero hle.symm)
  have hi : its.toArray.isEmpty = false := by
    cases its with
    | nil => exact absurd rfl hn
    | cons a b => rfl
  have c1 : (its.toArray.isEmpty || k == 1) = false := by
    rw [hi, Bool.false_or]
    exact beq_eq_false_iff_ne.mpr hk1
  by_cases hk0 : k ≤ 0
  · have c2 : (decide (k ≤ 0) || its.toArray.isEmpty) = true := by simp [hk0]
    have e0 : k.toNat = 0 := by omega
    rw [e0] at q
    exact wpAny_binaryOp_repeat_ref (T := "tuple") (U := "int") (by decide) ⟨_, ho, rfl⟩ (fun s' => typeIs_int s' k t) noFill_tuple_mul F.fills_int_mul F.slot_int_rmul repeat_tuple F.slot_int_index.lookup
      (call_meets F.slot_int_rmul (typeIs_int s k t) F.entry_int_rmul (F.args_int_rmul_2 _ _) (int_rmul_tuple k t l its.toArray n dd sl)
        ⟨ho, rfl, ⟨_, ho, rfl⟩, call_meets F.slot_tuple_mul ⟨_, ho, rfl⟩ F.entry_tuple_mul (F.args_tuple_mul_2 _ _) (tuple_mul0 l its.toArray n dd sl k t c0 c1 c2)
          ⟨ho, ⟨.ref s.heap.objs.size, _, I.tnew (its := []) (ys := []) (t' := s.toks) .nil (Nat.zero_le _), rfl, q _ _ I.fresh rfl⟩⟩⟩)
  have hsz0 : its.toArray.size = xs.length := by rw [List.size_toArray, hle]
  have hm : ((its.toArray.size : Nat) : Int) * k ≤ 1000000 := by
    rw [hsz0]
    have a1 : ((xs.length : Nat) : Int) * k ≤ 1000 * k := Int.mul_le_mul_of_nonneg_right (by omega) (by omega)
    omega
  have flen : (List.replicate k.toNat its).flatten.length ≤ sizeLine := by
    rw [PyProof.Rows.lm_len_rep_flat, hle, sizeLine_eq]
    have a1 : k.toNat * xs.length ≤ 1000 * 1000 := Nat.mul_le_mul (by omega) hz
    omega
  have c2 : (decide (k ≤ 0) || its.toArray.isEmpty) = false := by
    rw [hi, Bool.or_false]
    exact decide_eq_false (by omega)
  have c4 : Builtin.Tuple.tupleTooMany (((its.toArray.size : Nat) : Int) * k) = false := by
    unfold Builtin.Tuple.tupleTooMany
    rw [sizeLine_eq]
    exact decide_eq_false (by omega)
  refine wpAny_binaryOp_repeat_ref (T := "tuple") (U := "int") (by decide) ⟨_, ho, rfl⟩ (fun s' => typeIs_int s' k t) noFill_tuple_mul F.fills_int_mul F.slot_int_rmul repeat_tuple F.slot_int_index.lookup
    (call_meets F.slot_int_rmul (typeIs_int s k t) F.entry_int_rmul (F.args_int_rmul_2 _ _) (int_rmul_tuple k t l its.toArray n dd sl)
      ⟨ho, rfl, ⟨_, ho, rfl⟩, call_meets F.slot_tuple_mul ⟨_, ho, rfl⟩ F.entry_tuple_mul (F.args_tuple_mul_2 _ _) (tuple_mulW l its.toArray n dd sl k t c0 c1 c2 (by omega) c4 (by rw [size_rep, List.size_toArray]; exact flen)) ⟨ho, ?_⟩⟩)
  rw [size_rep]
  exact ⟨.ref s.heap.objs.size, _, I.tnew (t' := s.toks) (r.rep k.toNat) (by rw [PyProof.Rows.lm_len_rep_flat]; rw [PyProof.Rows.lm_len_rep_flat, hle] at flen; exact flen), rfl, q _ _ I.fresh rfl⟩
/-- t.m(..) -/
def tyTup (K : PySem.W.Frag) : V → Hp → Prop := fun x H => ∃ a xs, x = .ref a ∧ TupA K H a xs
theorem ty_tup : TyOk X "tuple" (tyTup X.K) := by
  intro pins σ H s x v I r ty
  obtain ⟨a, xs, rfl, h⟩ := ty
  cases r
  obtain ⟨o, e, c, d⟩ := I.tupD h
  exact ⟨⟨o, e, c⟩, fun b e' => by cases e'; exact ⟨o, e, d⟩⟩
end
end Gb

/-! GcA: dicts whose keys are tuples of numbers, None, such tuples: what stands at their address -/
namespace Gb
open PySem L2 PySem.Spec PyProof.Rows
mutual
/-- a key without texts -/
def nkB : NestedKey → Bool
  | .none => true
  | .num _ => true
  | .text _ => false
  | .tup ks => nkBL ks
def nkBL : List NestedKey → Bool
  | [] => true
  | k :: ks => nkB k && nkBL ks
end
mutual
theorem hash_any (w w' : World) : ∀ k : NestedKey, nkB k = true → NestedKey.hash w k = NestedKey.hash w' k
  | .none, _ => rfl
  | .num i, _ => rfl
  | .text _, h => by simp [nkB] at h
  | .tup ks, h => by
    simp only [nkB] at h
    simp only [NestedKey.hash, hashes_any w w' ks h]
theorem hashes_any (w w' : World) : ∀ ks : List NestedKey, nkBL ks = true → NestedKey.hashes w ks = NestedKey.hashes w' ks
  | [], _ => rfl
  | k :: ks, h => by
    simp only [nkBL, Bool.and_eq_true] at h
    simp only [NestedKey.hashes, hash_any w w' k h.1, hashes_any w w' ks h.2]
end
abbrev DY := NestedKey × Addr × V
abbrev DZ := NestedKey × Addr × Value
def EV : List DY → List DZ → Prop := Paired fun y z => y.1 = z.1 ∧ y.2.1 = z.2.1 ∧ RelV y.2.2 z.2.2
def entZ (w : World) (z : DZ) : DictEntry := ⟨NestedKey.hash w z.1, .ref z.2.1, z.2.2⟩
def DctRaw (o : Obj) (ys : List DY) : Prop := o.ExactDict ∧ (∃ es ep zs, o.data = .dict es ep ∧ EV ys zs ∧ ∀ w, es.toList = zs.map (entZ w)) ∧ (ys.map (·.1)).Nodup ∧ ∀ y ∈ ys, nkB y.1 = true
/-- the dict at a -/
def dctO (a : Addr) (o : Obj) (ys : List DY) : HO := .ext fun h => h.get? a = some o ∧ (a == sysModules) = false ∧ ys.length ≤ sizeLine ∧ DctRaw o ys
section
variable {P : Program} {w : World} {H : Hp} {h : Heap} {a : Addr} {o : Obj} {ys : List DY} {zs : List DZ}
theorem dct_mk (e : h.get? a = some o) (hs : (a == sysModules) = false) (hz : ys.length ≤ sizeLine) (r : DctRaw o ys) : ObjOk P w H h a (dctO a o ys) :=
  ⟨⟨e, hs, hz, r⟩, ⟨o, e⟩, fun h1 h2 q k => ⟨k _ q.1, q.2⟩⟩
theorem dct_rd (ok : HOk P w H h) (r : Rd H a (dctO a o ys)) : h.get? a = some o ∧ (a == sysModules) = false ∧ ys.length ≤ sizeLine ∧ DctRaw o ys := by
  rcases r with r | ⟨ob, r⟩
  · exact (ok a _ r).1
  · exact (ok a _ r).2.1
theorem EV.keys : ∀ {ys : List DY} {zs : List DZ}, EV ys zs → ys.map (·.1) = zs.map (·.1)
  | _, _, .nil => rfl
  | _, _, .cons r t => by rw [List.map_cons, List.map_cons, r.1, EV.keys t]
theorem EV.len {ys : List DY} {zs : List DZ} (e : EV ys zs) : ys.length = zs.length := Paired.length e
theorem EV.mem : ∀ {ys : List DY} {zs : List DZ}, EV ys zs → ∀ z ∈ zs, ∃ y ∈ ys, y.1 = z.1 ∧ y.2.1 = z.2.1 ∧ RelV y.2.2 z.2.2
  | _, _, .nil, z, m => by cases m
  | _, _, .cons (a := y) r t, z, m => by
    rcases List.mem_cons.mp m with rfl | m
    · exact ⟨y, List.mem_cons_self .., r⟩
    · obtain ⟨y', m', q⟩ := EV.mem t z m
      exact ⟨y', List.mem_cons_of_mem _ m', q⟩
theorem EV.get : ∀ {ys : List DY} {zs : List DZ} {i : Nat} {y : DY}, EV ys zs → ys[i]? = some y → ∃ z, zs[i]? = some z ∧ y.1 = z.1 ∧ y.2.1 = z.2.1 ∧ RelV y.2.2 z.2.2
  | _, _, i, y, .nil, e => by simp at e
  | _, _, 0, y, .cons (b := z) r t, e => by simp at e; subst e; exact ⟨z, rfl, r⟩
  | _, _, i + 1, y, .cons r t, e => by
    obtain ⟨z, e1, q⟩ := EV.get t (i := i) (by simpa using e)
    exact ⟨z, by simpa using e1, q⟩
/-- a value that is a key -/
inductive NkV (K : PySem.W.Frag) (H : Hp) : NestedKey → V → Prop
  | none : NkV K H .none .non
  | int (i : Int) : NkV K H (.num i) (.int i)
  | tup {a : Addr} {xs : List V} {ks : List NestedKey} : SqT K H a xs → (∀ i : Nat, (ks[i]?).isSome = (xs[i]?).isSome) → (∀ (i : Nat) k x, ks[i]? = some k → xs[i]? = some x → NkV K H k x) → NkV K H (.tup ks) (.ref a)
end
section
variable {X : Cx} {pins : List (Addr × Obj)} {σ : L2.St} {H : Hp} {s : Shared}
theorem nested_all {h : Heap} : ∀ {ks : List NestedKey} {xs : List V} {us : List Value}, Vals xs us → (∀ i : Nat, (ks[i]?).isSome = (xs[i]?).isSome) → (∀ (i : Nat) k x u, ks[i]? = some k → xs[i]? = some x → RelV x u → NestedIs h k u) → NestedAll h ks us
  | [], [], us, r, _, _ => by cases r; exact .nil
  | [], x :: xs, us, r, hl, _ => by have := hl 0; simp at this
  | k :: ks, [], us, r, hl, _ => by have := hl 0; simp at this
  | k :: ks, x :: xs, us, r, hl, hs => by
    cases r with
    | cons r t =>
      refine .cons (hs 0 k x _ rfl rfl r) (nested_all t (fun i => ?_) fun i k' x' u a b q => hs (i + 1) k' x' u (by simpa using a) (by simpa using b) q)
      have := hl (i + 1)
      simpa using this
theorem NkV.is (I : Inv X pins σ H s) {k : NestedKey} {x : V} (q : NkV X.K H k x) : ∀ {u : Value}, RelV x u → NestedIs s.heap k u := by
  induction q with
  | none => intro u r; cases r; exact .none
  | int i => intro u r; obtain ⟨t, rfl⟩ := r; exact .int i t
  | @tup a xs ks ht hl hs ih =>
    intro u r
    cases r
    obtain ⟨its, rv, ⟨o, e, hc, n, hd⟩, _⟩ := I.tuple ht
    exact .tup e hc hd (nested_all (by simpa using rv) hl fun i k x u a b q => ih i k x a b q)
/-- all keys stand -/
def KeysAt (K : PySem.W.Frag) (H : Hp) (ys : List DY) : Prop := ∀ y ∈ ys, NkV K H y.1 (.ref y.2.1) ∧ y.1.depth ≤ 8
theorem dct_of (I : Inv X pins σ H s) {a : Addr} {o : Obj} {ys : List DY} (r : Rd H a (dctO a o ys)) (ks : KeysAt X.K H ys) : ∃ zs, EV ys zs ∧ s.heap.DictOfH (nestedKind X.prog X.w) a zs := by
  obtain ⟨e, hs, hz, hx, ⟨es, ep, zs, hd, ev, he⟩, hn, hb⟩ := dct_rd I.hok r
  refine ⟨zs, ev, o, es, ep, e, hx, hd, he X.w, fun z m => ?_, by rw [← ev.keys]; exact hn⟩
  obtain ⟨y, my, e1, e2, e3⟩ := ev.mem z m
  obtain ⟨q1, q2⟩ := ks y my
  rw [← e1, ← e2]
  exact ⟨q1.is I rfl, q2⟩
/-- the entry of a key -/
def atY (ys : List DY) (k : NestedKey) : Option DY := ys.find? fun y => decide (y.1 = k)
def stY (ys : List DY) (k : NestedKey) (b : Addr) (v : V) : List DY := if (atY ys k).isSome then ys.map (fun y => if y.1 = k then (y.1, y.2.1, v) else y) else ys ++ [(k, b, v)]
theorem EV.at : ∀ {ys : List DY} {zs : List DZ} {k : NestedKey}, EV ys zs → match atY ys k with
    | some y => ∃ u, atKey zs k = some (y.2.1, u) ∧ RelV y.2.2 u
    | none => atKey zs k = none
  | _, _, k, .nil => rfl
  | _, _, k, .cons (a := y) (b := z) (l₁ := ys) (l₂ := zs) r t => by
    have ih := EV.at (k := k) t
    unfold atY atKey at ih ⊢
    rw [List.find?_cons, List.find?_cons]
    by_cases c : y.1 = k
    · have c2 : z.1 = k := by rw [← r.1]; exact c
      simp only [c, c2, decide_true, Option.map_some]
      exact ⟨z.2.2, by rw [r.2.1], r.2.2⟩
    · have c2 : ¬ z.1 = k := by rw [← r.1]; exact c
      simp only [c, c2, decide_false]
      exact ih
theorem EV.isSome {ys : List DY} {zs : List DZ} {k : NestedKey} (e : EV ys zs) : (atY ys k).isSome = (atKey zs k).isSome := by
  have := e.at (k := k)
  cases h : atY ys k with
  | some y => rw [h] at this; obtain ⟨u, e, _⟩ := this; rw [e]; rfl
  | none => rw [h] at this; rw [this]; rfl
theorem EV.st {ys : List DY} {zs : List DZ} {k : NestedKey} {b : Addr} {v : V} {u : Value} (e : EV ys zs) (r : RelV v u) : EV (stY ys k b v) (storedH zs k b u) := by
  unfold stY storedH
  rw [e.isSome (k := k)]
  split
  · rename_i c0
    clear c0
    unfold EV at e ⊢
    induction e with
    | nil => exact .nil
    | @cons y z ys zs h t ih =>
      refine .cons ?_ ih
      unfold putAt
      dsimp only
      by_cases c : y.1 = k
      · have c2 : z.1 = k := by rw [← h.1]; exact c
        rw [if_pos c, if_pos c2]
        exact ⟨h.1, h.2.1, r⟩
      · have c2 : ¬ z.1 = k := by rw [← h.1]; exact c
        rw [if_neg c, if_neg c2]
        exact h
  · rename_i c0
    clear c0
    unfold EV at e ⊢
    induction e with
    | nil => exact .cons ⟨rfl, rfl, r⟩ .nil
    | cons h t ih => exact .cons h ih
theorem atY_none {ys : List DY} {k : NestedKey} (h : (atY ys k).isSome = false) : k ∉ ys.map (·.1) := by
  intro m
  obtain ⟨y, my, e⟩ := List.mem_map.mp m
  have : (atY ys k).isSome = true := by
    unfold atY
    rw [List.find?_isSome]
    exact ⟨y, my, decide_eq_true e⟩
  rw [h] at this
  cases this
theorem stY_keys {ys : List DY} {k : NestedKey} {b : Addr} {v : V} : (stY ys k b v).map (·.1) = if (atY ys k).isSome then ys.map (·.1) else ys.map (·.1) ++ [k] := by
  unfold stY
  split
  · rw [List.map_map]
    congr 1
    funext y
    simp only [Function.comp]
    split <;> rfl
  · simp
theorem stY_len {ys : List DY} {k : NestedKey} {b : Addr} {v : V} : (stY ys k b v).length ≤ ys.length + 1 := by
  unfold stY
  split <;> simp
theorem stY_raw {ys : List DY} {k : NestedKey} {b : Addr} {v : V} (hn : (ys.map (·.1)).Nodup) (hb : ∀ y ∈ ys, nkB y.1 = true) (hk : nkB k = true) : ((stY ys k b v).map (·.1)).Nodup ∧ ∀ y ∈ stY ys k b v, nkB y.1 = true := by
  have key : ∀ x ∈ (stY ys k b v).map (·.1), nkB x = true := by
    rw [stY_keys]
    split
    · intro x m; obtain ⟨y, my, rfl⟩ := List.mem_map.mp m; exact hb y my
    · intro x m
      rcases List.mem_append.mp m with m | m
      · obtain ⟨y, my, rfl⟩ := List.mem_map.mp m; exact hb y my
      · rw [List.mem_singleton.mp m]; exact hk
  refine ⟨?_, fun y m => key _ (List.mem_map_of_mem m)⟩
  rw [stY_keys]
  split
  · exact hn
  · rename_i c
    rw [List.nodup_append]
    refine ⟨hn, by simp, fun x mx y my => ?_⟩
    rw [List.mem_singleton.mp my]
    intro e
    subst e
    exact atY_none (by simpa using c) mx
/-- from the library's dict back to its object -/
theorem raw_of {h' : Heap} {a : Addr} {ys : List DY} {zs : List DZ} {w : World} {P : Program} (hm : h'.DictOfH (nestedKind P w) a zs) (ev : EV ys zs) (hn : (ys.map (·.1)).Nodup) (hb : ∀ y ∈ ys, nkB y.1 = true) : ∃ o, h'.get? a = some o ∧ DctRaw o ys := by
  obtain ⟨o, es, ep, e, hx, hd, he, _, _⟩ := hm
  refine ⟨o, e, hx, ⟨es, ep, zs, hd, ev, fun w' => ?_⟩, hn, hb⟩
  rw [he]
  refine List.map_congr_left fun z m => ?_
  obtain ⟨y, my, e1, _, _⟩ := ev.mem z m
  show (⟨_, _, _⟩ : DictEntry) = _
  unfold entZ
  rw [show (nestedKind P w).hash z.1 = NestedKey.hash w' z.1 from hash_any w w' z.1 (by rw [← e1]; exact hb y my)]
variable {a b : Addr} {o : Obj} {ys : List DY} {k : NestedKey}
theorem key_is (I : Inv X pins σ H s) (hk : NkV X.K H k (.ref b)) (hd : k.depth ≤ 8) : (nestedKind X.prog X.w).is s.heap k b := ⟨hk.is I rfl, hd⟩
/-- d.get(k, x) -/
theorem dct_getOr (hu : X.A.units + 65 < cLine) (I : Inv X pins σ H s) (r : Rd H a (dctO a o ys)) (ks : KeysAt X.K H ys) (hk : NkV X.K H k (.ref b)) (hd : k.depth ≤ 8) {v : V} {u : Value} (rv : RelV v u) {Q : VK} (q : Q (((atY ys k).map (·.2.2)).getD v) H) :
    wpAny (model X.prog X.w) X.A (call (.builtin "dict.get") [.ref a, .ref b, u]) (EP X pins σ Q) X.xe s := by
  obtain ⟨e, hs, _⟩ := dct_rd I.hok r
  obtain ⟨zs, ev, hm⟩ := dct_of I r ks
  refine call_meetsIn PySem.F.slot_dict_get hm.typeIs PySem.F.entry_dict_get (PySem.F.args_dict_get_3 _ _ _) (meetsH_dict_get_default (nestedKind X.prog X.w) a b hs u) ⟨show X.A.units + 1 + 8 < cLine by omega, k, zs, key_is I hk hd, hm, ?_⟩
  have := ev.at (k := k)
  cases h : atY ys k with
  | some y =>
    rw [h] at this q
    obtain ⟨u', e1, e2⟩ := this
    rw [e1]
    exact ⟨y.2.2, H, I.tok _, e2, q⟩
  | none =>
    rw [h] at this q
    rw [this]
    exact ⟨v, H, I.tok _, rv, q⟩
/-- d[k] -/
theorem dct_getItem (hu : X.A.units + 65 < cLine) (I : Inv X pins σ H s) (r : Rd H a (dctO a o ys)) (ks : KeysAt X.K H ys) (hk : NkV X.K H k (.ref b)) (hd : k.depth ≤ 8) {y : DY} (hy : atY ys k = some y) {Q : VK} (q : Q y.2.2 H) :
    wpAny (model X.prog X.w) X.A (getItem (.ref a) (.ref b)) (EP X pins σ Q) X.xe s := by
  obtain ⟨zs, ev, hm⟩ := dct_of I r ks
  have := ev.at (k := k)
  rw [hy] at this
  obtain ⟨u', e1, e2⟩ := this
  exact wpAny_getItem_heap (show X.A.units + 1 + 8 < cLine by omega) (key_is I hk hd) hm e1 ⟨y.2.2, H, I.tok _, e2, q⟩
/-- k in d, k not in d -/
theorem dct_in (hu : X.A.units + 65 < cLine) (I : Inv X pins σ H s) (r : Rd H a (dctO a o ys)) (ks : KeysAt X.K H ys) (hk : NkV X.K H k (.ref b)) (hd : k.depth ≤ 8) {Q : VK} (q : Q (.bl (atY ys k).isSome) H) :
    wpAny (model X.prog X.w) X.A (compareOp .In (.ref b) (.ref a)) (EP X pins σ Q) X.xe s := by
  obtain ⟨e, hs, _⟩ := dct_rd I.hok r
  obtain ⟨zs, ev, hm⟩ := dct_of I r ks
  refine wpAny_in_heap (show X.A.units + 1 + 8 < cLine by omega) (key_is I hk hd) hs hm ⟨.bl _, H, I.tok _, ?_, q⟩
  rw [ev.isSome]; rfl
theorem dct_notIn (hu : X.A.units + 65 < cLine) (I : Inv X pins σ H s) (r : Rd H a (dctO a o ys)) (ks : KeysAt X.K H ys) (hk : NkV X.K H k (.ref b)) (hd : k.depth ≤ 8) {Q : VK} (q : Q (.bl (!(atY ys k).isSome)) H) :
    wpAny (model X.prog X.w) X.A (compareOp .NotIn (.ref b) (.ref a)) (EP X pins σ Q) X.xe s := by
  obtain ⟨e, hs, _⟩ := dct_rd I.hok r
  obtain ⟨zs, ev, hm⟩ := dct_of I r ks
  show wpAny _ _ (do return Value.bool (!(← contains (.ref a) (.ref b)))) _ _ s
  refine wpAny_bind (wpAny_contains_heap (show X.A.units + 1 + 8 < cLine by omega) (key_is I hk hd) hs hm (wpAny_pure ⟨.bl _, H, I.tok _, ?_, q⟩))
  rw [ev.isSome]; rfl
/-- d[k] = v -/
theorem dct_setItem (hu : X.A.units + 65 < cLine) (I : Inv X pins σ H s) (r : H a = some (dctO a o ys)) (ks : KeysAt X.K H ys) (hk : NkV X.K H k (.ref b)) (hb : nkB k = true) (hd : k.depth ≤ 8) (hz : ys.length < sizeLine) {v : V} {u : Value} (rv : RelV v u) {Q : Unit → Shared → Prop}
    (q : ∀ s' o', Inv X pins σ (upd H a (dctO a o' (stY ys k b v))) s' → Q () s') : wpAny (model X.prog X.w) X.A (setItem (.ref a) (.ref b) u) Q X.xe s := by
  obtain ⟨e, hs, hz0, hx, hr, hn, hb0⟩ := dct_rd I.hok (.inl r)
  obtain ⟨zs, ev, hm⟩ := dct_of I (.inl r) ks
  refine wpAny_setItem_heap (hsz := by rw [← ev.len]; exact hz0) (show X.A.units + 1 + 8 < cLine by omega) (key_is I hk hd) hm fun h' hm' sb => ?_
  obtain ⟨h1, h2⟩ := stY_raw (k := k) (b := b) (v := v) hn hb0 hb
  obtain ⟨o', e', r'⟩ := raw_of hm' (ev.st (k := k) (b := b) rv) h1 h2
  refine q _ o' (d_write I (by rw [r]; exact True.intro) sb ⟨o', e'⟩ (dct_mk e' hs ?_ r'))
  have := stY_len (ys := ys) (k := k) (b := b) (v := v)
  omega
/-- {} -/
theorem raw_nil : DctRaw { cls := .type "dict", data := .dict #[] } [] := ⟨⟨rfl, rfl, rfl⟩, ⟨#[], 0, [], rfl, .nil, fun _ => rfl⟩, List.nodup_nil, fun _ m => by cases m⟩
theorem pe_dctNew {pos : Pos} : PE X (.Dict [] [] pos) (fun _ H Q => ∀ p o, H p = none → Q (.ref p) (upd H p (dctO p o []))) := ⟨fun pins s σ H Q I h =>
  wpAny_Dict_empty ⟨.ref s.heap.objs.size, _, I.laid (a := s.heap.objs.size) (o := dctO s.heap.objs.size { cls := .type "dict", data := .dict #[] } []) (t' := s.toks) (fun _ _ q => Heap.get?_push_of_some _ q) (Nat.le_refl _)
    (dct_mk (Heap.get?_push_size _ rfl) (beq_eq_false_iff_ne.mpr (Ne.symm (Nat.ne_of_lt I.big))) (Nat.zero_le _) raw_nil), rfl, h _ _ (I.hok.fresh (Nat.le_refl _))⟩⟩
end
end Gb

/-! GcB: dicts walked, told as lists, sorted -/
namespace Gb
open PySem L2 PySem.Spec PyProof.Rows PySem.W
mutual
theorem reads_lt {h : Heap} : ∀ (d : PyData) (v : Value) (as : List Addr), alike d d = true → Reads h v d as → ∀ a ∈ as, a < h.objs.size
  | .none, _, _, _, r => by cases r; simp
  | .bool _, _, _, _, r => by cases r; simp
  | .int _, _, _, _, r => by cases r; simp
  | .str _, _, _, _, r => by cases r; simp
  | .list xs, _, _, hal, r => by
    cases r with
    | list h1 h2 h3 h4 =>
      intro a m
      rcases List.mem_cons.mp m with rfl | m
      · exact Heap.lt_size h1
      · exact readsAll_lt xs _ _ (by simpa [alike] using hal) h4 a m
  | .tuple xs, _, _, hal, r => by
    cases r with
    | tuple h1 h2 h3 h4 => exact readsAll_lt xs _ _ (by simpa [alike] using hal) h4
  | .dict _, _, _, hal, _ => absurd hal (by simp [alike])
theorem readsAll_lt {h : Heap} : ∀ (ds : List PyData) (vs : List Value) (as : List Addr), alikeAll ds ds = true → ReadsAll h vs ds as → ∀ a ∈ as, a < h.objs.size
  | [], _, _, _, r => by cases r; simp
  | d :: ds, _, _, hal, r => by
    cases r with
    | cons h1 h2 =>
      intro a m
      rcases List.mem_append.mp m with m | m
      · exact reads_lt d _ _ (alike_all_cons hal).1 h1 a m
      · exact readsAll_lt ds _ _ (alike_all_cons hal).2 h2 a m
end
section
variable {prog : Program} {w : World} {d : Addr} {es : Array DictEntry} {ep : Nat}
theorem kdl_raw (lo : (d == sysModules) = false) : KdlSrc prog w "dict" d d es.size (fun i v => ∃ hi : i < es.size, v = es[i].key) (fun h => h.DictRaw d es ep) where
  type := fun _ hm => hm.typeIs
  there := fun _ hm => ⟨let ⟨_, ho, _⟩ := hm; Heap.lt_size ho, let ⟨_, ho, _⟩ := hm; Heap.lt_size ho⟩
  keep := fun _ _ hm hk => hm.at fun o e => hk d (.inl rfl) o e
  notList := by decide
  notTuple := by decide
  hint := fun _ _ _ _ hm hq => kdl_hint_dict hm.typeIs hq
  iter := fun A s hh hm => ⟨_, _, (fun _ _ hq => wpAny_pyIter_dict_raw lo hm hq), Walks.rawKeys hh _ d (Nat.ne_of_lt (let ⟨_, ho, _⟩ := hm; Heap.lt_size ho)) es ep, ⟨⟨_, Heap.get?_push_size _ rfl, rfl, rfl⟩, hm.at fun o e => Heap.get?_push_of_some _ e⟩⟩
end
section
variable {X : Cx} {pins : List (Addr × Obj)} {σ : L2.St} {H : Hp} {s : Shared} {a : Addr} {o : Obj} {ys : List DY}
/-- a dict, with its entries as they lie -/
theorem dct_ent (I : Inv X pins σ H s) (r : Rd H a (dctO a o ys)) : ∃ es ep, o.data = .dict es ep ∧ s.heap.DictRaw a es ep ∧ s.heap.get? a = some o ∧ (a == sysModules) = false ∧ es.size = ys.length ∧ ys.length ≤ sizeLine ∧
    ∀ (i : Nat) y, ys[i]? = some y → ∃ e, es[i]? = some e ∧ e.key = .ref y.2.1 ∧ RelV y.2.2 e.val := by
  obtain ⟨e, hs, hz, hx, ⟨es, ep, zs, hd, ev, he⟩, hn, hb⟩ := dct_rd I.hok r
  have he' := he X.w
  refine ⟨es, ep, hd, ⟨o, e, hx, hd⟩, e, hs, ?_, hz, fun i y h => ?_⟩
  · rw [← Array.length_toList, he', List.length_map, ev.len]
  · obtain ⟨z, h1, h2, h3, h4⟩ := ev.get h
    refine ⟨entZ X.w z, ?_, by unfold entZ; rw [h3], h4⟩
    rw [← Array.getElem?_toList, he', List.getElem?_map, h1]
    rfl
theorem keys_vals {es : Array DictEntry} {ys : List DY} {acc : List Value} (hl : acc.length = ys.length) (hs : es.size = ys.length) (h : ∀ (i : Nat) y, ys[i]? = some y → ∃ e, es[i]? = some e ∧ e.key = .ref y.2.1 ∧ RelV y.2.2 e.val)
    (q : ∀ (j : Nat) v, acc[j]? = some v → ∃ hi : j < es.size, v = es[j].key) : acc = ys.map fun y => Value.ref y.2.1 := by
  apply List.ext_getElem?
  intro i
  rw [List.getElem?_map]
  by_cases c : i < ys.length
  · have e1 := List.getElem?_eq_getElem c
    obtain ⟨e, h1, h2, _⟩ := h i _ e1
    obtain ⟨h3, h4⟩ := q i _ (List.getElem?_eq_getElem (by omega))
    rw [Array.getElem?_eq_getElem h3] at h1
    have h5 : es[i] = e := Option.some.inj h1
    rw [h5, h2] at h4
    rw [e1, List.getElem?_eq_getElem (by omega), h4]
    rfl
  · rw [List.getElem?_eq_none (by omega), List.getElem?_eq_none (by omega)]
    rfl
theorem vals_refs : ∀ ys : List DY, Vals (ys.map fun y => V.ref y.2.1) (ys.map fun y => Value.ref y.2.1)
  | [] => .nil
  | y :: ys => .cons rfl (vals_refs ys)
/-- list(d) -/
def rListN : List V → Hp → VK → Prop := fun xs H Q => ∃ a o ys, xs = [.ref a] ∧ Rd H a (dctO a o ys) ∧ ∀ p, H p = none → Q (.ref p) (upd H p (.lst (ys.map fun y => V.ref y.2.1)))
theorem call_listN (hc : X.calm = true) : CallR X (.type "list") rListN := by
  intro pins s σ H xs us Q I r q
  obtain ⟨a, o, ys, ex, hd, q⟩ := q
  subst ex
  obtain ⟨u, eu, rx⟩ := vals1 r
  subst eu
  cases rx
  obtain ⟨es, ep, hdat, hraw, hg, hs, hsz, hz, hent⟩ := dct_ent I hd
  refine kdl_call (kdl_raw hs) (I.ok.hd hc) hraw (by rw [hsz]; exact hz) fun h' tk acc' c' hk hD hacc => ?_
  have e := keys_vals (acc := acc'.toList) (by rw [Array.length_toList, hacc.1, hsz]) hsz hent fun j v e => hacc.2 j v (by rw [← Array.getElem?_toList]; exact e)
  refine ⟨.ref s.heap.objs.size, _, I.laid (t' := tk) hk (Nat.le_refl _) (show ObjOk X.prog X.w _ _ _ (.lst (ys.map fun y => V.ref y.2.1)) from ⟨by rw [List.length_map]; exact hz, acc'.toList, c', by rw [e]; exact vals_refs ys, by rw [Array.toArray_toList]; exact hD⟩), rfl, q _ (I.hok.fresh (Nat.le_refl _))⟩
/-- what may be sorted: each as data -/
structure Srt (K : PySem.W.Frag) (H : Hp) (bs : List (V × PyData)) : Prop where
  dp : ∀ b ∈ bs, Dp K H b.1 b.2
  al : AllAlike (bs.map (·.2))
  so : Sortable (bs.map (·.2))
  dep : ∀ b ∈ bs, b.2.depth ≤ 60
  len : bs.length ≤ sizeLine
def sortB (bs : List (V × PyData)) : List (V × PyData) := bs.mergeSort (dataLe false (·.2))
theorem each_rel : ∀ {bs : List (V × PyData)} {vs : List Value}, Vals (bs.map (·.1)) vs → EachIs (fun v (b : V × PyData) => RelV b.1 v) vs bs
  | [], vs, r => by cases r; exact .nil
  | b :: bs, vs, r => by cases r with | cons r t => exact .cons r (each_rel t)
theorem rel_each : ∀ {bs : List (V × PyData)} {vs : List Value}, EachIs (fun v (b : V × PyData) => RelV b.1 v) vs bs → Vals (bs.map (·.1)) vs
  | _, _, .nil => .nil
  | _, _, .cons r t => .cons r (rel_each t)
/-- sorted(d): its keys -/
def rSortN (K : PySem.W.Frag) : List V → Hp → VK → Prop := fun xs H Q => ∃ a o ys bs, xs = [.ref a] ∧ Rd H a (dctO a o ys) ∧ bs.map (·.1) = ys.map (fun y => V.ref y.2.1) ∧ Srt K H bs ∧ ∀ p, H p = none → Q (.ref p) (upd H p (.lst ((sortB bs).map (·.1))))
theorem call_sortN (hc : X.calm = true) (hu : X.A.units + 65 < cLine) : CallR X (.builtin "sorted") (rSortN X.K) := by
  intro pins s σ H xs us Q I r q
  obtain ⟨a, o, ys, bs, ex, hd, hbs, S, q⟩ := q
  subst ex
  obtain ⟨u, eu, rx⟩ := vals1 r
  subst eu
  cases rx
  obtain ⟨es, ep, hdat, hraw, hg, hs, hsz, hz, hent⟩ := dct_ent I hd
  refine Calls.call_function_entry PyProof.Rows.kind_sorted PyProof.Rows.plain_sorted PyProof.Rows.entry_sorted (PyProof.Rows.args_sorted1 _) ?_
  unfold Builtin.«sorted»
  refine wpAny_bind (m := checkCount "sorted" 1 1 _) (wpAny_pure ?_)
  refine wpAny_bind (kdu_collect (A := X.A.in1) (kdl_raw hs) (I.ok.hd hc) hraw (by rw [hsz]; exact hz) fun h' tk acc hk hacc => ?_)
  have e := keys_vals (acc := acc.toList) (by rw [Array.length_toList, hacc.1, hsz]) hsz hent fun j v e => hacc.2 j v (by rw [← Array.getElem?_toList]; exact e)
  have hv : Vals (bs.map (·.1)) acc.toList := by rw [e, hbs]; exact vals_refs ys
  have hal : acc.toList.length = ys.length := by rw [e, List.length_map]
  have I1 : Inv X pins σ H { s with heap := h', toks := tk } := I.kept hk
  refine wpAny_bind (wpAny_newList ?_ (by rw [hal]; exact hz))
  have hoL : (h'.push (seqObj "list" acc.toList.toArray 0)).get? h'.objs.size = some (seqObj "list" acc.toList.toArray 0) := Heap.get?_push_size _ rfl
  show wpAny _ _ _ _ _ { s with heap := h'.push (seqObj "list" acc.toList.toArray 0), toks := tk }
  have er : EachIs (fun v (b : V × PyData) => ∃ as, Reads (h'.push (seqObj "list" acc.toList.toArray 0)) v b.2 as ∧ h'.objs.size ∉ as) acc.toList bs := by
    have key : ∀ {cs : List (V × PyData)} {vs : List Value}, Vals (cs.map (·.1)) vs → (∀ b ∈ cs, b ∈ bs) → EachIs (fun v (b : V × PyData) => ∃ as, Reads (h'.push (seqObj "list" acc.toList.toArray 0)) v b.2 as ∧ h'.objs.size ∉ as) vs cs := by
      intro cs
      induction cs with
      | nil => intro vs r _; cases r; exact .nil
      | cons b cs ih =>
        intro vs r hm
        cases r with
        | cons r t =>
          refine .cons ?_ (ih t fun x m => hm x (List.mem_cons_of_mem _ m))
          obtain ⟨as, q⟩ := Dp.reads I1 b.2 b.1 _ (S.dp b (hm b (List.mem_cons_self ..))) r
          refine ⟨as, Reads.keeps (fun _ _ e => Heap.get?_push_of_some _ e) q, fun m => ?_⟩
          have := reads_lt b.2 _ _ (S.al _ (List.mem_map_of_mem (hm b (List.mem_cons_self ..))) _ (List.mem_map_of_mem (hm b (List.mem_cons_self ..)))) q _ m
          exact absurd this (Nat.lt_irrefl _)
    exact key hv fun _ m => m
  refine wpAny_bind (wpAny_holding (list_sort_data (s := { s with heap := h'.push (seqObj "list" acc.toList.toArray 0), toks := tk }) hoL (each_rel hv) er S.al S.so S.len (fun b hb => ?_) fun out hl ho => ?_))
  · have := S.dep b hb
    show X.A.units + 1 + 1 + b.2.depth < cLine
    omega
  obtain ⟨e', he'⟩ := PyProof.Rows.sortedHeap_at (vs := acc.toList) (out := out.toArray) hoL
  have ro := rel_each ho
  refine wpAny_pure ⟨_, rfl, .ref h'.objs.size, upd H h'.objs.size (.lst ((sortB bs).map (·.1))), I1.laid (t' := tk) (fun b u e => ?_) (Nat.le_refl _)
    (show ObjOk X.prog X.w _ _ _ (.lst ((sortB bs).map (·.1))) from ⟨?_, out, e', ro, he'⟩), rfl, q _ (I1.hok.fresh (Nat.le_refl _))⟩
  · have hb : b < h'.objs.size := Heap.lt_size e
    rw [PyProof.Rows.sortedHeap_old (Nat.ne_of_lt hb) (by rw [size_push']; exact Nat.lt_succ_of_lt hb)]
    exact Heap.get?_push_of_some _ e
  · rw [List.length_map]
    unfold sortB
    rw [List.length_mergeSort]
    exact S.len
end
end Gb

/-! GcC: for k in d, for k, v in d.items(), of a dict that nobody writes -/
namespace Gb
open PySem L2 PySem.Spec PyProof.Rows PySem.W
abbrev pairO (k v : Value) : Obj := { cls := .type "tuple", data := .seq #[k, v] }
def ItnI (d : Addr) (o : Obj) (ys : List DY) : It :=
  ⟨fun i H => H d = some (.frz o (dctO d o ys)) ∧ i < ys.length, fun i H x H' => ∃ T k b v ob, ys[i]? = some (k, b, v) ∧ x = .ref T ∧ H T = none ∧ Obj.dict ob = none ∧ H' = upd H T (.frz ob (.tup [.ref b, v])), fun i H => H d = some (.frz o (dctO d o ys)) ∧ ys.length ≤ i⟩
def ItnK (d : Addr) (o : Obj) (ys : List DY) : It :=
  ⟨fun i H => H d = some (.frz o (dctO d o ys)) ∧ i < ys.length, fun i H x H' => H' = H ∧ ∃ k b v, ys[i]? = some (k, b, v) ∧ x = .ref b, fun i H => H d = some (.frz o (dctO d o ys)) ∧ ys.length ≤ i⟩
section
variable {P : Program} {w : World} {K : PySem.W.Frag} {tg : Expr} {d : Addr} {o : Obj} {es : Array DictEntry} {ep : Nat}
theorem turn_nkeys {ys : List DY} (it : Addr) (hod : o.data = .dict es ep) : Turn P w K tg (ItnK d o ys) [it] it (fun i h => h.IsKeyIter it d i es.size ep) where
  mem := by simp
  obj := fun i h st b hb => by
    have e : b = it := by simpa using hb
    subst e
    obtain ⟨oi, e, c, dd⟩ := st
    exact ⟨oi, e, fun v z => by rw [dd] at z; cases z⟩
  keep := fun i h h' st k => st.at fun oi e => k it (by simp) oi e
  item := by
    intro X hP hw hK hc i pins s σ H E I hf st hg
    subst hP hw hK
    obtain ⟨hd, hi⟩ := hg
    obtain ⟨f0, f1, f2, f3, f4, f5⟩ := hf it (by simp)
    obtain ⟨es', ep', hdt, hraw, hgd, hs, hsz, hz, hent⟩ := dct_ent I (.inr ⟨o, hd⟩)
    obtain ⟨rfl, rfl⟩ := dict_ep hod hdt
    obtain ⟨⟨k, b, v⟩, hkv⟩ : ∃ p, ys[i]? = some p := ⟨ys[i], List.getElem?_eq_getElem hi⟩
    obtain ⟨en, hen, hkey, hval⟩ := hent i _ hkv
    have hi2 : i < es'.size := by omega
    have hen2 : es'[i] = en := by rw [Array.getElem?_eq_getElem hi2] at hen; exact Option.some.inj hen
    refine wpAny_pyNext_keys_item_raw st hraw hi2 fun h' st' sb => ?_
    have I1 : Inv X pins σ H { s with heap := h' } := I.turned (t' := s.toks) (fun b ob hb e => (sb.2 b hb).trans e) f0 f1 f3 f4 f5
    obtain ⟨oi, e, c, dd⟩ := id st'
    refine ⟨_, rfl, go_of (s := { s with heap := h' }) e c dd (by decide) ⟨.ref b, H, I1, ?_, ⟨rfl, k, b, v, hkv, rfl⟩, st', fun b hb => (hf b hb).1⟩⟩
    rw [hen2, hkey]
    rfl
  done := by
    intro X hP hw hK hc i pins s σ H E I hf st hg
    subst hP hw hK
    obtain ⟨hd, hi⟩ := hg
    obtain ⟨f0, f1, f2, f3, f4, f5⟩ := hf it (by simp)
    obtain ⟨es', ep', hdt, hraw, hgd, hs, hsz, hz, hent⟩ := dct_ent I (.inr ⟨o, hd⟩)
    obtain ⟨rfl, rfl⟩ := dict_ep hod hdt
    exact wpAny_pyNext_keys_end_raw (I.ok.hd hc) st hraw (by omega) fun h' eb => ⟨rfl, I.turned (t' := s.toks) (fun b ob hb e => eb b ob hb e) f0 f1 f3 f4 f5⟩
  self := fun A i s Q E st h => wpAny_pyIter_keyiter st h
theorem turn_nitems {ys : List DY} {elts : List Expr} {kk : Nat} {tpos : Pos} (it : Addr) (hod : o.data = .dict es ep) :
    Turn P w K (.Tuple elts kk tpos) (ItnI d o ys) [it] it (fun i h => ∃ ok ov, IsItemIter h it d i es.size ep ok ov) where
  mem := by simp
  obj := fun i h st b hb => by
    have e : b = it := by simpa using hb
    subst e
    obtain ⟨ok, ov, e⟩ := st
    exact ⟨_, e, fun v z => nomatch z⟩
  keep := fun i h h' st k => let ⟨ok, ov, e⟩ := st; ⟨ok, ov, k it (by simp) _ e⟩
  item := by
    intro X hP hw hK hc i pins s σ H E I hf st hg
    subst hP hw hK
    obtain ⟨hd, hi⟩ := hg
    obtain ⟨es', ep', hdt, hraw, hgd, hs, hsz, hz, hent⟩ := dct_ent I (.inr ⟨o, hd⟩)
    obtain ⟨rfl, rfl⟩ := dict_ep hod hdt
    obtain ⟨⟨k, b, v⟩, hkv⟩ : ∃ p, ys[i]? = some p := ⟨ys[i], List.getElem?_eq_getElem hi⟩
    obtain ⟨en, hen, hkey, hval⟩ := hent i _ hkv
    have hi2 : i < es'.size := by omega
    have hen2 : es'[i] = en := by rw [Array.getElem?_eq_getElem hi2] at hen; exact Option.some.inj hen
    obtain ⟨ok, ov, he⟩ := st
    have hlt : it < s.heap.objs.size := Heap.lt_size he
    refine wpAny_pyNext_items_item_raw he hraw hi2 fun h' ho hT hz2 hk => ?_
    refine ⟨_, rfl, wpAny_letOwnedTupleGo_items (s := { s with heap := h' }) ho fun h'' he' sb => ?_⟩
    have hT2 : h''.get? s.heap.objs.size = some (pairO es'[i].key es'[i].val) := (sb.2 _ (Nat.ne_of_gt hlt)).trans hT
    have hrk : RelV (V.ref b) es'[i].key := by rw [hen2, hkey]; rfl
    have hrv : RelV v es'[i].val := by rw [hen2]; exact hval
    have new : ObjOk X.prog X.w (upd H s.heap.objs.size (.frz (pairO es'[i].key es'[i].val) (.tup [.ref b, v]))) h'' s.heap.objs.size (.frz (pairO es'[i].key es'[i].val) (.tup [.ref b, v])) :=
      ⟨hT2, by show 2 ≤ sizeLine; decide, [es'[i].key, es'[i].val], .cons hrk (.cons hrv .nil), ⟨_, hT2, rfl, _, rfl⟩⟩
    have I1 : Inv X pins σ (upd H s.heap.objs.size (.frz (pairO es'[i].key es'[i].val) (.tup [.ref b, v]))) { s with heap := h'' } :=
      I.turnedNew (t' := s.toks) (ch := [it]) (fun b ob hb e => (sb.2 b (by simpa using hb)).trans (hk b ob (by simpa using hb) e)) hf (Nat.le_refl _) new
    refine ⟨.ref s.heap.objs.size, _, I1, rfl, ⟨_, k, b, v, _, hkv, rfl, I.hok.fresh (Nat.le_refl _), rfl, rfl⟩, ⟨_, _, he'⟩, fun b' hb => ?_⟩
    have e : b' = it := by simpa using hb
    rw [e, upd_ne (Nat.ne_of_lt hlt)]
    exact (hf it (by simp)).1
  done := by
    intro X hP hw hK hc i pins s σ H E I hf st hg
    subst hP hw hK
    obtain ⟨hd, hi⟩ := hg
    obtain ⟨f0, f1, f2, f3, f4, f5⟩ := hf it (by simp)
    obtain ⟨es', ep', hdt, hraw, hgd, hs, hsz, hz, hent⟩ := dct_ent I (.inr ⟨o, hd⟩)
    obtain ⟨rfl, rfl⟩ := dict_ep hod hdt
    obtain ⟨ok, ov, he⟩ := st
    exact wpAny_pyNext_items_end_raw (I.ok.hd hc) he hraw (by omega) fun h' eb => ⟨rfl, I.turned (t' := s.toks) (fun b ob hb e => eb b ob hb e) f0 f1 f3 f4 f5⟩
  self := fun A i s Q E st h => let ⟨_, _, e⟩ := st; PySem.W.kcp_self e h
end
section
variable {X : Cx} {tg e : Expr} {td : TE} {apos cpos : Pos}
def iNKeys (td : TE) : TI := fun σ H R => td σ H fun x H1 => ∃ d o ys, x = .ref d ∧ H1 d = some (.frz o (dctO d o ys)) ∧ R (ItnK d o ys) H1
def iNItems (td : TE) : TI := fun σ H R => td σ H fun x H1 => ∃ d o ys, x = .ref d ∧ H1 d = some (.frz o (dctO d o ys)) ∧ R (ItnI d o ys) H1
theorem pi_nkeys (he : PE X e td) : PI X tg e (iNKeys td) := by
  refine ⟨fun pins s σ H R I h => ?_⟩
  refine thn (he.run pins s σ H _ I h) fun u s1 ⟨x, H1, I1, rx, d, o, ys, ex, hd, q⟩ => ?_
  subst ex
  obtain rfl : u = Value.ref d := rx
  obtain ⟨es, ep, hdt, hraw, hgd, hs, hsz, hz, hent⟩ := dct_ent I1 (.inr ⟨o, hd⟩)
  exact wpAny_pyIter_dict_raw hs hraw (pi_one (tk := s1.toks) I1 _ (turn_nkeys _ hdt) ⟨_, Heap.get?_push_size _ rfl, rfl, rfl⟩ q)
theorem pi_nitems {elts : List Expr} {kk : Nat} {tpos : Pos} (he : PE X e td) (hbase : attributeBase e "items" X.env (eval e X.env) = eval e X.env := by rfl) (hline : (apos.endLine == cpos.line) = true := by rfl) :
    PI X (.Tuple elts kk tpos) (.Call (.Attribute e "items" apos) [] [] cpos) (iNItems td) := by
  refine ⟨fun pins s σ H R I h => ?_⟩
  refine wpAny_Call_method (T := "dict") (id := "dict.items") hbase rfl hline F.plainAttrs_dict F.slot_dict_items F.type_dict_items (thn (he.run pins s σ H _ I h) fun u s1 ⟨x, H1, I1, rx, d, o, ys, ex, hd, q⟩ => ?_)
  subst ex
  obtain rfl : u = Value.ref d := rx
  obtain ⟨es, ep, hdt, hraw, hgd, hs, hsz, hz, hent⟩ := dct_ent I1 (.inr ⟨o, hd⟩)
  refine ⟨hraw.typeIs, fun b q => by cases q; obtain ⟨o', e1, e2, _⟩ := hraw; exact ⟨o', e1, e2.2.1⟩, ?_⟩
  have I2 : Inv X pins σ H1 { s1 with heap := s1.heap.push { cls := .type "dict_items", data := .fields #[.ref d] } } := I1.kept (t' := s1.toks) fun b ob q => Heap.get?_push_of_some _ q
  have fin : wpAny (model X.prog X.w) X.A (pyIter (.ref s1.heap.objs.size)) (PIE X pins σ (.Tuple elts kk tpos) R) X.xe { s1 with heap := s1.heap.push { cls := .type "dict_items", data := .fields #[.ref d] } } := by
    exact wpAny_pyIter_items_raw (d := d) ⟨_, Heap.get?_push_size _ rfl, rfl, rfl⟩ (hraw.at fun o e => Heap.get?_push_of_some _ e) (pi_one (tk := s1.toks) I2 _ (turn_nitems _ hdt) ⟨.none, .none, Heap.get?_push_size _ rfl⟩ q)
  show wpAny _ _ (callWith cpos (.builtin "dict.items") [.ref d] [] []) _ X.xe s1
  exact method_meetsIn F.slot_dict_items F.entry_dict_items rfl (PySem.evalArgs_none ⟨rfl, hraw.typeIs, F.args_dict_items_1 _, _, meets_dict_items_raw d hs, ⟨es, ep, hraw⟩, fin⟩)
end
end Gb

/-! GcD: the least of data, data sorted, data compared -/
namespace Gb
open PySem L2 PySem.Spec PyProof.Rows PySem.W
section
variable {prog : Program} {w : World} {A : Around} {E : Value → Shared → Prop} {s : Shared}
/-- min(a, b), compared where the heap stands -/
theorem call_min_twoH {a b : Value} {Q : Value → Shared → Prop}
    (h : wpAny (model prog w) A.in1 (pyIter (.ref s.heap.objs.size)) (fun it s₂ => ∃ I fp wr G n P St H bt, it = .ref I ∧ WalksS prog w A.in1 I fp wr G n P St ∧ St 0 s₂ ∧ (∀ b ∈ fp, b < s₂.heap.objs.size) ∧ 0 < n ∧
      (∀ b o, H.get? b = some o → b ∉ wr) ∧ (∀ b o, H.get? b = some o → s₂.heap.get? b = some o) ∧ CmpIn prog w A.in1 .Lt H P bt ∧ ∀ v s', P (argBest bt (n - 1)) v → Moved wr G s₂ s' → Q v s') E
      { s with heap := s.heap.push { cls := .type "tuple", data := .seq #[a, b] } }) :
    wpAny (model prog w) A (call (.builtin "min") [a, b]) Q E s := by
  have hname : (toString "min" ++ toString ".loop" : String) = "min.loop" := by decide
  refine call_function_tree F.kind_min F.plain_min F.entry_min (F.args_min2 _ _) ?_
  show wpAny _ A.in1 (Builtin.Builtins.bindParams "min" ["key", "default"] 0 ⟨[], []⟩ >>= _) _ _ s
  refine wpAny_bind (wpAny_of_eq (show Builtin.Builtins.bindParams "min" ["key", "default"] 0 ⟨[], []⟩ = pure [none, none] from rfl) ?_)
  show wpAny _ A.in1 (newTuple [a, b] >>= _) _ _ s
  refine wpAny_bind (wpAny_newObj_type ?_)
  refine wpAny_bind (wpAny_mono h (fun it s₂ h₂ => ?_) fun _ _ e => e)
  obtain ⟨I, fp, wr, G, n, P, St, H, bt, rfl, W, hst, hfp, hn, hw, hkeep, hcmp, hQ⟩ := h₂
  refine wpAny_bind (wpAny_newObj_type ?_)
  have hSf : s₂.heap.objs.size ∉ fp := fun hm => Nat.lt_irrefl _ (hfp _ hm)
  rw [hname]
  refine wpAny_pure ⟨plainId_quiet F.plain_min_loop _, codeAny_min_loop_firstH W H hw bt hcmp s₂.heap.objs.size hSf (fresh_in hkeep) _ hn (fun b o e => Heap.get?_push_of_some _ (hkeep b o e)) (W.frame 0 s₂ _ s₂.toks hst (Nat.le_refl _) fun b _ o e => Heap.get?_push_of_some _ e) (Heap.get?_push_size _ rfl) fun v s' hP hm => ?_⟩
  exact hQ v s' hP (Moved.drop_new (tk := s₂.toks) hm (Nat.le_refl _))
/-- the lesser one of two data; the first one if they are equal -/
theorem min_two_data {a b : Value} {x y : PyData} {as bs : List Addr} {Q : Value → Shared → Prop} (hh : A.handled = none) (ra : Reads s.heap a x as) (rb : Reads s.heap b y bs) (hal : AlikeAll [x, y]) (hu : A.units + 1 + PyData.depthAll [x, y] < cLine)
    (h : ∀ h' tk, (∀ b o, s.heap.get? b = some o → h'.get? b = some o) → Q (if dataLt y x = true then b else a) { s with heap := h', toks := tk }) :
    wpAny (model prog w) A (call (.builtin "min") [a, b]) Q E s := by
  have hT : (s.heap.push { cls := .type "tuple", data := .seq #[a, b] }).IsTuple s.heap.objs.size #[a, b] := ⟨_, Heap.get?_push_size _ rfl, rfl, 0, rfl⟩
  have k0 : ∀ c o, s.heap.get? c = some o → (s.heap.push { cls := .type "tuple", data := .seq #[a, b] }).get? c = some o := fun c o e => Heap.get?_push_of_some _ e
  have hr : ReadsAll (s.heap.push { cls := .type "tuple", data := .seq #[a, b] }) (#[a, b] : Array Value).toList [x, y] (as ++ (bs ++ [])) := .cons (Reads.keeps k0 ra) (.cons (Reads.keeps k0 rb) .nil)
  refine call_min_twoH (iter_tupleW (A := A.in1) (s := { s with heap := s.heap.push { cls := .type "tuple", data := .seq #[a, b] } }) hh hT fun s₂ e W st hfp hw hk => ?_)
  refine ⟨_, _, _, _, _, _, _, _, _, rfl, W, st, hfp, by show 0 < 2; decide, hw, hk, cmpIn_lt (s := { s with heap := s.heap.push { cls := .type "tuple", data := .seq #[a, b] } }) (A := A.in1) hr hal (by show A.units + 1 + _ < _; exact hu), fun v s' hP m => ?_⟩
  obtain ⟨h', tk, rfl, hk'⟩ := moved_old e rfl m
  have hv : v = if dataLt y x = true then b else a := by
    have e2 : argBest (fun i j => dataLt ([x, y].getD i .none) ([x, y].getD j .none)) 1 = if dataLt y x = true then 1 else 0 := rfl
    have hP' : (#[a, b] : Array Value)[argBest (fun i j => dataLt ([x, y].getD i .none) ([x, y].getD j .none)) 1]? = some v := hP
    rw [e2] at hP'
    by_cases c : dataLt y x = true
    · rw [if_pos c] at hP' ⊢; simpa using hP'.symm
    · rw [if_neg c] at hP' ⊢; simpa using hP'.symm
  rw [hv]
  exact h h' tk fun c o e => hk' c o (k0 c o e)
end
section
variable {X : Cx} {pins : List (Addr × Obj)} {σ : L2.St} {H : Hp} {s : Shared}
theorem dpAllB {K : PySem.W.Frag} {H : Hp} : ∀ {bs : List (V × PyData)}, (∀ b ∈ bs, Dp K H b.1 b.2) → DpAll K H (bs.map (·.1)) (bs.map (·.2))
  | [], _ => .nil
  | b :: bs, h => .cons (h b (List.mem_cons_self ..)) (dpAllB fun x m => h x (List.mem_cons_of_mem _ m))
/-- min(a, b) -/
def rMin2D (K : PySem.W.Frag) : List V → Hp → VK → Prop := fun xs H Q => ∃ v u x y, xs = [v, u] ∧ Dp K H v x ∧ Dp K H u y ∧ AlikeAll [x, y] ∧ x.depth ≤ 60 ∧ y.depth ≤ 60 ∧ Q (if dataLt y x = true then u else v) H
theorem call_min2D (hc : X.calm = true) (hu : X.A.units + 65 < cLine) : CallR X (.builtin "min") (rMin2D X.K) := by
  intro pins s σ H xs us Q I r q
  obtain ⟨v, u, x, y, ex, h1, h2, hal, d1, d2, q⟩ := q
  subst ex
  obtain ⟨u1, u2, rfl, r1, r2⟩ := vals2 r
  obtain ⟨as, q1⟩ := Dp.reads I x v u1 h1 r1
  obtain ⟨bs, q2⟩ := Dp.reads I y u u2 h2 r2
  refine min_two_data (I.ok.hd hc) q1 q2 hal (by simp only [PyData.depthAll]; omega) fun h' tk k => ⟨_, H, I.kept k, ?_, q⟩
  by_cases c : dataLt y x = true
  · rw [if_pos c, if_pos c]; exact r2
  · rw [if_neg c, if_neg c]; exact r1
theorem vals_get : ∀ {vs : List V} {us : List Value} {i : Nat} {x : V}, Vals vs us → vs[i]? = some x → ∃ u, us[i]? = some u ∧ RelV x u
  | [], _, i, x, _, e => by simp at e
  | v :: vs, _, 0, x, .cons r t, e => by simp at e; subst e; exact ⟨_, rfl, r⟩
  | v :: vs, _, i + 1, x, .cons r t, e => by
    obtain ⟨u, h1, h2⟩ := vals_get t (i := i) (by simpa using e)
    exact ⟨u, by simpa using h1, h2⟩
/-- min of a list of data -/
structure Mn (K : PySem.W.Frag) (H : Hp) (a : Addr) (bs : List (V × PyData)) : Prop where
  sq : SqL K H a (bs.map (·.1))
  dp : ∀ b ∈ bs, Dp K H b.1 b.2
  al : AlikeAll (bs.map (·.2))
  dep : PyData.depthAll (bs.map (·.2)) ≤ 60
def rMinD (K : PySem.W.Frag) : List V → Hp → VK → Prop := fun xs H Q => ∃ a b bs, xs = [.ref a] ∧ Mn K H a (b :: bs) ∧ ∀ c ∈ b :: bs, c.2 = minD b.2 (bs.map (·.2)) → Q c.1 H
theorem min_item (I : Inv X pins σ H s) {a : Addr} {bs : List (V × PyData)} (M : Mn X.K H a bs) : ∃ (its : Array Value) (as : List Addr), s.heap.IsList a its ∧ ReadsAll s.heap its.toList (bs.map (·.2)) as ∧
    ∀ (i : Nat) v (d : PyData) h' cs, (∀ b o, s.heap.get? b = some o → h'.get? b = some o) → its[i]? = some v → d ∈ bs.map (·.2) → Reads h' v d cs → ∃ c ∈ bs, c.2 = d ∧ RelV c.1 v := by
  obtain ⟨its, rv, pl, _⟩ := I.list M.sq
  obtain ⟨as, hr⟩ := Dp.readsAll I _ _ _ (dpAllB M.dp) rv
  refine ⟨its.toArray, as, pl.isList, by simpa using hr, fun i v d h' cs k hv hd rd => ?_⟩
  have hv' : its[i]? = some v := by simpa using hv
  have hl : i < its.length := (List.getElem?_eq_some_iff.mp hv').1
  have hlen : (bs.map (·.1)).length = its.length := rv.length
  rw [List.length_map] at hlen
  have hb : bs[i]? = some bs[i] := List.getElem?_eq_getElem (by omega)
  have hmem : bs[i] ∈ bs := List.getElem_mem _
  refine ⟨bs[i], hmem, ?_, ?_⟩
  · obtain ⟨u, hu, q⟩ : ∃ u, its[i]? = some u ∧ RelV bs[i].1 u := by
      have e1 : (bs.map (·.1))[i]? = some bs[i].1 := by rw [List.getElem?_map, hb]; rfl
      obtain ⟨u, e2, e3⟩ := vals_get rv e1
      exact ⟨u, e2, e3⟩
    rw [hv'] at hu
    cases hu
    obtain ⟨ds, r2⟩ := Dp.reads I bs[i].2 bs[i].1 v (M.dp _ hmem) q
    exact alike_unique _ _ _ _ _ (M.al.1 _ (List.mem_map_of_mem hmem) _ hd) (Reads.keeps k r2) rd
  · have e1 : (bs.map (·.1))[i]? = some bs[i].1 := by rw [List.getElem?_map, hb]; rfl
    obtain ⟨u, e2, e3⟩ := vals_get rv e1
    rw [hv'] at e2
    cases e2
    exact e3
theorem minD_mem : ∀ (xs : List PyData) (x : PyData), minD x xs ∈ x :: xs
  | [], x => List.mem_cons_self ..
  | y :: xs, x => by
    unfold minD
    rw [List.foldl_cons]
    have := minD_mem xs (if dataLt y x = true then y else x)
    unfold minD at this
    rcases List.mem_cons.mp this with e | m
    · rw [e]
      split
      · exact List.mem_cons_of_mem _ (List.mem_cons_self ..)
      · exact List.mem_cons_self ..
    · exact List.mem_cons_of_mem _ (List.mem_cons_of_mem _ m)
theorem call_minD (hc : X.calm = true) (hu : X.A.units + 65 < cLine) : CallR X (.builtin "min") (rMinD X.K) := by
  intro pins s σ H xs us Q I r q
  obtain ⟨a, b, bs, ex, M, q⟩ := q
  subst ex
  obtain ⟨u, eu, rx⟩ := vals1 r
  subst eu
  cases rx
  obtain ⟨its, as, hl, hr, hi⟩ := min_item I M
  refine min_list_data (I.ok.hd hc) hl hr M.al (by have := M.dep; simp only [List.map_cons] at this ⊢; omega) fun i v h' tk cs hv rd k => ?_
  obtain ⟨c, mc, e1, e2⟩ := hi i v _ h' cs k hv (minD_mem _ _) rd
  exact ⟨c.1, H, I.kept k, e2, q c mc e1⟩
/-- min(xs, default=None) -/
def rMinN (K : PySem.W.Frag) : List V → List V → Hp → VK → Prop := fun xs zs H Q => ∃ a z bs, xs = [.ref a] ∧ zs = [z] ∧ Mn K H a bs ∧ match bs with
  | [] => Q z H
  | b :: bs => ∀ c ∈ b :: bs, c.2 = minD b.2 (bs.map (·.2)) → Q c.1 H
theorem call_minN (hc : X.calm = true) (hu : X.A.units + 65 < cLine) : CallRK X (.builtin "min") [Str.ofString "default"] (rMinN X.K) := by
  intro pins s σ H xs zs us ws Q I r r2 q
  obtain ⟨a, z, bs, ex, ez, M, q⟩ := q
  subst ex ez
  obtain ⟨u, eu, rx⟩ := vals1 r
  subst eu
  cases rx
  obtain ⟨w', ew, rz⟩ := vals1 r2
  subst ew
  obtain ⟨its, as, hl, hr, hi⟩ := min_item I M
  refine min_list_default (I.ok.hd hc) hl hr M.al (by have := M.dep; omega) (fun e h' tk k => ?_) fun y ys i v h' tk cs e hv rd k => ?_
  · have e : bs = [] := by simpa using e
    subst e
    exact ⟨z, H, I.kept k, rz, q⟩
  · cases bs with
    | nil => cases e
    | cons b bs =>
      obtain ⟨rfl, rfl⟩ := List.cons.inj e
      obtain ⟨c, mc, e1, e2⟩ := hi i v _ h' cs k hv (minD_mem _ _) rd
      exact ⟨c.1, H, I.kept k, e2, q c mc e1⟩
/-- sorted(xs), xs a list of data -/
def rSortD (K : PySem.W.Frag) : List V → Hp → VK → Prop := fun xs H Q => ∃ a bs, xs = [.ref a] ∧ SqL K H a (bs.map (·.1)) ∧ Srt K H bs ∧ ∀ p, H p = none → Q (.ref p) (upd H p (.lst ((sortB bs).map (·.1))))
theorem call_sortD (hu : X.A.units + 65 < cLine) : CallR X (.builtin "sorted") (rSortD X.K) := by
  intro pins s σ H xs us Q I r q
  obtain ⟨a, bs, ex, hd, S, q⟩ := q
  subst ex
  obtain ⟨u, eu, rx⟩ := vals1 r
  subst eu
  cases rx
  obtain ⟨its, rv, pl, _⟩ := I.list hd
  have er : EachIs (fun v (b : V × PyData) => ∃ as, Reads s.heap v b.2 as) its bs := by
    have key : ∀ {cs : List (V × PyData)} {vs : List Value}, Vals (cs.map (·.1)) vs → (∀ b ∈ cs, b ∈ bs) → EachIs (fun v (b : V × PyData) => ∃ as, Reads s.heap v b.2 as) vs cs := by
      intro cs
      induction cs with
      | nil => intro vs r _; cases r; exact .nil
      | cons b cs ih =>
        intro vs r hm
        cases r with
        | cons r t => exact .cons (Dp.reads I b.2 b.1 _ (S.dp b (hm b (List.mem_cons_self ..))) r) (ih t fun x m => hm x (List.mem_cons_of_mem _ m))
    exact key rv fun _ m => m
  refine sorted_data pl.isList (each_rel rv) er S.al S.so S.len (fun b hb => ?_) fun out hl ho => ?_
  · have := S.dep b hb
    omega
  obtain ⟨e', he'⟩ := sortedAll_at s.heap its out.toArray
  have ro := rel_each ho
  refine ⟨.ref (s.heap.objs.size + 1), upd H (s.heap.objs.size + 1) (.lst ((sortB bs).map (·.1))), I.laid (t' := s.toks) (fun b u e => sortedAll_old e) (by omega)
    (show ObjOk X.prog X.w _ _ _ (.lst ((sortB bs).map (·.1))) from ⟨?_, out, e', ro, he'⟩), rfl, q _ (I.hok.fresh (by omega))⟩
  rw [List.length_map]
  unfold sortB
  rw [List.length_mergeSort]
  exact S.len
/-- data compared -/
def rCmpD (K : PySem.W.Frag) (f : PyData → PyData → Bool) : R2 := fun x y H Q => ∃ d e, Dp K H x d ∧ Dp K H y e ∧ alike d e = true ∧ d ≠ .none ∧ d.depth ≤ 60 ∧ Q (.bl (f d e)) H
theorem op_ltD (hu : X.A.units + 65 < cLine) : OpR X (compareOp .Lt) (rCmpD X.K dataLt) := by
  intro pins s σ H x y v u Q I rx ry h
  obtain ⟨d, e, hd, he, al, hn, hz, q⟩ := h
  obtain ⟨as, r1⟩ := Dp.reads I d x v hd rx
  obtain ⟨bs, r2⟩ := Dp.reads I e y u he ry
  exact lt_data r1 r2 al hn (by omega) ⟨.bl _, H, I, rfl, q⟩
theorem op_leD (hu : X.A.units + 65 < cLine) : OpR X (compareOp .LtE) (rCmpD X.K fun d e => !dataLt e d) := by
  intro pins s σ H x y v u Q I rx ry h
  obtain ⟨d, e, hd, he, al, hn, hz, q⟩ := h
  obtain ⟨as, r1⟩ := Dp.reads I d x v hd rx
  obtain ⟨bs, r2⟩ := Dp.reads I e y u he ry
  exact le_data r1 r2 al hn (by omega) ⟨.bl _, H, I, rfl, q⟩
end
end Gb

/-! GbB: how plain values and heaps stand for Python's; the readings of plain words -/
namespace Gb
open PySem L2

/-- a list, a dict of ints, that nobody writes -/
inductive FX where
  | l (xs : List V) | d (ns : List (Int × Int)) | m (o : Obj) (ys : List DY)
instance : Coe (List V) FX := ⟨.l⟩
def dkv (ns : List (Int × Int)) : List (Key × V) := ns.map fun p => (.inl p.1, .int p.2)
def FroL (K : PySem.W.Frag) (H : Hp) (a : Addr) : FX → Prop
  | .l xs => (∃ o, H a = some (.frz o (.lst xs))) ∨
    ∃ (o : Obj) (its : Array Value) (n : Nat), K.lookup a = some o ∧ o.cls = .type "list" ∧ o.dict = none ∧ o.data = .seq its n ∧ its.size ≤ sizeLine ∧ Vals xs its.toList
  | .d ns => ∃ o, H a = some (.frz o (.dK (dkv ns)))
  | .m o ys => H a = some (.frz o (dctO a o ys))
mutual
/-- a value as a key -/
def nk : D → Option NestedKey
  | .non => some .none
  | .int i => some (.num i)
  | .tup xs => (nkL xs).map .tup
  | _ => none
def nkL : List D → Option (List NestedKey)
  | [] => some []
  | x :: xs => match nk x, nkL xs with
    | some k, some ks => some (k :: ks)
    | _, _ => none
end
/-- the key of a pair -/
def keyD : D → Option NestedKey
  | .tup [k, _] => nk k
  | _ => none
structure KeyL (xs : List D) (ys : List DY) : Prop where
  k : xs.map keyD = ys.map fun y => some y.1
  d : ∀ y ∈ ys, y.1.depth ≤ 8
  t : ∀ y ∈ ys, nkB y.1 = true
def pairV (y : DY) : List V := [.ref y.2.1, y.2.2]
theorem FroL.sq {K : PySem.W.Frag} {H : Hp} {a : Addr} {xs : List V} (h : FroL K H a (.l xs)) : SqL K H a xs := by
  rcases h with h | h
  · exact .inl (.inr h)
  · exact .inr h
mutual
def Rep (K : PySem.W.Frag) (io : List Addr) (H : Hp) : D → V → Prop
  | .non, v => v = .non
  | .bl b, v => v = .bl b
  | .int i, v => v = .int i
  | .str x, v => v = .str x
  | .ref n, v => ∃ a, io[n]? = some a ∧ v = .ref a
  | .tup xs, v => ∃ a vs, v = .ref a ∧ TupA K H a vs ∧ RepL K io H xs vs
  | .fro xs, v => ∃ a, ∃ vs : List V, v = .ref a ∧ FroL K H a (.l vs) ∧ RepL K io H xs vs
  | .lst _, _ => False
  | .dct ks ws, v => ∃ a ns, v = .ref a ∧ FroL K H a (.d ns) ∧ ks = ns.map (fun p => D.int p.1) ∧ ws = ns.map (fun p => D.int p.2)
  | .map xs, v => ∃ a o ys, v = .ref a ∧ FroL K H a (.m o ys) ∧ KeyL xs ys ∧ RepI K io H xs (ys.map pairV)
def RepL (K : PySem.W.Frag) (io : List Addr) (H : Hp) : List D → List V → Prop
  | [], vs => vs = []
  | x :: xs, vs => ∃ v r, vs = v :: r ∧ Rep K io H x v ∧ RepL K io H xs r
/-- items of a dict -/
def RepI (K : PySem.W.Frag) (io : List Addr) (H : Hp) : List D → List (List V) → Prop
  | [], vss => vss = []
  | x :: xs, vss => ∃ vs r, vss = vs :: r ∧ (match x with
    | .tup ds => RepL K io H ds vs
    | _ => False) ∧ RepI K io H xs r
end

/-- from (io, H) on to (io', H'): what stands, but for the cells at io -/
structure Step (K : PySem.W.Frag) (io : List Addr) (H : Hp) (io' : List Addr) (H' : Hp) : Prop where
  pre : ∃ l, io' = io ++ l
  new : ∀ b, b ∈ io' → b ∉ io → H b = none
  keep : ∀ b o, H b = some o → b ∉ io → H' b = some o
  tup : ∀ a vs, TupA K H a vs → TupA K H' a vs
  fro : ∀ a vs, FroL K H a vs → FroL K H' a vs

section
variable {K : PySem.W.Frag} {io io' io2 : List Addr} {H H' H2 : Hp}
theorem Step.refl : Step K io H io H := ⟨⟨[], by simp⟩, fun _ h n => absurd h n, fun _ _ h _ => h, fun _ _ h => h, fun _ _ h => h⟩
theorem Step.out (a : Step K io H io' H') {b : Addr} {o : HO} (h : H b = some o) (n : b ∉ io) : b ∉ io' := fun m => by
  rw [a.new b m n] at h; cases h
theorem Step.trans (a : Step K io H io' H') (b : Step K io' H' io2 H2) : Step K io H io2 H2 := by
  obtain ⟨l, e⟩ := a.pre
  obtain ⟨m, e2⟩ := b.pre
  refine ⟨⟨l ++ m, by rw [e2, e, List.append_assoc]⟩, fun x h n => ?_, fun x o h n => b.keep x o (a.keep x o h n) (a.out h n), fun x vs h => b.tup x vs (a.tup x vs h), fun x vs h => b.fro x vs (a.fro x vs h)⟩
  by_cases hx : x ∈ io'
  · exact a.new x hx n
  · have q := b.new x h hx
    cases e : H x with
    | none => rfl
    | some o => rw [a.keep x o e n] at q; cases q
theorem Step.get (a : Step K io H io' H') {n : Nat} {x : Addr} (h : io[n]? = some x) : io'[n]? = some x := by
  obtain ⟨l, e⟩ := a.pre
  have hl : n < io.length := (List.getElem?_eq_some_iff.mp h).1
  rw [e, List.getElem?_append_left hl]
  exact h
mutual
theorem Rep.mono (hp : ∀ (n : Nat) a, io[n]? = some a → io'[n]? = some a) (ht : ∀ a vs, TupA K H a vs → TupA K H' a vs) (hf : ∀ a vs, FroL K H a vs → FroL K H' a vs) : ∀ (d : D) (v : V), Rep K io H d v → Rep K io' H' d v
  | .non, _, h => h
  | .bl _, _, h => h
  | .int _, _, h => h
  | .str _, _, h => h
  | .ref _, _, ⟨a, h, e⟩ => ⟨a, hp _ _ h, e⟩
  | .tup xs, _, ⟨a, vs, e, h, r⟩ => ⟨a, vs, e, ht _ _ h, RepL.mono hp ht hf xs vs r⟩
  | .fro xs, _, ⟨a, vs, e, h, r⟩ => ⟨a, vs, e, hf _ _ h, RepL.mono hp ht hf xs vs r⟩
  | .lst _, _, r => r
  | .dct _ _, _, ⟨a, ns, e, h, r⟩ => ⟨a, ns, e, hf _ _ h, r⟩
  | .map xs, _, ⟨a, o, ys, e, h, k, r⟩ => ⟨a, o, ys, e, hf _ _ h, k, RepI.mono hp ht hf xs _ r⟩
theorem RepL.mono (hp : ∀ (n : Nat) a, io[n]? = some a → io'[n]? = some a) (ht : ∀ a vs, TupA K H a vs → TupA K H' a vs) (hf : ∀ a vs, FroL K H a vs → FroL K H' a vs) : ∀ (ds : List D) (vs : List V), RepL K io H ds vs → RepL K io' H' ds vs
  | [], _, h => h
  | d :: ds, _, ⟨v, r, e, h, t⟩ => ⟨v, r, e, Rep.mono hp ht hf d v h, RepL.mono hp ht hf ds r t⟩
theorem RepI.mono (hp : ∀ (n : Nat) a, io[n]? = some a → io'[n]? = some a) (ht : ∀ a vs, TupA K H a vs → TupA K H' a vs) (hf : ∀ a vs, FroL K H a vs → FroL K H' a vs) : ∀ (ds : List D) (vs : List (List V)), RepI K io H ds vs → RepI K io' H' ds vs
  | [], _, h => h
  | .tup ds :: xs, _, ⟨v, r, e, h, t⟩ => ⟨v, r, e, RepL.mono hp ht hf ds v h, RepI.mono hp ht hf xs r t⟩
  | .non :: _, _, ⟨_, _, _, h, _⟩ => h.elim
  | .bl _ :: _, _, ⟨_, _, _, h, _⟩ => h.elim
  | .int _ :: _, _, ⟨_, _, _, h, _⟩ => h.elim
  | .str _ :: _, _, ⟨_, _, _, h, _⟩ => h.elim
  | .ref _ :: _, _, ⟨_, _, _, h, _⟩ => h.elim
  | .fro _ :: _, _, ⟨_, _, _, h, _⟩ => h.elim
  | .lst _ :: _, _, ⟨_, _, _, h, _⟩ => h.elim
  | .dct _ _ :: _, _, ⟨_, _, _, h, _⟩ => h.elim
  | .map _ :: _, _, ⟨_, _, _, h, _⟩ => h.elim
end
theorem Rep.step (s : Step K io H io' H') (d : D) (v : V) (r : Rep K io H d v) : Rep K io' H' d v := Rep.mono (fun _ _ h => s.get h) s.tup s.fro d v r
theorem RepL.step (s : Step K io H io' H') (ds : List D) (vs : List V) (r : RepL K io H ds vs) : RepL K io' H' ds vs := RepL.mono (fun _ _ h => s.get h) s.tup s.fro ds vs r
theorem RepI.step (s : Step K io H io' H') (ds : List D) (vs : List (List V)) (r : RepI K io H ds vs) : RepI K io' H' ds vs := RepI.mono (fun _ _ h => s.get h) s.tup s.fro ds vs r
theorem RepL.length : ∀ {ds : List D} {vs : List V}, RepL K io H ds vs → ds.length = vs.length
  | [], _, h => by subst h; rfl
  | d :: ds, _, ⟨v, r, e, h, t⟩ => by subst e; simp [RepL.length t]
theorem RepL.append : ∀ {ds es : List D} {vs us : List V}, RepL K io H ds vs → RepL K io H es us → RepL K io H (ds ++ es) (vs ++ us)
  | [], _, _, _, h, r => by subst h; exact r
  | d :: ds, _, _, _, ⟨v, r, e, h, t⟩, q => by subst e; exact ⟨v, _, rfl, h, RepL.append t q⟩
theorem RepL.get : ∀ {ds : List D} {vs : List V} {i : Nat} {d : D}, RepL K io H ds vs → ds[i]? = some d → ∃ v, vs[i]? = some v ∧ Rep K io H d v
  | [], _, _, _, _, e => by simp at e
  | d :: ds, _, 0, _, ⟨v, r, e, h, t⟩, q => by subst e; simp at q; subst q; exact ⟨v, rfl, h⟩
  | d :: ds, _, i + 1, _, ⟨v, r, e, h, t⟩, q => by subst e; obtain ⟨u, a, b⟩ := RepL.get t (i := i) (by simpa using q); exact ⟨u, by simpa using a, b⟩
theorem RepL.take : ∀ {ds : List D} {vs : List V} (n : Nat), RepL K io H ds vs → RepL K io H (ds.take n) (vs.take n)
  | [], _, n, h => by subst h; simp [RepL]
  | d :: ds, _, 0, ⟨v, r, e, h, t⟩ => by simp [RepL]
  | d :: ds, _, n + 1, ⟨v, r, e, h, t⟩ => by subst e; exact ⟨v, _, rfl, h, RepL.take n t⟩
theorem RepL.drop : ∀ {ds : List D} {vs : List V} (n : Nat), RepL K io H ds vs → RepL K io H (ds.drop n) (vs.drop n)
  | [], _, n, h => by subst h; simp [RepL]
  | d :: ds, _, 0, h => h
  | d :: ds, _, n + 1, ⟨v, r, e, h, t⟩ => by subst e; exact RepL.drop n t
theorem RepL.set : ∀ {ds : List D} {vs : List V} {d : D} {v : V} (i : Nat), RepL K io H ds vs → Rep K io H d v → RepL K io H (ds.set i d) (vs.set i v)
  | [], _, _, _, _, h, _ => by subst h; simp [RepL]
  | _ :: ds, _, _, _, 0, ⟨v, r, e, h, t⟩, q => by subst e; exact ⟨_, _, rfl, q, t⟩
  | _ :: ds, _, _, _, i + 1, ⟨v, r, e, h, t⟩, q => by subst e; exact ⟨_, _, rfl, h, RepL.set i t q⟩
theorem RepL.nil_iff {ds : List D} {vs : List V} (h : RepL K io H ds vs) : (!ds.isEmpty) = !vs.isEmpty := by
  cases ds with
  | nil => have h' : vs = [] := h; subst h'; rfl
  | cons d ds => obtain ⟨v, r, e, _⟩ := h; subst e; rfl

/-- the fields of an instance -/
def RepF (K : PySem.W.Frag) (io : List Addr) (H : Hp) (fs : List (Str × D)) (vs : List (Str × V)) : Prop :=
  fs.map (·.1) = vs.map (·.1) ∧ RepL K io H (fs.map (·.2)) (vs.map (·.2))
/-- what stands at a cell's address -/
def CellRep (K : PySem.W.Frag) (cl : Nat → Addr) (io : List Addr) (H : Hp) (a : Addr) : Cell → Prop
  | .lst xs => ∃ vs, H a = some (.lst vs) ∧ RepL K io H xs vs
  | .map xs => ∃ o ys, H a = some (dctO a o ys) ∧ KeyL xs ys ∧ RepI K io H xs (ys.map pairV)
  | .dead => ∃ o, H a = some o
  | .kst ks => H a = some (.dK (ks.map fun n => (Sum.inl n, V.bl true)))
  | .ins c fs => ∃ dx vs, H a = some (.ins (cl c) dx vs) ∧ RepF K io H fs vs
structure HRel (K : PySem.W.Frag) (cl : Nat → Addr) (io : List Addr) (H : Hp) (h : PHeap) : Prop where
  len : io.length = h.length
  nd : io.Nodup
  cell : ∀ (n : Nat) a c, io[n]? = some a → h[n]? = some c → CellRep K cl io H a c
structure ERel (K : PySem.W.Frag) (io : List Addr) (H : Hp) (sg : L2.St) (env : PEnv) : Prop where
  len : env.length = sg.length
  get : ∀ (i : Nat) d, env[i]? = some (some d) → ∃ v, sg[i]? = some (some v) ∧ Rep K io H d v
theorem ERel.step {sg : L2.St} {env : PEnv} (e : ERel K io H sg env) (s : Step K io H io' H') : ERel K io' H' sg env :=
  ⟨e.len, fun i d h => let ⟨v, a, b⟩ := e.get i d h; ⟨v, a, b.step s _ _⟩⟩
theorem ERel.set {sg : L2.St} {env : PEnv} (e : ERel K io H sg env) {i : Nat} {d : D} {v : V} (r : Rep K io H d v) : ERel K io H (sg.set i (some v)) (env.set i (some d)) := by
  refine ⟨by simp [e.len], fun j x h => ?_⟩
  by_cases hj : i = j
  · subst hj
    have hl : i < env.length := by
      have := (List.getElem?_eq_some_iff.mp h).1
      simpa using this
    rw [List.getElem?_set_self hl] at h
    cases h
    exact ⟨v, List.getElem?_set_self (by rw [← e.len]; exact hl), r⟩
  · rw [List.getElem?_set_ne hj] at h
    obtain ⟨u, a, b⟩ := e.get j x h
    exact ⟨u, by rw [List.getElem?_set_ne hj]; exact a, b⟩
theorem ERel.forget {sg : L2.St} {env : PEnv} (e : ERel K io H sg env) (i : Nat) : ERel K io H sg (env.set i none) := by
  refine ⟨by simp [e.len], fun j x h => ?_⟩
  by_cases hj : i = j
  · subst hj
    by_cases hl : i < env.length
    · rw [List.getElem?_set_self hl] at h; cases h
    · rw [List.getElem?_eq_none (by simpa using hl)] at h; cases h
  · rw [List.getElem?_set_ne hj] at h
    exact e.get j x h
theorem ERel.wipe {sg : L2.St} {env : PEnv} (e : ERel K io H sg env) : ∀ vs, ERel K io H sg (wipeE env vs)
  | [] => e
  | v :: vs => (ERel.wipe e vs).forget v
theorem wipeE_length (env : PEnv) : ∀ vs, (wipeE env vs).length = env.length
  | [] => rfl
  | v :: vs => by show ((wipeE env vs).set v none).length = _; rw [List.length_set, wipeE_length env vs]
theorem wipeE_some {env : PEnv} {i : Nat} {x : D} : ∀ {vs : List Nat}, (wipeE env vs)[i]? = some (some x) → env[i]? = some (some x) ∧ i ∉ vs
  | [], h => ⟨h, by simp⟩
  | v :: vs, h => by
    have h : ((wipeE env vs).set v none)[i]? = some (some x) := h
    by_cases hi : v = i
    · subst hi
      by_cases hv : v < (wipeE env vs).length
      · rw [List.getElem?_set_self hv] at h; cases h
      · rw [List.getElem?_eq_none (by simpa using hv)] at h; cases h
    · rw [List.getElem?_set_ne hi] at h
      obtain ⟨h1, h2⟩ := wipeE_some h
      exact ⟨h1, by simp only [List.mem_cons, not_or]; exact ⟨fun e => hi e.symm, h2⟩⟩
theorem wipe_get {sg : L2.St} {i : Nat} : ∀ {vs : List Nat}, i ∉ vs → (wipe sg vs)[i]? = sg[i]?
  | [], _ => rfl
  | v :: vs, h => by
    simp only [List.mem_cons, not_or] at h
    show ((wipe sg vs).set v none)[i]? = _
    rw [List.getElem?_set_ne (fun e => h.1 e.symm), wipe_get h.2]
/-- both sides forget -/
theorem ERel.wipe2 {sg : L2.St} {env : PEnv} (e : ERel K io H sg env) (vs : List Nat) : ERel K io H (L2.wipe sg vs) (wipeE env vs) := by
  refine ⟨by rw [wipeE_length, wipe_length, e.len], fun i d h => ?_⟩
  obtain ⟨h1, h2⟩ := wipeE_some h
  obtain ⟨v, a, b⟩ := e.get i d h1
  exact ⟨v, by rw [wipe_get h2]; exact a, b⟩

/-- what an exception stands for: a class by its number; with a line -/
def ExcRep (cl : Nat → Addr) (H : Hp) (e : D) (cls : Value) (dd : Option Addr) : Prop := match e with
  | .int c => cls = .ref (cl c.toNat) ∧ dd = none
  | .tup [.int c, .int l] => cls = .ref (cl c.toNat) ∧ ∃ d, dd = some d ∧ H d = some (.xd [("line", .int l)])
  | _ => False

end

/-- a relation of a plain result and a value that may look at the heap at the start, but only for what is free there -/
class Back (K : PySem.W.Frag) {α β : Type} (R : Hp → List Addr → Hp → α → β → Prop) : Prop where
  back : ∀ {io H io1 H1 io' H' a b}, Step K io H io1 H1 → (∃ l, io' = io1 ++ l) → R H1 io' H' a b → R H io' H' a b
/-- a plain end, as a wish -/
def postR {α β : Type} (R : Hp → List Addr → Hp → α → β → Prop) (K : PySem.W.Frag) (cl : Nat → Addr) (W : WX) (io : List Addr) (sg : L2.St) (H : Hp) (r : Res α) (Q : β → Hp → Prop) : Prop :=
  match r with
  | .ok a h => ∀ b io' H', Step K io H io' H' → HRel K cl io' H' h → R H io' H' a b → Q b H'
  | .exc e h => ∀ cls dd io' H', Step K io H io' H' → HRel K cl io' H' h → ExcRep cl H' e cls dd → W cls dd sg H'
  | .stuck => False
/-- the reading of a plain word -/
def rd {α β : Type} (R : Hp → List Addr → Hp → α → β → Prop) (K : PySem.W.Frag) (cl : Nat → Addr) (W : WX) (m : PEnv → PHeap → Res α) : L2.St → Hp → (β → Hp → Prop) → Prop :=
  fun sg H Q => ∃ env h io, ERel K io H sg env ∧ HRel K cl io H h ∧ postR R K cl W io sg H (m env h) Q
abbrev RRep (K : PySem.W.Frag) : Hp → List Addr → Hp → D → V → Prop := fun _ io H d v => Rep K io H d v
abbrev RRepL (K : PySem.W.Frag) : Hp → List Addr → Hp → List D → List V → Prop := fun _ io H d v => RepL K io H d v
abbrev RBool : Hp → List Addr → Hp → Bool → Bool → Prop := fun _ _ _ a b => a = b
/-- a new list, no cell's yet -/
def RNew (K : PySem.W.Frag) : Hp → List Addr → Hp → List D → V → Prop := fun H0 io H xs v => ∃ a vs, v = .ref a ∧ H0 a = none ∧ a ∉ io ∧ H a = some (.lst vs) ∧ RepL K io H xs vs
instance {K : PySem.W.Frag} : Back K (RRep K) := ⟨fun _ _ h => h⟩
instance {K : PySem.W.Frag} : Back K (RRepL K) := ⟨fun _ _ h => h⟩
instance {K : PySem.W.Frag} : Back K RBool := ⟨fun _ _ h => h⟩
theorem Step.before {K : PySem.W.Frag} {io io1 io' : List Addr} {H H1 : Hp} {a : Addr} (s : Step K io H io1 H1) (hl : ∃ l, io' = io1 ++ l) (h0 : H1 a = none) (h1 : a ∉ io') : H a = none := by
  cases q : H a with
  | none => rfl
  | some o =>
    obtain ⟨l, e⟩ := hl
    have n : a ∉ io := fun m => h1 (by obtain ⟨l2, e2⟩ := s.pre; rw [e, e2]; simp [m])
    rw [s.keep a o q n] at h0
    cases h0
instance {K : PySem.W.Frag} : Back K (RNew K) := ⟨fun s hl ⟨a, vs, e1, h0, h1, h2, h3⟩ => ⟨a, vs, e1, s.before hl h0 h1, h1, h2, h3⟩⟩

section
variable {K : PySem.W.Frag} {cl : Nat → Addr} {W : WX} {io io1 : List Addr} {sg : L2.St} {H H1 : Hp} {α β γ δ : Type} {R : Hp → List Addr → Hp → α → β → Prop} {S : Hp → List Addr → Hp → γ → δ → Prop}
theorem HRel.there {h : PHeap} (r : HRel K cl io H h) {n : Nat} {a : Addr} (e : io[n]? = some a) : ∃ c, h[n]? = some c ∧ CellRep K cl io H a c := by
  have hl : n < io.length := (List.getElem?_eq_some_iff.mp e).1
  have hl2 : n < h.length := by rw [← r.len]; exact hl
  exact ⟨h[n], List.getElem?_eq_getElem hl2, r.cell n a _ e (List.getElem?_eq_getElem hl2)⟩
theorem HRel.addr {h : PHeap} (r : HRel K cl io H h) {n : Nat} {c : Cell} (e : h[n]? = some c) : ∃ a, io[n]? = some a ∧ CellRep K cl io H a c := by
  have hl : n < h.length := (List.getElem?_eq_some_iff.mp e).1
  have hl2 : n < io.length := by rw [r.len]; exact hl
  exact ⟨io[n], List.getElem?_eq_getElem hl2, r.cell n _ c (List.getElem?_eq_getElem hl2) e⟩
theorem postR.step [Back K S] {r : Res γ} {Q : δ → Hp → Prop} (p : postR S K cl W io sg H r Q) (s : Step K io H io1 H1) : postR S K cl W io1 sg H1 r Q := by
  cases r with
  | ok a h => exact fun b io' H' s2 hr q => p b io' H' (s.trans s2) hr (Back.back s s2.pre q)
  | exc e h => exact fun cls dd io' H' s2 hr q => p cls dd io' H' (s.trans s2) hr q
  | stuck => exact p
theorem postR.bind [Back K S] {r : Res α} {f : α → PHeap → Res γ} {Q : δ → Hp → Prop} {Q' : β → Hp → Prop} (p : postR S K cl W io sg H (r.bind f) Q)
    (k : ∀ a h1 b io1 H1, r = .ok a h1 → Step K io H io1 H1 → HRel K cl io1 H1 h1 → R H io1 H1 a b → postR S K cl W io1 sg H1 (f a h1) Q → Q' b H1) : postR R K cl W io sg H r Q' := by
  cases r with
  | ok a h => exact fun b io1 H1 s hr q => k a h b io1 H1 rfl s hr q (postR.step (show postR S K cl W io sg H (f a h) Q from p) s)
  | exc e h => exact p
  | stuck => exact p
theorem postR.imp {r : Res α} {Q Q' : β → Hp → Prop} (p : postR R K cl W io sg H r Q) (k : ∀ b H', Q b H' → Q' b H') : postR R K cl W io sg H r Q' := by
  cases r with
  | ok a h => exact fun b io1 H1 s hr q => k _ _ (p b io1 H1 s hr q)
  | exc e h => exact p
  | stuck => exact p
theorem rd_mk {m : PEnv → PHeap → Res α} {env : PEnv} {h : PHeap} {Q : β → Hp → Prop} (E : ERel K io H sg env) (r : HRel K cl io H h) (p : postR R K cl W io sg H (m env h) Q) : rd R K cl W m sg H Q := ⟨env, h, io, E, r, p⟩
/-- a plain result that is there already -/
theorem postR.here {a : α} {h : PHeap} {b : β} {Q : β → Hp → Prop} (p : postR R K cl W io sg H (.ok a h) Q) (r : HRel K cl io H h) (q : R H io H a b) : Q b H := p b io H .refl r q
end
end Gb

/-! GbC: the rules: a piece of text and its plain word -/
namespace Gb
open PySem L2

abbrev SE (X : Cx) (cl : Nat → Addr) (W : WX) (e : Expr) (m : ME) : Prop := PE X e (rd (RRep X.K) X.K cl W m)
abbrev ST (X : Cx) (cl : Nat → Addr) (W : WX) (e : Expr) (m : MT) : Prop := PT X e (rd RBool X.K cl W m)
abbrev SW (X : Cx) (cl : Nat → Addr) (W : WX) (e : Expr) (m : MT) : Prop := PW X e (rd RBool X.K cl W m)
abbrev SA (X : Cx) (cl : Nat → Addr) (W : WX) (es : List Expr) (m : MA) : Prop := PA X es (rd (RRepL X.K) X.K cl W m)
/-- an expression that gives a new list -/
abbrev SN (X : Cx) (cl : Nat → Addr) (W : WX) (e : Expr) (m : MA) : Prop := PE X e (rd (RNew X.K) X.K cl W m)

theorem _root_.L2.PE.imp {X : Cx} {e : Expr} {t t' : TE} (h : PE X e t) (k : ∀ sg H Q, t' sg H Q → t sg H Q) : PE X e t' := ⟨fun pins s sg H Q I q => h.run pins s sg H Q I (k _ _ _ q)⟩
theorem _root_.L2.PT.imp {X : Cx} {e : Expr} {t t' : TT} (h : PT X e t) (k : ∀ sg H Q, t' sg H Q → t sg H Q) : PT X e t' := ⟨fun pins s sg H Q I q => h.run pins s sg H Q I (k _ _ _ q)⟩
theorem _root_.L2.PW.imp {X : Cx} {e : Expr} {t t' : TT} (h : PW X e t) (k : ∀ sg H Q, t' sg H Q → t sg H Q) : PW X e t' := ⟨fun wh pins s sg H Q I q => h.run wh pins s sg H Q I (k _ _ _ q)⟩
theorem _root_.L2.PA.imp {X : Cx} {e : List Expr} {t t' : TA} (h : PA X e t) (k : ∀ sg H Q, t' sg H Q → t sg H Q) : PA X e t' := ⟨fun pos pins s sg H Q I q => h.run pos pins s sg H Q I (k _ _ _ q)⟩
theorem _root_.L2.PS.imp {X : Cx} {e : Stmt} {t t' : TS} (h : PS X e t) (k : ∀ D sg H, t' D sg H → t D sg H) : PS X e t' := ⟨fun pins s sg H D I q => h.run pins s sg H D I (k _ _ _ q)⟩
theorem _root_.L2.PSs.imp {X : Cx} {e : List Stmt} {t t' : TS} (h : PSs X e t) (k : ∀ D sg H, t' D sg H → t D sg H) : PSs X e t' := ⟨fun pins s sg H D I q => h.run pins s sg H D I (k _ _ _ q)⟩
theorem _root_.L2.PG.imp {X : Cx} {e : Expr} {t t' : TG} (h : PG X e t) (k : ∀ v sg H Q, t' v sg H Q → t v sg H Q) : PG X e t' := ⟨fun pins s sg H v u Q I r q => h.run pins s sg H v u Q I r (k _ _ _ _ q)⟩
theorem _root_.L2.PI.imp {X : Cx} {tg e : Expr} {t t' : TI} (h : PI X tg e t) (k : ∀ sg H Q, t' sg H Q → t sg H Q) : PI X tg e t' := ⟨fun pins s sg H Q I q => h.run pins s sg H Q I (k _ _ _ q)⟩

/-! ### heaps that grow and change -/
section
variable {K : PySem.W.Frag} {cl : Nat → Addr} {W : WX} {io : List Addr} {H : Hp} {h : PHeap} {p a : Addr} {o : HO}
theorem sqT_keep {H' : Hp} (k : ∀ b o u, H b = some (.frz o u) → H' b = some (.frz o u)) {a : Addr} {vs : List V} (s : TupA K H a vs) : TupA K H' a vs := by
  rcases s with ⟨o, s, n⟩ | s
  · exact .inl ⟨o, k _ _ _ s, n⟩
  · exact .inr s
theorem fro_keep {H' : Hp} (k : ∀ b o u, H b = some (.frz o u) → H' b = some (.frz o u)) {a : Addr} {vs : FX} (s : FroL K H a vs) : FroL K H' a vs := by
  cases vs with
  | d ns => obtain ⟨o, s⟩ := s; exact ⟨o, k _ _ _ s⟩
  | m o ys => exact k _ _ _ s
  | l vs =>
    rcases s with ⟨o, s⟩ | s
    · exact .inl ⟨o, k _ _ _ s⟩
    · exact .inr s
theorem Step.laid (hp : H p = none) : Step K io H io (upd H p o) := by
  have k : ∀ b u, H b = some u → upd H p o b = some u := fun b u e => by rw [upd_ne (ne_of_none e hp)]; exact e
  exact ⟨⟨[], by simp⟩, fun _ m n => absurd m n, fun b u e _ => k b u e, fun _ _ s => sqT_keep (fun b o u e => k b _ e) s, fun _ _ s => fro_keep (fun b o u e => k b _ e) s⟩
theorem RepF.step {io' : List Addr} {H' : Hp} {fs : List (Str × D)} {vs : List (Str × V)} (s : Step K io H io' H') (r : RepF K io H fs vs) : RepF K io' H' fs vs := ⟨r.1, r.2.step s _ _⟩
theorem CellRep.step {io' : List Addr} {H' : Hp} {c : Cell} (s : Step K io H io' H') (e : H' a = H a) (r : CellRep K cl io H a c) : CellRep K cl io' H' a c := by
  cases c with
  | lst xs => obtain ⟨vs, h1, h2⟩ := r; exact ⟨vs, e.trans h1, h2.step s _ _⟩
  | map xs => obtain ⟨o, ys, h1, h2, h3⟩ := r; exact ⟨o, ys, e.trans h1, h2, h3.step s _ _⟩
  | dead => obtain ⟨o, h1⟩ := r; exact ⟨o, e.trans h1⟩
  | kst ks => exact e.trans r
  | ins c fs => obtain ⟨dx, vs, h1, h2⟩ := r; exact ⟨dx, vs, e.trans h1, h2.step s⟩
theorem CellRep.some {c : Cell} (r : CellRep K cl io H a c) : ∃ o, H a = some o := by
  cases c with
  | lst xs => obtain ⟨vs, h1, h2⟩ := r; exact ⟨_, h1⟩
  | map xs => obtain ⟨o, ys, h1, _⟩ := r; exact ⟨_, h1⟩
  | dead => exact r
  | kst ks => exact ⟨_, r⟩
  | ins c fs => obtain ⟨dx, vs, h1, h2⟩ := r; exact ⟨_, h1⟩
theorem HRel.tracked (r : HRel K cl io H h) (m : a ∈ io) : ∃ o, H a = some o := by
  obtain ⟨n, hn⟩ := List.mem_iff_getElem?.mp m
  obtain ⟨c, _, q⟩ := r.there hn
  exact q.some
theorem HRel.out (r : HRel K cl io H h) (n : H a = none) : a ∉ io := fun m => by
  obtain ⟨o, e⟩ := r.tracked m
  rw [n] at e; cases e
theorem HRel.same {H' : Hp} (r : HRel K cl io H h) (s : Step K io H io H') (e : ∀ a ∈ io, H' a = H a) : HRel K cl io H' h :=
  ⟨r.len, r.nd, fun n a c h1 h2 => (r.cell n a c h1 h2).step s (e a (List.mem_of_getElem? h1))⟩
theorem HRel.laid (r : HRel K cl io H h) (hp : H p = none) : HRel K cl io (upd H p o) h :=
  r.same (Step.laid hp) fun a m => by
    obtain ⟨u, e⟩ := r.tracked m
    exact upd_ne (ne_of_none e hp)
/-- a list that stands apart becomes a cell -/
theorem Step.cell {H0 : Hp} {io0 : List Addr} (s : Step K io0 H0 io H) (hn : a ∉ io) (h0 : H0 a = none) : Step K io0 H0 (io ++ [a]) H := by
  obtain ⟨l, e⟩ := s.pre
  refine ⟨⟨l ++ [a], by rw [e, List.append_assoc]⟩, fun b m n => ?_, s.keep, s.tup, s.fro⟩
  rcases List.mem_append.mp m with m | m
  · exact s.new b m n
  · rw [List.mem_singleton.mp m]; exact h0
theorem get_more {n : Nat} {b : Addr} (h : io[n]? = some b) : (io ++ [a])[n]? = some b := by
  rw [List.getElem?_append_left (List.getElem?_eq_some_iff.mp h).1]; exact h
theorem Rep.more {d : D} {v : V} (r : Rep K io H d v) : Rep K (io ++ [a]) H d v := r.mono (fun _ _ h => get_more h) (fun _ _ h => h) (fun _ _ h => h)
theorem RepL.more {xs : List D} {vs : List V} (r : RepL K io H xs vs) : RepL K (io ++ [a]) H xs vs := r.mono (fun _ _ h => get_more h) (fun _ _ h => h) (fun _ _ h => h)
theorem CellRep.more {c : Cell} {b : Addr} (r : CellRep K cl io H b c) : CellRep K cl (io ++ [a]) H b c := by
  cases c with
  | lst xs => obtain ⟨vs, h1, h2⟩ := r; exact ⟨vs, h1, h2.more⟩
  | map xs => obtain ⟨o, ys, h1, h2, h3⟩ := r; exact ⟨o, ys, h1, h2, h3.mono (fun _ _ h => get_more h) (fun _ _ h => h) fun _ _ h => h⟩
  | dead => exact r
  | kst ks => exact r
  | ins c fs => obtain ⟨dx, vs, h1, h2⟩ := r; exact ⟨dx, vs, h1, h2.1, h2.2.more⟩
theorem HRel.cell1 {c : Cell} (r : HRel K cl io H h) (hn : a ∉ io) (q : CellRep K cl io H a c) : HRel K cl (io ++ [a]) H (h ++ [c]) := by
  refine ⟨by simp [r.len], ?_, fun n b d h1 h2 => ?_⟩
  · rw [List.nodup_append]
    exact ⟨r.nd, by simp, fun x hx y hy e => hn (by rw [← List.mem_singleton.mp hy, ← e]; exact hx)⟩
  · by_cases hl : n < io.length
    · rw [List.getElem?_append_left hl] at h1
      rw [List.getElem?_append_left (by rw [← r.len]; exact hl)] at h2
      exact (r.cell n b d h1 h2).more
    · rw [List.getElem?_append_right (by omega)] at h1
      rw [List.getElem?_append_right (by rw [← r.len]; omega)] at h2
      have z : n - io.length = 0 := by
        cases e : n - io.length with
        | zero => rfl
        | succ k => rw [e] at h1; simp at h1
      rw [z] at h1
      rw [← r.len, z] at h2
      simp at h1 h2
      subst h1 h2
      exact q.more
/-- a cell's list is changed -/
theorem Step.write {vs ws : List V} (m : a ∈ io) (e : H a = some (.lst vs)) : Step K io H io (upd H a (.lst ws)) := by
  have k : ∀ b u, H b = some u → (∀ vs, u ≠ .lst vs) → upd H a (.lst ws) b = some u := fun b u q n => by
    rw [upd_ne (fun z => n vs (by rw [z, e] at q; exact (Option.some.inj q).symm))]; exact q
  refine ⟨⟨[], by simp⟩, fun _ m n => absurd m n, fun b u q n => ?_, fun _ _ s => sqT_keep (fun b o u e => k b _ e (by intro _ z; cases z)) s, fun _ _ s => fro_keep (fun b o u e => k b _ e (by intro _ z; cases z)) s⟩
  rw [upd_ne (fun z : b = a => n (by rw [z]; exact m))]; exact q
theorem HRel.write {n : Nat} {vs ws : List V} {xs : List D} (r : HRel K cl io H h) (hn : io[n]? = some a) (e : H a = some (.lst vs)) (q : RepL K io H xs ws) : HRel K cl io (upd H a (.lst ws)) (h.set n (.lst xs)) := by
  have m := List.mem_of_getElem? hn
  have s : Step K io H io (upd H a (.lst ws)) := Step.write m e
  refine ⟨by simp [r.len], r.nd, fun i b c h1 h2 => ?_⟩
  by_cases hi : n = i
  · subst hi
    rw [hn] at h1; cases h1
    have hl : n < h.length := by rw [← r.len]; exact (List.getElem?_eq_some_iff.mp hn).1
    rw [List.getElem?_set_self hl] at h2; cases h2
    exact ⟨ws, upd_same, q.step s _ _⟩
  · rw [List.getElem?_set_ne hi] at h2
    refine (r.cell i b c h1 h2).step s (upd_ne fun z => hi ?_)
    subst z
    have l1 := (List.getElem?_eq_some_iff.mp h1)
    have l2 := (List.getElem?_eq_some_iff.mp hn)
    obtain ⟨g1, e1⟩ := l1
    obtain ⟨g2, e2⟩ := l2
    exact (List.getElem_inj r.nd).mp (e2.trans e1.symm)
end

/-! ### values as data -/
def travO {α β : Type} (f : α → Option β) : List α → Option (List β)
  | [] => some []
  | x :: xs => match f x, travO f xs with
    | some a, some b => some (a :: b)
    | _, _ => none
/-- a value as data, refs opened to so many levels -/
def toPy (h : PHeap) : Nat → D → Option PyData
  | 0, _ => none
  | n + 1, d => match d with
    | .non => some .none
    | .bl b => some (.bool b)
    | .int i => some (.int i)
    | .str x => some (.str x)
    | .tup xs => (travO (toPy h n) xs).map .tuple
    | .fro xs => (travO (toPy h n) xs).map .list
    | .lst _ => none
    | .dct _ _ => none
    | .map _ => none
    | .ref k => match h[k]? with
      | some (.lst xs) => (travO (toPy h n) xs).map .list
      | _ => none
section
variable {K : PySem.W.Frag} {cl : Nat → Addr} {io : List Addr} {H : Hp} {h : PHeap}
theorem dpAll_of {n : Nat} (ih : ∀ (d : D) (v : V) (p : PyData), toPy h n d = some p → Rep K io H d v → Dp K H v p ∧ p.plain = true ∧ p.depth ≤ n) :
    ∀ (ds : List D) (vs : List V) (ps : List PyData), travO (toPy h n) ds = some ps → RepL K io H ds vs → DpAll K H vs ps ∧ PyData.plainAll ps = true ∧ PyData.depthAll ps ≤ n
  | [], vs, ps, e, r => by
    have r' : vs = [] := r
    subst r'
    have e' : some [] = some ps := e
    cases e'
    exact ⟨.nil, rfl, by simp [PyData.depthAll]⟩
  | d :: ds, vs, ps, e, r => by
    obtain ⟨v, t, rfl, r1, r2⟩ := r
    simp only [travO] at e
    cases e1 : toPy h n d with
    | none => rw [e1] at e; cases e
    | some p =>
      rw [e1] at e
      cases e2 : travO (toPy h n) ds with
      | none => rw [e2] at e; cases e
      | some qs =>
        rw [e2] at e
        have e' : some (p :: qs) = some ps := e
        cases e'
        obtain ⟨a1, a2, a3⟩ := ih d v p e1 r1
        obtain ⟨b1, b2, b3⟩ := dpAll_of ih ds t qs e2 r2
        refine ⟨.cons a1 b1, by simp only [PyData.plainAll, a2, b2, Bool.and_self], ?_⟩
        simp only [PyData.depthAll]
        omega
theorem dp_of (hr : HRel K cl io H h) : ∀ (n : Nat) (d : D) (v : V) (p : PyData), toPy h n d = some p → Rep K io H d v → Dp K H v p ∧ p.plain = true ∧ p.depth ≤ n
  | 0, _, _, _, e, _ => by simp [toPy] at e
  | n + 1, d, v, p, e, r => by
    have ih := dp_of hr n
    cases d with
    | non => cases r; simp only [toPy] at e; cases e; exact ⟨.non, rfl, by simp [PyData.depth]⟩
    | lst xs => exact False.elim r
    | dct xs ys => simp [toPy] at e
    | map xs => simp [toPy] at e
    | bl b => cases r; simp only [toPy] at e; cases e; exact ⟨.bl b, rfl, by simp [PyData.depth]⟩
    | int i => cases r; simp only [toPy] at e; cases e; exact ⟨.int i, rfl, by simp [PyData.depth]⟩
    | str x => cases r; simp only [toPy] at e; cases e; exact ⟨.str x, rfl, by simp [PyData.depth]⟩
    | tup xs =>
      obtain ⟨a, vs, rfl, hs, r⟩ := r
      simp only [toPy] at e
      cases e2 : travO (toPy h n) xs with
      | none => rw [e2] at e; cases e
      | some ps =>
        rw [e2] at e; cases e
        obtain ⟨b1, b2, b3⟩ := dpAll_of ih xs vs ps e2 r
        exact ⟨.tup hs.sq b1, by simpa only [PyData.plain] using b2, by simp only [PyData.depth]; omega⟩
    | fro xs =>
      obtain ⟨a, vs, rfl, hs, r⟩ := r
      simp only [toPy] at e
      cases e2 : travO (toPy h n) xs with
      | none => rw [e2] at e; cases e
      | some ps =>
        rw [e2] at e; cases e
        obtain ⟨b1, b2, b3⟩ := dpAll_of ih xs vs ps e2 r
        exact ⟨.lst hs.sq b1, by simpa only [PyData.plain] using b2, by simp only [PyData.depth]; omega⟩
    | ref k =>
      obtain ⟨a, ha, rfl⟩ := r
      simp only [toPy] at e
      cases e1 : h[k]? with
      | none => rw [e1] at e; cases e
      | some c =>
        rw [e1] at e
        cases c with
        | lst xs =>
          cases e2 : travO (toPy h n) xs with
          | none => simp only [e2] at e; cases e
          | some ps =>
            simp only [e2] at e
            cases e
            obtain ⟨vs, hv, r⟩ := hr.cell k a _ ha e1
            obtain ⟨b1, b2, b3⟩ := dpAll_of ih xs vs ps e2 r
            exact ⟨.lst (.of hv) b1, by simpa only [PyData.plain] using b2, by simp only [PyData.depth]; omega⟩
        | map _ => cases e
        | dead => cases e
        | kst _ => cases e
        | ins _ _ => cases e
end

/-! ### operations on values -/
/-- what an operation asks (r) is so where its plain word (f) ends as is wished -/
def Op2 (K : PySem.W.Frag) (cl : Nat → Addr) (r : R2) (f : D → D → PHeap → Res D) : Prop :=
  ∀ (W : WX) io sg H h x y v u Q, HRel K cl io H h → Rep K io H x v → Rep K io H y u → postR (RRep K) K cl W io sg H (f x y h) Q → r v u H Q
def Op1 (K : PySem.W.Frag) (cl : Nat → Addr) (r : V → Hp → VK → Prop) (f : D → PHeap → Res D) : Prop :=
  ∀ (W : WX) io sg H h x v Q, HRel K cl io H h → Rep K io H x v → postR (RRep K) K cl W io sg H (f x h) Q → r v H Q
section
variable {X : Cx} {cl : Nat → Addr} {W : WX} {a b c : Expr} {ma mb mc : ME} {pos : Pos}

theorem sd_var (i : Nat) {x : Str} (hN : X.N[i]? = some x := by rfl) (hv : Vis X.env.scope x := by first | exact Or.inl rfl | exact Or.inr (Or.inl rfl) | exact Or.inr (Or.inr rfl)) (hd : (x == ("__debug__" : Str)) = false := by decide)
    (hcd : (x == ("__classdict__" : Str)) = false := by decide) : SE X cl W (.Name x pos) (mVar i) :=
  (pe_var hN hv hd hcd).imp fun sg H Q ⟨env, h, io, E, hr, p⟩ => by
    unfold mVar at p
    cases e : env[i]? with
    | none => rw [e] at p; exact p.elim
    | some o =>
      rw [e] at p
      cases o with
      | none => exact p.elim
      | some d =>
        obtain ⟨v, e1, r⟩ := E.get i d e
        exact ⟨v, e1, p.here hr r⟩
theorem sd_int {i : Int} {j} : SE X cl W (.Constant (.int i) j pos) (mC (.int i)) := pe_int.imp fun sg H Q ⟨env, h, io, E, hr, p⟩ => postR.here p hr rfl
theorem sd_bl {i : Bool} {j} : SE X cl W (.Constant (.bool i) j pos) (mC (.bl i)) := pe_bl.imp fun sg H Q ⟨env, h, io, E, hr, p⟩ => postR.here p hr rfl
theorem sd_non {j} : SE X cl W (.Constant .none j pos) (mC .non) := pe_non.imp fun sg H Q ⟨env, h, io, E, hr, p⟩ => postR.here p hr rfl
theorem sd_str {x : Str} {j} : SE X cl W (.Constant (.str x) j pos) (mC (.str x)) := pe_str.imp fun sg H Q ⟨env, h, io, E, hr, p⟩ => postR.here p hr rfl

theorem rd_bin {r : R2} {f : D → D → PHeap → Res D} (hf : Op2 X.K cl r f) {sg : L2.St} {H : Hp} {Q : VK} (q : rd (RRep X.K) X.K cl W (mBin f ma mb) sg H Q) : tOp r (rd (RRep X.K) X.K cl W ma) (rd (RRep X.K) X.K cl W mb) sg H Q := by
  obtain ⟨env, h, io, E, hr, p⟩ := q
  refine rd_mk E hr (p.bind fun x h1 v io1 H1 e1 s1 r1 q1 p1 => ?_)
  refine rd_mk (E.step s1) r1 (p1.bind fun y h2 u io2 H2 e2 s2 r2 q2 p2 => ?_)
  exact hf W io2 sg H2 h2 x y v u Q r2 (q1.step s2 _ _) q2 p2
theorem sd_op {op : Operator} {r : R2} {f : D → D → PHeap → Res D} (ho : OpR X (binaryOp op) r) (hf : Op2 X.K cl r f) (ha : SE X cl W a ma) (hb : SE X cl W b mb) : SE X cl W (.BinOp a op b pos) (mBin f ma mb) :=
  (pe_op ho ha hb).imp fun sg H Q q => rd_bin hf q
theorem sd_cmp {op : CmpOp} {r : R2} {f : D → D → PHeap → Res D} (ho : OpR X (compareOp op) r) (hf : Op2 X.K cl r f) (ha : SE X cl W a ma) (hb : SE X cl W b mb) (hm : behindInMarks op b = false) : SE X cl W (.Compare a [op] [b] pos) (mBin f ma mb) :=
  (pe_cmpR ho ha hb hm).imp fun sg H Q q => rd_bin hf q
theorem sd_un {op : UnaryOp} {r : V → Hp → VK → Prop} {f : D → PHeap → Res D} (ho : UnR X (unaryOp op) r) (hf : Op1 X.K cl r f) (ha : SE X cl W a ma) : SE X cl W (.UnaryOp op a pos) (mUn f ma) :=
  (pe_un ho ha).imp fun sg H Q ⟨env, h, io, E, hr, p⟩ => rd_mk E hr (p.bind fun x h1 v io1 H1 e1 s1 r1 q1 p1 => hf W io1 sg H1 h1 x v Q r1 q1 p1)
/-- a bool as a test's answer -/
theorem postR.tb {io : List Addr} {sg : L2.St} {H : Hp} {r : Res D} {Q : Bool → Hp → Prop} (p : postR RBool X.K cl W io sg H (r.bind fun d h1 => match d with | .bl b => .ok b h1 | _ => .stuck) Q) :
    postR (RRep X.K) X.K cl W io sg H r fun x H' => ∃ k, x = .bl k ∧ Q k H' := by
  cases r with
  | ok d h =>
    cases d with
    | bl b => exact fun v io1 H1 s r q => ⟨b, q, p b io1 H1 s r rfl⟩
    | _ => exact p.elim
  | exc e h => exact p
  | stuck => exact p
theorem st_cmp {op : CmpOp} {r : R2} {f : D → D → PHeap → Res D} (ho : OpR X (compareOp op) r) (hf : Op2 X.K cl r f) (ha : SE X cl W a ma) (hb : SE X cl W b mb) (hm : behindInMarks op b = false) : ST X cl W (.Compare a [op] [b] pos) (mTB (mBin f ma mb)) :=
  (pt_cmpR ho ha hb hm).imp fun sg H Q ⟨env, h, io, E, hr, p⟩ => rd_bin (W := W) hf (rd_mk E hr (postR.tb p))
theorem rd_chain {r r' : R2} {f g : D → D → PHeap → Res D} (hf : Op2 X.K cl r f) (hg : Op2 X.K cl r' g) {sg : L2.St} {H : Hp} {Q : VK} (q : rd (RRep X.K) X.K cl W (mChain f g ma mb mc) sg H Q) :
    tChain r r' (rd (RRep X.K) X.K cl W ma) (rd (RRep X.K) X.K cl W mb) (rd (RRep X.K) X.K cl W mc) sg H Q := by
  obtain ⟨env, h, io, E, hr, p⟩ := q
  refine rd_mk E hr (p.bind fun x h1 v io1 H1 e1 s1 r1 q1 p1 => ?_)
  refine rd_mk (E.step s1) r1 (p1.bind fun y h2 u io2 H2 e2 s2 r2 q2 p2 => ?_)
  refine hf W io2 sg H2 h2 x y v u _ r2 (q1.step s2 _ _) q2 (p2.bind fun z h3 z' io3 H3 e3 s3 r3 q3 p3 => ?_)
  cases z with
  | bl k =>
    refine ⟨k, q3, ?_⟩
    cases k with
    | true =>
      refine iteT (rd_mk (((E.step s1).step s2).step s3) r3 (p3.bind fun w' h4 u' io4 H4 e4 s4 r4 q4 p4 => ?_))
      exact hg W io4 sg H4 h4 y w' u u' Q r4 ((q2.step s3 _ _).step s4 _ _) q4 p4
    | false => exact iteF (p3.here r3 rfl)
  | _ => exact p3.elim
theorem sd_chain {op op' : CmpOp} {r r' : R2} {f g : D → D → PHeap → Res D} (ho : OpR X (compareOp op) r) (ho' : OpR X (compareOp op') r') (hf : Op2 X.K cl r f) (hg : Op2 X.K cl r' g) (ha : SE X cl W a ma) (hb : SE X cl W b mb) (hc : SE X cl W c mc)
    (hm : lastMarks [op, op'] [b, c] = false := by with_unfolding_all rfl) : SE X cl W (.Compare a [op, op'] [b, c] pos) (mChain f g ma mb mc) :=
  (pe_chain ho ho' ha hb hc hm).imp fun sg H Q q => rd_chain hf hg q
theorem st_chain {op op' : CmpOp} {r r' : R2} {f g : D → D → PHeap → Res D} (ho : OpR X (compareOp op) r) (ho' : OpR X (compareOp op') r') (hf : Op2 X.K cl r f) (hg : Op2 X.K cl r' g) (ha : SE X cl W a ma) (hb : SE X cl W b mb) (hc : SE X cl W c mc)
    (hm : lastMarks [op, op'] [b, c] = false := by with_unfolding_all rfl) : ST X cl W (.Compare a [op, op'] [b, c] pos) (mTB (mChain f g ma mb mc)) :=
  (pt_chain ho ho' ha hb hc hm).imp fun sg H Q ⟨env, h, io, E, hr, p⟩ => rd_chain (W := W) hf hg (rd_mk E hr (postR.tb p))

/-! truth -/
theorem tru_of {io : List Addr} {H : Hp} {h : PHeap} {d : D} {v : V} {k : Bool} {h' : PHeap} (hr : HRel X.K cl io H h) (r : Rep X.K io H d v) (e : truthD d h = .ok k h') : h' = h ∧ TruV X.K v H k := by
  have hz : sizeLine = 16777216 := sizeLine_eq
  cases d with
  | non => cases r; cases e; exact ⟨rfl, rfl⟩
  | lst xs => exact False.elim r
  | dct xs ys => cases e
  | map xs => cases e
  | bl b => cases r; cases e; exact ⟨rfl, rfl⟩
  | int i => cases r; cases e; exact ⟨rfl, rfl⟩
  | str x =>
    cases r
    simp only [truthD] at e
    split at e
    · cases e; exact ⟨rfl, by omega, rfl⟩
    · cases e
  | tup xs =>
    obtain ⟨a, vs, rfl, hs, r⟩ := r
    cases e
    exact ⟨rfl, .inr (.inl ⟨vs, hs.sq, r.nil_iff⟩)⟩
  | fro xs =>
    obtain ⟨a, vs, rfl, hs, r⟩ := r
    cases e
    exact ⟨rfl, .inl ⟨vs, hs.sq, r.nil_iff⟩⟩
  | ref n =>
    obtain ⟨a, ha, rfl⟩ := r
    simp only [truthD] at e
    split at e
    · rename_i xs q
      cases e
      obtain ⟨vs, hv, r⟩ := hr.cell n a _ ha q
      exact ⟨rfl, .inl ⟨vs, .of hv, r.nil_iff⟩⟩
    · cases e
/-- truthD of a value, as a plain end -/
theorem truthD_cases (d : D) (h : PHeap) : (∃ k, truthD d h = .ok k h) ∨ truthD d h = .stuck := by
  unfold truthD
  split <;> (try split) <;> first | exact .inl ⟨_, rfl⟩ | exact .inr rfl
theorem st_truth (ha : SE X cl W a ma) (he : ∀ whole, isTrue a X.env whole = (do let v ← whole; standAt a.pos; holding [v] (truthy v)) := by intro _; rfl) : ST X cl W a (mTst ma truthD) :=
  (pt_truth ha he).imp fun sg H Q ⟨env, h, io, E, hr, p⟩ => rd_mk E hr (p.bind fun d h1 v io1 H1 e1 s1 r1 q1 p1 => by
    rcases truthD_cases d h1 with ⟨k, e⟩ | e
    · rw [e] at p1
      exact ⟨k, (tru_of r1 q1 e).2, p1.here r1 rfl⟩
    · rw [e] at p1; exact p1.elim)
theorem st_not {m : MT} (ha : ST X cl W a m) : ST X cl W (.UnaryOp .Not a pos) (tNotM m) :=
  (pt_not ha).imp fun sg H Q ⟨env, h, io, E, hr, p⟩ => rd_mk E hr (p.bind fun k h1 b io1 H1 e1 s1 r1 q1 p1 => by
    cases q1; exact p1.here r1 rfl)
variable {rest : List Expr} {ta tb : MT}
theorem sw_and1 (ha : ST X cl W a ta) : SW X cl W (.BoolOp .And [a] pos) ta := pw_and1 ha
theorem sw_or1 (ha : ST X cl W a ta) : SW X cl W (.BoolOp .Or [a] pos) ta := pw_or1 ha
theorem sw_and (ha : ST X cl W a ta) (hb : SW X cl W (.BoolOp .And (b :: rest) pos) tb) : SW X cl W (.BoolOp .And (a :: b :: rest) pos) (tAndM ta tb) :=
  (pw_and ha hb).imp fun sg H Q ⟨env, h, io, E, hr, p⟩ => rd_mk E hr (p.bind fun k h1 b io1 H1 e1 s1 r1 q1 p1 => by
    cases q1
    cases k with
    | true => exact iteT (rd_mk (E.step s1) r1 p1)
    | false => exact iteF (p1.here r1 rfl))
theorem sw_or (ha : ST X cl W a ta) (hb : SW X cl W (.BoolOp .Or (b :: rest) pos) tb) : SW X cl W (.BoolOp .Or (a :: b :: rest) pos) (tOrM ta tb) :=
  (pw_or ha hb).imp fun sg H Q ⟨env, h, io, E, hr, p⟩ => rd_mk E hr (p.bind fun k h1 b io1 H1 e1 s1 r1 q1 p1 => by
    cases q1
    cases k with
    | true => exact iteT (p1.here r1 rfl)
    | false => exact iteF (rd_mk (E.step s1) r1 p1))
theorem st_of {e : Expr} (h : SW X cl W e ta) : ST X cl W e ta := h.pt
theorem sd_one {op} (ha : SE X cl W a ma) : SE X cl W (.BoolOp op [a] pos) ma := pe_one ha
theorem sd_and (ha : SE X cl W a ma) (hb : SE X cl W (.BoolOp .And (b :: rest) pos) mb) : SE X cl W (.BoolOp .And (a :: b :: rest) pos) (mAnd ma mb) :=
  (pe_andT ha hb).imp fun sg H Q ⟨env, h, io, E, hr, p⟩ => rd_mk E hr (p.bind fun d h1 v io1 H1 e1 s1 r1 q1 p1 => by
    rcases truthD_cases d h1 with ⟨k, e⟩ | e
    · rw [e] at p1
      refine ⟨k, (tru_of r1 q1 e).2, ?_⟩
      cases k with
      | true => exact iteT (rd_mk (E.step s1) r1 p1)
      | false => exact iteF (p1.here r1 q1)
    · rw [e] at p1; exact p1.elim)
theorem sd_or (ha : SE X cl W a ma) (hb : SE X cl W (.BoolOp .Or (b :: rest) pos) mb) : SE X cl W (.BoolOp .Or (a :: b :: rest) pos) (mOr ma mb) :=
  (pe_orT ha hb).imp fun sg H Q ⟨env, h, io, E, hr, p⟩ => rd_mk E hr (p.bind fun d h1 v io1 H1 e1 s1 r1 q1 p1 => by
    rcases truthD_cases d h1 with ⟨k, e⟩ | e
    · rw [e] at p1
      refine ⟨k, (tru_of r1 q1 e).2, ?_⟩
      cases k with
      | true => exact iteT (p1.here r1 q1)
      | false => exact iteF (rd_mk (E.step s1) r1 p1)
    · rw [e] at p1; exact p1.elim)
theorem sd_not (ha : SE X cl W a ma) : SE X cl W (.UnaryOp .Not a pos) (mNot ma) :=
  (pe_notT ha).imp fun sg H Q ⟨env, h, io, E, hr, p⟩ => rd_mk E hr (p.bind fun d h1 v io1 H1 e1 s1 r1 q1 p1 => by
    rcases truthD_cases d h1 with ⟨k, e⟩ | e
    · rw [e] at p1
      exact ⟨k, (tru_of r1 q1 e).2, p1.here r1 rfl⟩
    · rw [e] at p1; exact p1.elim)
theorem sd_ifExp {c : Expr} {mt : MT} (hc : ST X cl W c mt) (ha : SE X cl W a ma) (hb : SE X cl W b mb) : SE X cl W (.IfExp c a b pos) (mIf mt ma mb) :=
  (pe_ifExp hc ha hb).imp fun sg H Q ⟨env, h, io, E, hr, p⟩ => rd_mk E hr (p.bind fun k h1 b io1 H1 e1 s1 r1 q1 p1 => by
    cases q1
    cases k with
    | true => exact iteT (rd_mk (E.step s1) r1 p1)
    | false => exact iteF (rd_mk (E.step s1) r1 p1))

/-! arguments, displays -/
variable {es : List Expr} {mas : MA}
theorem sa_nil : SA X cl W [] mNil := pa_nil.imp fun sg H Q ⟨env, h, io, E, hr, p⟩ => postR.here p hr rfl
theorem sa_cons (ha : SE X cl W a ma) (hr : SA X cl W es mas) (hs : starEach (a :: es) X.env = (false, eval a X.env) :: starEach es X.env := by rfl) : SA X cl W (a :: es) (mCons ma mas) :=
  (pa_cons ha hr hs).imp fun sg H Q ⟨env, h, io, E, hr, p⟩ => rd_mk E hr (p.bind fun d h1 v io1 H1 e1 s1 r1 q1 p1 =>
    rd_mk (E.step s1) r1 (p1.bind fun ds h2 vs io2 H2 e2 s2 r2 q2 p2 => p2.here r2 ⟨v, vs, rfl, q1.step s2 _ _, q2⟩))
theorem sd_tup {x1} (ha : SA X cl W es mas) : SE X cl W (.Tuple es x1 pos) (mTup mas) :=
  (pe_tupA ha).imp fun sg H Q ⟨env, h, io, E, hr, p⟩ => rd_mk E hr (p.bind fun ds h1 vs io1 H1 e1 s1 r1 q1 p1 => by
    have hz : sizeLine = 16777216 := sizeLine_eq
    have hl := q1.length
    split at p1
    · refine ⟨by omega, fun a o ha hd => p1 _ io1 _ (Step.laid ha) (r1.laid ha) ⟨a, vs, rfl, .of upd_same hd, q1.step (Step.laid ha) _ _⟩⟩
    · exact p1.elim)
/-- a written list, new -/
def mDisp (a : MA) : MA := fun env h => (a env h).bind fun xs h1 => if xs.length ≤ 16777216 then .ok xs h1 else .stuck
theorem sn_lst (ha : SA X cl W es mas) : SN X cl W (.List es pos) (mDisp mas) :=
  (pe_lst ha).imp fun sg H Q ⟨env, h, io, E, hr, p⟩ => rd_mk E hr (p.bind fun ds h1 vs io1 H1 e1 s1 r1 q1 p1 => by
    have hz : sizeLine = 16777216 := sizeLine_eq
    have hl := q1.length
    split at p1
    · exact ⟨by omega, fun a ha => p1 _ io1 _ (Step.laid ha) (r1.laid ha) ⟨a, vs, rfl, ha, r1.out ha, upd_same, q1.step (Step.laid ha) _ _⟩⟩
    · exact p1.elim)
/-- a new list as a value: a new cell -/
theorem sd_new (ha : SN X cl W a mas) : SE X cl W a (mNew mas) :=
  PE.imp ha fun sg H Q ⟨env, h, io, E, hr, p⟩ => rd_mk E hr (by
    unfold mNew at p
    cases e : mas env h with
    | ok ds h1 =>
      rw [e] at p
      rintro v io1 H1 s1 r1 ⟨b, vs, rfl, h0, hn, hb, q⟩
      exact p _ (io1 ++ [b]) H1 (s1.cell hn h0) (r1.cell1 hn ⟨vs, hb, q⟩) ⟨b, by rw [List.getElem?_append_right (by rw [r1.len]; exact Nat.le_refl _), r1.len]; simp, rfl⟩
    | exc x h1 => rw [e] at p; exact p
    | stuck => rw [e] at p; exact p)
end
end Gb

/-! GbD: operands (a value, or a list that is new), and what is done with them -/
namespace Gb
open PySem L2

/-- an operand: a value; or a list that was just made and that nobody else has -/
inductive LV where
  | val (d : D) | new (xs : List D)
abbrev MO := PEnv → PHeap → Res LV
def mVal (a : ME) : MO := fun env h => (a env h).bind fun d h1 => .ok (.val d) h1
def mNL (a : MA) : MO := fun env h => (a env h).bind fun xs h1 => .ok (.new xs) h1
/-- a list's items -/
def LV.items (h : PHeap) : LV → Option (List D)
  | .new xs => some xs
  | .val (.fro xs) => some xs
  | .val (.ref n) => match h[n]? with
    | some (.lst xs) => some xs
    | _ => none
  | _ => none
/-- a list's or a tuple's items -/
def LV.seq (h : PHeap) : LV → Option (List D)
  | .val (.tup xs) => some xs
  | v => v.items h
def LV.py (h : PHeap) : LV → Option PyData
  | .val d => toPy h 60 d
  | .new xs => (travO (toPy h 60) xs).map .list

section
variable {K : PySem.W.Frag} {cl : Nat → Addr} {io io' : List Addr} {H H' : Hp} {h : PHeap}
/-- an operand's value -/
def OV (K : PySem.W.Frag) (io : List Addr) (H : Hp) : LV → V → Prop
  | .val d, v => Rep K io H d v
  | .new xs, v => ∃ a vs, v = .ref a ∧ a ∉ io ∧ H a = some (.lst vs) ∧ RepL K io H xs vs
def RLV (K : PySem.W.Frag) : Hp → List Addr → Hp → LV → V → Prop := fun H0 io H lv v => match lv with
  | .val d => Rep K io H d v
  | .new xs => RNew K H0 io H xs v
instance : Back K (RLV K) := ⟨fun {io H io1 H1 io' H' lv v} s hl q => by
  cases lv with
  | val d => exact q
  | new xs => exact Back.back (K := K) (R := RNew K) s hl q⟩
theorem RLV.ov {H0 : Hp} {lv : LV} {v : V} (r : RLV K H0 io H lv v) : OV K io H lv v := by
  cases lv with
  | val d => exact r
  | new xs => obtain ⟨a, vs, e, h0, h1, h2, h3⟩ := r; exact ⟨a, vs, e, h1, h2, h3⟩
theorem OV.step {lv : LV} {v : V} (r : OV K io H lv v) (s : Step K io H io' H') : OV K io' H' lv v := by
  cases lv with
  | val d => exact Rep.step s d v r
  | new xs => obtain ⟨a, vs, e, h1, h2, h3⟩ := r; exact ⟨a, vs, e, s.out h2 h1, s.keep _ _ h2 h1, h3.step s _ _⟩
theorem OV.items {lv : LV} {v : V} {xs : List D} (hr : HRel K cl io H h) (r : OV K io H lv v) (e : lv.items h = some xs) : ∃ a vs, v = .ref a ∧ SqL K H a vs ∧ RepL K io H xs vs := by
  cases lv with
  | new ys => cases e; obtain ⟨a, vs, e, h1, h2, h3⟩ := r; exact ⟨a, vs, e, .of h2, h3⟩
  | val d =>
    cases d with
    | fro ys => cases e; obtain ⟨a, vs, e, h1, h2⟩ := r; exact ⟨a, vs, e, h1.sq, h2⟩
    | ref n =>
      obtain ⟨a, ha, rfl⟩ := r
      simp only [LV.items] at e
      split at e
      · rename_i ys q
        cases e
        obtain ⟨vs, hv, r⟩ := hr.cell n a _ ha q
        exact ⟨a, vs, rfl, .of hv, r⟩
      · cases e
    | _ => simp [LV.items] at e
theorem OV.seq {lv : LV} {v : V} {xs : List D} (hr : HRel K cl io H h) (r : OV K io H lv v) (e : lv.seq h = some xs) : ∃ a vs, v = .ref a ∧ (SqL K H a vs ∨ TupA K H a vs) ∧ RepL K io H xs vs := by
  by_cases q : ∃ ys, lv = .val (.tup ys)
  · obtain ⟨ys, rfl⟩ := q
    cases e
    obtain ⟨a, vs, e, h1, h2⟩ := r
    exact ⟨a, vs, e, .inr h1, h2⟩
  · have e' : lv.items h = some xs := by
      cases lv with
      | new ys => exact e
      | val d => cases d with
        | tup ys => exact absurd ⟨ys, rfl⟩ q
        | _ => exact e
    obtain ⟨a, vs, e, h1, h2⟩ := r.items hr e'
    exact ⟨a, vs, e, .inl h1, h2⟩
theorem OV.py {lv : LV} {v : V} {p : PyData} (hr : HRel K cl io H h) (r : OV K io H lv v) (e : lv.py h = some p) : Dp K H v p ∧ p.plain = true ∧ p.depth ≤ 61 := by
  cases lv with
  | val d =>
    obtain ⟨a, b, c⟩ := dp_of hr 60 d v p e r
    exact ⟨a, b, by omega⟩
  | new xs =>
    obtain ⟨a, vs, rfl, h1, h2, h3⟩ := r
    simp only [LV.py] at e
    cases e2 : travO (toPy h 60) xs with
    | none => rw [e2] at e; cases e
    | some ps =>
      rw [e2] at e; cases e
      obtain ⟨b1, b2, b3⟩ := dpAll_of (dp_of hr 60) xs vs ps e2 h3
      exact ⟨.lst (.of h2) b1, by simpa only [PyData.plain] using b2, by simp only [PyData.depth]; omega⟩
end
abbrev SO (X : Cx) (cl : Nat → Addr) (W : WX) (e : Expr) (m : MO) : Prop := PE X e (rd (RLV X.K) X.K cl W m)

section
variable {X : Cx} {cl : Nat → Addr} {W : WX} {a b c e : Expr} {ma mb mc : ME} {ml : MA} {mo mp : MO} {pos : Pos}
theorem so_val (ha : SE X cl W a ma) : SO X cl W a (mVal ma) :=
  PE.imp ha fun sg H Q ⟨env, h, io, E, hr, p⟩ => rd_mk E hr (p.bind fun d h1 v io1 H1 e1 s1 r1 q1 p1 => p1.here r1 q1)
theorem so_new (ha : SN X cl W a ml) : SO X cl W a (mNL ml) :=
  PE.imp ha fun sg H Q ⟨env, h, io, E, hr, p⟩ => rd_mk E hr (by
    unfold mNL at p
    cases e : ml env h with
    | ok ds h1 =>
      rw [e] at p
      rintro v io1 H1 s1 r1 q
      exact p v io1 H1 s1 r1 q
    | exc x h1 => rw [e] at p; exact p
    | stuck => rw [e] at p; exact p)

/-! ### calls of built-ins with operands -/
def Con1 {α β : Type} (R : Hp → List Addr → Hp → α → V → Prop) (K : PySem.W.Frag) (cl : Nat → Addr) (r : List V → Hp → VK → Prop) (f : LV → PHeap → Res α) : Prop :=
  ∀ (W : WX) io sg H h x v Q, HRel K cl io H h → OV K io H x v → postR R K cl W io sg H (f x h) Q → r [v] H Q
def Con2 {α : Type} (R : Hp → List Addr → Hp → α → V → Prop) (K : PySem.W.Frag) (cl : Nat → Addr) (r : List V → Hp → VK → Prop) (f : LV → LV → PHeap → Res α) : Prop :=
  ∀ (W : WX) io sg H h x y v u Q, HRel K cl io H h → OV K io H x v → OV K io H y u → postR R K cl W io sg H (f x y h) Q → r [v, u] H Q
def m1 {α : Type} (f : LV → PHeap → Res α) (a : MO) : PEnv → PHeap → Res α := fun env h => (a env h).bind f
def m2 {α : Type} (f : LV → LV → PHeap → Res α) (a b : MO) : PEnv → PHeap → Res α := fun env h => (a env h).bind fun x h1 => (b env h1).bind fun y h2 => f x y h2
variable {α : Type} {R : Hp → List Addr → Hp → α → V → Prop} {r : List V → Hp → VK → Prop} {f : LV → PHeap → Res α} {g : LV → LV → PHeap → Res α} {x : Str} {p : Pos} {bid T : String}
theorem rd_m1 [Back X.K R] (hf : Con1 (β := V) R X.K cl r f) {sg : L2.St} {H : Hp} {Q : VK} (q : rd R X.K cl W (m1 f mo) sg H Q) : tCB r (tCons (rd (RLV X.K) X.K cl W mo) tNil) sg H Q := by
  obtain ⟨env, h, io, E, hr, p⟩ := q
  exact rd_mk E hr (p.bind fun d h1 v io1 H1 e1 s1 r1 q1 p1 => hf W io1 sg H1 h1 d v Q r1 q1.ov p1)
theorem rd_m2 [Back X.K R] (hf : Con2 R X.K cl r g) {sg : L2.St} {H : Hp} {Q : VK} (q : rd R X.K cl W (m2 g mo mp) sg H Q) : tCB r (tCons (rd (RLV X.K) X.K cl W mo) (tCons (rd (RLV X.K) X.K cl W mp) tNil)) sg H Q := by
  obtain ⟨env, h, io, E, hr, p⟩ := q
  exact rd_mk E hr (p.bind fun d h1 v io1 H1 e1 s1 r1 q1 p1 => rd_mk (E.step s1) r1 (p1.bind fun d2 h2 u io2 H2 e2 s2 r2 q2 p2 =>
    hf W io2 sg H2 h2 d d2 v u Q r2 (q1.ov.step s2) q2.ov p2))
/-- a built-in function of one operand -/
theorem sc_b1 [Back X.K R] (hc : CallR X (.builtin bid) r) (hf : Con1 (β := V) R X.K cl r f) (he : SO X cl W e mo) (hg : Gl X x) (hm : X.mg x = none) (hv : bootBuiltins x = some (.builtin bid)) (hn : x ≠ "__name__" := by decide) (hdb : (x == ("__debug__" : Str)) = false := by decide)
    (hs : starEach [e] X.env = (false, eval e X.env) :: starEach [] X.env := by rfl) (hpl : (backTo pos (starEach [] X.env)).any (·.1) = false := by rfl) : PE X (.Call (.Name x p) [e] [] pos) (rd R X.K cl W (m1 f mo)) :=
  (pe_callB hc hg hm hv (pa_cons he pa_nil hs) hn hdb hs hpl).imp fun sg H Q q => rd_m1 hf q
/-- a built-in type of one operand -/
theorem sc_t1 [Back X.K R] (hc : CallR X (.type T) r) (hf : Con1 (β := V) R X.K cl r f) (he : SO X cl W e mo) (hg : Gl X x) (hm : X.mg x = none) (hv : bootBuiltins x = some (.type T)) (hn : x ≠ "__name__" := by decide) (hdb : (x == ("__debug__" : Str)) = false := by decide)
    (hs : starEach [e] X.env = (false, eval e X.env) :: starEach [] X.env := by rfl) (hpl : (backTo pos (starEach [] X.env)).any (·.1) = false := by rfl) : PE X (.Call (.Name x p) [e] [] pos) (rd R X.K cl W (m1 f mo)) :=
  (pe_callTy hc hg hm hv (pa_cons he pa_nil hs) hn hdb hs hpl).imp fun sg H Q q => rd_m1 hf q
theorem sc_b2 [Back X.K R] (hc : CallR X (.builtin bid) r) (hf : Con2 R X.K cl r g) (ha : SO X cl W a mo) (hb : SO X cl W b mp) (hg : Gl X x) (hm : X.mg x = none) (hv : bootBuiltins x = some (.builtin bid)) (hn : x ≠ "__name__" := by decide) (hdb : (x == ("__debug__" : Str)) = false := by decide)
    (hs : starEach [a, b] X.env = (false, eval a X.env) :: starEach [b] X.env := by rfl) (hs2 : starEach [b] X.env = (false, eval b X.env) :: starEach [] X.env := by rfl) (hpl : (backTo pos (starEach [b] X.env)).any (·.1) = false := by rfl) : PE X (.Call (.Name x p) [a, b] [] pos) (rd R X.K cl W (m2 g mo mp)) :=
  (pe_callB hc hg hm hv (pa_cons ha (pa_cons hb pa_nil hs2) hs) hn hdb hs hpl).imp fun sg H Q q => rd_m2 hf q

/-! len -/
def fLen : LV → PHeap → Res D := fun x h => match x with
  | .val (.str z) => if z.length ≤ 16777216 then .ok (.int z.length) h else .stuck
  | x => match x.seq h with
    | some xs => .ok (.int xs.length) h
    | none => .stuck
theorem con_len : Con1 (β := V) (RRep X.K) X.K cl (fun xs H Q => ∃ x n, xs = [x] ∧ LenV X.K x H n ∧ Q (.int n) H) fLen := by
  intro W io sg H h x v Q hr r p
  have hz : sizeLine = 16777216 := sizeLine_eq
  unfold fLen at p
  split at p
  · cases r
    split at p
    · exact ⟨_, _, rfl, ⟨by omega, rfl⟩, p.here hr rfl⟩
    · exact p.elim
  · split at p
    · rename_i xs e
      obtain ⟨a, vs, rfl, h1, h2⟩ := r.seq hr e
      refine ⟨_, vs.length, rfl, ?_, by rw [← h2.length]; exact p.here hr rfl⟩
      rcases h1 with h1 | h1
      · exact .inl ⟨vs, h1, rfl⟩
      · exact .inr ⟨vs, h1.sq, rfl⟩
    · exact p.elim
theorem sd_len (he : SO X cl W e mo) (hm : X.mg "len" = none) (hg : Gl X "len" := by rfl) (hs : starEach [e] X.env = (false, eval e X.env) :: starEach [] X.env := by rfl) : SE X cl W (.Call (.Name "len" p) [e] [] pos) (m1 fLen mo) :=
  sc_b1 call_len con_len he hg hm PySem.boot_len (by decide) (by decide) hs
/-! tuple -/
def fTuple : LV → PHeap → Res D := fun x h => match x.seq h with
  | some xs => .ok (.tup xs) h
  | none => .stuck
theorem con_tuple : Con1 (β := V) (RRep X.K) X.K cl (fun xs H Q => ∃ p ys, xs = [.ref p] ∧ ((SqL X.K H p ys ∧ NewT H ys Q) ∨ (TupA X.K H p ys ∧ Q (.ref p) H))) fTuple := by
  intro W io sg H h x v Q hr r p
  unfold fTuple at p
  split at p
  · rename_i xs e
    obtain ⟨a, vs, rfl, h1, h2⟩ := r.seq hr e
    refine ⟨a, vs, rfl, ?_⟩
    rcases h1 with h1 | h1
    · exact .inl ⟨h1, fun l o hl hd => p _ io _ (Step.laid hl) (hr.laid hl) ⟨l, vs, rfl, .of upd_same hd, h2.step (Step.laid hl) _ _⟩⟩
    · exact .inr ⟨h1, p.here hr ⟨a, vs, rfl, h1, h2⟩⟩
  · exact p.elim
theorem sd_tuple (he : SO X cl W e mo) (hm : X.mg "tuple" = none) (hg : Gl X "tuple" := by rfl) (hs : starEach [e] X.env = (false, eval e X.env) :: starEach [] X.env := by rfl) : SE X cl W (.Call (.Name "tuple" p) [e] [] pos) (m1 fTuple mo) :=
  sc_t1 call_tupleA con_tuple he hg hm (by decide +kernel) (by decide) (by decide) hs
/-! list -/
def fList : LV → PHeap → Res (List D) := fun x h => match x.seq h with
  | some xs => .ok xs h
  | none => .stuck
theorem con_list : Con1 (β := V) (RNew X.K) X.K cl (fun xs H Q => ∃ p ys, xs = [.ref p] ∧ (SqL X.K H p ys ∨ SqT X.K H p ys) ∧ ∀ l, H l = none → Q (.ref l) (upd H l (.lst ys))) fList := by
  intro W io sg H h x v Q hr r p
  unfold fList at p
  split at p
  · rename_i xs e
    obtain ⟨a, vs, rfl, h1, h2⟩ := r.seq hr e
    exact ⟨a, vs, rfl, h1.imp id TupA.sq, fun l hl => p _ io _ (Step.laid hl) (hr.laid hl) ⟨l, vs, rfl, hl, hr.out hl, upd_same, h2.step (Step.laid hl) _ _⟩⟩
  · exact p.elim
theorem sn_list (he : SO X cl W e mo) (hm : X.mg "list" = none) (hg : Gl X "list" := by rfl) (hs : starEach [e] X.env = (false, eval e X.env) :: starEach [] X.env := by rfl) : SN X cl W (.Call (.Name "list" p) [e] [] pos) (m1 fList mo) :=
  sc_t1 call_list_of con_list he hg hm (by decide +kernel) (by decide) (by decide) hs
/-! all, any -/
def bools : List D → Option (List Bool)
  | [] => some []
  | .bl b :: r => (bools r).map (b :: ·)
  | _ => none
def fAll : LV → PHeap → Res D := fun x h => match x.items h with
  | some xs => match bools xs with
    | some bs => .ok (.bl (bs.all id)) h
    | none => .stuck
  | none => .stuck
def fAny : LV → PHeap → Res D := fun x h => match x.items h with
  | some xs => match bools xs with
    | some bs => .ok (.bl (bs.any id)) h
    | none => .stuck
  | none => .stuck
theorem bools_rep {K : PySem.W.Frag} {io : List Addr} {H : Hp} : ∀ {xs : List D} {vs : List V} {bs : List Bool}, bools xs = some bs → RepL K io H xs vs → vs = bs.map V.bl
  | [], _, _, e, r => by cases e; exact r
  | x :: xs, _, bs, e, ⟨v, t, e1, r1, r2⟩ => by
    subst e1
    cases x with
    | bl b =>
      simp only [bools] at e
      cases q : bools xs with
      | none => rw [q] at e; cases e
      | some cs =>
        rw [q] at e
        cases e
        cases r1
        rw [bools_rep q r2]
        rfl
    | _ => simp [bools] at e
theorem con_all : Con1 (β := V) (RRep X.K) X.K cl (rAll X.K) fAll := by
  intro W io sg H h x v Q hr r p
  unfold fAll at p
  split at p
  · split at p
    · rename_i xs e _ bs e2
      obtain ⟨a, vs, rfl, h1, h2⟩ := r.items hr e
      have := bools_rep e2 h2
      subst this
      exact ⟨a, bs, rfl, h1, p.here hr rfl⟩
    · exact p.elim
  · exact p.elim
theorem con_any : Con1 (β := V) (RRep X.K) X.K cl (rAny X.K) fAny := by
  intro W io sg H h x v Q hr r p
  unfold fAny at p
  split at p
  · split at p
    · rename_i xs e _ bs e2
      obtain ⟨a, vs, rfl, h1, h2⟩ := r.items hr e
      have := bools_rep e2 h2
      subst this
      exact ⟨a, bs, rfl, h1, p.here hr rfl⟩
    · exact p.elim
  · exact p.elim
theorem sd_all (he : SO X cl W e mo) (hm : X.mg "all" = none) (hc : X.calm = true := by rfl) (hg : Gl X "all" := by rfl) (hs : starEach [e] X.env = (false, eval e X.env) :: starEach [] X.env := by rfl) : SE X cl W (.Call (.Name "all" p) [e] [] pos) (m1 fAll mo) :=
  sc_b1 (cr_all hc) con_all he hg hm (by decide +kernel) (by decide) (by decide) hs
theorem sd_any (he : SO X cl W e mo) (hm : X.mg "any" = none) (hc : X.calm = true := by rfl) (hg : Gl X "any" := by rfl) (hs : starEach [e] X.env = (false, eval e X.env) :: starEach [] X.env := by rfl) : SE X cl W (.Call (.Name "any" p) [e] [] pos) (m1 fAny mo) :=
  sc_b1 (cr_any hc) con_any he hg hm (by decide +kernel) (by decide) (by decide) hs
/-! int, abs, max, min of two -/
def fInt : LV → PHeap → Res D := fun x h => match x with
  | .val (.int i) => .ok (.int i) h
  | .val (.bl b) => .ok (.int (if b then 1 else 0)) h
  | _ => .stuck
def fAbs : LV → PHeap → Res D := fun x h => match x with
  | .val (.int i) => .ok (.int (if i < 0 then -i else i)) h
  | _ => .stuck
def fMax2 : LV → LV → PHeap → Res D := fun x y h => match x, y with
  | .val (.int i), .val (.int j) => .ok (.int (if j > i then j else i)) h
  | _, _ => .stuck
def fMin2 : LV → LV → PHeap → Res D := fun x y h => match x, y with
  | .val (.int i), .val (.int j) => .ok (.int (if j < i then j else i)) h
  | _, _ => .stuck
theorem con_int : Con1 (β := V) (RRep X.K) X.K cl (fun xs H Q => (∃ i, xs = [.int i] ∧ Q (.int i) H) ∨ ∃ k, xs = [.bl k] ∧ Q (.int (if k then 1 else 0)) H) fInt := by
  intro W io sg H h x v Q hr r p
  unfold fInt at p
  split at p
  · cases r; exact .inl ⟨_, rfl, p.here hr rfl⟩
  · cases r; exact .inr ⟨_, rfl, p.here hr rfl⟩
  · exact p.elim
theorem con_abs : Con1 (β := V) (RRep X.K) X.K cl (fun xs H Q => ∃ i, xs = [.int i] ∧ Q (.int (if i < 0 then -i else i)) H) fAbs := by
  intro W io sg H h x v Q hr r p
  unfold fAbs at p
  split at p
  · cases r; exact ⟨_, rfl, p.here hr rfl⟩
  · exact p.elim
theorem con_max2 : Con2 (RRep X.K) X.K cl (fun xs H Q => ∃ i j, xs = [.int i, .int j] ∧ Q (.int (if j > i then j else i)) H) fMax2 := by
  intro W io sg H h x y v u Q hr r q p
  unfold fMax2 at p
  split at p
  · cases r; cases q; exact ⟨_, _, rfl, p.here hr rfl⟩
  · exact p.elim
theorem con_min2 : Con2 (RRep X.K) X.K cl (fun xs H Q => ∃ i j, xs = [.int i, .int j] ∧ Q (.int (if j < i then j else i)) H) fMin2 := by
  intro W io sg H h x y v u Q hr r q p
  unfold fMin2 at p
  split at p
  · cases r; cases q; exact ⟨_, _, rfl, p.here hr rfl⟩
  · exact p.elim
theorem sd_intc (he : SO X cl W e mo) (hm : X.mg "int" = none) (hg : Gl X "int" := by rfl) (hs : starEach [e] X.env = (false, eval e X.env) :: starEach [] X.env := by rfl) : SE X cl W (.Call (.Name "int" p) [e] [] pos) (m1 fInt mo) :=
  sc_t1 call_int1 con_int he hg hm (by decide +kernel) (by decide) (by decide) hs
theorem sd_abs (he : SO X cl W e mo) (hm : X.mg "abs" = none) (hg : Gl X "abs" := by rfl) (hs : starEach [e] X.env = (false, eval e X.env) :: starEach [] X.env := by rfl) : SE X cl W (.Call (.Name "abs" p) [e] [] pos) (m1 fAbs mo) :=
  sc_b1 call_abs con_abs he hg hm (by decide +kernel) (by decide) (by decide) hs
theorem sd_max2 (ha : SO X cl W a mo) (hb : SO X cl W b mp) (hm : X.mg "max" = none) (hc : X.calm = true := by rfl) (hg : Gl X "max" := by rfl)
    (hs : starEach [a, b] X.env = (false, eval a X.env) :: starEach [b] X.env := by rfl) (hs2 : starEach [b] X.env = (false, eval b X.env) :: starEach [] X.env := by rfl) (hpl : (backTo pos (starEach [b] X.env)).any (·.1) = false := by rfl) : SE X cl W (.Call (.Name "max" p) [a, b] [] pos) (m2 fMax2 mo mp) :=
  sc_b2 (call_max2 hc) con_max2 ha hb hg hm (by decide +kernel) (by decide) (by decide) hs hs2 hpl
theorem sd_min2 (ha : SO X cl W a mo) (hb : SO X cl W b mp) (hm : X.mg "min" = none) (hc : X.calm = true := by rfl) (hg : Gl X "min" := by rfl)
    (hs : starEach [a, b] X.env = (false, eval a X.env) :: starEach [b] X.env := by rfl) (hs2 : starEach [b] X.env = (false, eval b X.env) :: starEach [] X.env := by rfl) (hpl : (backTo pos (starEach [b] X.env)).any (·.1) = false := by rfl) : SE X cl W (.Call (.Name "min" p) [a, b] [] pos) (m2 fMin2 mo mp) :=
  sc_b2 (call_min2 hc) con_min2 ha hb hg hm (by decide +kernel) (by decide) (by decide) hs hs2 hpl
end

/-! ### arithmetic -/
section
variable {X : Cx} {cl : Nat → Addr}
def fAdd : D → D → PHeap → Res D := fun x y h => match x, y with
  | .int i, .int j => .ok (.int (i + j)) h
  | .tup xs, .tup ys => if xs.length + ys.length ≤ 16777216 then .ok (.tup (xs ++ ys)) h else .stuck
  | .str a, .str b => if a.length + b.length ≤ 16777216 then .ok (.str (a ++ b)) h else .stuck
  | _, _ => .stuck
def rAddM (K : PySem.W.Frag) : R2 := fun x y H Q => rI0 (fun i j => .int (i + j)) x y H Q ∨ rCatAA K x y H Q ∨ ∃ i j, x = .str i ∧ y = .str j ∧ i.length + j.length ≤ sizeLine ∧ Q (.str (i ++ j)) H
theorem op_addM : OpR X (binaryOp .Add) (rAddM X.K) := op_add.or (op_catAA.or op_add_str)
theorem o2_add : Op2 X.K cl (rAddM X.K) fAdd := by
  intro W io sg H h x y v u Q hr r q p
  have hz : sizeLine = 16777216 := sizeLine_eq
  unfold fAdd at p
  split at p
  · cases r; cases q; exact .inl ⟨_, _, rfl, rfl, p.here hr rfl⟩
  · rename_i xs ys
    obtain ⟨a, vs, rfl, ha, ra⟩ := r
    obtain ⟨b, us, rfl, hb, rb⟩ := q
    have l1 := ra.length
    have l2 := rb.length
    split at p
    · refine .inr (.inl ⟨a, b, vs, us, rfl, rfl, ha, hb, by omega, fun e => ?_, fun _ e => ?_, fun _ _ t o ht hd => ?_⟩)
      · subst e
        have e1 : xs = [] := List.eq_nil_of_length_eq_zero (by simpa using l1)
        subst e1
        exact p.here hr ⟨b, us, rfl, hb, rb⟩
      · subst e
        have e1 : ys = [] := List.eq_nil_of_length_eq_zero (by simpa using l2)
        subst e1
        rw [List.append_nil] at p
        exact p.here hr ⟨a, vs, rfl, ha, ra⟩
      · exact p _ io _ (Step.laid ht) (hr.laid ht) ⟨t, vs ++ us, rfl, .of upd_same hd, (ra.append rb).step (Step.laid ht) _ _⟩
    · exact p.elim
  · cases r; cases q
    split at p
    · exact .inr (.inr ⟨_, _, rfl, rfl, by omega, p.here hr rfl⟩)
    · exact p.elim
  · exact p.elim
def fSub : D → D → PHeap → Res D := fun x y h => match x, y with
  | .int i, .int j => .ok (.int (i - j)) h
  | _, _ => .stuck
theorem o2_sub : Op2 X.K cl (rI0 fun i j => .int (i - j)) fSub := by
  intro W io sg H h x y v u Q hr r q p
  unfold fSub at p
  split at p
  · cases r; cases q; exact ⟨_, _, rfl, rfl, p.here hr rfl⟩
  · exact p.elim
def small64 (i : Int) : Bool := decide (i.natAbs < 18446744073709551616)
theorem small64_iff {i : Int} : small64 i = true ↔ -(2 ^ 64) < i ∧ i < 2 ^ 64 := by
  unfold small64
  rw [decide_eq_true_eq]
  omega
def fMul : D → D → PHeap → Res D := fun x y h => match x, y with
  | .int i, .int j => if small64 i || small64 j then .ok (.int (i * j)) h else .stuck
  | .tup xs, .int k => if -1000 ≤ k ∧ k ≤ 1000 ∧ xs.length ≤ 1000 then .ok (.tup (List.replicate k.toNat xs).flatten) h else .stuck
  | _, _ => .stuck
def rMulM (K : PySem.W.Frag) : R2 := fun x y H Q => rI CMul (fun i j => .int (i * j)) x y H Q ∨ rRepA K x y H Q
theorem op_mulM : OpR X (binaryOp .Mult) (rMulM X.K) := op_mul.or op_repA
theorem RepL.rep {K : PySem.W.Frag} {io : List Addr} {H : Hp} {xs : List D} {vs : List V} (r : RepL K io H xs vs) : ∀ k : Nat, RepL K io H (List.replicate k xs).flatten (List.replicate k vs).flatten
  | 0 => by simp [RepL]
  | k + 1 => by
    rw [List.replicate_succ, List.replicate_succ, List.flatten_cons, List.flatten_cons]
    exact r.append (r.rep k)
theorem o2_mul : Op2 X.K cl (rMulM X.K) fMul := by
  intro W io sg H h x y v u Q hr r q p
  unfold fMul at p
  split at p
  · rename_i i j
    cases r; cases q
    split at p
    · rename_i c
      simp only [small64_iff, Bool.or_eq_true] at c
      exact .inl ⟨_, _, rfl, rfl, c, p.here hr rfl⟩
    · exact p.elim
  · rename_i xs kk
    obtain ⟨a, vs, rfl, ha, ra⟩ := r
    cases q
    have l1 := ra.length
    split at p
    · rename_i c
      obtain ⟨c1, c2, c3⟩ := c
      refine .inr ⟨a, _, vs, rfl, rfl, ha, c1, c2, by omega, fun e => ?_, fun _ _ t o ht hd => ?_⟩
      · have e1 : (List.replicate (Int.toNat kk) xs).flatten = xs := by
          rcases e with e | e
          · rw [e] at l1
            have ex : xs = [] := List.eq_nil_of_length_eq_zero (by simpa using l1)
            subst ex
            induction Int.toNat kk with
            | zero => rfl
            | succ n ih => rw [List.replicate_succ, List.flatten_cons, ih]; rfl
          · rw [e]; simp
        rw [e1] at p
        exact p.here hr ⟨a, vs, rfl, ha, ra⟩
      · exact p _ io _ (Step.laid ht) (hr.laid ht) ⟨t, _, rfl, .of upd_same hd, (ra.rep _).step (Step.laid ht) _ _⟩
    · exact p.elim
  · exact p.elim
def fDiv : D → D → PHeap → Res D := fun x y h => match x, y with
  | .int i, .int j => if j ≠ 0 ∧ j.natAbs < 1073741824 then .ok (.int (i.fdiv j)) h else .stuck
  | _, _ => .stuck
theorem o2_div : Op2 X.K cl (rI CDivN fun i j => .int (i.fdiv j)) fDiv := by
  intro W io sg H h x y v u Q hr r q p
  unfold fDiv at p
  split at p
  · cases r; cases q
    split at p
    · rename_i c; exact ⟨_, _, rfl, rfl, c, p.here hr rfl⟩
    · exact p.elim
  · exact p.elim
def fMod : D → D → PHeap → Res D := fun x y h => match x, y with
  | .int i, .int j => if j ≠ 0 then .ok (.int (i.fmod j)) h else .stuck
  | _, _ => .stuck
theorem o2_mod : Op2 X.K cl (rI (fun _ j => j ≠ 0) fun i j => .int (i.fmod j)) fMod := by
  intro W io sg H h x y v u Q hr r q p
  unfold fMod at p
  split at p
  · cases r; cases q
    split at p
    · rename_i c; exact ⟨_, _, rfl, rfl, c, p.here hr rfl⟩
    · exact p.elim
  · exact p.elim
def fPow : D → D → PHeap → Res D := fun x y h => match x, y with
  | .int i, .int j => if 0 ≤ j ∧ j ≤ 1000000 ∧ i.natAbs < 2 ^ 64 then .ok (.int (i ^ j.toNat)) h else .stuck
  | _, _ => .stuck
theorem o2_pow : Op2 X.K cl (rI CPow fun i j => .int (i ^ j.toNat)) fPow := by
  intro W io sg H h x y v u Q hr r q p
  unfold fPow at p
  split at p
  · cases r; cases q
    split at p
    · rename_i c; exact ⟨_, _, rfl, rfl, c, p.here hr rfl⟩
    · exact p.elim
  · exact p.elim
def fNeg : D → PHeap → Res D := fun x h => match x with
  | .int i => .ok (.int (-i)) h
  | _ => .stuck
theorem o1_neg : Op1 X.K cl (rU fun i => .int (-i)) fNeg := by
  intro W io sg H h x v Q hr r p
  unfold fNeg at p
  split at p
  · cases r; exact ⟨_, rfl, p.here hr rfl⟩
  · exact p.elim

/-! ### comparisons -/
def fCmpI (c : Int → Int → Bool) : D → D → PHeap → Res D := fun x y h => match x, y with
  | .int i, .int j => .ok (.bl (c i j)) h
  | _, _ => .stuck
theorem o2_cmpI {c : Int → Int → Bool} : Op2 X.K cl (rI0 fun i j => .bl (c i j)) (fCmpI c) := by
  intro W io sg H h x y v u Q hr r q p
  unfold fCmpI at p
  split at p
  · cases r; cases q; exact ⟨_, _, rfl, rfl, p.here hr rfl⟩
  · exact p.elim
abbrev fLt := fCmpI fun i j => decide (i < j)
abbrev fLe := fCmpI fun i j => decide (i ≤ j)
abbrev fGt := fCmpI fun i j => decide (j < i)
abbrev fGe := fCmpI fun i j => decide (j ≤ i)
/-- is None, is True, is False -/
def fIs : D → D → PHeap → Res D := fun x y h => match y with
  | .non => .ok (.bl (decide (x = .non))) h
  | .bl b => match x with
    | .bl a => .ok (.bl (decide (a = b))) h
    | _ => .stuck
  | _ => .stuck
def fIsNot : D → D → PHeap → Res D := fun x y h => match y with
  | .non => .ok (.bl (!decide (x = .non))) h
  | .bl b => match x with
    | .bl a => .ok (.bl (!decide (a = b))) h
    | _ => .stuck
  | _ => .stuck
theorem rep_non {K : PySem.W.Frag} {io : List Addr} {H : Hp} {d : D} {v : V} (r : Rep K io H d v) : decide (v = .non) = decide (d = .non) := by
  cases d with
  | non => cases r; rfl
  | lst xs => exact False.elim r
  | dct xs ys => obtain ⟨a, ns, rfl, _⟩ := r; simp
  | map xs => obtain ⟨a, o, ys, rfl, _⟩ := r; simp
  | bl b => cases r; simp
  | int b => cases r; simp
  | str b => cases r; simp
  | tup xs => obtain ⟨a, vs, rfl, _⟩ := r; simp
  | fro xs => obtain ⟨a, vs, rfl, _⟩ := r; simp
  | ref n => obtain ⟨a, _, rfl⟩ := r; simp
theorem o2_is : Op2 X.K cl (fun x y H Q => (y = .non ∧ Q (.bl (decide (x = .non))) H) ∨ ∃ a b, x = .bl a ∧ y = .bl b ∧ Q (.bl (decide (a = b))) H) fIs := by
  intro W io sg H h x y v u Q hr r q p
  unfold fIs at p
  split at p
  · cases q; exact .inl ⟨rfl, by rw [rep_non r]; exact p.here hr rfl⟩
  · split at p
    · cases q; cases r; exact .inr ⟨_, _, rfl, rfl, p.here hr rfl⟩
    · exact p.elim
  · exact p.elim
theorem o2_isnot : Op2 X.K cl (fun x y H Q => (y = .non ∧ Q (.bl (!decide (x = .non))) H) ∨ ∃ a b, x = .bl a ∧ y = .bl b ∧ Q (.bl (!decide (a = b))) H) fIsNot := by
  intro W io sg H h x y v u Q hr r q p
  unfold fIsNot at p
  split at p
  · cases q; exact .inl ⟨rfl, by rw [rep_non r]; exact p.here hr rfl⟩
  · split at p
    · cases q; cases r; exact .inr ⟨_, _, rfl, rfl, p.here hr rfl⟩
    · exact p.elim
  · exact p.elim
theorem op_isM : OpR X (compareOp .Is) (fun x y H Q => (y = .non ∧ Q (.bl (decide (x = .non))) H) ∨ ∃ a b, x = .bl a ∧ y = .bl b ∧ Q (.bl (decide (a = b))) H) := op_isN.or op_is_bl
theorem op_isnotM : OpR X (compareOp .IsNot) (fun x y H Q => (y = .non ∧ Q (.bl (!decide (x = .non))) H) ∨ ∃ a b, x = .bl a ∧ y = .bl b ∧ Q (.bl (!decide (a = b))) H) := op_notN.or op_isnot_bl
end
end Gb

/-! GbZ: zip of two, of three, lists and tuples in any mix -/
namespace Gb
open PySem PySem.Spec PyProof.Rows L2

/-- a list or a tuple that is walked -/
inductive Src where
  | lst (a : Addr) | tup (a : Addr)
def Src.addr : Src → Addr
  | .lst a => a
  | .tup a => a
def Src.obj : Src → Obj
  | .lst a => { cls := .type "list_iterator", data := .fields #[.ref a, .int 0 0] }
  | .tup a => { cls := .type "tuple_iterator", data := .fields #[.ref a, .int 0 0] }
def Src.It (u : Src) (it : Addr) (i : Nat) (h : Heap) : Prop := match u with
  | .lst a => h.IsListIter it a i
  | .tup a => h.IsTupleIter it a i
def Src.At (u : Src) (K : PySem.W.Frag) (H : Hp) (xs : List V) : Prop := match u with
  | .lst a => SqL K H a xs
  | .tup a => SqT K H a xs
theorem Src.It.obj {u : Src} {it : Addr} {i : Nat} {h : Heap} (q : u.It it i h) : ∃ o, h.get? it = some o ∧ ∀ v, o.data ≠ .cell v := by
  cases u with
  | lst a => obtain ⟨o, e, _, d⟩ := q; exact ⟨o, e, fun v z => by rw [d] at z; cases z⟩
  | tup a => obtain ⟨o, e, _, d⟩ := q; exact ⟨o, e, fun v z => by rw [d] at z; cases z⟩
theorem Src.It.at {u : Src} {it : Addr} {i : Nat} {h h' : Heap} (q : u.It it i h) (k : ∀ o, h.get? it = some o → h'.get? it = some o) : u.It it i h' := by
  cases u with
  | lst a => exact Heap.IsListIter.at q k
  | tup a => exact Heap.IsTupleIter.at q k
section
variable {X : Cx} {pins : List (Addr × Obj)} {σ : L2.St} {H : Hp} {s : Shared}
theorem Src.inj {u : Src} {xs ys : List V} (I : Inv X pins σ H s) (h : u.At X.K H xs) (h' : u.At X.K H ys) : xs = ys := by
  cases u with
  | lst a => exact I.list_inj h h'
  | tup a => exact I.tuple_inj h h'
theorem Src.lt {u : Src} {xs : List V} (I : Inv X pins σ H s) (h : u.At X.K H xs) : u.addr < s.heap.objs.size := by
  cases u with
  | lst a => obtain ⟨_, _, p, _⟩ := I.list h; exact p.lt
  | tup a => obtain ⟨_, _, p, _⟩ := I.tuple h; obtain ⟨o, e, _⟩ := p; exact Heap.lt_size e
/-- what its iterator draws now -/
theorem Src.draw {u : Src} {xs : List V} (hc : X.calm = true) (I : Inv X pins σ H s) (h : u.At X.K H xs) (it : Addr) (hne : u.addr ≠ it) :
    ∃ (St : Nat → Heap → Prop) (its : List Value), Vals xs its ∧ Draws X.prog X.w X.A.in1 it [it, u.addr] its.length (fun i v => its[i]? = some v) St ∧ (∀ i, u.It it i s.heap → St i s.heap) ∧ ∀ i h, St i h → u.It it i h := by
  have hh : X.A.in1.handled = none := I.ok.hd hc
  cases u with
  | lst a =>
    obtain ⟨its, rv, p, _⟩ := I.list h
    refine ⟨fun i h => h.IsListIter it a i ∧ h.IsList a its.toArray, its, rv, ?_, fun i st => ⟨st, p.isList⟩, fun i h q => q.1⟩
    have D := Draws.list (prog := X.prog) (w := X.w) (A := X.A.in1) hh it a hne its.toArray
    simpa [Src.addr] using D
  | tup a =>
    obtain ⟨its, rv, p, _⟩ := I.tuple h
    refine ⟨fun i h => h.IsTupleIter it a i ∧ h.IsTuple a its.toArray, its, rv, ?_, fun i st => ⟨st, p⟩, fun i h q => q.1⟩
    have D := Draws.tuple (prog := X.prog) (w := X.w) (A := X.A.in1) hh it a hne its.toArray
    simpa [Src.addr] using D
theorem Src.begins {u : Src} {xs : List V} (I : Inv X pins σ H s) (h : u.At X.K H xs) : ∃ Hq : Heap → Prop, Begins (.ref u.addr) u.obj Hq ∧ Hq s.heap := by
  cases u with
  | lst a => obtain ⟨its, rv, p, _⟩ := I.list h; exact ⟨_, begins_list a its.toArray, p.isList⟩
  | tup a => obtain ⟨its, rv, p, _⟩ := I.tuple h; exact ⟨_, begins_tuple a its.toArray, p⟩
theorem Src.it0 {u : Src} {it : Addr} {h : Heap} (e : h.get? it = some u.obj) : u.It it 0 h := by
  cases u with
  | lst a => exact ⟨_, e, rfl, rfl⟩
  | tup a => exact ⟨_, e, rfl, rfl⟩
end


def ItZ2 (K : PySem.W.Frag) (u v : Src) : It :=
  ⟨fun i H => ∃ (xs ys : List V) (x y : V), u.At K H xs ∧ v.At K H ys ∧ xs[i]? = some x ∧ ys[i]? = some y,
    fun i H z H' => ∃ T o x y, z = .ref T ∧ H T = none ∧ Obj.dict o = none ∧ H' = upd H T (.frz o (.tup [x, y])) ∧ (∀ xs, u.At K H xs → xs[i]? = some x) ∧ (∀ ys, v.At K H ys → ys[i]? = some y),
    fun i H => ∃ xs ys : List V, u.At K H xs ∧ v.At K H ys ∧ i ≤ xs.length ∧ i ≤ ys.length ∧ (i = xs.length ∨ i = ys.length)⟩
theorem turn_z2 {P : Program} {w : World} {K : PySem.W.Frag} {elts : List Expr} {kk : Nat} {tpos : Pos} {u v : Src} {z TI TO i1 i2 : Addr} (S : ZipSep2 z TI TO i1 i2 [i1, u.addr] [i2, v.addr]) (n1 : u.addr ≠ i1) (n2 : v.addr ≠ i2) :
    Turn P w K (.Tuple elts kk tpos) (ItZ2 K u v) [z, TI, TO, i1, i2] z (fun i h => IsZip h z TI TO .none ∧ IsTupOf2 h TI (.ref i1) (.ref i2) ∧ (∃ x y, IsTupOf2 h TO x y) ∧ u.It i1 i h ∧ v.It i2 i h) where
  mem := by simp
  obj := fun i h st c hc => by
    obtain ⟨hz, hTI, ⟨x, y, hTO⟩, h1, h2⟩ := st
    have e' : c = z ∨ c = TI ∨ c = TO ∨ c = i1 ∨ c = i2 := by simpa using hc
    rcases e' with q | q | q | q | q
    · rw [q]; exact ⟨_, hz, fun v q => nomatch q⟩
    · rw [q]; exact ⟨_, hTI, fun v q => nomatch q⟩
    · rw [q]; exact ⟨_, hTO, fun v q => nomatch q⟩
    · rw [q]; exact h1.obj
    · rw [q]; exact h2.obj
  keep := fun i h h' st k => by
    obtain ⟨hz, hTI, ⟨x, y, hTO⟩, h1, h2⟩ := st
    exact ⟨k z (by simp) _ hz, k TI (by simp) _ hTI, ⟨x, y, k TO (by simp) _ hTO⟩, h1.at fun o q => k i1 (by simp) o q, h2.at fun o q => k i2 (by simp) o q⟩
  item := by
    intro X hP hw hK hc i pins s σ H E I hf st hg
    subst hP hw hK
    obtain ⟨hz, hTI, ⟨o1, o2, hTO⟩, h1, h2⟩ := st
    obtain ⟨xs, ys, x, y, hq1, hq2, hx1, hx2⟩ := hg
    obtain ⟨St1, its1, rv1, D1, f1, g1⟩ := Src.draw hc I hq1 i1 n1
    obtain ⟨St2, its2, rv2, D2, f2, g2⟩ := Src.draw hc I hq2 i2 n2
    obtain ⟨u1, hu1, ru1⟩ := rv1.get hx1
    obtain ⟨u2, hu2, ru2⟩ := rv2.get hx2
    have lt1 : i < its1.length := (List.getElem?_eq_some_iff.mp hu1).1
    have lt2 : i < its2.length := (List.getElem?_eq_some_iff.mp hu2).1
    have hzl : z < s.heap.objs.size := Heap.lt_size hz
    have zi1 : i1 ≠ z := fun e => S.zf1 (e ▸ S.mem1)
    have zi2 : i2 ≠ z := fun e => S.zf2 (e ▸ S.mem2)
    refine wpAny_pyNext_zipD2_item S D1 D2 hz hTI hTO (f1 i h1) (f2 i h2) lt1 lt2 fun w1 w2 h' tk p1 p2 z' TO' j1 j2 hT hsz hk => ?_
    have e1 : w1 = u1 := Option.some.inj (p1.symm.trans hu1)
    subst e1
    have e2 : w2 = u2 := Option.some.inj (p2.symm.trans hu2)
    subst e2
    refine ⟨_, rfl, wpAny_letOwnedTupleGo_zip (s := { s with heap := h', toks := tk }) z' fun h'' z'' sb => ?_⟩
    have hT2 : h''.get? s.heap.objs.size = some { cls := .type "tuple", data := .seq #[w1, w2] } := (sb.2 _ (Nat.ne_of_gt hzl)).trans hT
    have new : ObjOk X.prog X.w (upd H s.heap.objs.size (.frz (tupO [w1, w2]) (.tup [x, y]))) h'' s.heap.objs.size (.frz (tupO [w1, w2]) (.tup [x, y])) :=
      ⟨hT2, by show 2 ≤ sizeLine; decide, [w1, w2], (.cons ru1 (.cons ru2 .nil)), ⟨_, hT2, rfl, _, rfl⟩⟩
    have I1 : Inv X pins σ (upd H s.heap.objs.size (.frz (tupO [w1, w2]) (.tup [x, y]))) { s with heap := h'', toks := tk } :=
      I.turnedNew (t' := tk) (ch := [z, TI, TO, i1, i2]) (fun c o hb q => (sb.2 c (fun q' => hb (by simp [q']))).trans (hk c o (fun q' => hb (by simp [q'])) (fun q' => hb (by simp [q'])) (fun q' => hb (by simp [q'])) (fun q' => hb (by simp [q'])) q)) hf (Nat.le_refl _) new
    refine ⟨.ref s.heap.objs.size, _, I1, rfl, ⟨_, _, x, y, rfl, I.hok.fresh (Nat.le_refl _), rfl, rfl, fun l hl => by rw [Src.inj I hl hq1]; exact hx1, fun l hl => by rw [Src.inj I hl hq2]; exact hx2⟩, ⟨z'', ?_, ⟨w1, w2, ?_⟩, (g1 _ _ j1).at fun o q => (sb.2 _ zi1).trans q, (g2 _ _ j2).at fun o q => (sb.2 _ zi2).trans q⟩, fun c hcm => ?_⟩
    · exact (sb.2 _ S.TIz).trans (hk _ _ S.TIz S.TITO S.TIi1 S.TIi2 hTI)
    · exact (sb.2 _ S.TOz).trans TO'
    · have hlt : c < s.heap.objs.size := by
        have e' : c = z ∨ c = TI ∨ c = TO ∨ c = i1 ∨ c = i2 := by simpa using hcm
        rcases e' with q | q | q | q | q
        · rw [q]; exact hzl
        · rw [q]; exact Heap.lt_size hTI
        · rw [q]; exact Heap.lt_size hTO
        · rw [q]; obtain ⟨_, e1, _⟩ := h1.obj; exact Heap.lt_size e1
        · rw [q]; obtain ⟨_, e1, _⟩ := h2.obj; exact Heap.lt_size e1
      rw [upd_ne (Nat.ne_of_lt hlt)]
      exact (hf c hcm).1
  done := by
    intro X hP hw hK hc i pins s σ H E I hf st hg
    subst hP hw hK
    obtain ⟨hz, hTI, ⟨o1, o2, hTO⟩, h1, h2⟩ := st
    obtain ⟨xs, ys, hq1, hq2, le1, le2, hend⟩ := hg
    obtain ⟨St1, its1, rv1, D1, f1, g1⟩ := Src.draw hc I hq1 i1 n1
    obtain ⟨St2, its2, rv2, D2, f2, g2⟩ := Src.draw hc I hq2 i2 n2
    have l1 := rv1.length
    have l2 := rv2.length
    refine wpAny_pyNext_zipD2_end S D1 D2 hz hTI hTO (f1 i h1) (f2 i h2) (by omega) (by omega) (by omega) fun h' tk hk => ⟨rfl, I.turnedL (t' := tk) (ch := [z, TI, TO, i1, i2]) (fun c o hb q =>
      hk c o (fun q' => hb (by simp [q'])) (fun q' => hb (by simp [q'])) (fun q' => hb (by simp [q'])) (fun q' => hb (by simp [q'])) q) hf⟩
  self := fun A i s Q E st h => wpAny_pyIter_zip st.1 h
def ItZ3 (K : PySem.W.Frag) (u v t : Src) : It :=
  ⟨fun i H => ∃ (xs ys zs : List V) (x y x3 : V), u.At K H xs ∧ v.At K H ys ∧ t.At K H zs ∧ xs[i]? = some x ∧ ys[i]? = some y ∧ zs[i]? = some x3,
    fun i H z H' => ∃ T o x y x3, z = .ref T ∧ H T = none ∧ Obj.dict o = none ∧ H' = upd H T (.frz o (.tup [x, y, x3])) ∧ (∀ xs, u.At K H xs → xs[i]? = some x) ∧ (∀ ys, v.At K H ys → ys[i]? = some y) ∧ (∀ zs, t.At K H zs → zs[i]? = some x3),
    fun i H => ∃ xs ys zs : List V, u.At K H xs ∧ v.At K H ys ∧ t.At K H zs ∧ i ≤ xs.length ∧ i ≤ ys.length ∧ i ≤ zs.length ∧ (i = xs.length ∨ i = ys.length ∨ i = zs.length)⟩
theorem turn_z3 {P : Program} {w : World} {K : PySem.W.Frag} {elts : List Expr} {kk : Nat} {tpos : Pos} {u v t : Src} {z TI TO i1 i2 i3 : Addr} (S : ZipSep3 z TI TO i1 i2 i3 [i1, u.addr] [i2, v.addr] [i3, t.addr]) (n1 : u.addr ≠ i1) (n2 : v.addr ≠ i2) (n3 : t.addr ≠ i3) :
    Turn P w K (.Tuple elts kk tpos) (ItZ3 K u v t) [z, TI, TO, i1, i2, i3] z (fun i h => IsZip h z TI TO .none ∧ IsTupOf3 h TI (.ref i1) (.ref i2) (.ref i3) ∧ (∃ x y x3, IsTupOf3 h TO x y x3) ∧ u.It i1 i h ∧ v.It i2 i h ∧ t.It i3 i h) where
  mem := by simp
  obj := fun i h st c hc => by
    obtain ⟨hz, hTI, ⟨x, y, x3, hTO⟩, h1, h2, h3⟩ := st
    have e' : c = z ∨ c = TI ∨ c = TO ∨ c = i1 ∨ c = i2 ∨ c = i3 := by simpa using hc
    rcases e' with q | q | q | q | q | q
    · rw [q]; exact ⟨_, hz, fun v q => nomatch q⟩
    · rw [q]; exact ⟨_, hTI, fun v q => nomatch q⟩
    · rw [q]; exact ⟨_, hTO, fun v q => nomatch q⟩
    · rw [q]; exact h1.obj
    · rw [q]; exact h2.obj
    · rw [q]; exact h3.obj
  keep := fun i h h' st k => by
    obtain ⟨hz, hTI, ⟨x, y, x3, hTO⟩, h1, h2, h3⟩ := st
    exact ⟨k z (by simp) _ hz, k TI (by simp) _ hTI, ⟨x, y, x3, k TO (by simp) _ hTO⟩, h1.at fun o q => k i1 (by simp) o q, h2.at fun o q => k i2 (by simp) o q, h3.at fun o q => k i3 (by simp) o q⟩
  item := by
    intro X hP hw hK hc i pins s σ H E I hf st hg
    subst hP hw hK
    obtain ⟨hz, hTI, ⟨o1, o2, o3, hTO⟩, h1, h2, h3⟩ := st
    obtain ⟨xs, ys, zs, x, y, x3, hq1, hq2, hq3, hx1, hx2, hx3⟩ := hg
    obtain ⟨St1, its1, rv1, D1, f1, g1⟩ := Src.draw hc I hq1 i1 n1
    obtain ⟨St2, its2, rv2, D2, f2, g2⟩ := Src.draw hc I hq2 i2 n2
    obtain ⟨St3, its3, rv3, D3, f3, g3⟩ := Src.draw hc I hq3 i3 n3
    obtain ⟨u1, hu1, ru1⟩ := rv1.get hx1
    obtain ⟨u2, hu2, ru2⟩ := rv2.get hx2
    obtain ⟨u3, hu3, ru3⟩ := rv3.get hx3
    have lt1 : i < its1.length := (List.getElem?_eq_some_iff.mp hu1).1
    have lt2 : i < its2.length := (List.getElem?_eq_some_iff.mp hu2).1
    have lt3 : i < its3.length := (List.getElem?_eq_some_iff.mp hu3).1
    have hzl : z < s.heap.objs.size := Heap.lt_size hz
    have zi1 : i1 ≠ z := fun e => S.zf1 (e ▸ S.mem1)
    have zi2 : i2 ≠ z := fun e => S.zf2 (e ▸ S.mem2)
    have zi3 : i3 ≠ z := fun e => S.zf3 (e ▸ S.mem3)
    refine wpAny_pyNext_zipD3_item S D1 D2 D3 hz hTI hTO (f1 i h1) (f2 i h2) (f3 i h3) lt1 lt2 lt3 fun w1 w2 w3 h' tk p1 p2 p3 z' TO' j1 j2 j3 hT hsz hk => ?_
    have e1 : w1 = u1 := Option.some.inj (p1.symm.trans hu1)
    subst e1
    have e2 : w2 = u2 := Option.some.inj (p2.symm.trans hu2)
    subst e2
    have e3 : w3 = u3 := Option.some.inj (p3.symm.trans hu3)
    subst e3
    refine ⟨_, rfl, wpAny_letOwnedTupleGo_zip (s := { s with heap := h', toks := tk }) z' fun h'' z'' sb => ?_⟩
    have hT2 : h''.get? s.heap.objs.size = some { cls := .type "tuple", data := .seq #[w1, w2, w3] } := (sb.2 _ (Nat.ne_of_gt hzl)).trans hT
    have new : ObjOk X.prog X.w (upd H s.heap.objs.size (.frz (tupO [w1, w2, w3]) (.tup [x, y, x3]))) h'' s.heap.objs.size (.frz (tupO [w1, w2, w3]) (.tup [x, y, x3])) :=
      ⟨hT2, by show 3 ≤ sizeLine; decide, [w1, w2, w3], (.cons ru1 (.cons ru2 (.cons ru3 .nil))), ⟨_, hT2, rfl, _, rfl⟩⟩
    have I1 : Inv X pins σ (upd H s.heap.objs.size (.frz (tupO [w1, w2, w3]) (.tup [x, y, x3]))) { s with heap := h'', toks := tk } :=
      I.turnedNew (t' := tk) (ch := [z, TI, TO, i1, i2, i3]) (fun c o hb q => (sb.2 c (fun q' => hb (by simp [q']))).trans (hk c o (fun q' => hb (by simp [q'])) (fun q' => hb (by simp [q'])) (fun q' => hb (by simp [q'])) (fun q' => hb (by simp [q'])) (fun q' => hb (by simp [q'])) q)) hf (Nat.le_refl _) new
    refine ⟨.ref s.heap.objs.size, _, I1, rfl, ⟨_, _, x, y, x3, rfl, I.hok.fresh (Nat.le_refl _), rfl, rfl, fun l hl => by rw [Src.inj I hl hq1]; exact hx1, fun l hl => by rw [Src.inj I hl hq2]; exact hx2, fun l hl => by rw [Src.inj I hl hq3]; exact hx3⟩, ⟨z'', ?_, ⟨w1, w2, w3, ?_⟩, (g1 _ _ j1).at fun o q => (sb.2 _ zi1).trans q, (g2 _ _ j2).at fun o q => (sb.2 _ zi2).trans q, (g3 _ _ j3).at fun o q => (sb.2 _ zi3).trans q⟩, fun c hcm => ?_⟩
    · exact (sb.2 _ S.TIz).trans (hk _ _ S.TIz S.TITO S.TIi1 S.TIi2 S.TIi3 hTI)
    · exact (sb.2 _ S.TOz).trans TO'
    · have hlt : c < s.heap.objs.size := by
        have e' : c = z ∨ c = TI ∨ c = TO ∨ c = i1 ∨ c = i2 ∨ c = i3 := by simpa using hcm
        rcases e' with q | q | q | q | q | q
        · rw [q]; exact hzl
        · rw [q]; exact Heap.lt_size hTI
        · rw [q]; exact Heap.lt_size hTO
        · rw [q]; obtain ⟨_, e1, _⟩ := h1.obj; exact Heap.lt_size e1
        · rw [q]; obtain ⟨_, e1, _⟩ := h2.obj; exact Heap.lt_size e1
        · rw [q]; obtain ⟨_, e1, _⟩ := h3.obj; exact Heap.lt_size e1
      rw [upd_ne (Nat.ne_of_lt hlt)]
      exact (hf c hcm).1
  done := by
    intro X hP hw hK hc i pins s σ H E I hf st hg
    subst hP hw hK
    obtain ⟨hz, hTI, ⟨o1, o2, o3, hTO⟩, h1, h2, h3⟩ := st
    obtain ⟨xs, ys, zs, hq1, hq2, hq3, le1, le2, le3, hend⟩ := hg
    obtain ⟨St1, its1, rv1, D1, f1, g1⟩ := Src.draw hc I hq1 i1 n1
    obtain ⟨St2, its2, rv2, D2, f2, g2⟩ := Src.draw hc I hq2 i2 n2
    obtain ⟨St3, its3, rv3, D3, f3, g3⟩ := Src.draw hc I hq3 i3 n3
    have l1 := rv1.length
    have l2 := rv2.length
    have l3 := rv3.length
    refine wpAny_pyNext_zipD3_end S D1 D2 D3 hz hTI hTO (f1 i h1) (f2 i h2) (f3 i h3) (by omega) (by omega) (by omega) (by omega) fun h' tk hk => ⟨rfl, I.turnedL (t' := tk) (ch := [z, TI, TO, i1, i2, i3]) (fun c o hb q =>
      hk c o (fun q' => hb (by simp [q'])) (fun q' => hb (by simp [q'])) (fun q' => hb (by simp [q'])) (fun q' => hb (by simp [q'])) (fun q' => hb (by simp [q'])) q) hf⟩
  self := fun A i s Q E st h => wpAny_pyIter_zip st.1 h
/-! ### enumerate -/
theorem meets_enum1 {v : Value} {o : Obj} {H : Heap → Prop} (B : Begins v o H) :
    Meets (Builtin.«enumerate.__new__» ⟨[.type "enumerate", v], []⟩) (fun _ R s => H s.heap ∧
      R (.ok (.ret (.ref (s.heap.push o).objs.size))) { s with heap := (s.heap.push o).push { cls := .type "enumerate", data := .fields #[.none, .bool false, .ref s.heap.objs.size, rawInt 0, .none, .none] } }) :=
  .of_wp fun prog w A R s h => by
    obtain ⟨hp, g, d, tk, os⟩ := s; obtain ⟨h1, h⟩ := h
    have hsub := sub_enumerate
    have q1 : ∀ {A' : Around} {E : Value → Shared → Prop} {Q : Value → Shared → Prop}, Q (.ref hp.objs.size) ⟨hp.push o, g, d, tk, os⟩ → wpAny (model prog w) A' (pyIter v) Q E ⟨hp, g, d, tk, os⟩ :=
      fun q => B.iter prog w _ _ ⟨hp, g, d, tk, os⟩ _ h1 q
    wp_walk using q1
    refine wpAny_stack_any fun st => wpAny_pure ?_
    split
    · rename_i c _ _ _ _ _
      cases (c == Value.type "enumerate")
      · wp_walk using q1
        exact ⟨_, rfl, h⟩
      · wp_walk using q1
        exact ⟨_, rfl, h⟩
    · wp_walk using q1
      exact ⟨_, rfl, h⟩
section
variable {prog : Program} {w : World} {A : Around} {E : Value → Shared → Prop} {s : Shared}
theorem enum_begins1 {v : Value} {o : Obj} {H : Heap → Prop} {Q : Value → Shared → Prop} (B : Begins v o H) (h1 : H s.heap)
    (h : ∀ h', IsEnum h' (s.heap.objs.size + 1) s.heap.objs.size 0 .none → h'.get? s.heap.objs.size = some o → h'.objs.size = s.heap.objs.size + 2 →
      (∀ b o, s.heap.get? b = some o → h'.get? b = some o) → Q (.ref (s.heap.objs.size + 1)) { s with heap := h' }) :
    wpAny (model prog w) A (call (.type "enumerate") [v]) Q E s := by
  refine callType_new F.called_enumerate (by decide) (F.typeCall_enumerate_1 _) (F.newCall_enumerate_1 _) (fun obj => F.args_object_init_2 obj _) F.entry_enumerate_new
    (meets_enum1 B) ⟨h1, ?_⟩
  have hz : (s.heap.push o).objs.size = s.heap.objs.size + 1 := Heap.size_push ..
  show _ ∧ _
  rw [hz]
  have he : IsEnum ((s.heap.push o).push { cls := .type "enumerate", data := .fields #[.none, .bool false, .ref s.heap.objs.size, rawInt 0, .none, .none] }) (s.heap.objs.size + 1) s.heap.objs.size 0 .none := by
    have := Heap.get?_push_size (s.heap.push o) (o := { cls := .type "enumerate", data := .fields #[.none, .bool false, .ref s.heap.objs.size, rawInt 0, .none, .none] }) rfl
    rw [hz] at this; exact this
  refine ⟨⟨_, he, rfl⟩, h _ he (Heap.get?_push_of_some _ (Heap.get?_push_size _ B.free)) (by rw [Heap.size_push, hz]) fun b o x => Heap.get?_push_of_some _ (Heap.get?_push_of_some _ x)⟩
end
def ItE (K : PySem.W.Frag) (u : Src) (k : Int) : It :=
  ⟨fun i H => ∃ (xs : List V) (x : V), u.At K H xs ∧ xs[i]? = some x,
    fun i H z H' => ∃ T o x, z = .ref T ∧ H T = none ∧ Obj.dict o = none ∧ H' = upd H T (.frz o (.tup [.int (k + i), x])) ∧ ∀ xs, u.At K H xs → xs[i]? = some x,
    fun i H => ∃ xs : List V, u.At K H xs ∧ i = xs.length⟩
theorem turn_e {P : Program} {w : World} {K : PySem.W.Frag} {elts : List Expr} {kk : Nat} {tpos : Pos} {u : Src} {k : Int} {e it : Addr} (n1 : u.addr ≠ it) (n2 : e ≠ it) (n3 : e ≠ u.addr) :
    Turn P w K (.Tuple elts kk tpos) (ItE K u k) [e, it] e (fun i h => (∃ old, IsEnum h e it (k + (i : Nat)) old) ∧ u.It it i h) where
  mem := by simp
  obj := fun i h st b hb => by
    obtain ⟨⟨old, he⟩, h1⟩ := st
    have e' : b = e ∨ b = it := by simpa using hb
    rcases e' with z | z
    · rw [z]; exact ⟨_, he, fun v q => nomatch q⟩
    · rw [z]; exact h1.obj
  keep := fun i h h' st k => let ⟨⟨old, he⟩, hi⟩ := st; ⟨⟨old, k e (by simp) _ he⟩, hi.at fun o q => k it (by simp) o q⟩
  item := by
    intro X hP hw hK hc i pins s σ H E I hf st hg
    subst hP hw hK
    obtain ⟨⟨old, he⟩, hit⟩ := st
    obtain ⟨xs, x, hq, hx⟩ := hg
    obtain ⟨St, its, rv, D, f, g⟩ := Src.draw hc I hq it n1
    obtain ⟨u1, hu, ru⟩ := rv.get hx
    have lt : i < its.length := (List.getElem?_eq_some_iff.mp hu).1
    have hel : e < s.heap.objs.size := Heap.lt_size he
    have hil : it < s.heap.objs.size := by obtain ⟨_, q, _⟩ := hit.obj; exact Heap.lt_size q
    refine wpAny_pyNext_enum_itemC D he (f i hit) lt n2 (by simp; exact ⟨n2, n3⟩) fun y h' tk hy ho hit' hT hsz hk => ?_
    have ey : y = u1 := Option.some.inj (hy.symm.trans hu)
    subst ey
    refine ⟨_, rfl, wpAny_letOwnedTupleGo_enum (s := { s with heap := h', toks := tk + 1 }) ho fun h'' he' sb => ?_⟩
    have hT2 : h''.get? s.heap.objs.size = some { cls := .type "tuple", data := .seq #[.int (k + (i : Nat)) tk, y] } := (sb.2 _ (Nat.ne_of_gt hel)).trans hT
    have new : ObjOk X.prog X.w (upd H s.heap.objs.size (.frz (tupO [.int (k + (i : Nat)) tk, y]) (.tup [.int (k + (i : Nat)), x]))) h'' s.heap.objs.size (.frz (tupO [.int (k + (i : Nat)) tk, y]) (.tup [.int (k + (i : Nat)), x])) :=
      ⟨hT2, by show 2 ≤ sizeLine; decide, [.int (k + (i : Nat)) tk, y], .cons ⟨_, rfl⟩ (.cons ru .nil), ⟨_, hT2, rfl, _, rfl⟩⟩
    have I1 : Inv X pins σ (upd H s.heap.objs.size (.frz (tupO [.int (k + (i : Nat)) tk, y]) (.tup [.int (k + (i : Nat)), x]))) { s with heap := h'', toks := tk + 1 } :=
      I.turnedNew (t' := tk + 1) (ch := [e, it]) (fun b ob hb q => (sb.2 b (fun z => hb (by simp [z]))).trans (hk b ob (fun z => hb (by simp [z])) (fun z => hb (by simp [z])) q)) hf (Nat.le_refl _) new
    refine ⟨.ref s.heap.objs.size, _, I1, rfl, ⟨_, _, x, rfl, I.hok.fresh (Nat.le_refl _), rfl, rfl, fun ys hy => by rw [Src.inj I hy hq]; exact hx⟩, ⟨⟨y, ?_⟩, (g _ _ hit').at fun o q => (sb.2 it (Ne.symm n2)).trans q⟩, fun b hb => ?_⟩
    · have e1 : k + ((i + 1 : Nat) : Int) = k + (i : Nat) + 1 := by omega
      rw [e1]; exact he'
    · have hb' : b < s.heap.objs.size := by
        have e' : b = e ∨ b = it := by simpa using hb
        rcases e' with z | z
        · rw [z]; exact hel
        · rw [z]; exact hil
      rw [upd_ne (Nat.ne_of_lt hb')]
      exact (hf b hb).1
  done := by
    intro X hP hw hK hc i pins s σ H E I hf st hg
    subst hP hw hK
    obtain ⟨⟨old, he⟩, hit⟩ := st
    obtain ⟨xs, hq, hx⟩ := hg
    obtain ⟨St, its, rv, D, f, g⟩ := Src.draw hc I hq it n1
    obtain ⟨f0, f1, f2, f3, f4, f5⟩ := hf it (by simp)
    have hl := rv.length
    have ei : i = its.length := hx.trans hl
    subst ei
    exact wpAny_pyNext_enum_endD D he (f _ hit) fun h' eb => ⟨rfl, I.turned (t' := s.toks) (fun b o hb q => eb b o hb q) f0 f1 f3 f4 f5⟩
  self := fun A i s Q E st h => let ⟨⟨_, he⟩, _⟩ := st; wpAny_pyIter_enum he h

/-! ### what is walked, told by lengths alone -/
def Src.J (u : Src) (K : PySem.W.Frag) : L2.It := match u with
  | .lst a => Itl K a
  | .tup a => Itt K a
theorem walk_s {K : PySem.W.Frag} {u : Src} {n : Nat} : Walk (u.J K) n (fun H => ∃ vs, u.At K H vs ∧ vs.length = n) (fun i H x H' => H' = H ∧ ∀ vs, u.At K H vs → vs[i]? = some x) := by
  cases u with
  | lst a => exact ⟨fun i H hi ⟨vs, h1, h2⟩ => ⟨vs, vs[i]'(by omega), h1, by simp [show i < vs.length by omega]⟩, fun H ⟨vs, h1, h2⟩ => ⟨vs, h1, Nat.le_of_eq h2⟩, fun i H x H' _ _ y => y⟩
  | tup a => exact ⟨fun i H hi ⟨vs, h1, h2⟩ => ⟨vs, vs[i]'(by omega), h1, by simp [show i < vs.length by omega]⟩, fun H ⟨vs, h1, h2⟩ => ⟨vs, h1, Nat.le_of_eq h2⟩, fun i H x H' _ _ y => y⟩
theorem walk_e {K : PySem.W.Frag} {u : Src} {k : Int} {n : Nat} : Walk (ItE K u k) n (fun H => ∃ vs, u.At K H vs ∧ vs.length = n)
    (fun i H z H' => ∃ T o x, z = .ref T ∧ H T = none ∧ Obj.dict o = none ∧ H' = upd H T (.frz o (.tup [.int (k + i), x])) ∧ ∀ vs, u.At K H vs → vs[i]? = some x) :=
  ⟨fun i H hi ⟨vs, h1, h2⟩ => ⟨vs, vs[i]'(by omega), h1, by simp [show i < vs.length by omega]⟩, fun H ⟨vs, h1, h2⟩ => ⟨vs, h1, h2.symm⟩, fun i H x H' _ _ y => y⟩
theorem walk_p2 {K : PySem.W.Frag} {u v : Src} {n n1 n2 : Nat} (hn : n = min n1 n2) : Walk (ItZ2 K u v) n (fun H => ∃ xs ys, (u.At K H xs ∧ xs.length = n1) ∧ v.At K H ys ∧ ys.length = n2)
    (fun i H z H' => ∃ T o x y, z = .ref T ∧ H T = none ∧ Obj.dict o = none ∧ H' = upd H T (.frz o (.tup [x, y])) ∧ (∀ xs, u.At K H xs → xs[i]? = some x) ∧ ∀ ys, v.At K H ys → ys[i]? = some y) := by
  refine ⟨fun i H hi ⟨xs, ys, ⟨h1, h2⟩, h3, h4⟩ => ⟨xs, ys, xs[i]'(by omega), ys[i]'(by omega), h1, h3, by simp [show i < xs.length by omega], by simp [show i < ys.length by omega]⟩,
    fun H ⟨xs, ys, ⟨h1, h2⟩, h3, h4⟩ => ⟨xs, ys, h1, h3, by omega, by omega, by omega⟩, fun i H x H' _ _ y => y⟩
theorem walk_p3 {K : PySem.W.Frag} {u v t : Src} {n n1 n2 n3 : Nat} (hn : n = min (min n1 n2) n3) : Walk (ItZ3 K u v t) n (fun H => ∃ xs ys zs, (u.At K H xs ∧ xs.length = n1) ∧ (v.At K H ys ∧ ys.length = n2) ∧ t.At K H zs ∧ zs.length = n3)
    (fun i H z H' => ∃ T o x y x3, z = .ref T ∧ H T = none ∧ Obj.dict o = none ∧ H' = upd H T (.frz o (.tup [x, y, x3])) ∧ (∀ xs, u.At K H xs → xs[i]? = some x) ∧ (∀ ys, v.At K H ys → ys[i]? = some y) ∧ ∀ zs, t.At K H zs → zs[i]? = some x3) := by
  refine ⟨fun i H hi ⟨xs, ys, zs, ⟨h1, h2⟩, ⟨h3, h4⟩, h5, h6⟩ => ⟨xs, ys, zs, xs[i]'(by omega), ys[i]'(by omega), zs[i]'(by omega), h1, h3, h5, by simp [show i < xs.length by omega], by simp [show i < ys.length by omega], by simp [show i < zs.length by omega]⟩,
    fun H ⟨xs, ys, zs, ⟨h1, h2⟩, ⟨h3, h4⟩, h5, h6⟩ => ⟨xs, ys, zs, h1, h3, h5, by omega, by omega, by omega, by omega⟩, fun i H x H' _ _ y => y⟩

/-! ### the for's source -/
section
variable {X : Cx} {tg l : Expr} {tl : TE}
theorem pi_src (hl : PE X l tl) : PI X tg l (fun σ H R => tl σ H fun x H1 => ∃ u : Src, x = .ref u.addr ∧ (∃ xs, u.At X.K H1 xs) ∧ R (u.J X.K) H1) := by
  refine ⟨fun pins s σ H R I h => ?_⟩
  refine thn (hl.run pins s σ H _ I h) fun v s1 ⟨x, H1, I1, r1, q1⟩ => ?_
  obtain ⟨u, e, ⟨xs, hq⟩, q⟩ := q1
  subst e
  cases r1
  cases u with
  | lst a =>
    obtain ⟨its, rv, p, hz⟩ := I1.list hq
    refine wpAny_pyIter_list p.isList ?_
    refine ⟨s1.heap.objs.size, [s1.heap.objs.size], _, _, H1, rfl, I1.kept (t' := s1.toks) fun b o e => Heap.get?_push_of_some _ e, turn_list a _, ⟨_, Heap.get?_push_size _ rfl, rfl, rfl⟩, fun b hb => ?_, q⟩
    have e : b = s1.heap.objs.size := by simpa using hb
    subst e
    exact I1.fpOk (Nat.le_refl _) (I1.hok.fresh (Nat.le_refl _))
  | tup a =>
    obtain ⟨its, rv, p, hz⟩ := I1.tuple hq
    refine wpAny_pyIter_tuple (show s1.heap.IsTuple a its.toArray from p) ?_
    refine ⟨s1.heap.objs.size, [s1.heap.objs.size], _, _, H1, rfl, I1.kept (t' := s1.toks) fun b o e => Heap.get?_push_of_some _ e, turn_tuple a _, ⟨_, Heap.get?_push_size _ rfl, rfl, rfl⟩, fun b hb => ?_, q⟩
    have e : b = s1.heap.objs.size := by simpa using hb
    subst e
    exact I1.fpOk (Nat.le_refl _) (I1.hok.fresh (Nat.le_refl _))
variable {e e2 e3 : Expr} {ta : TA} {p pos tpos : Pos} {elts : List Expr} {kk : Nat}
theorem pi_en (hg : Gl X "enumerate") (hm : X.mg "enumerate" = none) (ha : PA X [e] ta) (hs : starEach [e] X.env = [(false, eval e X.env)] := by rfl) :
    PI X (.Tuple elts kk tpos) (.Call (.Name "enumerate" p) [e] [] pos) (fun σ H R => ta σ H fun vs H1 => ∃ (u : Src) (xs : List V), vs = [.ref u.addr] ∧ u.At X.K H1 xs ∧ R (ItE X.K u 0) H1) := by
  refine ⟨fun pins s σ H R I h => ?_⟩
  refine Call_ (ld_blt I hg hm boot_enumerate (PyProof.Rows.callWith_type1 (thn (ha.run pos pins s σ H _ I h) fun us s1 ⟨vs, H1, I1, r1, q1⟩ => ?_) hs rfl))
  obtain ⟨u, xs, ex, hq, q⟩ := q1
  subst ex
  cases r1 with
  | cons r rr =>
    cases rr
    cases r
    obtain ⟨Hq, B, h1⟩ := Src.begins I1 hq
    have hlt := Src.lt I1 hq
    refine enum_begins1 B h1 fun h' he hit hsz hk => wpAny_pyIter_enum he ?_
    have I2 : Inv X pins σ H1 { s1 with heap := h' } := I1.kept (t' := s1.toks) hk
    refine ⟨s1.heap.objs.size + 1, [s1.heap.objs.size + 1, s1.heap.objs.size], _, _, H1, rfl, I2, turn_e (k := 0) (e := s1.heap.objs.size + 1) (it := s1.heap.objs.size) (Nat.ne_of_lt hlt) (Nat.succ_ne_self _) (Nat.ne_of_gt (Nat.lt_succ_of_lt hlt)), ⟨⟨.none, he⟩, Src.it0 hit⟩, fun b hb => ?_, q⟩
    have e' : b = s1.heap.objs.size + 1 ∨ b = s1.heap.objs.size := by simpa using hb
    have hle : s1.heap.objs.size ≤ b := by
      rcases e' with z | z
      · rw [z]; exact Nat.le_add_right _ _
      · rw [z]; exact Nat.le_refl _
    exact I1.fpOk hle (I1.hok.fresh hle)
theorem pi_z2 (hg : Gl X "zip") (hm : X.mg "zip" = none) (ha : PA X [e, e2] ta)
    (hs : starEach [e, e2] X.env = (false, eval e X.env) :: starEach [e2] X.env := by rfl) (hpl : (backTo pos (starEach [e2] X.env)).any (·.1) = false := by rfl) :
    PI X (.Tuple elts kk tpos) (.Call (.Name "zip" p) [e, e2] [] pos) (fun σ H R => ta σ H fun vs H1 => ∃ (u v : Src) (xs ys : List V), vs = [.ref u.addr, .ref v.addr] ∧ u.At X.K H1 xs ∧ v.At X.K H1 ys ∧ R (ItZ2 X.K u v) H1) := by
  refine ⟨fun pins s σ H R I h => ?_⟩
  refine Call_ (ld_blt I hg hm PyProof.Rows.boot_zip (PyProof.Rows.callWith_type1 (thn (ha.run pos pins s σ H _ I h) fun us s1 ⟨vs, H1, I1, r1, q1⟩ => ?_) hs hpl))
  obtain ⟨u, v, xs, ys, ex, hq1, hq2, q⟩ := q1
  subst ex
  cases r1 with
  | cons r rr =>
    cases rr with
    | cons r' rr =>
      cases rr
      cases r
      cases r'
      obtain ⟨Hq1, B1, h1⟩ := Src.begins I1 hq1
      obtain ⟨Hq2, B2, h2⟩ := Src.begins I1 hq2
      have lt1 := Src.lt I1 hq1
      have lt2 := Src.lt I1 hq2
      refine zip_begins2 B1 B2 h1 h2 fun h' hz hTI hTO g1 g2 hsz hk => wpAny_pyIter_zip hz ?_
      have I2 : Inv X pins σ H1 { s1 with heap := h' } := I1.kept (t' := s1.toks) hk
      refine ⟨s1.heap.objs.size + 4, [s1.heap.objs.size + 4, s1.heap.objs.size + 2, s1.heap.objs.size + 3, s1.heap.objs.size, s1.heap.objs.size + 1], _, _, H1, rfl, I2,
        turn_z2 (zip_sep2 (by simpa using lt1) (by simpa using lt2)) (Nat.ne_of_lt lt1) (Nat.ne_of_lt (Nat.lt_succ_of_lt lt2)), ⟨hz, hTI, ⟨_, _, hTO⟩, Src.it0 g1, Src.it0 g2⟩, fun c hcm => ?_, q⟩
      have hle : s1.heap.objs.size ≤ c := by
        have e' : c = s1.heap.objs.size + 4 ∨ c = s1.heap.objs.size + 2 ∨ c = s1.heap.objs.size + 3 ∨ c = s1.heap.objs.size ∨ c = s1.heap.objs.size + 1 := by simpa using hcm
        rcases e' with z | z | z | z | z <;> rw [z]
        · exact Nat.le_add_right _ _
        · exact Nat.le_add_right _ _
        · exact Nat.le_add_right _ _
        · exact Nat.le_refl _
        · exact Nat.le_add_right _ _
      exact I1.fpOk hle (I1.hok.fresh hle)
theorem pi_z3 (hg : Gl X "zip") (hm : X.mg "zip" = none) (ha : PA X [e, e2, e3] ta)
    (hs : starEach [e, e2, e3] X.env = (false, eval e X.env) :: starEach [e2, e3] X.env := by rfl) (hpl : (backTo pos (starEach [e2, e3] X.env)).any (·.1) = false := by rfl) :
    PI X (.Tuple elts kk tpos) (.Call (.Name "zip" p) [e, e2, e3] [] pos) (fun σ H R => ta σ H fun vs H1 => ∃ (u v t : Src) (xs ys zs : List V), vs = [.ref u.addr, .ref v.addr, .ref t.addr] ∧ u.At X.K H1 xs ∧ v.At X.K H1 ys ∧ t.At X.K H1 zs ∧ R (ItZ3 X.K u v t) H1) := by
  refine ⟨fun pins s σ H R I h => ?_⟩
  refine Call_ (ld_blt I hg hm PyProof.Rows.boot_zip (PyProof.Rows.callWith_type1 (thn (ha.run pos pins s σ H _ I h) fun us s1 ⟨vs, H1, I1, r1, q1⟩ => ?_) hs hpl))
  obtain ⟨u, v, t, xs, ys, zs, ex, hq1, hq2, hq3, q⟩ := q1
  subst ex
  cases r1 with
  | cons r rr =>
    cases rr with
    | cons r' rr =>
      cases rr with
      | cons r'' rr =>
        cases rr
        cases r
        cases r'
        cases r''
        obtain ⟨Hq1, B1, h1⟩ := Src.begins I1 hq1
        obtain ⟨Hq2, B2, h2⟩ := Src.begins I1 hq2
        obtain ⟨Hq3, B3, h3⟩ := Src.begins I1 hq3
        have lt1 := Src.lt I1 hq1
        have lt2 := Src.lt I1 hq2
        have lt3 := Src.lt I1 hq3
        refine zip_begins3 B1 B2 B3 h1 h2 h3 fun h' hz hTI hTO g1 g2 g3 hsz hk => wpAny_pyIter_zip hz ?_
        have I2 : Inv X pins σ H1 { s1 with heap := h' } := I1.kept (t' := s1.toks) hk
        refine ⟨s1.heap.objs.size + 5, [s1.heap.objs.size + 5, s1.heap.objs.size + 3, s1.heap.objs.size + 4, s1.heap.objs.size, s1.heap.objs.size + 1, s1.heap.objs.size + 2], _, _, H1, rfl, I2,
          turn_z3 (zip_sep3 (by simpa using lt1) (by simpa using lt2) (by simpa using lt3)) (Nat.ne_of_lt lt1) (Nat.ne_of_lt (Nat.lt_succ_of_lt lt2)) (Nat.ne_of_lt (Nat.lt_succ_of_lt (Nat.lt_succ_of_lt lt3))), ⟨hz, hTI, ⟨_, _, _, hTO⟩, Src.it0 g1, Src.it0 g2, Src.it0 g3⟩, fun c hcm => ?_, q⟩
        have hle : s1.heap.objs.size ≤ c := by
          have e' : c = s1.heap.objs.size + 5 ∨ c = s1.heap.objs.size + 3 ∨ c = s1.heap.objs.size + 4 ∨ c = s1.heap.objs.size ∨ c = s1.heap.objs.size + 1 ∨ c = s1.heap.objs.size + 2 := by simpa using hcm
          rcases e' with z | z | z | z | z | z <;> rw [z]
          · exact Nat.le_add_right _ _
          · exact Nat.le_add_right _ _
          · exact Nat.le_add_right _ _
          · exact Nat.le_refl _
          · exact Nat.le_add_right _ _
          · exact Nat.le_add_right _ _
        exact I1.fpOk hle (I1.hok.fresh hle)
end
end Gb

/-! GbE: operands further: equality, membership, subscripts, slices, lists added and repeated, methods -/
namespace Gb
open PySem L2

/-- an operand as a value: a new list becomes a cell -/
def mM (a : MO) : ME := fun env h => (a env h).bind fun v h1 => match v with
  | .val d => .ok d h1
  | .new xs => .ok (.ref h1.length) (h1 ++ [.lst xs])
section
variable {X : Cx} {cl : Nat → Addr} {W : WX} {a b c e : Expr} {ma mb mc : ME} {ml : MA} {mo mp : MO} {pos : Pos}
theorem sd_mat (ha : SO X cl W a mo) : SE X cl W a (mM mo) :=
  PE.imp ha fun sg H Q ⟨env, h, io, E, hr, p⟩ => rd_mk E hr (by
    unfold mM at p
    cases e : mo env h with
    | ok d h1 =>
      rw [e] at p
      intro v io1 H1 s1 r1 q
      cases d with
      | val d => exact p v io1 H1 s1 r1 q
      | new ds =>
        obtain ⟨b, vs, rfl, h0, hn, hb, q⟩ := q
        exact p _ (io1 ++ [b]) H1 (s1.cell hn h0) (r1.cell1 hn ⟨vs, hb, q⟩) ⟨b, by rw [List.getElem?_append_right (by rw [r1.len]; exact Nat.le_refl _), r1.len]; simp, rfl⟩
    | exc x h1 => rw [e] at p; exact p
    | stuck => rw [e] at p; exact p)
end

section
variable {X : Cx} {cl : Nat → Addr} {W : WX} {a b c e : Expr} {ma mb mc : ME} {ml : MA} {mo mp : MO} {pos : Pos}
variable {α : Type} {R : Hp → List Addr → Hp → α → V → Prop} {r : R2} {f : LV → LV → PHeap → Res α}
def OpV {α : Type} (R : Hp → List Addr → Hp → α → V → Prop) (K : PySem.W.Frag) (cl : Nat → Addr) (r : R2) (f : LV → LV → PHeap → Res α) : Prop :=
  ∀ (W : WX) io sg H h x y v u Q, HRel K cl io H h → OV K io H x v → OV K io H y u → postR R K cl W io sg H (f x y h) Q → r v u H Q
theorem rd_op2 [Back X.K R] (hf : OpV R X.K cl r f) {sg : L2.St} {H : Hp} {Q : VK} (q : rd R X.K cl W (m2 f mo mp) sg H Q) : tOp r (rd (RLV X.K) X.K cl W mo) (rd (RLV X.K) X.K cl W mp) sg H Q := by
  obtain ⟨env, h, io, E, hr, p⟩ := q
  exact rd_mk E hr (p.bind fun d h1 v io1 H1 e1 s1 r1 q1 p1 => rd_mk (E.step s1) r1 (p1.bind fun d2 h2 u io2 H2 e2 s2 r2 q2 p2 =>
    hf W io2 sg H2 h2 d d2 v u Q r2 (q1.ov.step s2) q2.ov p2))
theorem so_op {op : Operator} [Back X.K R] (ho : OpR X (binaryOp op) r) (hf : OpV R X.K cl r f) (ha : SO X cl W a mo) (hb : SO X cl W b mp) : PE X (.BinOp a op b pos) (rd R X.K cl W (m2 f mo mp)) :=
  (pe_op ho ha hb).imp fun sg H Q q => rd_op2 hf q
theorem so_cmp {op : CmpOp} {f : LV → LV → PHeap → Res D} (ho : OpR X (compareOp op) r) (hf : OpV (RRep X.K) X.K cl r f) (ha : SO X cl W a mo) (hb : SO X cl W b mp) (hm : behindInMarks op b = false) : SE X cl W (.Compare a [op] [b] pos) (m2 f mo mp) :=
  (pe_cmpR ho ha hb hm).imp fun sg H Q q => rd_op2 hf q
theorem st_cmpO {op : CmpOp} {f : LV → LV → PHeap → Res D} (ho : OpR X (compareOp op) r) (hf : OpV (RRep X.K) X.K cl r f) (ha : SO X cl W a mo) (hb : SO X cl W b mp) (hm : behindInMarks op b = false) : ST X cl W (.Compare a [op] [b] pos) (mTB (m2 f mo mp)) :=
  (pt_cmpR ho ha hb hm).imp fun sg H Q ⟨env, h, io, E, hr, p⟩ => rd_op2 (W := W) hf (rd_mk E hr (postR.tb p))

/-! ### == != in -/
def rEqP (K : PySem.W.Frag) (k : Bool → Bool) : R2 := fun x y H Q => ∃ d e, Dp K H x d ∧ Dp K H y e ∧ d.plain = true ∧ e.plain = true ∧ d.depth ≤ 61 ∧ Q (.bl (k (PyData.eqv d e))) H
theorem op_eqP (hu : X.A.units + 65 < cLine) : OpR X (compareOp .Eq) (rEqP X.K id) := by
  intro pins s σ H x y v u Q I rx ry h
  obtain ⟨d, e, hd, he, sd, se, hz, q⟩ := h
  obtain ⟨as, r1⟩ := Dp.reads I d x v hd rx
  obtain ⟨bs, r2⟩ := Dp.reads I e y u he ry
  exact SeqAt.eq_plain r1 r2 sd se (by omega) ⟨.bl _, H, I, rfl, q⟩
theorem op_neP (hu : X.A.units + 65 < cLine) : OpR X (compareOp .NotEq) (rEqP X.K not) := by
  intro pins s σ H x y v u Q I rx ry h
  obtain ⟨d, e, hd, he, sd, se, hz, q⟩ := h
  obtain ⟨as, r1⟩ := Dp.reads I d x v hd rx
  obtain ⟨bs, r2⟩ := Dp.reads I e y u he ry
  exact SeqAt.ne_plain r1 r2 sd se (by omega) ⟨.bl _, H, I, rfl, q⟩
def itemsP : PyData → Option (List PyData)
  | .list ds => some ds
  | .tuple ds => some ds
  | _ => none
def rInP (K : PySem.W.Frag) (k : Bool → Bool) : R2 := fun x y H Q => ∃ d e ds, Dp K H x d ∧ Dp K H y e ∧ itemsP e = some ds ∧ d.plain = true ∧ e.plain = true ∧ d.depth ≤ 61 ∧ Q (.bl (k (ds.any fun z => PyData.eqv z d))) H
theorem op_inP (hu : X.A.units + 65 < cLine) : OpR X (compareOp .In) (rInP X.K id) := by
  intro pins s σ H x y v u Q I rx ry h
  obtain ⟨d, e, ds, hd, he, hi, sd, se, hz, q⟩ := h
  obtain ⟨as, r1⟩ := Dp.reads I d x v hd rx
  obtain ⟨bs, r2⟩ := Dp.reads I e y u he ry
  cases e with
  | list es =>
    cases hi
    exact SeqAt.in_list_data r2 r1 (by simpa only [PyData.plain] using se) sd (by omega) ⟨.bl _, H, I, rfl, q⟩
  | tuple es =>
    cases hi
    exact SeqAt.in_tuple_data r2 r1 (by simpa only [PyData.plain] using se) sd (by omega) ⟨.bl _, H, I, rfl, q⟩
  | _ => cases hi
theorem op_notinP (hu : X.A.units + 65 < cLine) : OpR X (compareOp .NotIn) (rInP X.K not) := by
  intro pins s σ H x y v u Q I rx ry h
  obtain ⟨d, e, ds, hd, he, hi, sd, se, hz, q⟩ := h
  obtain ⟨as, r1⟩ := Dp.reads I d x v hd rx
  obtain ⟨bs, r2⟩ := Dp.reads I e y u he ry
  cases e with
  | list es =>
    cases hi
    exact SeqAt.notIn_list_data r2 r1 (by simpa only [PyData.plain] using se) sd (by omega) ⟨.bl _, H, I, rfl, q⟩
  | tuple es =>
    cases hi
    exact SeqAt.notIn_tuple_data r2 r1 (by simpa only [PyData.plain] using se) sd (by omega) ⟨.bl _, H, I, rfl, q⟩
  | _ => cases hi
/-- k: as it is, or turned about -/
def fEqO (k : Bool → Bool) : LV → LV → PHeap → Res D := fun x y h => match x.py h with
  | some p => match y.py h with
    | some q => .ok (.bl (k (PyData.eqv p q))) h
    | none => .stuck
  | none => .stuck
def fInO (k : Bool → Bool) : LV → LV → PHeap → Res D := fun x y h => match x.py h with
  | some p => match y.py h with
    | some q => match itemsP q with
      | some ds => .ok (.bl (k (ds.any fun z => PyData.eqv z p))) h
      | none => .stuck
    | none => .stuck
  | none => .stuck
theorem py_dep {K : PySem.W.Frag} {io : List Addr} {H : Hp} {h : PHeap} {lv : LV} {v : V} {p : PyData} (hr : HRel K cl io H h) (r : OV K io H lv v) (e : lv.py h = some p) : p.depth ≤ 61 := (r.py hr e).2.2
theorem ov_eq {k : Bool → Bool} : OpV (RRep X.K) X.K cl (rEqP X.K k) (fEqO k) := by
  intro W io sg H h x y v u Q hr r q p
  unfold fEqO at p
  split at p
  · split at p
    · rename_i d e1 _ e e2
      obtain ⟨h1, h2, h3⟩ := r.py hr e1
      obtain ⟨g1, g2, g3⟩ := q.py hr e2
      exact ⟨d, e, h1, g1, h2, g2, h3, p.here hr rfl⟩
    · exact p.elim
  · exact p.elim
theorem ov_in {k : Bool → Bool} : OpV (RRep X.K) X.K cl (rInP X.K k) (fInO k) := by
  intro W io sg H h x y v u Q hr r q p
  unfold fInO at p
  split at p
  · split at p
    · split at p
      · rename_i d e1 _ e e2 _ ds e3
        obtain ⟨h1, h2, h3⟩ := r.py hr e1
        obtain ⟨g1, g2, g3⟩ := q.py hr e2
        exact ⟨d, e, ds, h1, g1, e3, h2, g2, h3, p.here hr rfl⟩
      · exact p.elim
    · exact p.elim
  · exact p.elim

/-! ### a[i] -/
def fIx : LV → LV → PHeap → Res D := fun x y h => match y with
  | .val (.int i) => match x.seq h with
    | some xs => match atI xs i with
      | some d => .ok d h
      | none => .stuck
    | none => match x with
      | .val (.str z) => if z.length ≤ 16777216 then (match atI z.cps.toList i with
        | some c => .ok (.str ⟨#[c]⟩) h
        | none => .stuck) else .stuck
      | _ => .stuck
  | _ => .stuck
theorem RepL.atI {K : PySem.W.Frag} {io : List Addr} {H : Hp} {xs : List D} {vs : List V} {i : Int} {d : D} (r : RepL K io H xs vs) (e : L2.atI xs i = some d) : ∃ v, L2.atI vs i = some v ∧ Rep K io H d v := by
  unfold L2.atI at e ⊢
  rw [← r.length]
  cases q : ixN xs.length i with
  | none => rw [q] at e; cases e
  | some j => rw [q] at e; exact r.get e
theorem ov_ix : OpV (RRep X.K) X.K cl (rIx X.K) fIx := by
  intro W io sg H h x y v u Q hr r q p
  have hz : sizeLine = 16777216 := sizeLine_eq
  unfold fIx at p
  split at p
  · rename_i i
    cases q
    split at p
    · rename_i xs e
      split at p
      · rename_i d e2
        obtain ⟨a, vs, rfl, h1, h2⟩ := r.seq hr e
        obtain ⟨w, e3, rw'⟩ := h2.atI e2
        rcases h1 with h1 | h1
        · exact .inl ⟨a, vs, i, w, rfl, rfl, h1, e3, p.here hr rw'⟩
        · exact .inr (.inl ⟨a, vs, i, w, rfl, rfl, h1.sq, e3, p.here hr rw'⟩)
      · exact p.elim
    · split at p
      · cases r
        split at p
        · split at p
          · rename_i c e2
            exact .inr (.inr ⟨_, i, c, rfl, rfl, by omega, e2, p.here hr rfl⟩)
          · exact p.elim
        · exact p.elim
      · exact p.elim
  · exact p.elim
theorem sd_ix (ha : SO X cl W a mo) (hb : SO X cl W b mp) (hs : PlainIx b) : SE X cl W (.Subscript a b pos) (m2 fIx mo mp) :=
  (pe_ix ix_seq ha hb hs).imp fun sg H Q q => rd_op2 ov_ix q

/-! ### a[lo:hi] -/
def cutD (xs : List D) (lo hi : Option Int) : List D := (xs.drop (HT.sIx xs.length 0 lo)).take (HT.sIx xs.length xs.length hi - HT.sIx xs.length 0 lo)
abbrev MP := PEnv → PHeap → Res (Option Int)
def pNone : MP := fun _ h => .ok none h
def pSome (a : ME) : MP := fun env h => (a env h).bind fun d h1 => match d with
  | .int i => .ok (some i) h1
  | _ => .stuck
def fSl : LV → Option Int → Option Int → PHeap → Res LV := fun x lo hi h => match x with
  | .val (.tup xs) => .ok (.val (.tup (cutD xs lo hi))) h
  | x => match x.items h with
    | some xs => .ok (.new (cutD xs lo hi)) h
    | none => .stuck
def mSl (a : MO) (lo hi : MP) : MO := fun env h => (a env h).bind fun x h1 => (lo env h1).bind fun l h2 => (hi env h2).bind fun u h3 => fSl x l u h3
abbrev RPart : Hp → List Addr → Hp → Option Int → Option Int → Prop := fun _ _ _ a b => a = b
instance {K : PySem.W.Frag} : Back K RPart := ⟨fun _ _ h => h⟩
abbrev SP' (X : Cx) (cl : Nat → Addr) (W : WX) (e : Option Expr) (m : MP) : Prop := PO X e (rd RPart X.K cl W m)
theorem sp_none : SP' X cl W none pNone := ⟨fun pins s σ H Q I ⟨env, h, io, E, hr, p⟩ => po_none.run pins s σ H Q I (p.here hr rfl)⟩
theorem sp_some (ha : SE X cl W a ma) : SP' X cl W (some a) (pSome ma) := ⟨fun pins s σ H Q I ⟨env, h, io, E, hr, p⟩ => (po_some ha).run pins s σ H Q I (rd_mk E hr (p.bind fun d h1 v io1 H1 e1 s1 r1 q1 p1 => by
  cases d with
  | int i => cases q1; exact ⟨i, rfl, p1.here r1 rfl⟩
  | _ => exact p1.elim))⟩
theorem cutV_rep {K : PySem.W.Frag} {io : List Addr} {H : Hp} {xs : List D} {vs : List V} (lo hi : Option Int) (r : RepL K io H xs vs) : RepL K io H (cutD xs lo hi) (cutV vs lo hi) := by
  unfold cutD cutV
  rw [r.length]
  exact (r.drop _).take _
theorem cutD_whole {xs : List D} {lo hi : Option Int} (h : HT.sIx xs.length 0 lo = 0 ∧ HT.sIx xs.length xs.length hi = xs.length) : cutD xs lo hi = xs := by
  unfold cutD
  rw [h.1, h.2]
  simp
def rSlM (K : PySem.W.Frag) : V → Option Int → Option Int → Hp → VK → Prop := fun x lo hi H Q => rSlL K x lo hi H Q ∨ rSlAA K x lo hi H Q
theorem so_slice {lo hi : Option Expr} {ml mh : MP} {p2 : Pos} (ha : SO X cl W a mo) (hl : SP' X cl W lo ml) (hh : SP' X cl W hi mh) : SO X cl W (.Subscript a (.Slice lo hi none p2) pos) (mSl mo ml mh) :=
  (pe_slice (r := rSlM X.K) (SlR.or sl_list sl_tupAA) ha hl hh).imp fun sg H Q ⟨env, h, io, E, hr, p⟩ => rd_mk E hr (p.bind fun d h1 v io1 H1 e1 s1 r1 q1 p1 =>
    rd_mk (E.step s1) r1 (p1.bind fun l h2 l' io2 H2 e2 s2 r2 q2 p2 => rd_mk ((E.step s1).step s2) r2 (p2.bind fun u h3 u' io3 H3 e3 s3 r3 q3 p3 => by
      cases q2; cases q3
      have q := (q1.ov.step s2).step s3
      unfold fSl at p3
      split at p3
      · rename_i xs
        obtain ⟨a, vs, rfl, h1, h2⟩ := q
        refine .inr ⟨a, vs, rfl, h1, fun e => ?_, fun _ t o ht hd => ?_⟩
        · rw [← h2.length] at e
          rw [cutD_whole e] at p3
          exact p3.here r3 ⟨a, vs, rfl, h1, h2⟩
        · exact p3 _ io3 _ (Step.laid ht) (r3.laid ht) ⟨t, _, rfl, .of upd_same hd, (cutV_rep l u h2).step (Step.laid ht) _ _⟩
      · split at p3
        · rename_i xs e
          obtain ⟨a, vs, rfl, h1, h2⟩ := q.items r3 e
          exact .inl ⟨a, vs, rfl, h1, fun t ht => p3 _ io3 _ (Step.laid ht) (r3.laid ht) ⟨t, _, rfl, ht, r3.out ht, upd_same, (cutV_rep l u h2).step (Step.laid ht) _ _⟩⟩
        · exact p3.elim)))

/-! ### + and * -/
/-- a list that may be added to: not the script -/
def LV.own (h : PHeap) : LV → Option (List D)
  | .new xs => some xs
  | .val (.ref n) => match h[n]? with
    | some (.lst xs) => some xs
    | _ => none
  | _ => none
theorem OV.own {K : PySem.W.Frag} {io : List Addr} {H : Hp} {h : PHeap} {lv : LV} {v : V} {xs : List D} (hr : HRel K cl io H h) (r : OV K io H lv v) (e : lv.own h = some xs) : ∃ a vs, v = .ref a ∧ H a = some (.lst vs) ∧ RepL K io H xs vs := by
  cases lv with
  | new ys => cases e; obtain ⟨a, vs, e, h1, h2, h3⟩ := r; exact ⟨a, vs, e, h2, h3⟩
  | val d =>
    cases d with
    | ref n =>
      obtain ⟨a, ha, rfl⟩ := r
      simp only [LV.own] at e
      split at e
      · rename_i ys q
        cases e
        obtain ⟨vs, hv, r⟩ := hr.cell n a _ ha q
        exact ⟨a, vs, rfl, hv, r⟩
      · cases e
    | _ => simp [LV.own] at e
def Res.val (r : Res D) : Res LV := r.bind fun d h => .ok (.val d) h
def fAddO : LV → LV → PHeap → Res LV := fun x y h => match x.own h with
  | some xs => match y.own h with
    | some ys => if xs.length + ys.length ≤ 16777216 then .ok (.new (xs ++ ys)) h else .stuck
    | none => .stuck
  | none => match x, y with
    | .val a, .val b => (fAdd a b h).val
    | _, _ => .stuck
def fMulO : LV → LV → PHeap → Res LV := fun x y h => match x.own h with
  | some xs => match y with
    | .val (.int k) => if -1000000 ≤ k ∧ k ≤ 1000000 ∧ xs.length * k.toNat ≤ 16777216 then .ok (.new (List.replicate k.toNat xs).flatten) h else .stuck
    | _ => .stuck
  | none => match x, y with
    | .val a, .val b => (fMul a b h).val
    | _, _ => .stuck
theorem postR.val {io : List Addr} {sg : L2.St} {H : Hp} {r : Res D} {Q : VK} (p : postR (RLV X.K) X.K cl W io sg H r.val Q) : postR (RRep X.K) X.K cl W io sg H r Q := by
  cases r with
  | ok d h => exact fun v io1 H1 s r q => p v io1 H1 s r q
  | exc e h => exact p
  | stuck => exact p
theorem op_addL : OpR X (binaryOp .Add) (fun x y H Q => rCat x y H Q ∨ rAddM X.K x y H Q) := op_cat.or op_addM
theorem op_mulL : OpR X (binaryOp .Mult) (fun x y H Q => rRep x y H Q ∨ rMulM X.K x y H Q) := op_rep.or op_mulM
theorem ov_add : OpV (RLV X.K) X.K cl (fun x y H Q => rCat x y H Q ∨ rAddM X.K x y H Q) fAddO := by
  intro W io sg H h x y v u Q hr r q p
  have hz : sizeLine = 16777216 := sizeLine_eq
  unfold fAddO at p
  split at p
  · rename_i xs e
    split at p
    · rename_i ys e2
      obtain ⟨a, vs, rfl, h1, h2⟩ := r.own hr e
      obtain ⟨b, us, rfl, g1, g2⟩ := q.own hr e2
      have l1 := h2.length
      have l2 := g2.length
      split at p
      · exact .inl ⟨a, b, vs, us, rfl, rfl, h1, g1, by omega, fun t ht => p _ io _ (Step.laid ht) (hr.laid ht) ⟨t, _, rfl, ht, hr.out ht, upd_same, (h2.append g2).step (Step.laid ht) _ _⟩⟩
      · exact p.elim
    · exact p.elim
  · split at p
    · exact .inr (o2_add W io sg H h _ _ v u Q hr r q p.val)
    · exact p.elim
theorem ov_mul : OpV (RLV X.K) X.K cl (fun x y H Q => rRep x y H Q ∨ rMulM X.K x y H Q) fMulO := by
  intro W io sg H h x y v u Q hr r q p
  have hz : sizeLine = 16777216 := sizeLine_eq
  unfold fMulO at p
  split at p
  · rename_i xs e
    split at p
    · rename_i k
      cases q
      obtain ⟨a, vs, rfl, h1, h2⟩ := r.own hr e
      have l1 := h2.length
      split at p
      · rename_i c
        obtain ⟨c1, c2, c3⟩ := c
        exact .inl ⟨a, k, vs, rfl, rfl, h1, by omega, by omega, by rw [← l1]; omega, fun t ht => p _ io _ (Step.laid ht) (hr.laid ht) ⟨t, _, rfl, ht, hr.out ht, upd_same, (h2.rep _).step (Step.laid ht) _ _⟩⟩
      · exact p.elim
    · exact p.elim
  · split at p
    · exact .inr (o2_mul W io sg H h _ _ v u Q hr r q p.val)
    · exact p.elim
theorem so_add (ha : SO X cl W a mo) (hb : SO X cl W b mp) : SO X cl W (.BinOp a .Add b pos) (m2 fAddO mo mp) := so_op op_addL ov_add ha hb
theorem so_mul (ha : SO X cl W a mo) (hb : SO X cl W b mp) : SO X cl W (.BinOp a .Mult b pos) (m2 fMulO mo mp) := so_op op_mulL ov_mul ha hb
end
end Gb

/-! GbF: isinstance, methods, statements -/
namespace Gb
open PySem L2

/-! ### kinds -/
inductive Kd where
  | non | bl | int | str | tup | lst | dct
  deriving DecidableEq
def Kd.nm : Kd → String
  | .non => "NoneType" | .bl => "bool" | .int => "int" | .str => "str" | .tup => "tuple" | .lst => "list" | .dct => "dict"
def kindD (h : PHeap) : D → Option Kd
  | .non => some .non
  | .bl _ => some .bl
  | .int _ => some .int
  | .str _ => some .str
  | .tup _ => some .tup
  | .fro _ => some .lst
  | .lst _ => none
  | .dct _ _ => some .dct
  | .map _ => none
  | .ref n => match h[n]? with
    | some (.lst _) => some .lst
    | _ => none
def Kd.isi (k t : Kd) : Bool := decide (k = t) || (decide (k = .bl) && decide (t = .int))
theorem kitB_isi (k t : Kd) : kitB k.nm t.nm = some (k.isi t) := by
  cases k <;> cases t <;> decide +kernel
def fIsi (t : Kd) : LV → PHeap → Res D := fun x h => match x with
  | .new _ => .ok (.bl (Kd.lst.isi t)) h
  | .val d => match kindD h d with
    | some k => .ok (.bl (k.isi t)) h
    | none => .stuck
section
variable {X : Cx} {cl : Nat → Addr} {W : WX} {a b c e o : Expr} {es : List Expr} {ma mb mc : ME} {ml : MA} {mo mp : MO} {pos p p2 : Pos}
theorem tyx_of {K : PySem.W.Frag} {io : List Addr} {H : Hp} {h : PHeap} {d : D} {v : V} {k : Kd} (hr : HRel K cl io H h) (r : Rep K io H d v) (e : kindD h d = some k) : TyX K H v (.type k.nm) := by
  cases d with
  | lst xs => exact False.elim r
  | map xs => cases e
  | dct xs ys => cases e; obtain ⟨a, ns, rfl, ⟨o, h1⟩, _⟩ := r; exact .fDict h1
  | non => cases e; cases r; exact .base .non
  | bl b => cases e; cases r; exact .base (.bl _)
  | int i => cases e; cases r; exact .base (.int _)
  | str x => cases e; cases r; exact .base (.str _)
  | tup xs =>
    cases e
    obtain ⟨a, vs, rfl, h1, _⟩ := r
    rcases h1 with ⟨o, h1, _⟩ | ⟨o, its, n, h1, h2, _⟩
    · exact .fTuple h1
    · exact .kTuple h1 h2
  | fro xs =>
    cases e
    obtain ⟨a, vs, rfl, h1, _⟩ := r
    rcases h1 with ⟨o, h1⟩ | ⟨o, its, n, h1, h2, _⟩
    · exact .base (.frz h1)
    · exact .kList h1 h2
  | ref n =>
    obtain ⟨a, ha, rfl⟩ := r
    simp only [kindD] at e
    split at e
    · rename_i xs q
      cases e
      obtain ⟨vs, hv, _⟩ := hr.cell n a _ ha q
      exact .base (.lst hv)
    · cases e
theorem tyx_ov {K : PySem.W.Frag} {io : List Addr} {H : Hp} {h : PHeap} {x : LV} {v : V} {t : Kd} {r' : Res D} (hr : HRel K cl io H h) (r : OV K io H x v) (e : fIsi t x h = r') :
    (∃ k, TyX K H v (.type (Kd.nm k)) ∧ r' = .ok (.bl (k.isi t)) h) ∨ r' = .stuck := by
  subst e
  cases x with
  | new xs =>
    obtain ⟨a, vs, rfl, _, h2, _⟩ := r
    exact .inl ⟨.lst, .base (.lst h2), rfl⟩
  | val d =>
    simp only [fIsi]
    cases q : kindD h d with
    | none => exact .inr rfl
    | some k => exact .inl ⟨k, tyx_of hr r q, rfl⟩
theorem sd_isi {x : Str} {t : Kd} (he : SO X cl W e mo) (hm : X.mg "isinstance" = none) (hmt : X.mg x = none) (hv : bootBuiltins x = some (.type t.nm)) (hn : x ≠ "__name__" := by decide) (hdb : (x == ("__debug__" : Str)) = false := by decide) (hgt : Gl X x := by rfl) (hg : Gl X "isinstance" := by rfl)
    (hs : starEach [e, .Name x p2] X.env = (false, eval e X.env) :: starEach [.Name x p2] X.env := by rfl) (hpl : (backTo pos (starEach [.Name x p2] X.env)).any (·.1) = false := by rfl) :
    SE X cl W (.Call (.Name "isinstance" p) [e, .Name x p2] [] pos) (m1 (fIsi t) mo) :=
  (pe_callB call_isi hg hm (by decide +kernel) (pa_cons he (pa_cons (pe_bltn hgt hmt hv (v := .ty t.nm) rfl hn hdb) pa_nil) hs) (by decide) (by decide) hs hpl).imp fun sg H Q ⟨env, h, io, E, hr, p⟩ =>
    rd_mk E hr (p.bind fun d h1 v io1 H1 e1 s1 r1 q1 p1 => by
      rcases tyx_ov (t := t) r1 q1.ov rfl with ⟨k, ty, e2⟩ | e2
      · rw [e2] at p1
        exact ⟨v, .ty t.nm, _, _, _, rfl, .ty _, ty, kit_ty (kitB_isi k t), p1.here r1 rfl⟩
      · rw [e2] at p1; exact p1.elim)
/-- a name of the module that stands for a value that nobody writes -/
theorem sd_gc {x : Str} {i : Int} (hg : Gl X x) (h : ∃ u, X.mg x = some u ∧ RelV (V.int i) u) (hd : (x == ("__debug__" : Str)) = false := by decide) : SE X cl W (.Name x pos) (mC (.int i)) := by
  obtain ⟨u, h1, h2⟩ := h
  exact (pe_glob hg h1 h2 hd).imp fun sg H Q ⟨env, h, io, E, hr, p⟩ => p.here hr rfl

/-! ### methods -/
/-- a list's method that writes it: f tells its answer and what it becomes -/
def mMt (f : List D → List D → Option (D × List D)) (o : ME) (as : MA) : ME := fun env h => (o env h).bind fun d h1 => match d with
  | .ref n => match h1[n]? with
    | some (.lst _) => (as env h1).bind fun ys h2 => match h2[n]? with
      | some (.lst xs) => match f xs ys with
        | some (z, zs) => .ok z (h2.set n (.lst zs))
        | none => .stuck
      | _ => .stuck
    | _ => .stuck
  | _ => .stuck
def fAppend : List D → List D → Option (D × List D) := fun xs ys => match ys with
  | [y] => if xs.length < 16777216 then some (.non, xs ++ [y]) else none
  | _ => none
def fPop : List D → List D → Option (D × List D) := fun xs ys => match ys with
  | [] => match xs[xs.length - 1]? with
    | some d => some (d, xs.dropLast)
    | none => none
  | _ => none
/-- what the method asks is so where the plain word ends as is wished -/
def MtF (K : PySem.W.Frag) (cl : Nat → Addr) (r : V → List V → Hp → VK → Prop) (f : List D → List D → Option (D × List D)) : Prop :=
  ∀ io H a xs vs ys us z zs Q, RepL K io H xs vs → RepL K io H ys us → H a = some (.lst vs) → f xs ys = some (z, zs) → (∀ v ws, Rep K io H z v → RepL K io H zs ws → Q v (upd H a (.lst ws))) → r (.ref a) us H Q
theorem mtf_append : MtF X.K cl rAppend fAppend := by
  intro io H a xs vs ys us z zs Q r ry e ef q
  have hz : sizeLine = 16777216 := sizeLine_eq
  have hl := r.length
  unfold fAppend at ef
  split at ef
  · split at ef
    · cases ef
      obtain ⟨u, t, rfl, ru, rt⟩ := ry
      have rt' : t = [] := rt
      subst rt'
      exact ⟨a, vs, u, rfl, rfl, e, by omega, q _ _ rfl (r.append ⟨u, [], rfl, ru, rfl⟩)⟩
    · cases ef
  · cases ef
theorem RepL.dropLast {K : PySem.W.Frag} {io : List Addr} {H : Hp} {xs : List D} {vs : List V} (r : RepL K io H xs vs) : RepL K io H xs.dropLast vs.dropLast := by
  rw [List.dropLast_eq_take, List.dropLast_eq_take, r.length]
  exact r.take _
theorem mtf_pop : MtF X.K cl rPop fPop := by
  intro io H a xs vs ys us z zs Q r ry e ef q
  unfold fPop at ef
  split at ef
  · have ry' : us = [] := ry
    subst ry'
    split at ef
    · rename_i d ed
      cases ef
      obtain ⟨v, ev, rv⟩ := r.get ed
      rw [r.length] at ev
      exact ⟨a, vs, v, rfl, rfl, e, ev, q _ _ rv r.dropLast⟩
    · cases ef
  · cases ef
theorem rd_mt {r : V → List V → Hp → VK → Prop} {f : List D → List D → Option (D × List D)} (hf : MtF X.K cl r f) {sg : L2.St} {H : Hp} {Q : VK} (q : rd (RRep X.K) X.K cl W (mMt f ma ml) sg H Q) :
    tBM X.K "list" r (rd (RRep X.K) X.K cl W ma) (rd (RRepL X.K) X.K cl W ml) sg H Q := by
  obtain ⟨env, h, io, E, hr, p⟩ := q
  refine rd_mk E hr (p.bind fun d h1 v io1 H1 e1 s1 r1 q1 p1 => ?_)
  cases d with
  | ref n =>
    obtain ⟨a, ha, rfl⟩ := q1
    simp only at p1
    split at p1
    · rename_i xs0 e0
      obtain ⟨vs0, hv0, _⟩ := r1.cell n a _ ha e0
      refine ⟨.inl ⟨rfl, _, .of hv0⟩, rd_mk (E.step s1) r1 (p1.bind fun ys h2 us io2 H2 e2 s2 r2 q2 p2 => ?_)⟩
      have ha2 := s2.get ha
      split at p2
      · rename_i xs e3
        obtain ⟨vs, hv, r3⟩ := r2.cell n a _ ha2 e3
        split at p2
        · rename_i z zs ef
          exact hf io2 H2 a xs vs ys us z zs Q r3 q2 hv ef fun v ws rz rw' => p2 v io2 _ (Step.write (List.mem_of_getElem? ha2) hv) (r2.write ha2 hv rw') (rz.step (Step.write (List.mem_of_getElem? ha2) hv) _ _)
        · exact p2.elim
      · exact p2.elim
    · exact p1.elim
  | _ => exact p1.elim
/-- o.append(e) -/
theorem sd_append {apos cpos : Pos} (ho : SE X cl W o ma) (ha : SA X cl W [e] ml) (hbase : attributeBase o "append" X.env (eval o X.env) = eval o X.env := by rfl)
    (hfew : ((backTo cpos (starEach [e] X.env)).all (fun x => !x.1) && (backToKw cpos (keywordEach [] X.env)).all (fun x => x.1.isSome)
      && decide ([e].length + ([] : List Keyword).length + (if ([] : List Keyword).isEmpty then 0 else 1) < 30)) = true := by rfl)
    (hline : (apos.endLine == cpos.line) = true := by rfl) (hs : starEach [e] X.env = (false, eval e X.env) :: starEach [] X.env := by rfl) (hplain : (backTo cpos (starEach [] X.env)).any (·.1) = false := by rfl) :
    SE X cl W (.Call (.Attribute o "append" apos) [e] [] cpos) (mMt fAppend ma ml) :=
  (pe_bm PySem.F.plainAttrs_list PySem.F.slot_list_append (by rfl) mt_append ho ha hbase hfew hline hs hplain).imp fun sg H Q q => rd_mt mtf_append q
theorem sd_pop {apos cpos : Pos} (ho : SE X cl W o ma) (hbase : attributeBase o "pop" X.env (eval o X.env) = eval o X.env := by rfl) (hline : (apos.endLine == cpos.line) = true := by rfl) :
    SE X cl W (.Call (.Attribute o "pop" apos) [] [] cpos) (mMt fPop ma mNil) :=
  (pe_bm0 PySem.F.plainAttrs_list PySem.F.slot_list_pop (by rfl) mt_pop ho hbase hline).imp fun sg H Q q => by
    obtain ⟨env, h, io, E, hr, p⟩ := rd_mt mtf_pop q
    exact rd_mk E hr (p.imp fun v H1 ⟨ty, env2, h2, io2, E2, hr2, p2⟩ => ⟨ty, p2.here hr2 rfl⟩)

/-! o.count(e), o a list or a tuple -/
theorem pe_m2 {to : TE} {t : TA} {name : Str} {apos cpos : Pos} {T T' id id' : String} {r r' : V → List V → Hp → VK → Prop} {ty ty' : V → Hp → Prop} (ht : TyOk X T ty) (ht' : TyOk X T' ty') (pa : PlainAttrs T) (pa' : PlainAttrs T') (slot : Slot T name id) (slot' : Slot T' name id')
    (hty : typeOf (.builtin id) = pure (.type "method_descriptor")) (hty' : typeOf (.builtin id') = pure (.type "method_descriptor")) (hm : MtR X id r) (hm' : MtR X id' r') (ho : PE X o to) (ha : PA X (e :: es) t)
    (hbase : attributeBase o name X.env (eval o X.env) = eval o X.env)
    (hfew : ((backTo cpos (starEach (e :: es) X.env)).all (fun x => !x.1) && (backToKw cpos (keywordEach [] X.env)).all (fun x => x.1.isSome)
      && decide ((e :: es).length + ([] : List Keyword).length + (if ([] : List Keyword).isEmpty then 0 else 1) < 30)) = true)
    (hline : (apos.endLine == cpos.line) = true) (hs : starEach (e :: es) X.env = (false, eval e X.env) :: starEach es X.env) (hplain : (backTo cpos (starEach es X.env)).any (·.1) = false) :
    PE X (.Call (.Attribute o name apos) (e :: es) [] cpos) (fun σ H Q => to σ H fun x H1 => (ty x H1 ∧ t σ H1 fun xs H2 => r x xs H2 Q) ∨ (ty' x H1 ∧ t σ H1 fun xs H2 => r' x xs H2 Q)) := by
  refine ⟨fun pins s σ H Q I h => ?_⟩
  refine PySem.wpAny_Call_method_late hbase hfew hline rfl (thn (ho.run pins s σ H _ I h) fun v s1 ⟨x, H1, I1, r1, hh⟩ => ?_)
  rcases hh with ⟨ty1, q1⟩ | ⟨ty1, q1⟩
  · obtain ⟨h1, h2⟩ := ht _ _ _ _ _ _ I1 r1 ty1
    refine ⟨T, id, pa, slot, hty, h1, h2, ?_⟩
    have hA := ha.run cpos pins s1 σ H1 _ I1 q1
    rw [hs] at hA ⊢
    refine Calls.callWith_builtin (by show (false || (backTo cpos (starEach es X.env)).any (·.1)) = false; rw [hplain] <;> rfl) (Calls.evalArgs_plain ?_)
    exact thn hA fun us s2 ⟨vs, H2, I2, r2, q2⟩ => hm pins s2 σ H2 x vs v us Q I2 r1 r2 q2
  · obtain ⟨h1, h2⟩ := ht' _ _ _ _ _ _ I1 r1 ty1
    refine ⟨T', id', pa', slot', hty', h1, h2, ?_⟩
    have hA := ha.run cpos pins s1 σ H1 _ I1 q1
    rw [hs] at hA ⊢
    refine Calls.callWith_builtin (by show (false || (backTo cpos (starEach es X.env)).any (·.1)) = false; rw [hplain] <;> rfl) (Calls.evalArgs_plain ?_)
    exact thn hA fun us s2 ⟨vs, H2, I2, r2, q2⟩ => hm' pins s2 σ H2 x vs v us Q I2 r1 r2 q2

def tyLst (K : PySem.W.Frag) : V → Hp → Prop := fun x H => ∃ a xs, x = .ref a ∧ SqL K H a xs
theorem ty_lst : TyOk X "list" (tyLst X.K) := by
  intro pins σ H s x v I r ty
  obtain ⟨a, xs, rfl, h⟩ := ty
  cases r
  obtain ⟨its, _, pl, _⟩ := I.list h
  refine ⟨pl.isList.typeIs, fun b e => ?_⟩
  cases e
  obtain ⟨o, n, e, c, hd, _⟩ := pl
  exact ⟨o, e, hd⟩
def rCntP (K : PySem.W.Frag) (w : List PyData → PyData) : V → List V → Hp → VK → Prop := fun x xs H Q => ∃ a y d ds, x = .ref a ∧ xs = [y] ∧ Dp K H x (w ds) ∧ Dp K H y d ∧ PyData.plainAll ds = true ∧ d.plain = true ∧ d.depth ≤ 61 ∧
  Q (.int ((ds.countP fun z => PyData.eqv z d : Nat) : Int)) H
theorem mt_cntL (hu : X.A.units + 65 < cLine) : MtR X "list.count" (rCntP X.K .list) := by
  intro pins s σ H x xs v us Q I rx rxs h
  obtain ⟨a, y, d, ds, rfl, rfl, h1, h2, p1, p2, p3, q⟩ := h
  cases rx
  obtain ⟨u, rfl, ru⟩ := rxs.one
  obtain ⟨bs, r2⟩ := Dp.reads I d y u h2 ru
  cases h1 with
  | lst hs ha =>
    obtain ⟨its, rv, pl, hz⟩ := I.list hs
    obtain ⟨as, r1⟩ := Dp.readsAll I ds _ its ha rv
    exact SeqAt.count_list_data pl.isList (by simpa using r1) r2 p1 p2 (by omega) ⟨.int _, H, I.tok _, ⟨_, rfl⟩, q⟩
theorem mt_cntT (hu : X.A.units + 65 < cLine) : MtR X "tuple.count" (rCntP X.K .tuple) := by
  intro pins s σ H x xs v us Q I rx rxs h
  obtain ⟨a, y, d, ds, rfl, rfl, h1, h2, p1, p2, p3, q⟩ := h
  cases rx
  obtain ⟨u, rfl, ru⟩ := rxs.one
  obtain ⟨bs, r2⟩ := Dp.reads I d y u h2 ru
  cases h1 with
  | tup hs ha =>
    obtain ⟨its, rv, pl, hz⟩ := I.tuple hs
    obtain ⟨as, r1⟩ := Dp.readsAll I ds _ its ha rv
    exact SeqAt.count_tuple_data pl (by simpa using r1) r2 p1 p2 (by omega) ⟨.int _, H, I.tok _, ⟨_, rfl⟩, q⟩
/-- items as data, with what they lie in -/
def cntOf (d : LV) (y : D) (h : PHeap) : Option Nat := match toPy h 60 y with
  | some p => match d.py h with
    | some (.list ds) => some (ds.countP fun z => PyData.eqv z p)
    | some (.tuple ds) => some (ds.countP fun z => PyData.eqv z p)
    | _ => none
  | none => none
def mCnt (o : MO) (as : MA) : ME := fun env h => (o env h).bind fun d h1 => match d.seq h1 with
  | some _ => (as env h1).bind fun ys h2 => match ys with
    | [y] => match cntOf d y h2 with
      | some n => .ok (.int n) h2
      | none => .stuck
    | _ => .stuck
  | none => .stuck
theorem toPy_tup {h : PHeap} {ds : List PyData} : ∀ {n : Nat} {d : D}, toPy h n d = some (.tuple ds) → ∃ xs, d = .tup xs
  | 0, d, e => by simp [toPy] at e
  | n + 1, d, e => by
    cases d with
    | tup xs => exact ⟨xs, rfl⟩
    | lst xs => simp [toPy] at e
    | dct xs ys => simp [toPy] at e
    | map xs => simp [toPy] at e
    | non => simp [toPy] at e
    | bl b => simp [toPy] at e
    | int b => simp [toPy] at e
    | str b => simp [toPy] at e
    | fro xs => simp [toPy] at e
    | ref k =>
      simp only [toPy] at e
      split at e
      · simp at e
      · cases e
theorem toPy_lst {h : PHeap} {ds : List PyData} : ∀ {n : Nat} {xs : List D}, ¬ toPy h n (.tup xs) = some (.list ds)
  | 0, xs, e => by simp [toPy] at e
  | n + 1, xs, e => by simp [toPy] at e
theorem LV.py_tup {d : LV} {h : PHeap} {ds : List PyData} (e : d.py h = some (.tuple ds)) : ∃ xs, d = .val (.tup xs) := by
  cases d with
  | new xs => unfold LV.py at e; simp only [Option.map_eq_some_iff] at e; obtain ⟨_, _, e⟩ := e; cases e
  | val d => obtain ⟨xs, e⟩ := toPy_tup (show toPy h 60 d = _ from e); exact ⟨xs, by rw [e]⟩
theorem LV.py_lst {d : LV} {h : PHeap} {ds : List PyData} (e : d.py h = some (.list ds)) : ¬ ∃ xs, d = .val (.tup xs) := by
  rintro ⟨xs, rfl⟩
  exact toPy_lst (show toPy h 60 (.tup xs) = _ from e)
theorem OV.tupA {K : PySem.W.Frag} {io : List Addr} {H : Hp} {xs : List D} {v : V} (r : OV K io H (.val (.tup xs)) v) : tyTup K v H := by
  obtain ⟨a, vs, e, h1, _⟩ := r
  exact ⟨a, vs, e, h1⟩
theorem OV.lstA {K : PySem.W.Frag} {io : List Addr} {H : Hp} {h : PHeap} {d : LV} {v : V} {xs : List D} (hr : HRel K cl io H h) (r : OV K io H d v) (e : d.seq h = some xs) (n : ¬ ∃ xs, d = .val (.tup xs)) : tyLst K v H := by
  have e' : d.items h = some xs := by
    cases d with
    | new ys => exact e
    | val d => cases d with
      | tup ys => exact absurd ⟨ys, rfl⟩ n
      | _ => exact e
  obtain ⟨a, vs, e, h1, h2⟩ := r.items hr e'
  exact ⟨a, vs, e, h1⟩
theorem sd_count {apos cpos : Pos} (hu : X.A.units + 65 < cLine) (ho : SO X cl W o mo) (ha : SA X cl W [e] ml) (hbase : attributeBase o "count" X.env (eval o X.env) = eval o X.env := by rfl)
    (hfew : ((backTo cpos (starEach [e] X.env)).all (fun x => !x.1) && (backToKw cpos (keywordEach [] X.env)).all (fun x => x.1.isSome)
      && decide ([e].length + ([] : List Keyword).length + (if ([] : List Keyword).isEmpty then 0 else 1) < 30)) = true := by rfl)
    (hline : (apos.endLine == cpos.line) = true := by rfl) (hs : starEach [e] X.env = (false, eval e X.env) :: starEach [] X.env := by rfl) (hplain : (backTo cpos (starEach [] X.env)).any (·.1) = false := by rfl) :
    SE X cl W (.Call (.Attribute o "count" apos) [e] [] cpos) (mCnt mo ml) :=
  (pe_m2 ty_lst ty_tup PySem.F.plainAttrs_list PySem.F.plainAttrs_tuple PySem.F.slot_list_count PySem.F.slot_tuple_count (by rfl) (by rfl) (mt_cntL hu) (mt_cntT hu) ho ha hbase hfew hline hs hplain).imp fun sg H Q ⟨env, h, io, E, hr, p⟩ =>
    rd_mk E hr (p.bind fun d h1 v io1 H1 e1 s1 r1 q1 p1 => by
      split at p1
      · rename_i xs0 e0
        by_cases ht : ∃ xs, d = .val (.tup xs)
        · refine .inr ⟨?_, rd_mk (E.step s1) r1 (p1.bind fun ys h2 us io2 H2 e2 s2 r2 q2 p2 => ?_)⟩
          · obtain ⟨xs, rfl⟩ := ht; exact q1.ov.tupA
          · split at p2
            · split at p2
              · rename_i y _ n ec
                obtain ⟨u, t, rfl, ru, rt⟩ := q2
                have rt' : t = [] := rt
                subst rt'
                unfold cntOf at ec
                split at ec
                · rename_i pp ep
                  split at ec
                  · rename_i ds e3; exact absurd ht (LV.py_lst e3)
                  · rename_i ds e3
                    cases ec
                    obtain ⟨g1, g2, g3⟩ := (q1.ov.step s2).py r2 e3
                    obtain ⟨k1, k2, k3⟩ := dp_of r2 60 y u pp ep ru
                    obtain ⟨xs, rfl⟩ := ht
                    obtain ⟨a, vs, e5, _⟩ := q1
                    exact ⟨a, u, pp, ds, e5, rfl, g1, k1, by simpa only [PyData.plain] using g2, k2, by omega, p2.here r2 rfl⟩
                  · cases ec
                · cases ec
              · exact p2.elim
            · exact p2.elim
        · refine .inl ⟨q1.ov.lstA r1 e0 ht, rd_mk (E.step s1) r1 (p1.bind fun ys h2 us io2 H2 e2 s2 r2 q2 p2 => ?_)⟩
          obtain ⟨a, vs0, e5, _⟩ := q1.ov.lstA r1 e0 ht
          split at p2
          · split at p2
            · rename_i y _ n ec
              obtain ⟨u, t, rfl, ru, rt⟩ := q2
              have rt' : t = [] := rt
              subst rt'
              unfold cntOf at ec
              split at ec
              · rename_i pp ep
                split at ec
                · rename_i ds e3
                  cases ec
                  obtain ⟨g1, g2, g3⟩ := (q1.ov.step s2).py r2 e3
                  obtain ⟨k1, k2, k3⟩ := dp_of r2 60 y u pp ep ru
                  exact ⟨a, u, pp, ds, e5, rfl, g1, k1, by simpa only [PyData.plain] using g2, k2, by omega, p2.here r2 rfl⟩
                · rename_i ds e3; exact absurd (LV.py_tup e3) ht
                · cases ec
              · cases ec
            · exact p2.elim
          · exact p2.elim
      · exact p1.elim)
end
end Gb

/-! GbG: statements, targets, what is walked -/
namespace Gb
open PySem L2

section
variable {K : PySem.W.Frag} {cl : Nat → Addr} {W : WX} {io io1 : List Addr} {sg : L2.St} {H H1 : Hp}
def postS (K : PySem.W.Frag) (cl : Nat → Addr) (W : WX) (io : List Addr) (H : Hp) (o : Out) (D : Ends) : Prop := match o with
  | .nx e h => ∀ io' sg' H', Step K io H io' H' → ERel K io' H' sg' e → HRel K cl io' H' h → D.nx sg' H'
  | .bk e h => ∀ io' sg' H', Step K io H io' H' → ERel K io' H' sg' e → HRel K cl io' H' h → D.bk sg' H'
  | .ct e h => ∀ io' sg' H', Step K io H io' H' → ERel K io' H' sg' e → HRel K cl io' H' h → D.ct sg' H'
  | .rt d h => ∀ v io' H', Step K io H io' H' → HRel K cl io' H' h → Rep K io' H' d v → D.rt v H'
  | .exc x e h => ∀ cls dd io' sg' H', Step K io H io' H' → ERel K io' H' sg' e → HRel K cl io' H' h → ExcRep cl H' x cls dd → W cls dd sg' H'
  | .stuck => False
def rdS (K : PySem.W.Frag) (cl : Nat → Addr) (W : WX) (m : MS) : TS := fun D sg H => ∃ env h io, ERel K io H sg env ∧ HRel K cl io H h ∧ postS K cl W io H (m env h) D
theorem postS.step {o : Out} {D : Ends} (p : postS K cl W io H o D) (s : Step K io H io1 H1) : postS K cl W io1 H1 o D := by
  cases o with
  | nx e h => exact fun io' sg' H' s2 E r => p io' sg' H' (s.trans s2) E r
  | bk e h => exact fun io' sg' H' s2 E r => p io' sg' H' (s.trans s2) E r
  | ct e h => exact fun io' sg' H' s2 E r => p io' sg' H' (s.trans s2) E r
  | rt d h => exact fun v io' H' s2 r q => p v io' H' (s.trans s2) r q
  | exc x e h => exact fun cls dd io' sg' H' s2 E r q => p cls dd io' sg' H' (s.trans s2) E r q
  | stuck => exact p
theorem postS.out {α β : Type} {R : Hp → List Addr → Hp → α → β → Prop} {r : Res α} {env : PEnv} {f : α → PHeap → Out} {D : Ends} {Q' : β → Hp → Prop} (p : postS K cl W io H (r.out env f) D) (E : ERel K io H sg env)
    (k : ∀ a h1 b io1 H1, r = .ok a h1 → Step K io H io1 H1 → HRel K cl io1 H1 h1 → R H io1 H1 a b → postS K cl W io1 H1 (f a h1) D → Q' b H1) : postR R K cl W io sg H r Q' := by
  cases r with
  | ok a h => exact fun b io1 H1 s r q => k a h b io1 H1 rfl s r q (postS.step (show postS K cl W io H (f a h) D from p) s)
  | exc e h => exact fun cls dd io1 H1 s r q => p cls dd io1 sg H1 s (E.step s) r q
  | stuck => exact p
theorem rdS_mk {m : MS} {D : Ends} {env : PEnv} {h : PHeap} (E : ERel K io H sg env) (r : HRel K cl io H h) (p : postS K cl W io H (m env h) D) : rdS K cl W m D sg H := ⟨env, h, io, E, r, p⟩
/-- a target's reading -/
def rdG (K : PySem.W.Frag) (g : TgM) : TG := fun v sg H Q => ∃ d io env e, Rep K io H d v ∧ ERel K io H sg env ∧ g.set d env = some e ∧
  ∀ sg', ERel K io H sg' e → (∀ vs, (∀ i ∈ g.slots, i ∈ vs) → wipe sg' vs = wipe sg vs) → Q sg' H
def rdGs (K : PySem.W.Frag) (g : List TgM) : TGs := fun v sg H Q => ∃ d io env e, RepL K io H d v ∧ ERel K io H sg env ∧ TgM.sets g d env = some e ∧
  ∀ sg', ERel K io H sg' e → (∀ vs, (∀ i ∈ TgM.slotsL g, i ∈ vs) → wipe sg' vs = wipe sg vs) → Q sg' H
end
abbrev SS (X : Cx) (cl : Nat → Addr) (W : WX) (e : Stmt) (m : MS) : Prop := PS X e (rdS X.K cl W m)
abbrev SB (X : Cx) (cl : Nat → Addr) (W : WX) (e : List Stmt) (m : MS) : Prop := PSs X e (rdS X.K cl W m)
abbrev SG (X : Cx) (e : Expr) (g : TgM) : Prop := PG X e (rdG X.K g)
abbrev SGs (X : Cx) (e : List Expr) (g : List TgM) : Prop := PGs X e (rdGs X.K g)

theorem wipe_set {sg : L2.St} {i : Nat} {o : Option V} : ∀ {vs : List Nat}, i ∈ vs → wipe (sg.set i o) vs = wipe sg vs
  | v :: vs, h => by
    show (wipe (sg.set i o) vs).set v none = (wipe sg vs).set v none
    by_cases hv : i ∈ vs
    · rw [wipe_set hv]
    · have e : i = v := by simpa [hv] using h
      subst e
      have key : ∀ (ws : List Nat) (g : L2.St), i ∉ ws → wipe (g.set i o) ws = (wipe g ws).set i o := by
        intro ws
        induction ws with
        | nil => intro g _; rfl
        | cons w ws ih =>
          intro g hw
          simp only [List.mem_cons, not_or] at hw
          show (wipe (g.set i o) ws).set w none = ((wipe g ws).set w none).set i o
          rw [ih g hw.2, List.set_comm _ _ hw.1]
      rw [key vs sg hv, List.set_set]

section
variable {X : Cx} {cl : Nat → Addr} {W : WX} {a b c e o : Expr} {es : List Expr} {ma mb mc : ME} {ml : MA} {mo mp : MO} {mt : MT} {pos p p2 : Pos} {st : Stmt} {rest sa sb : List Stmt} {m n : MS}
/-! targets -/
theorem sg_name {x : Str} (i : Nat) (hN : X.N.Nodup) (hi : X.N[i]? = some x := by rfl) (hx : Loc X.env.scope x := by first | exact Or.inl rfl | exact Or.inr rfl) (hf : X.fn x = true ∨ X.env.scope.names.lookup x = some .local := by first | exact .inl rfl | exact .inr rfl) : SG X (.Name x pos) (.name i) := by
  refine (pg_name hN hi hx hf).imp fun v sg H Q ⟨d, io, env, e, r, E, hs, q⟩ => ?_
  cases hs
  exact q _ (E.set r) fun vs hv => wipe_set (hv i (by simp [TgM.slots]))
theorem sgs_nil : SGs X [] [] := ⟨fun pins s sg H vs us Q I r ⟨d, io, env, e, rl, E, hs, q⟩ => by
  cases d with
  | nil => have rl' : vs = [] := rl; subst rl'; cases hs; exact pgs_nil.run pins s sg H [] us Q I r ⟨rfl, q _ E fun _ _ => rfl⟩
  | cons _ _ => cases hs⟩
theorem sgs_cons {g : TgM} {gs : List TgM} (h1 : SG X e g) (h2 : SGs X es gs) (hs : (assignEach (e :: es) X.env).map (·.2) = assign e X.env :: (assignEach es X.env).map (·.2) := by rfl) : SGs X (e :: es) (g :: gs) := ⟨fun pins s sg H vs us Q I r ⟨d, io, env, e', rl, E, hs', q⟩ => by
  cases d with
  | nil => cases hs'
  | cons d ds =>
    obtain ⟨v, t, rfl, r1, r2⟩ := rl
    simp only [TgM.sets] at hs'
    cases q1 : g.set d env with
    | none => rw [q1] at hs'; cases hs'
    | some e1 =>
      rw [q1] at hs'
      refine (pgs_cons h1 h2 hs).run pins s sg H _ us Q I r ⟨v, t, rfl, ⟨d, io, env, e1, r1, E, q1, fun sg' E' w1 => ⟨ds, io, e1, e', r2, E', hs', fun sg2 E2 w2 => q sg2 E2 fun vs hv => ?_⟩⟩⟩
      rw [w2 vs fun i hi => hv i (by simp [TgM.slotsL, hi]), w1 vs fun i hi => hv i (by simp [TgM.slotsL, hi])]⟩
theorem sg_tup {gs : List TgM} {k : Nat} {n : Nat} (hc : X.calm = true) (h : SGs X es gs) (hn : (assignEach es X.env).length = n := by rfl) (hst : (assignEach es X.env).findIdx? (·.1) = none := by rfl) (hg : gs.length = n := by rfl) : SG X (.Tuple es k pos) (.tup gs) := by
  refine (pg_tupA hc h hn hst).imp fun v sg H Q ⟨d, io, env, e, r, E, hs, q⟩ => ?_
  cases d with
  | tup xs =>
    obtain ⟨a, vs, rfl, h1, h2⟩ := r
    have hl : ∀ (gs : List TgM) (xs : List D) env e, TgM.sets gs xs env = some e → xs.length = gs.length := by
      intro gs
      induction gs with
      | nil => intro xs env e h; cases xs with
        | nil => rfl
        | cons _ _ => cases h
      | cons g gs ih => intro xs env e h; cases xs with
        | nil => cases h
        | cons x xs =>
          simp only [TgM.sets] at h
          cases q1 : g.set x env with
          | none => rw [q1] at h; cases h
          | some e1 => rw [q1] at h; simp [ih xs e1 e h]
    exact ⟨a, vs, rfl, h1, by rw [← h2.length, hl gs xs env e hs, hg], xs, io, env, e, h2, E, hs, q⟩
  | _ => cases hs

/-! statements -/
theorem ss_cons (h1 : SS X cl W st m) (h2 : SB X cl W rest n) : SB X cl W (st :: rest) (sSeq m n) :=
  (pss_cons h1 h2).imp fun D sg H ⟨env, h, io, E, hr, p⟩ => rdS_mk E hr (by
    unfold sSeq at p
    cases q : m env h with
    | nx e h1 => rw [q] at p; exact fun io' sg' H' s E' r' => rdS_mk E' r' (p.step s)
    | rt d h1 => rw [q] at p; exact p
    | bk e h1 => rw [q] at p; exact p
    | ct e h1 => rw [q] at p; exact p
    | exc x e h1 => rw [q] at p; exact p
    | stuck => rw [q] at p; exact p)
theorem ss_nil : SB X cl W [] sNext := pss_nil.imp fun D sg H ⟨env, h, io, E, hr, p⟩ => p io sg H .refl E hr
theorem ss_one (h1 : SS X cl W st m) : SB X cl W [st] m := pss_one h1
theorem ss_pass : SS X cl W (.Pass pos) sNext := ps_pass.imp fun D sg H ⟨env, h, io, E, hr, p⟩ => p io sg H .refl E hr
theorem ss_break : SS X cl W (.Break pos) sBreak := ps_break.imp fun D sg H ⟨env, h, io, E, hr, p⟩ => p io sg H .refl E hr
theorem ss_cont : SS X cl W (.Continue pos) sCont := ps_continue.imp fun D sg H ⟨env, h, io, E, hr, p⟩ => p io sg H .refl E hr
theorem ss_doc {x j pos'} : SS X cl W (.Expr (.Constant (.str x) j pos) pos') sNext := ps_doc.imp fun D sg H ⟨env, h, io, E, hr, p⟩ => p io sg H .refl E hr
theorem ss_never : SS X cl W st sStuck := ps_never.imp fun D sg H ⟨env, h, io, E, hr, p⟩ => p
theorem ss_nevers : SB X cl W rest sStuck := pss_never.imp fun D sg H ⟨env, h, io, E, hr, p⟩ => p
theorem ss_drop (he : SE X cl W e ma) (hs : swapsWith e none pos.line X.env = pure false := by rfl) : SS X cl W (.Expr e pos) (sDrop ma) :=
  (ps_expr he hs).imp fun D sg H ⟨env, h, io, E, hr, p⟩ => rd_mk E hr (p.out E fun d h1 v io1 H1 e1 s1 r1 q1 p1 => p1 io1 sg H1 .refl (E.step s1) r1)
theorem ss_ret (he : SE X cl W e ma) : SS X cl W (.Return (some e) pos) (sRet ma) :=
  (ps_ret he).imp fun D sg H ⟨env, h, io, E, hr, p⟩ => rd_mk E hr (p.out E fun d h1 v io1 H1 e1 s1 r1 q1 p1 => p1 v io1 H1 .refl r1 q1)
theorem ss_retN : SS X cl W (.Return none pos) sRetN := ps_retN.imp fun D sg H ⟨env, h, io, E, hr, p⟩ => p .non io H .refl hr rfl
theorem ss_if (hc : ST X cl W c mt) (ha : SB X cl W sa m) (hb : SB X cl W sb n) : SS X cl W (.If c sa sb pos) (sIf mt m n) :=
  (ps_if hc ha hb).imp fun D sg H ⟨env, h, io, E, hr, p⟩ => rd_mk E hr (p.out E fun k h1 b io1 H1 e1 s1 r1 q1 p1 => by
    cases q1
    cases k with
    | true => exact iteT (rdS_mk (E.step s1) r1 p1)
    | false => exact iteF (rdS_mk (E.step s1) r1 p1))
theorem rd_asg {g : TgM} {D : Ends} {sg : L2.St} {H : Hp} (q : rdS X.K cl W (sAsg ma g) D sg H) : tAsg (rd (RRep X.K) X.K cl W ma) (rdG X.K g) D sg H := by
  obtain ⟨env, h, io, E, hr, p⟩ := q
  refine rd_mk E hr (p.out E fun d h1 v io1 H1 e1 s1 r1 q1 p1 => ?_)
  cases q2 : g.set d env with
  | none => rw [q2] at p1; exact p1.elim
  | some e2 => rw [q2] at p1; exact ⟨d, io1, env, e2, q1, E.step s1, q2, fun sg' E' _ => p1 io1 sg' H1 .refl E' r1⟩
theorem ss_asg {g : TgM} (he : SE X cl W e ma) (hg : SG X a g) (hs : swapsWithSole [a] e pos.line X.env = pure false := by rfl) (hw : swappedStores [a] e X.env = pure none := by rfl)
    (h1 : (assignEach [a] X.env).map (·.2) = [assign a X.env] := by rfl) : SS X cl W (.Assign [a] e pos) (sAsg ma g) :=
  (ps_asg he hg hs hw h1).imp fun D sg H q => rd_asg q
/-- name = value -/
theorem ss_set {x : Str} {pos' : Pos} (i : Nat) (he : SE X cl W e ma) (hN : X.N.Nodup) (hi : X.N[i]? = some x := by rfl) (hx : Loc X.env.scope x := by first | exact Or.inl rfl | exact Or.inr rfl)
    (hs : swapsWith e (some (.Name x pos')) pos.line X.env = pure false := by rfl) (hf : X.fn x = true ∨ X.env.scope.names.lookup x = some .local := by first | exact .inl rfl | exact .inr rfl) : SS X cl W (.Assign [.Name x pos'] e pos) (sAsg ma (.name i)) :=
  (ps_set hN hi hx he hs hf).imp fun D sg H ⟨env, h, io, E, hr, p⟩ => rd_mk E hr (p.out E fun d h1 v io1 H1 e1 s1 r1 q1 p1 => p1 io1 _ H1 .refl ((E.step s1).set q1) r1)
theorem ss_par {i j : Nat} {x y : Str} {px py pt : Pos} {kt k2 pt2} (hc : X.calm = true) (hN : X.N.Nodup) (ha : SA X cl W [a, b] ml) (hi : X.N[i]? = some x := by rfl) (hj : X.N[j]? = some y := by rfl) (hij : i ≠ j := by decide)
    (hx : X.env.scope.names.lookup x = some .local := by rfl) (hy : X.env.scope.names.lookup y = some .local := by rfl)
    (hw : swappedStores [.Tuple [.Name x px, .Name y py] kt pt] (.Tuple [a, b] k2 pt2) X.env = pure (some [x, y]) := by rfl)
    (hs : swapsWithSole [.Tuple [.Name x px, .Name y py] kt pt] (.Tuple [a, b] k2 pt2) pos.line X.env = pure false := by rfl) :
    SS X cl W (.Assign [.Tuple [.Name x px, .Name y py] kt pt] (.Tuple [a, b] k2 pt2) pos) (sPar [i, j] ml) :=
  (ps_par hc hN hi hj hij hx hy ha hw hs).imp fun D sg H ⟨env, h, io, E, hr, p⟩ => rd_mk E hr (p.out E fun ds h1 vs io1 H1 e1 s1 r1 q1 p1 => by
    split at p1
    · rename_i hl
      match ds, hl, q1, p1 with
      | [d, d2], _, q1, p1 =>
        obtain ⟨v, t, rfl, ra, rt⟩ := q1
        obtain ⟨w, t', rfl, rb, rt'⟩ := rt
        have rt2 : t' = [] := rt'
        subst rt2
        exact ⟨v, w, rfl, p1 io1 _ H1 .refl (((E.step s1).set ra).set rb) r1⟩
    · exact p1.elim)
/-- o[i] = e -/
def sSub (v o i : ME) : MS := fun env h => (v env h).out env fun d h1 => (o env h1).out env fun x h2 => (i env h2).out env fun y h3 => match x, y with
  | .ref n, .int k => match h3[n]? with
    | some (.lst xs) => match ixN xs.length k with
      | some j => .nx env (h3.set n (.lst (xs.set j d)))
      | none => .stuck
    | _ => .stuck
  | _, _ => .stuck
theorem ss_sub {i : Expr} {tp : Pos} (he : SE X cl W e ma) (ho : SE X cl W o mb) (hi : SE X cl W i mc)
    (ha : ∀ v, assign (.Subscript o i tp) X.env v = (do
      let ov ← holding [v] (eval o X.env)
      let iv ← holding [v, ov] (eval i X.env)
      standAt tp
      holding [v, ov, iv] (setItem ov iv v)
      release [v, ov, iv] []) := by intro _; rfl)
    (hs : swapsWithSole [.Subscript o i tp] e pos.line X.env = pure false := by rfl) (hw : swappedStores [.Subscript o i tp] e X.env = pure none := by rfl)
    (h1 : (assignEach [.Subscript o i tp] X.env).map (·.2) = [assign (.Subscript o i tp) X.env] := by rfl) : SS X cl W (.Assign [.Subscript o i tp] e pos) (sSub ma mb mc) :=
  (ps_asg he (pg_sub ho hi set_list ha) hs hw h1).imp fun D sg H ⟨env, h, io, E, hr, p⟩ => rd_mk E hr (p.out E fun d h1 v io1 H1 e1 s1 r1 q1 p1 => by
    refine rd_mk (E.step s1) r1 (p1.out (E.step s1) fun x h2 xv io2 H2 e2 s2 r2 q2 p2 => ?_)
    refine rd_mk ((E.step s1).step s2) r2 (p2.out ((E.step s1).step s2) fun y h3 yv io3 H3 e3 s3 r3 q3 p3 => ?_)
    split at p3
    · rename_i n k
      obtain ⟨ad, ha, rfl⟩ := q2.step s3 _ _
      cases q3
      split at p3
      · rename_i xs e4
        obtain ⟨vs, hv, rv⟩ := r3.cell n ad _ ha e4
        split at p3
        · rename_i j hj
          have E3 := ((E.step s1).step s2).step s3
          have st : Step X.K io3 H3 io3 (upd H3 ad (.lst (vs.set j v))) := Step.write (List.mem_of_getElem? ha) hv
          exact ⟨ad, vs, k, j, rfl, rfl, hv, by rw [← rv.length]; exact hj, p3 io3 sg _ st (E3.step st) (r3.write ha hv (rv.set j ((q1.step s2 _ _).step s3 _ _)))⟩
        · exact p3.elim
      · exact p3.elim
    · exact p3.elim)
end
end Gb

/-! GbH: what is walked, loops, comprehensions -/
namespace Gb
open PySem L2

section
variable {K : PySem.W.Frag} {cl : Nat → Addr} {W : WX} {io io1 : List Addr} {sg : L2.St} {H H1 : Hp} {h : PHeap}
/-- what stands that a walk rests on: the lists at these addresses, all tuples -/
structure Keeps (K : PySem.W.Frag) (as io : List Addr) (H : Hp) (io' : List Addr) (H' : Hp) : Prop where
  pre : ∃ l, io' = io ++ l
  tup : ∀ a vs, TupA K H a vs → TupA K H' a vs
  fro : ∀ a vs, FroL K H a vs → FroL K H' a vs
  same : ∀ a ∈ as, H' a = H a
/-- these stand apart from the cells, and were made behind Hs -/
def Apart (Hs : Hp) (as io : List Addr) (H : Hp) : Prop := ∀ a ∈ as, Hs a = none ∧ a ∉ io ∧ ∃ o, H a = some o
theorem Step.keeps {as : List Addr} {Hs : Hp} {io' : List Addr} {H' : Hp} (s : Step K io H io' H') (ap : Apart Hs as io H) : Keeps K as io H io' H' :=
  ⟨s.pre, s.tup, s.fro, fun a m => by obtain ⟨_, n, o, e⟩ := ap a m; rw [e, s.keep a o e n]⟩
theorem Keeps.sub {as bs io' : List Addr} {H' : Hp} (k : Keeps K as io H io' H') (h : ∀ a ∈ bs, a ∈ as) : Keeps K bs io H io' H' := ⟨k.pre, k.tup, k.fro, fun a m => k.same a (h a m)⟩
theorem Keeps.get {as io' : List Addr} {H' : Hp} (k : Keeps K as io H io' H') {n : Nat} {x : Addr} (h : io[n]? = some x) : io'[n]? = some x := by
  obtain ⟨l, e⟩ := k.pre
  rw [e, List.getElem?_append_left (List.getElem?_eq_some_iff.mp h).1]
  exact h
theorem Keeps.repL {as io' : List Addr} {H' : Hp} (k : Keeps K as io H io' H') {ds : List D} {vs : List V} (r : RepL K io H ds vs) : RepL K io' H' ds vs := r.mono (fun _ _ h => k.get h) k.tup k.fro
theorem Apart.app {Hs : Hp} {as bs : List Addr} (a : Apart Hs as io H) (b : Apart Hs bs io H) : Apart Hs (as ++ bs) io H := fun x m => (List.mem_append.mp m).elim (a x) (b x)
/-- what is walked goes as its plain items say while what it rests on stands -/
def WalkRep (K : PySem.W.Frag) (cl : Nat → Addr) (Hs : Hp) (io0 : List Addr) (H0 : Hp) (t : Itr) (J : It) : Prop := ∃ (as : List Addr) (G : Hp → Prop) (Y : Nat → Hp → V → Hp → Prop), Apart Hs as io0 H0 ∧ Walk J t.items.length G Y ∧
  (∀ io H h, Keeps K as io0 H0 io H → HRel K cl io H h → t.live h = true → G H) ∧
  (∀ i io H h x H' d, Keeps K as io0 H0 io H → HRel K cl io H h → t.live h = true → t.items[i]? = some d → Y i H x H' → Step K io H io H' ∧ HRel K cl io H' h ∧ Rep K io H' d x)
abbrev RIt (K : PySem.W.Frag) (cl : Nat → Addr) : Hp → List Addr → Hp → Itr → It → Prop := fun Hs io H t J => WalkRep K cl Hs io H t J
instance : Back K (RIt K cl) := ⟨fun s hl ⟨as, G, Y, ap, w, g, y⟩ => ⟨as, G, Y, fun a m => by obtain ⟨h0, h1, h2⟩ := ap a m; exact ⟨s.before hl h0 h1, h1, h2⟩, w, g, y⟩⟩
def rdI (K : PySem.W.Frag) (cl : Nat → Addr) (W : WX) (m : MI) : TI := fun sg H R => ∃ env h io, ERel K io H sg env ∧ HRel K cl io H h ∧ postR (RIt K cl) K cl W io sg H (m env h) R
theorem rdI_mk {m : MI} {R : It → Hp → Prop} {env : PEnv} {h : PHeap} (E : ERel K io H sg env) (r : HRel K cl io H h) (p : postR (RIt K cl) K cl W io sg H (m env h) R) : rdI K cl W m sg H R := ⟨env, h, io, E, r, p⟩

/-- the end still told from the start -/
theorem postR.bindAt {α β γ δ : Type} {R : Hp → List Addr → Hp → α → β → Prop} {S : Hp → List Addr → Hp → γ → δ → Prop} {r : Res α} {f : α → PHeap → Res γ} {Q : δ → Hp → Prop} {Q' : β → Hp → Prop} (s0 : Step K io H io1 H1) (p : postR S K cl W io sg H (r.bind f) Q)
    (k : ∀ a h b io2 H2, Step K io1 H1 io2 H2 → HRel K cl io2 H2 h → R H1 io2 H2 a b → postR S K cl W io sg H (f a h) Q → Q' b H2) : postR R K cl W io1 sg H1 r Q' := by
  cases r with
  | ok a h => exact fun b io2 H2 s hr q => k a h b io2 H2 s hr q p
  | exc e h => exact fun cls dd io2 H2 s hr q => p cls dd io2 H2 (s0.trans s) hr q
  | stuck => exact p
/-! a source -/
def srcDeps : LV → List D → List (Nat × List D)
  | .val d, xs => depsOf d xs
  | _, _ => []
def depsLive (h : PHeap) (ds : List (Nat × List D)) : Bool := ds.all fun p => match h[p.1]? with
  | some (.lst xs) => decide (xs = p.2)
  | _ => false
theorem live_eq (t : Itr) (h : PHeap) : t.live h = depsLive h t.deps := rfl
theorem depsLive_app {h : PHeap} {a b : List (Nat × List D)} : depsLive h (a ++ b) = (depsLive h a && depsLive h b) := by simp [depsLive]
theorem RLV.step {Hs : Hp} {lv : LV} {v : V} {io' : List Addr} {H' : Hp} (r : RLV K Hs io H lv v) (s : Step K io H io' H') : RLV K Hs io' H' lv v := by
  cases lv with
  | val d => exact Rep.step s d v r
  | new xs => obtain ⟨a, vs, e, h0, h1, h2, h3⟩ := r; exact ⟨a, vs, e, h0, s.out h2 h1, s.keep _ _ h2 h1, h3.step s _ _⟩
theorem src_of {Hs : Hp} {lv : LV} {v : V} {xs : List D} (hr : HRel K cl io H h) (r : RLV K Hs io H lv v) (e : lv.seq h = some xs) :
    ∃ (u : Src) (vs : List V) (as : List Addr), v = .ref u.addr ∧ u.At K H vs ∧ RepL K io H xs vs ∧ Apart Hs as io H ∧ ∀ io2 H2 h2, Keeps K as io H io2 H2 → HRel K cl io2 H2 h2 → depsLive h2 (srcDeps lv xs) = true → ∃ ws, u.At K H2 ws ∧ RepL K io2 H2 xs ws := by
  have nil : Apart Hs [] io H := fun a m => by simp at m
  cases lv with
  | new ys =>
    cases e
    obtain ⟨a, vs, e, h0, h1, h2, h3⟩ := r
    refine ⟨.lst a, vs, [a], e, .of h2, h3, fun b m => ?_, fun io2 H2 h2' s _ _ => ⟨vs, .of (by rw [s.same a (by simp)]; exact h2), s.repL h3⟩⟩
    rw [List.mem_singleton.mp m]; exact ⟨h0, h1, _, h2⟩
  | val d =>
    cases d with
    | tup ys =>
      cases e
      obtain ⟨a, vs, e, h1, h2⟩ := r
      exact ⟨.tup a, vs, [], e, h1.sq, h2, nil, fun io2 H2 h2' s _ _ => ⟨vs, (s.tup _ _ h1).sq, s.repL h2⟩⟩
    | fro ys =>
      cases e
      obtain ⟨a, vs, e, h1, h2⟩ := r
      exact ⟨.lst a, vs, [], e, h1.sq, h2, nil, fun io2 H2 h2' s _ _ => ⟨vs, (s.fro _ _ h1).sq, s.repL h2⟩⟩
    | ref n =>
      obtain ⟨a, ha, rfl⟩ := r
      simp only [LV.seq, LV.items] at e
      split at e
      · rename_i ys q
        cases e
        obtain ⟨vs, hv, r⟩ := hr.cell n a _ ha q
        refine ⟨.lst a, vs, [], rfl, .of hv, r, nil, fun io2 H2 h2 s r2 lv => ?_⟩
        simp only [depsLive, srcDeps, depsOf, List.all_cons, List.all_nil, Bool.and_true] at lv
        split at lv
        · rename_i zs e2
          have e3 := of_decide_eq_true lv
          subst e3
          obtain ⟨ws, hw, rw'⟩ := r2.cell n a _ (s.get ha) e2
          exact ⟨ws, .of hw, rw'⟩
        · cases lv
      · cases e
    | _ => simp [LV.seq, LV.items] at e
end
abbrev SI (X : Cx) (cl : Nat → Addr) (W : WX) (tg e : Expr) (m : MI) : Prop := PI X tg e (rdI X.K cl W m)
/-- a list or a tuple, walked -/
def iSrc (a : MO) : MI := fun env h => (a env h).bind fun lv h1 => match lv.seq h1 with
  | some xs => .ok ⟨xs, srcDeps lv xs⟩ h1
  | none => .stuck
/-- range(a), range(a, b) -/
def rngD (lo hi : Int) : List D := (List.range (hi - lo).toNat).map fun i => D.int (lo + (i : Nat))
def iR1 (b : ME) : MI := fun env h => (b env h).bind fun y h1 => match y with
  | .int hi => if -(2 ^ 60) ≤ hi ∧ hi ≤ 2 ^ 60 then .ok ⟨rngD 0 hi, []⟩ h1 else .stuck
  | _ => .stuck
def iR2 (a b : ME) : MI := fun env h => (a env h).bind fun x h1 => (b env h1).bind fun y h2 => match x, y with
  | .int lo, .int hi => if (-(2 ^ 60) ≤ lo ∧ lo ≤ 2 ^ 60) ∧ -(2 ^ 60) ≤ hi ∧ hi ≤ 2 ^ 60 then .ok ⟨rngD lo hi, []⟩ h2 else .stuck
  | _, _ => .stuck
/-- enumerate(x) -/
def enuD (xs : List D) : List D := xs.mapIdx fun i d => D.tup [.int (i : Nat), d]
def iEnu (a : MO) : MI := fun env h => (a env h).bind fun lv h1 => match lv.seq h1 with
  | some xs => .ok ⟨enuD xs, srcDeps lv xs⟩ h1
  | none => .stuck
def iZip2 (a b : MO) : MI := fun env h => (a env h).bind fun x h1 => (b env h1).bind fun y h2 => match x.seq h2, y.seq h2 with
  | some xs, some ys => .ok ⟨List.zipWith (fun p q => D.tup [p, q]) xs ys, srcDeps x xs ++ srcDeps y ys⟩ h2
  | _, _ => .stuck
def iZip3 (a b c : MO) : MI := fun env h => (a env h).bind fun x h1 => (b env h1).bind fun y h2 => (c env h2).bind fun z h3 => match x.seq h3, y.seq h3, z.seq h3 with
  | some xs, some ys, some zs => .ok ⟨List.zipWith (fun p q => D.tup [p, q.1, q.2]) xs (ys.zip zs), srcDeps x xs ++ (srcDeps y ys ++ srcDeps z zs)⟩ h3
  | _, _, _ => .stuck
section
variable {X : Cx} {cl : Nat → Addr} {W : WX} {a b c e o tg : Expr} {es : List Expr} {ma mb mc : ME} {ml : MA} {mo mp mq : MO} {mt : MT} {mi : MI} {pos p p2 : Pos} {st : Stmt} {rest sa sb : List Stmt} {m n : MS}
theorem si_src (ha : SO X cl W a mo) : SI X cl W tg a (iSrc mo) :=
  (pi_src ha).imp fun sg H R ⟨env, h, io, E, hr, p⟩ => rd_mk E hr (p.bindAt .refl fun lv h1 v io1 H1 s1 r1 q1 p1 => by
    split at p1
    · rename_i xs e
      obtain ⟨u, vs, as, rfl, h2, h3, ap, h4⟩ := src_of r1 q1 e
      refine ⟨u, rfl, ⟨vs, h2⟩, p1 _ io1 H1 s1 r1 ⟨as, _, _, ap, walk_s, fun io2 H2 h2 s2 r2 l2 => ?_, fun i io2 H2 h2 x H' d s2 r2 l2 hd y => ?_⟩⟩
      · obtain ⟨ws, hw, rw'⟩ := h4 io2 H2 h2 s2 r2 l2
        exact ⟨ws, hw, rw'.length.symm⟩
      · obtain ⟨ws, hw, rw'⟩ := h4 io2 H2 h2 s2 r2 l2
        obtain ⟨rfl, hy⟩ := y
        obtain ⟨w, e2, r3⟩ := rw'.get hd
        rw [hy ws hw] at e2; cases e2
        exact ⟨.refl, r2, r3⟩
    · exact p1.elim)
theorem walk_rng {lo hi : Int} {K : PySem.W.Frag} {io : List Addr} {Hs H : Hp} : WalkRep K cl Hs io H ⟨rngD lo hi, []⟩ (L2.Itr lo (hi - lo).toNat) := by
  refine ⟨[], _, _, fun a m => by simp at m, by simpa [rngD] using walk_range (lo := lo) (n := (hi - lo).toNat), fun _ _ _ _ _ _ => trivial, fun i io2 H2 h2 x H' d s2 r2 l2 hd y => ?_⟩
  obtain ⟨rfl, rfl⟩ := y
  refine ⟨.refl, r2, ?_⟩
  simp only [rngD, List.getElem?_map] at hd
  cases q : (List.range (hi - lo).toNat)[i]? with
  | none => rw [q] at hd; cases hd
  | some j =>
    rw [q] at hd
    cases hd
    obtain ⟨h1, h2⟩ := List.getElem?_eq_some_iff.mp q
    simp at h2
    subst h2
    rfl
theorem si_rng1 (hm : X.mg "range" = none) (ha : SE X cl W a ma) (hg : Gl X "range" := by rfl) (hs : starEach [a] X.env = [(false, eval a X.env)] := by rfl) : SI X cl W tg (.Call (.Name "range" p) [a] [] pos) (iR1 ma) :=
  (pi_range1 hg hm (pa_cons ha pa_nil hs) hs).imp fun sg H R ⟨env, h, io, E, hr, p⟩ => rd_mk E hr (p.bind fun d h1 v io1 H1 e1 s1 r1 q1 p1 => by
    split at p1
    · rename_i hi
      cases q1
      split at p1
      · have := p1 _ io1 H1 .refl r1 walk_rng
        rw [Int.sub_zero] at this
        exact ⟨hi, rfl, by omega, by omega, this⟩
      · exact p1.elim
    · exact p1.elim)
theorem si_rng2 (hm : X.mg "range" = none) (ha : SE X cl W a ma) (hb : SE X cl W b mb) (hg : Gl X "range" := by rfl) (hs : starEach [a, b] X.env = [(false, eval a X.env), (false, eval b X.env)] := by rfl) (hs2 : starEach [b] X.env = [(false, eval b X.env)] := by rfl) : SI X cl W tg (.Call (.Name "range" p) [a, b] [] pos) (iR2 ma mb) :=
  (pi_range2 hg hm (pa_cons ha (pa_cons hb pa_nil hs2) (by rw [hs, hs2])) hs hs2).imp fun sg H R ⟨env, h, io, E, hr, p⟩ => rd_mk E hr (p.bind fun d h1 v io1 H1 e1 s1 r1 q1 p1 => rd_mk (E.step s1) r1 (p1.bind fun d2 h2 u io2 H2 e2 s2 r2 q2 p2 => by
    split at p2
    · rename_i lo hi
      cases q1
      cases q2
      split at p2
      · exact ⟨lo, hi, rfl, by omega, p2 _ io2 H2 .refl r2 walk_rng⟩
      · exact p2.elim
    · exact p2.elim))
variable {elts : List Expr} {kk : Nat} {tpos : Pos}
theorem get_enu {xs : List D} {i : Nat} {d : D} (h : (enuD xs)[i]? = some d) : ∃ x, xs[i]? = some x ∧ d = .tup [.int (i : Nat), x] := by
  simp only [enuD, List.getElem?_mapIdx] at h
  cases q : xs[i]? with
  | none => rw [q] at h; cases h
  | some x => rw [q] at h; cases h; exact ⟨x, rfl, rfl⟩
theorem rep_pair {K : PySem.W.Frag} {io : List Addr} {H : Hp} {T : Addr} {o : Obj} {ds : List D} {vs : List V} (hT : H T = none) (ho : o.dict = none) (r : RepL K io H ds vs) : Rep K io (upd H T (.frz o (.tup vs))) (.tup ds) (.ref T) :=
  ⟨T, vs, rfl, .of upd_same ho, r.step (Step.laid hT) _ _⟩
theorem si_enu (hm : X.mg "enumerate" = none) (ha : SO X cl W a mo) (hg : Gl X "enumerate" := by rfl) (hs : starEach [a] X.env = [(false, eval a X.env)] := by rfl) : SI X cl W (.Tuple elts kk tpos) (.Call (.Name "enumerate" p) [a] [] pos) (iEnu mo) :=
  (pi_en hg hm (pa_cons ha pa_nil hs) hs).imp fun sg H R ⟨env, h, io, E, hr, p⟩ => rd_mk E hr (p.bindAt .refl fun lv h1 v io1 H1 s1 r1 q1 p1 => by
    split at p1
    · rename_i xs e
      obtain ⟨u, vs, as, rfl, h2, h3, ap, h4⟩ := src_of r1 q1 e
      refine ⟨u, vs, rfl, h2, p1 _ io1 H1 s1 r1 ⟨as, _, _, ap, walk_e, fun io2 H2 h2 s2 r2 l2 => ?_, fun i io2 H2 h2 x H' d s2 r2 l2 hd y => ?_⟩⟩
      · obtain ⟨ws, hw, rw'⟩ := h4 io2 H2 h2 s2 r2 l2
        exact ⟨ws, hw, by simp [enuD, rw'.length]⟩
      · obtain ⟨ws, hw, rw'⟩ := h4 io2 H2 h2 s2 r2 l2
        obtain ⟨T, o, z, rfl, hT, ho, rfl, hy⟩ := y
        obtain ⟨dx, e2, rfl⟩ := get_enu hd
        obtain ⟨w, e3, r3⟩ := rw'.get e2
        rw [hy ws hw] at e3; cases e3
        rw [Int.zero_add]
        exact ⟨Step.laid hT, r2.laid hT, rep_pair hT ho ⟨_, _, rfl, rfl, _, _, rfl, r3, rfl⟩⟩
    · exact p1.elim)
theorem get_zip {α β γ : Type} {f : α → β → γ} {xs : List α} {ys : List β} {i : Nat} {d : γ} (h : (List.zipWith f xs ys)[i]? = some d) : ∃ x y, xs[i]? = some x ∧ ys[i]? = some y ∧ d = f x y := by
  rw [List.getElem?_zipWith] at h
  cases q : xs[i]? with
  | none => rw [q] at h; cases h
  | some x =>
    cases q2 : ys[i]? with
    | none => rw [q, q2] at h; cases h
    | some y => rw [q, q2] at h; cases h; exact ⟨x, y, rfl, rfl, rfl⟩
theorem si_zip2 (hm : X.mg "zip" = none) (ha : SO X cl W a mo) (hb : SO X cl W b mp) (hg : Gl X "zip" := by rfl)
    (hs : starEach [a, b] X.env = (false, eval a X.env) :: starEach [b] X.env := by rfl) (hs2 : starEach [b] X.env = (false, eval b X.env) :: starEach [] X.env := by rfl) (hpl : (backTo pos (starEach [b] X.env)).any (·.1) = false := by rfl) :
    SI X cl W (.Tuple elts kk tpos) (.Call (.Name "zip" p) [a, b] [] pos) (iZip2 mo mp) :=
  (pi_z2 hg hm (pa_cons ha (pa_cons hb pa_nil hs2) hs) hs hpl).imp fun sg H R ⟨env, h, io, E, hr, p⟩ => rd_mk E hr (p.bindAt .refl fun lv h1 v io1 H1 s1 r1 q1 p1 => rd_mk (E.step s1) r1 (p1.bindAt s1 fun lv2 h2 v2 io2 H2 s2 r2 q2 p2 => by
    split at p2
    · rename_i xs ys e e'
      obtain ⟨u, vs, as, rfl, g1, g2, ap, g3⟩ := src_of (Hs := H) r2 (Gb.RLV.step (show RLV X.K H io1 H1 lv v from q1) s2) e
      obtain ⟨u', vs', as', rfl, g1', g2', ap', g3'⟩ := src_of (Hs := H) r2 (Back.back s1 s2.pre q2) e'
      refine ⟨u, u', vs, vs', rfl, g1, g1', p2 _ io2 H2 (s1.trans s2) r2 ⟨as ++ as', _, _, ap.app ap', walk_p2 (n1 := xs.length) (n2 := ys.length) (by simp), fun io3 H3 h3 s3 r3 l3 => ?_, fun i io3 H3 h3 x H' d s3 r3 l3 hd y => ?_⟩⟩
      · rw [live_eq, depsLive_app, Bool.and_eq_true] at l3
        obtain ⟨ws, hw, rw'⟩ := g3 io3 H3 h3 (s3.sub fun a m => by simp [m]) r3 l3.1
        obtain ⟨ws', hw', rw2⟩ := g3' io3 H3 h3 (s3.sub fun a m => by simp [m]) r3 l3.2
        exact ⟨ws, ws', ⟨hw, rw'.length.symm⟩, hw', rw2.length.symm⟩
      · rw [live_eq, depsLive_app, Bool.and_eq_true] at l3
        obtain ⟨ws, hw, rw'⟩ := g3 io3 H3 h3 (s3.sub fun a m => by simp [m]) r3 l3.1
        obtain ⟨ws', hw', rw2⟩ := g3' io3 H3 h3 (s3.sub fun a m => by simp [m]) r3 l3.2
        obtain ⟨T, o, z, z', rfl, hT, ho, rfl, hy, hy'⟩ := y
        obtain ⟨dx, dy, e3, e3', rfl⟩ := get_zip hd
        obtain ⟨w, e4, r4⟩ := rw'.get e3
        obtain ⟨w', e4', r4'⟩ := rw2.get e3'
        rw [hy ws hw] at e4; cases e4
        rw [hy' ws' hw'] at e4'; cases e4'
        exact ⟨Step.laid hT, r3.laid hT, rep_pair hT ho ⟨_, _, rfl, r4, _, _, rfl, r4', rfl⟩⟩
    · exact p2.elim))
theorem si_zip3 (hm : X.mg "zip" = none) (ha : SO X cl W a mo) (hb : SO X cl W b mp) (hc : SO X cl W c mq) (hg : Gl X "zip" := by rfl)
    (hs : starEach [a, b, c] X.env = (false, eval a X.env) :: starEach [b, c] X.env := by rfl) (hs2 : starEach [b, c] X.env = (false, eval b X.env) :: starEach [c] X.env := by rfl) (hs3 : starEach [c] X.env = (false, eval c X.env) :: starEach [] X.env := by rfl) (hpl : (backTo pos (starEach [b, c] X.env)).any (·.1) = false := by rfl) :
    SI X cl W (.Tuple elts kk tpos) (.Call (.Name "zip" p) [a, b, c] [] pos) (iZip3 mo mp mq) :=
  (pi_z3 hg hm (pa_cons ha (pa_cons hb (pa_cons hc pa_nil hs3) hs2) hs) hs hpl).imp fun sg H R ⟨env, h, io, E, hr, p⟩ => rd_mk E hr (p.bindAt .refl fun lv h1 v io1 H1 s1 r1 q1 p1 => rd_mk (E.step s1) r1 (p1.bindAt s1 fun lv2 h2 v2 io2 H2 s2 r2 q2 p2 => rd_mk ((E.step s1).step s2) r2 (p2.bindAt (s1.trans s2) fun lv3 h3 v3 io3 H3 s3 r3 q3 p3 => by
    split at p3
    · rename_i xs ys zs e e' e''
      obtain ⟨u, vs, as, rfl, g1, g2, ap, g3⟩ := src_of (Hs := H) r3 (Gb.RLV.step (Gb.RLV.step (show RLV X.K H io1 H1 lv v from q1) s2) s3) e
      have q2' : RLV X.K H io2 H2 lv2 v2 := Back.back s1 s2.pre q2
      obtain ⟨u', vs', as', rfl, g1', g2', ap', g3'⟩ := src_of (Hs := H) r3 (Gb.RLV.step q2' s3) e'
      have q3' : RLV X.K H io3 H3 lv3 v3 := Back.back (s1.trans s2) s3.pre q3
      obtain ⟨u'', vs'', as'', rfl, g1'', g2'', ap'', g3''⟩ := src_of (Hs := H) r3 q3' e''
      refine ⟨u, u', u'', vs, vs', vs'', rfl, g1, g1', g1'', p3 _ io3 H3 ((s1.trans s2).trans s3) r3 ⟨as ++ (as' ++ as''), _, _, ap.app (ap'.app ap''), walk_p3 (n1 := xs.length) (n2 := ys.length) (n3 := zs.length) (by simp), fun io3 H3 h3 s3 r3 l3 => ?_, fun i io3 H3 h3 x H' d s3 r3 l3 hd y => ?_⟩⟩
      · rw [live_eq, depsLive_app, depsLive_app, Bool.and_eq_true, Bool.and_eq_true] at l3
        obtain ⟨ws, hw, rw'⟩ := g3 io3 H3 h3 (s3.sub fun a m => by simp [m]) r3 l3.1
        obtain ⟨ws', hw', rw2⟩ := g3' io3 H3 h3 (s3.sub fun a m => by simp [m]) r3 l3.2.1
        obtain ⟨ws'', hw'', rw3⟩ := g3'' io3 H3 h3 (s3.sub fun a m => by simp [m]) r3 l3.2.2
        exact ⟨ws, ws', ws'', ⟨hw, rw'.length.symm⟩, ⟨hw', rw2.length.symm⟩, hw'', rw3.length.symm⟩
      · rw [live_eq, depsLive_app, depsLive_app, Bool.and_eq_true, Bool.and_eq_true] at l3
        obtain ⟨ws, hw, rw'⟩ := g3 io3 H3 h3 (s3.sub fun a m => by simp [m]) r3 l3.1
        obtain ⟨ws', hw', rw2⟩ := g3' io3 H3 h3 (s3.sub fun a m => by simp [m]) r3 l3.2.1
        obtain ⟨ws'', hw'', rw3⟩ := g3'' io3 H3 h3 (s3.sub fun a m => by simp [m]) r3 l3.2.2
        obtain ⟨T, o, z, z', z'', rfl, hT, ho, rfl, hy, hy', hy''⟩ := y
        obtain ⟨dx, dyz, e3, e3', rfl⟩ := get_zip hd
        obtain ⟨dy, dz, e5, e5', rfl⟩ := get_zip (f := Prod.mk) e3'
        obtain ⟨w, e4, r4⟩ := rw'.get e3
        obtain ⟨w', e4', r4'⟩ := rw2.get e5
        obtain ⟨w'', e4'', r4''⟩ := rw3.get e5'
        rw [hy ws hw] at e4; cases e4
        rw [hy' ws' hw'] at e4'; cases e4'
        rw [hy'' ws'' hw''] at e4''; cases e4''
        exact ⟨Step.laid hT, r3.laid hT, rep_pair hT ho ⟨_, _, rfl, r4, _, _, rfl, r4', _, _, rfl, r4'', rfl⟩⟩
    · exact p3.elim)))

/-! ### for, while -/
theorem ss_for {g : TgM} {kill : List Nat} (hp : PassesOwn (model X.prog X.w) X.A X.env X.xe) (hc : X.calm = true) (hi : SI X cl W tg a mi) (hg : SG X tg g) (hb : SB X cl W sa m) (hs : ∀ x, foldedSetIterable a X.env x = pure x := by intro _; rfl) : SS X cl W (.For tg a sa [] pos) (sFor mi g m kill) :=
  (ps_for hp hc hi hg hb hs).imp fun D sg H ⟨env, h, io, E, hr, p⟩ => rdI_mk E hr (p.out E fun t h1 J io1 H1 e1 s1 r1 q1 p1 => by
    obtain ⟨as, G, Y, ap, w, hG, hY⟩ := q1
    refine for_it w (fun i sg H => ∃ env h io, Step X.K io1 H1 io H ∧ ERel X.K io H sg env ∧ HRel X.K cl io H h ∧ postS X.K cl W io H (forL g m kill t (t.items.drop i) env h) D) ⟨env, h1, io1, .refl, E.step s1, r1, p1⟩ ?_ ?_ ?_
    · rintro i sg2 H2 hi ⟨env2, h2, io2, s2, E2, r2, p2⟩
      refine hG io2 H2 h2 (s2.keeps ap) r2 ?_
      cases q : t.items.drop i with
      | nil =>
        rw [q] at p2
        unfold forL at p2
        split at p2
        · assumption
        · exact p2.elim
      | cons d ds =>
        rw [q] at p2
        unfold forL at p2
        split at p2
        · assumption
        · exact p2.elim
    · rintro i x sg2 H2 H' hi ⟨env2, h2, io2, s2, E2, r2, p2⟩ y
      obtain ⟨d, hd⟩ : ∃ d, t.items[i]? = some d := ⟨t.items[i], List.getElem?_eq_getElem hi⟩
      have ed : t.items.drop i = d :: t.items.drop (i + 1) := by
        rw [List.drop_eq_getElem_cons hi]
        rw [List.getElem?_eq_getElem hi] at hd
        cases hd
        rfl
      rw [ed] at p2
      unfold forL at p2
      split at p2
      · rename_i hl
        obtain ⟨s3, r3, rd⟩ := hY i io2 H2 h2 x H' d (s2.keeps ap) r2 hl hd y
        have E3 := (E2.wipe kill).step s3
        cases q2 : g.set d (wipeE env2 kill) with
        | none => rw [q2] at p2; exact p2.elim
        | some e3 =>
          rw [q2] at p2
          simp only at p2
          refine ⟨d, io2, _, e3, rd, E3, q2, fun sg' E' _ => ⟨e3, h2, io2, E', r3, ?_⟩⟩
          cases q3 : m e3 h2 with
          | nx e h3 =>
            rw [q3] at p2
            simp only at p2
            exact fun io' sg' H3 s4 E4 r4 => ⟨e, h3, io', (s2.trans s3).trans s4, E4, r4, p2.step (s3.trans s4)⟩
          | ct e h3 =>
            rw [q3] at p2
            simp only at p2
            exact fun io' sg' H3 s4 E4 r4 => ⟨e, h3, io', (s2.trans s3).trans s4, E4, r4, p2.step (s3.trans s4)⟩
          | bk e h3 => rw [q3] at p2; exact fun io' sg' H3 s4 E4 r4 => p2 io' sg' H3 (s3.trans s4) E4 r4
          | rt d h3 => rw [q3] at p2; exact fun v io' H3 s4 r4 q4 => p2 v io' H3 (s3.trans s4) r4 q4
          | exc x e h3 => rw [q3] at p2; exact fun cls dd io' sg' H3 s4 E4 r4 q4 => p2 cls dd io' sg' H3 (s3.trans s4) E4 r4 q4
          | stuck => rw [q3] at p2; exact p2.elim
      · exact p2.elim
    · rintro sg2 H2 ⟨env2, h2, io2, s2, E2, r2, p2⟩
      rw [List.drop_length] at p2
      unfold forL at p2
      split at p2
      · exact p2 io2 sg2 H2 .refl (E2.wipe kill) r2
      · exact p2.elim)
theorem ss_while {kill : List Nat} (hp : PassesOwn (model X.prog X.w) X.A X.env X.xe) (hc : ST X cl W c mt) (hb : SB X cl W sa m) : SS X cl W (.While c sa [] pos) (sWhile mt m kill) :=
  (ps_while hp hc hb).imp fun D sg H ⟨env, h, io, E, hr, p⟩ => by
    refine ⟨fun k sg H => ∃ env h io, ERel X.K io H sg env ∧ HRel X.K cl io H h ∧ postS X.K cl W io H (whileL mt m kill k env h) D, ⟨_, env, h, io, E, hr, p⟩, ?_⟩
    rintro k sg2 H2 ⟨env2, h2, io2, E2, r2, p2⟩
    cases k with
    | zero => exact p2.elim
    | succ k =>
      unfold whileL at p2
      have E0 := E2
      have E2 := E2.wipe kill
      refine rd_mk E2 r2 (p2.out E0 fun b h3 b' io3 H3 e3 s3 r3 q3 p3 => ?_)
      cases q3
      have E3 := E2.step s3
      cases b with
      | false => exact iteF (p3 io3 sg2 H3 .refl E3 r3)
      | true =>
        refine iteT ⟨fun sg H => ∃ env h io, ERel X.K io H sg env ∧ HRel X.K cl io H h ∧ postS X.K cl W io H (whileL mt m kill k env h) D, fun sg' H' hh => ⟨k, Nat.lt_succ_self k, hh⟩, rdS_mk E3 r3 ?_⟩
        simp only at p3
        cases q4 : m (wipeE env2 kill) h3 with
        | nx e h4 => rw [q4] at p3; exact fun io' sg' H' s4 E4 r4 => ⟨e, h4, io', E4, r4, p3.step s4⟩
        | ct e h4 => rw [q4] at p3; exact fun io' sg' H' s4 E4 r4 => ⟨e, h4, io', E4, r4, p3.step s4⟩
        | bk e h4 => rw [q4] at p3; exact p3
        | rt d h4 => rw [q4] at p3; exact p3
        | exc x e h4 => rw [q4] at p3; exact p3
        | stuck => rw [q4] at p3; exact p3.elim
end
end Gb

/-! GbI: comprehensions -/
namespace Gb
open PySem L2
/-- within a comprehension nothing may be raised -/
def WF : WX := fun _ _ _ _ => False
theorem takesF (X : Cx) : Takes X WF := fun _ _ ⟨_, _, _, _, _, _, _, _, _, _, _, _, _, _, _, _, w⟩ => w.elim
theorem wipe_none {sg : L2.St} : ∀ {vs ws : List Nat}, (∀ i ∈ vs, i ∈ ws) → wipe (wipe sg vs) ws = wipe sg ws
  | [], _, _ => rfl
  | v :: vs, ws, h => by
    show wipe ((wipe sg vs).set v none) ws = _
    rw [wipe_set (h v (by simp)), wipe_none fun i m => h i (by simp [m])]
section
variable {K : PySem.W.Frag} {cl : Nat → Addr} {W : WX} {io io1 : List Addr} {sg sg1 : L2.St} {H H1 : Hp} {h : PHeap} {Dd : Addr} {av ws : List V}
theorem postR.calm {α β γ δ : Type} {R : Hp → List Addr → Hp → α → β → Prop} {S : Hp → List Addr → Hp → γ → δ → Prop} {r : Res α} {f : α → PHeap → Res γ} {Q : δ → Hp → Prop} {Q' : β → Hp → Prop} (p : postR S K cl W io1 sg1 H1 (r.calm.bind f) Q)
    (k : ∀ a h b io2 H2, Step K io H io2 H2 → HRel K cl io2 H2 h → R H io2 H2 a b → postR S K cl W io1 sg1 H1 (f a h) Q → Q' b H2) : postR R K cl WF io sg H r Q' := by
  cases r with
  | ok a h => exact fun b io2 H2 s hr q => k a h b io2 H2 s hr q p
  | exc e h => exact p.elim
  | stuck => exact p
/-! a list that stands apart is written -/
theorem tup_over (e : H Dd = some (.lst av)) {a : Addr} {vs : List V} (s : TupA K H a vs) : TupA K (upd H Dd (.lst ws)) a vs :=
  sqT_keep (fun b o u q => by rw [upd_ne (fun z => by rw [z, e] at q; cases q)]; exact q) s
theorem fro_over (e : H Dd = some (.lst av)) {a : Addr} {vs : FX} (s : FroL K H a vs) : FroL K (upd H Dd (.lst ws)) a vs :=
  fro_keep (fun b o u q => by rw [upd_ne (fun z => by rw [z, e] at q; cases q)]; exact q) s
theorem Rep.over (e : H Dd = some (.lst av)) {d : D} {v : V} (r : Rep K io H d v) : Rep K io (upd H Dd (.lst ws)) d v := r.mono (fun _ _ h => h) (fun _ _ => tup_over e) fun _ _ => fro_over e
theorem RepL.over (e : H Dd = some (.lst av)) {d : List D} {v : List V} (r : RepL K io H d v) : RepL K io (upd H Dd (.lst ws)) d v := r.mono (fun _ _ h => h) (fun _ _ => tup_over e) fun _ _ => fro_over e
theorem HRel.over (e : H Dd = some (.lst av)) (n : Dd ∉ io) (r : HRel K cl io H h) : HRel K cl io (upd H Dd (.lst ws)) h := by
  refine ⟨r.len, r.nd, fun i a c h1 h2 => ?_⟩
  have na : a ≠ Dd := fun z => n (by rw [← z]; exact List.mem_of_getElem? h1)
  have q := r.cell i a c h1 h2
  cases c with
  | lst xs => obtain ⟨vs, g1, g2⟩ := q; exact ⟨vs, by rw [upd_ne na]; exact g1, g2.over e⟩
  | map xs => obtain ⟨o, ys, g1, g2, g3⟩ := q; exact ⟨o, ys, by rw [upd_ne na]; exact g1, g2, g3.mono (fun _ _ h => h) (fun _ _ => tup_over e) fun _ _ => fro_over e⟩
  | dead => obtain ⟨o, g1⟩ := q; exact ⟨o, by rw [upd_ne na]; exact g1⟩
  | kst ks => exact (upd_ne na).trans q
  | ins c fs => obtain ⟨dx, vs, g1, g2⟩ := q; exact ⟨dx, vs, by rw [upd_ne na]; exact g1, g2.1, g2.2.over e⟩
theorem Step.over (s : Step K io1 H1 io H) (n1 : H1 Dd = none) (e : H Dd = some (.lst av)) : Step K io1 H1 io (upd H Dd (.lst ws)) :=
  ⟨s.pre, s.new, fun b o h m => by rw [upd_ne (fun z => by rw [z, n1] at h; cases h)]; exact s.keep b o h m, fun a vs h => tup_over e (s.tup a vs h), fun a vs h => fro_over e (s.fro a vs h)⟩
theorem Keeps.over {as : List Addr} (s : Keeps K as io1 H1 io H) (n1 : Dd ∉ as) (e : H Dd = some (.lst av)) : Keeps K as io1 H1 io (upd H Dd (.lst ws)) :=
  ⟨s.pre, fun a vs h => tup_over e (s.tup a vs h), fun a vs h => fro_over e (s.fro a vs h), fun a m => by rw [upd_ne (fun z => n1 (by rw [← z]; exact m))]; exact s.same a m⟩
theorem Keeps.trans {as : List Addr} {io2 : List Addr} {H2 : Hp} {Hs : Hp} (s : Keeps K as io1 H1 io H) (ap : Apart Hs as io1 H1) (t : Step K io H io2 H2) (hn : ∀ a ∈ as, a ∉ io) : Keeps K as io1 H1 io2 H2 := by
  obtain ⟨l, e⟩ := s.pre
  obtain ⟨l2, e2⟩ := t.pre
  refine ⟨⟨l ++ l2, by rw [e2, e, List.append_assoc]⟩, fun a vs h => t.tup a vs (s.tup a vs h), fun a vs h => t.fro a vs (s.fro a vs h), fun a m => ?_⟩
  obtain ⟨_, _, o, eo⟩ := ap a m
  rw [eo]
  exact t.keep a o (by rw [s.same a m]; exact eo) (hn a m)
end
section
variable {X : Cx} {cl : Nat → Addr} {W : WX} {a b c e o tg elt iter : Expr} {ifs : List Expr} {es : List Expr} {ma mb mc me : ME} {ml : MA} {mo mp mq : MO} {mt : MT} {mi : MI} {pos p p2 : Pos} {scope : Scope} {own : List (Str × Nat)} {g : TgM}
theorem st_yes : PTs X [] (rd RBool X.K cl W tYesM) := ⟨fun pins s sg H Q I ⟨env, h, io, E, hr, p⟩ => pts_nil.run pins s sg H Q I (p.here hr rfl)⟩
theorem st_oneT (h : ST X cl W c mt) : PTs X [c] (rd RBool X.K cl W mt) := pts_one h
theorem lc_read {vs : List Nat} (hsl : ∀ i ∈ g.slots, i ∈ vs) {sg : L2.St} {H : Hp} {Q : VK} (q : rd (RNew X.K) X.K cl W (mLc mi g mt me vs) sg H Q) : tLc (rdI X.K cl W mi) (rdG X.K g) (rd RBool X.K cl WF mt) (rd (RRep X.K) X.K cl WF me) vs sg H Q := by
  obtain ⟨env, h, io, E, hr, p⟩ := q
  exact rdI_mk E hr (p.bind fun t h1 J io1 H1 e1 s1 r1 q1 p1 => by
    obtain ⟨as, G, Y, ap, w, hG, hY⟩ := q1
    intro Dd hD
    have hz : sizeLine = 16777216 := sizeLine_eq
    have E1 := (E.step s1).wipe2 vs
    refine lc_it (g := rdG X.K g) (tt := rd RBool X.K cl WF mt) (te := rd (RRep X.K) X.K cl WF me) w (fun i Hc => ∃ h io acc av, Step X.K io1 H1 io Hc ∧ HRel X.K cl io Hc h ∧ Hc Dd = some (.lst av) ∧ Dd ∉ io ∧ RepL X.K io Hc acc av ∧
      postR (RNew X.K) X.K cl W io1 sg H1 (lcL g mt me t (wipeE env vs) (t.items.drop i) acc h) Q) ⟨h1, io1, [], [], Step.laid hD, r1.laid hD, upd_same, r1.out hD, rfl, p1⟩ ?_ ?_ ?_
    · rintro i Hc hi ⟨h2, io2, acc, av, s2, r2, d2, n2, rl, p2⟩
      refine hG io2 Hc h2 (s2.keeps ap) r2 ?_
      cases q : t.items.drop i with
      | nil =>
        rw [q] at p2
        unfold lcL at p2
        split at p2
        · assumption
        · exact p2.elim
      | cons d ds =>
        rw [q] at p2
        unfold lcL at p2
        split at p2
        · assumption
        · exact p2.elim
    · rintro i x Hc H' hi ⟨h2, io2, acc, av, s2, r2, d2, n2, rl, p2⟩ y
      obtain ⟨d, hd⟩ : ∃ d, t.items[i]? = some d := ⟨t.items[i], List.getElem?_eq_getElem hi⟩
      have ed : t.items.drop i = d :: t.items.drop (i + 1) := by
        rw [List.drop_eq_getElem_cons hi]
        rw [List.getElem?_eq_getElem hi] at hd
        cases hd
        rfl
      rw [ed] at p2
      unfold lcL at p2
      split at p2
      · rename_i hl
        obtain ⟨s3, r3, rd'⟩ := hY i io2 Hc h2 x H' d (s2.keeps ap) r2 hl hd y
        have E3 := (E1.step s2).step s3
        have d3 := s3.keep Dd _ d2 n2
        cases q2 : g.set d (wipeE env vs) with
        | none => rw [q2] at p2; exact p2.elim
        | some e3 =>
          rw [q2] at p2
          simp only at p2
          refine ⟨d, io2, _, e3, rd', E3, q2, fun sg' E' hw => ⟨by rw [hw _ hsl, wipe_none fun i m => m], ⟨e3, h2, io2, E', r3, p2.calm fun k h4 b io4 H4 s4 r4 q4 p4 => ?_⟩⟩⟩
          cases q4
          have d4 := s4.keep Dd _ d3 n2
          have n4 := s4.out d3 n2
          cases k with
          | false => exact iteF ⟨h4, io4, acc, av, (s2.trans s3).trans s4, r4, d4, n4, (rl.step s3 _ _).step s4 _ _, p4⟩
          | true =>
            refine iteT ⟨e3, h4, io4, E'.step s4, r4, p4.calm fun y h5 yv io5 H5 s5 r5 q5 p5 => ?_⟩
            have d5 := s5.keep Dd _ d4 n4
            have n5 := s5.out d4 n4
            have rl5 := ((rl.step s3 _ _).step s4 _ _).step s5 _ _
            have l5 := rl5.length
            split at p5
            · exact ⟨av, d5, by omega, h5, io5, acc ++ [y], av ++ [yv], (((s2.trans s3).trans s4).trans s5).over hD d5, r5.over d5 n5, upd_same, n5, (rl5.append (show RepL X.K io5 H5 [y] [yv] from ⟨yv, [], rfl, q5, rfl⟩)).over d5, p5⟩
            · exact p5.elim
      · exact p2.elim
    · rintro Hc ⟨h2, io2, acc, av, s2, r2, d2, n2, rl, p2⟩
      rw [List.drop_length] at p2
      unfold lcL at p2
      split at p2
      · exact p2 _ io2 Hc s2 r2 ⟨Dd, av, rfl, hD, n2, d2, rl⟩
      · exact p2.elim)
theorem sn_lc (hc : X.calm = true) (hN : X.N.Nodup) (hi : SI X cl W tg iter mi) (ok : BlkOk X.N X.env.scope scope own)
    (hg : ∀ (s : Shared) (H : Hp) (C : Addr) (cl' : List (Str × Addr)) (fp : List Addr), SG (X.blk s H scope (compEnvC scope cl' C X.env) fp) tg g)
    (ht : ∀ (s : Shared) (H : Hp) (C : Addr) (cl' : List (Str × Addr)) (fp : List Addr), PTs (X.blk s H scope (compEnvC scope cl' C X.env) fp) ifs (rd RBool X.K cl WF mt))
    (he : ∀ (s : Shared) (H : Hp) (C : Addr) (cl' : List (Str × Addr)) (fp : List Addr), SE (X.blk s H scope (compEnvC scope cl' C X.env) fp) cl WF elt me)
    (hsl : ∀ i ∈ g.slots, i ∈ own.map (·.2) := by decide) (hs : ∀ x, foldedSetIterable iter X.env x = pure x := by intro _; rfl) : SN X cl W (.ListComp elt [⟨tg, iter, ifs, 0⟩] scope pos) (mLc mi g mt me (own.map (·.2))) :=
  (pe_lc (g := rdG X.K g) (wi := rdI X.K cl W mi) (tt := rd RBool X.K cl WF mt) (te := rd (RRep X.K) X.K cl WF me) hc hN hi ok hg ht he hs).imp fun sg H Q q => lc_read hsl q
theorem lc2_read {mi1 : MI} {mt1 : MT} {g1 : TgM} {vs vs1 : List Nat} (hsl : ∀ i ∈ g.slots, i ∈ vs) (hsl1 : ∀ i ∈ g1.slots, i ∈ vs1) {sg : L2.St} {H : Hp} {Q : VK} (q : rd (RNew X.K) X.K cl W (mLc2 mi g mt mi1 g1 mt1 me vs vs1) sg H Q) :
    tLc2 (rdI X.K cl W mi) (rdG X.K g) (rd RBool X.K cl WF mt) (rdI X.K cl WF mi1) (rdG X.K g1) (rd RBool X.K cl WF mt1) (rd (RRep X.K) X.K cl WF me) vs vs1 sg H Q := by
  obtain ⟨env, h, io, E, hr, p⟩ := q
  exact rdI_mk E hr (p.bind fun t h1 J io1 H1 e1 s1 r1 q1 p1 => by
    obtain ⟨as, G, Y, ap, w, hG, hY⟩ := q1
    intro Dd hD
    have hz : sizeLine = 16777216 := sizeLine_eq
    have E1 := (E.step s1).wipe2 vs
    have alive : ∀ {i : Nat} {acc : List D} {h : PHeap}, i ≤ t.items.length → postR (RNew X.K) X.K cl W io1 sg H1 (lc2L g mt mi1 g1 mt1 me vs1 t (wipeE env vs) (t.items.drop i) acc h) Q → t.live h = true := by
      intro i acc h _ p2
      cases q : t.items.drop i with
      | nil =>
        rw [q] at p2
        unfold lc2L at p2
        split at p2
        · assumption
        · exact p2.elim
      | cons d ds =>
        rw [q] at p2
        unfold lc2L at p2
        split at p2
        · assumption
        · exact p2.elim
    refine ⟨fun i m Hc => m = t.items.length - i ∧ i ≤ t.items.length ∧ ∃ h io acc av, Step X.K io1 H1 io Hc ∧ HRel X.K cl io Hc h ∧ Hc Dd = some (.lst av) ∧ Dd ∉ io ∧ RepL X.K io Hc acc av ∧
      postR (RNew X.K) X.K cl W io1 sg H1 (lc2L g mt mi1 g1 mt1 me vs1 t (wipeE env vs) (t.items.drop i) acc h) Q, ⟨_, rfl, Nat.zero_le _, h1, io1, [], [], Step.laid hD, r1.laid hD, upd_same, r1.out hD, rfl, p1⟩, ?_⟩
    rintro i m Hc ⟨rfl, hile, h2, io2, acc, av, s2, r2, d2, n2, rl, p2⟩
    have lv := alive hile p2
    have GG := hG io2 Hc h2 (s2.keeps ap) r2 lv
    rcases Nat.lt_or_ge i t.items.length with hi | hge
    · refine .inr ⟨w.goes i Hc hi GG, fun Hn => ∃ h io acc av, Step X.K io1 H1 io Hn ∧ HRel X.K cl io Hn h ∧ Hn Dd = some (.lst av) ∧ Dd ∉ io ∧ RepL X.K io Hn acc av ∧
        postR (RNew X.K) X.K cl W io1 sg H1 (lc2L g mt mi1 g1 mt1 me vs1 t (wipeE env vs) (t.items.drop (i + 1)) acc h) Q, fun H' hh => ⟨t.items.length - (i + 1), by omega, rfl, hi, hh⟩, fun x H' y => ?_⟩
      have y := w.yields i Hc x H' hi GG y
      obtain ⟨d, hd⟩ : ∃ d, t.items[i]? = some d := ⟨t.items[i], List.getElem?_eq_getElem hi⟩
      have ed : t.items.drop i = d :: t.items.drop (i + 1) := by
        rw [List.drop_eq_getElem_cons hi]
        rw [List.getElem?_eq_getElem hi] at hd
        cases hd
        rfl
      rw [ed] at p2
      unfold lc2L at p2
      rw [if_pos lv] at p2
      obtain ⟨s3, r3, rd'⟩ := hY i io2 Hc h2 x H' d (s2.keeps ap) r2 lv hd y
      have E3 := (E1.step s2).step s3
      have d3 := s3.keep Dd _ d2 n2
      cases q2 : g.set d (wipeE env vs) with
      | none => rw [q2] at p2; exact p2.elim
      | some e3 =>
        rw [q2] at p2
        simp only at p2
        refine ⟨d, io2, _, e3, rd', E3, q2, fun sg' E' hw => ⟨by rw [hw _ hsl, wipe_none fun i m => m], ⟨e3, h2, io2, E', r3, p2.calm fun k h4 b io4 H4 s4 r4 q4 p4 => ?_⟩⟩⟩
        cases q4
        have d4 := s4.keep Dd _ d3 n2
        have n4 := s4.out d3 n2
        have s14 := (s2.trans s3).trans s4
        have rl4 := (rl.step s3 _ _).step s4 _ _
        cases k with
        | false => exact iteF ⟨h4, io4, acc, av, s14, r4, d4, n4, rl4, p4⟩
        | true =>
          refine iteT ⟨e3, h4, io4, E'.step s4, r4, p4.calm fun t1 h5 J1 io5 H5 s5 r5 q5 p5 => ?_⟩
          obtain ⟨as1, G1, Y1, ap1, w1, hG1, hY1⟩ := q5
          have nD1 : Dd ∉ as1 := fun m => by
            obtain ⟨z, _⟩ := ap1 Dd m
            rw [d4] at z; cases z
          have d5 := s5.keep Dd _ d4 n4
          have n5 := s5.out d4 n4
          have E5 := ((E'.step s4).step s5).wipe2 vs1
          have K5 : Keeps X.K as1 io5 H5 io5 H5 := (Step.refl).keeps ap1
          -- the inner walk
          have alive1 : ∀ {j : Nat} {acc : List D} {h : PHeap}, postR (RNew X.K) X.K cl W io1 sg H1 ((lc2In g1 mt1 me t1 (wipeE e3 vs1) (t1.items.drop j) acc h).bind fun acc' h3 => lc2L g mt mi1 g1 mt1 me vs1 t (wipeE env vs) (t.items.drop (i + 1)) acc' h3) Q → t1.live h = true := by
            intro j acc h p2
            cases q : t1.items.drop j with
            | nil =>
              rw [q] at p2
              unfold lc2In at p2
              split at p2
              · assumption
              · exact p2.elim
            | cons d ds =>
              rw [q] at p2
              unfold lc2In at p2
              split at p2
              · assumption
              · exact p2.elim
          refine ⟨fun j m Hc => m = t1.items.length - j ∧ j ≤ t1.items.length ∧ ∃ h io acc av, Keeps X.K as1 io5 H5 io Hc ∧ (∀ a ∈ as1, a ∉ io) ∧ Step X.K io1 H1 io Hc ∧ ERel X.K io Hc (wipe sg' vs1) (wipeE e3 vs1) ∧ HRel X.K cl io Hc h ∧ Hc Dd = some (.lst av) ∧ Dd ∉ io ∧ RepL X.K io Hc acc av ∧
            postR (RNew X.K) X.K cl W io1 sg H1 ((lc2In g1 mt1 me t1 (wipeE e3 vs1) (t1.items.drop j) acc h).bind fun acc' h3 => lc2L g mt mi1 g1 mt1 me vs1 t (wipeE env vs) (t.items.drop (i + 1)) acc' h3) Q,
            ⟨_, rfl, Nat.zero_le _, h5, io5, acc, av, K5, fun a m => (ap1 a m).2.1, s14.trans s5, E5, r5, d5, n5, rl4.step s5 _ _, p5⟩, ?_⟩
          rintro j m Hj ⟨rfl, hjle, h6, io6, acc6, av6, k6, o6, s6, E6, r6, d6, n6, rl6, p6⟩
          have lv1 := alive1 p6
          have GG1 := hG1 io6 Hj h6 k6 r6 lv1
          rcases Nat.lt_or_ge j t1.items.length with hj | hge
          · refine .inr ⟨w1.goes j Hj hj GG1, fun Hn => ∃ h io acc av, Keeps X.K as1 io5 H5 io Hn ∧ (∀ a ∈ as1, a ∉ io) ∧ Step X.K io1 H1 io Hn ∧ ERel X.K io Hn (wipe sg' vs1) (wipeE e3 vs1) ∧ HRel X.K cl io Hn h ∧ Hn Dd = some (.lst av) ∧ Dd ∉ io ∧ RepL X.K io Hn acc av ∧
              postR (RNew X.K) X.K cl W io1 sg H1 ((lc2In g1 mt1 me t1 (wipeE e3 vs1) (t1.items.drop (j + 1)) acc h).bind fun acc' h3 => lc2L g mt mi1 g1 mt1 me vs1 t (wipeE env vs) (t.items.drop (i + 1)) acc' h3) Q,
              fun H' hh => ⟨t1.items.length - (j + 1), by omega, rfl, hj, hh⟩, fun x1 H' y1 => ?_⟩
            have y1 := w1.yields j Hj x1 H' hj GG1 y1
            obtain ⟨d', hd'⟩ : ∃ d, t1.items[j]? = some d := ⟨t1.items[j], List.getElem?_eq_getElem hj⟩
            have ed' : t1.items.drop j = d' :: t1.items.drop (j + 1) := by
              rw [List.drop_eq_getElem_cons hj]
              rw [List.getElem?_eq_getElem hj] at hd'
              cases hd'
              rfl
            rw [ed'] at p6
            unfold lc2In at p6
            rw [if_pos lv1] at p6
            obtain ⟨s7, r7, rd7⟩ := hY1 j io6 Hj h6 x1 H' d' k6 r6 lv1 hd' y1
            have E7 := E6.step s7
            have d7 := s7.keep Dd _ d6 n6
            have k7 := k6.trans ap1 s7 o6
            cases q7 : g1.set d' (wipeE e3 vs1) with
            | none => rw [q7] at p6; exact p6.elim
            | some e8 =>
              rw [q7] at p6
              simp only at p6
              refine ⟨d', io6, _, e8, rd7, E7, q7, fun sg8 E8 hw8 => ⟨by rw [hw8 _ hsl1, wipe_none fun i m => m], ⟨e8, h6, io6, E8, r7, ?_⟩⟩⟩
              have p6' : postR (RNew X.K) X.K cl W io1 sg H1 ((mt1 e8 h6).calm.bind fun k h1 => ((match k with
                | false => lc2In g1 mt1 me t1 (wipeE e3 vs1) (t1.items.drop (j + 1)) acc6 h1
                | true => (me e8 h1).calm.bind fun y h2 => if acc6.length < 16777216 then lc2In g1 mt1 me t1 (wipeE e3 vs1) (t1.items.drop (j + 1)) (acc6 ++ [y]) h2 else .stuck).bind fun acc' h3 => lc2L g mt mi1 g1 mt1 me vs1 t (wipeE env vs) (t.items.drop (i + 1)) acc' h3)) Q := by
                cases q9 : (mt1 e8 h6).calm with
                | ok k h9 => rw [q9] at p6; exact p6
                | exc e h9 => rw [q9] at p6; exact p6
                | stuck => rw [q9] at p6; exact p6
              refine p6'.calm fun k h9 b9 io9 H9 s9 r9 q9 p9 => ?_
              cases q9
              have d9 := s9.keep Dd _ d7 n6
              have n9 := s9.out d7 n6
              have o9 : ∀ a ∈ as1, a ∉ io9 := fun a m => by
                obtain ⟨_, _, o, eo⟩ := ap1 a m
                exact s9.out (show H' a = some o by rw [k7.same a m, eo]) (o6 a m)
              have k9 := k7.trans ap1 s9 o6
              cases k with
              | false => exact iteF ⟨h9, io9, acc6, av6, k9, o9, (s6.trans s7).trans s9, E7.step s9, r9, d9, n9, (rl6.step s7 _ _).step s9 _ _, p9⟩
              | true =>
                refine iteT ⟨e8, h9, io9, E8.step s9, r9, ?_⟩
                have p9' : postR (RNew X.K) X.K cl W io1 sg H1 ((me e8 h9).calm.bind fun y h2 => ((if acc6.length < 16777216 then lc2In g1 mt1 me t1 (wipeE e3 vs1) (t1.items.drop (j + 1)) (acc6 ++ [y]) h2 else .stuck).bind fun acc' h3 => lc2L g mt mi1 g1 mt1 me vs1 t (wipeE env vs) (t.items.drop (i + 1)) acc' h3)) Q := by
                  cases q10 : (me e8 h9).calm with
                  | ok k h10 => simp only [q10] at p9; exact p9
                  | exc e h10 => simp only [q10] at p9; exact p9
                  | stuck => simp only [q10] at p9; exact p9
                refine p9'.calm fun z h10 zv io10 H10 s10 r10 q10 p10 => ?_
                have d10 := s10.keep Dd _ d9 n9
                have n10 := s10.out d9 n9
                have rl10 := ((rl6.step s7 _ _).step s9 _ _).step s10 _ _
                have l10 := rl10.length
                have o10 : ∀ a ∈ as1, a ∉ io10 := fun a m => by
                  obtain ⟨_, _, o, eo⟩ := ap1 a m
                  exact s10.out (show H9 a = some o by rw [k9.same a m, eo]) (o9 a m)
                have k10 := k9.trans ap1 s10 o9
                split at p10
                · exact ⟨av6, d10, by omega, h10, io10, acc6 ++ [z], av6 ++ [zv], k10.over nD1 d10, o10, (((s6.trans s7).trans s9).trans s10).over hD d10,
                    ⟨((E7.step s9).step s10).len, fun i d hd => by obtain ⟨v, g1, g2⟩ := ((E7.step s9).step s10).get i d hd; exact ⟨v, g1, g2.over d10⟩⟩, HRel.over d10 n10 r10, upd_same, n10, RepL.over d10 (RepL.append rl10 (show RepL X.K io10 H10 [z] [zv] from ⟨zv, [], rfl, q10, rfl⟩)), p10⟩
                · exact p10.elim
          · have ej : j = t1.items.length := by omega
            subst ej
            rw [List.drop_length] at p6
            unfold lc2In at p6
            rw [if_pos lv1] at p6
            exact .inl ⟨w1.stops Hj GG1, h6, io6, acc6, av6, s6, r6, d6, n6, rl6, p6⟩
    · have ei : i = t.items.length := by omega
      subst ei
      rw [List.drop_length] at p2
      unfold lc2L at p2
      rw [if_pos lv] at p2
      exact .inl ⟨w.stops Hc GG, p2 _ io2 Hc s2 r2 ⟨Dd, av, rfl, hD, n2, d2, rl⟩⟩)
/-- two generators -/
theorem sn_lc2 {tg1 iter1 : Expr} {ifs1 : List Expr} {mi1 : MI} {mt1 : MT} {g1 : TgM} {vs1 : List Nat} (hc : X.calm = true) (hN : X.N.Nodup) (hi : SI X cl W tg iter mi) (ok : BlkOk X.N X.env.scope scope own)
    (hg : ∀ (s : Shared) (H : Hp) (C : Addr) (cl' : List (Str × Addr)) (fp : List Addr), SG (X.blk s H scope (compEnvC scope cl' C X.env) fp) tg g)
    (ht : ∀ (s : Shared) (H : Hp) (C : Addr) (cl' : List (Str × Addr)) (fp : List Addr), PTs (X.blk s H scope (compEnvC scope cl' C X.env) fp) ifs (rd RBool X.K cl WF mt))
    (hi1 : ∀ (s : Shared) (H : Hp) (C : Addr) (cl' : List (Str × Addr)) (fp : List Addr), SI (X.blk s H scope (compEnvC scope cl' C X.env) fp) cl WF tg1 iter1 mi1)
    (hg1 : ∀ (s : Shared) (H : Hp) (C : Addr) (cl' : List (Str × Addr)) (fp : List Addr), SG (X.blk s H scope (compEnvC scope cl' C X.env) fp) tg1 g1)
    (ht1 : ∀ (s : Shared) (H : Hp) (C : Addr) (cl' : List (Str × Addr)) (fp : List Addr), PTs (X.blk s H scope (compEnvC scope cl' C X.env) fp) ifs1 (rd RBool X.K cl WF mt1))
    (he : ∀ (s : Shared) (H : Hp) (C : Addr) (cl' : List (Str × Addr)) (fp : List Addr), SE (X.blk s H scope (compEnvC scope cl' C X.env) fp) cl WF elt me)
    (hsl : ∀ i ∈ g.slots, i ∈ own.map (·.2) := by decide) (hsl1 : ∀ i ∈ g1.slots, i ∈ vs1 := by decide) (hv : ∀ i ∈ vs1, i ∈ own.map (·.2) := by decide)
    (hs : ∀ x, foldedSetIterable iter X.env x = pure x := by intro _; rfl) (hs1 : ∀ env x, foldedSetIterable iter1 env x = pure x := by intro _ _; rfl) :
    SN X cl W (.ListComp elt [⟨tg, iter, ifs, 0⟩, ⟨tg1, iter1, ifs1, 0⟩] scope pos) (mLc2 mi g mt mi1 g1 mt1 me (own.map (·.2)) vs1) :=
  (pe_lc2 (g := rdG X.K g) (g1 := rdG X.K g1) (wi1 := rdI X.K cl WF mi1) (tt := rd RBool X.K cl WF mt) (tt1 := rd RBool X.K cl WF mt1) (te := rd (RRep X.K) X.K cl WF me) hc hN hi ok hv hg ht hi1 hg1 ht1 he hs hs1).imp fun sg H Q q => lc2_read hsl hsl1 q

/-- name = [..] -/
theorem asg_new {m : MA} {i : Nat} {D : Ends} {sg : L2.St} {H : Hp} (q : rdS X.K cl W (sAsg (mM (mNL m)) (.name i)) D sg H) : rd (RNew X.K) X.K cl W m sg H fun x H1 => D.nx (sg.set i (some x)) H1 := by
  obtain ⟨env, h, io, E, hr, p⟩ := q
  refine rd_mk E hr ?_
  unfold sAsg mM mNL at p
  cases e : m env h with
  | ok ds h1 =>
    rw [e] at p
    rintro v io1 H1 s1 r1 ⟨b, vs, rfl, h0, hn, hb, q⟩
    have st : Step X.K io H (io1 ++ [b]) H1 := s1.cell hn h0
    exact p _ _ H1 st ((E.step st).set ⟨b, by rw [List.getElem?_append_right (by rw [r1.len]; exact Nat.le_refl _), r1.len]; simp, rfl⟩) (r1.cell1 hn ⟨vs, hb, q⟩)
  | exc x h1 => rw [e] at p; exact fun cls dd io1 H1 s r q => p cls dd io1 sg H1 s (E.step s) r q
  | stuck => rw [e] at p; exact p
theorem ss_setLc {y : Str} {py spos : Pos} (i : Nat) (hc : X.calm = true) (hN : X.N.Nodup) (hi : SI X cl W tg iter mi) (ok : BlkOk X.N X.env.scope scope own)
    (hg : ∀ (s : Shared) (H : Hp) (C : Addr) (cl' : List (Str × Addr)) (fp : List Addr), SG (X.blk s H scope (compEnvC scope cl' C X.env) fp) tg g)
    (ht : ∀ (s : Shared) (H : Hp) (C : Addr) (cl' : List (Str × Addr)) (fp : List Addr), PTs (X.blk s H scope (compEnvC scope cl' C X.env) fp) ifs (rd RBool X.K cl WF mt))
    (he : ∀ (s : Shared) (H : Hp) (C : Addr) (cl' : List (Str × Addr)) (fp : List Addr), SE (X.blk s H scope (compEnvC scope cl' C X.env) fp) cl WF elt me)
    (hy : X.N[i]? = some y := by rfl) (hyl : X.env.scope.names.lookup y = some .local := by rfl)
    (hsw : swapsWith (.ListComp elt [⟨tg, iter, ifs, 0⟩] scope pos) (some (.Name y py)) spos.line X.env = pure true := by rfl)
    (hsl : ∀ i ∈ g.slots, i ∈ own.map (·.2) := by decide) (hs : ∀ x, foldedSetIterable iter X.env x = pure x := by intro _; rfl) :
    SS X cl W (.Assign [.Name y py] (.ListComp elt [⟨tg, iter, ifs, 0⟩] scope pos) spos) (sAsg (mM (mNL (mLc mi g mt me (own.map (·.2))))) (.name i)) :=
  (ps_setLc (g := rdG X.K g) (wi := rdI X.K cl W mi) (tt := rd RBool X.K cl WF mt) (te := rd (RRep X.K) X.K cl WF me) hc hN hy hyl hsw hi ok hg ht he hs).imp fun D sg H q => lc_read hsl (asg_new q)
theorem ss_setLc2 {y : Str} {py spos : Pos} {tg1 iter1 : Expr} {ifs1 : List Expr} {mi1 : MI} {mt1 : MT} {g1 : TgM} {vs1 : List Nat} (i : Nat) (hc : X.calm = true) (hN : X.N.Nodup) (hi : SI X cl W tg iter mi) (ok : BlkOk X.N X.env.scope scope own)
    (hg : ∀ (s : Shared) (H : Hp) (C : Addr) (cl' : List (Str × Addr)) (fp : List Addr), SG (X.blk s H scope (compEnvC scope cl' C X.env) fp) tg g)
    (ht : ∀ (s : Shared) (H : Hp) (C : Addr) (cl' : List (Str × Addr)) (fp : List Addr), PTs (X.blk s H scope (compEnvC scope cl' C X.env) fp) ifs (rd RBool X.K cl WF mt))
    (hi1 : ∀ (s : Shared) (H : Hp) (C : Addr) (cl' : List (Str × Addr)) (fp : List Addr), SI (X.blk s H scope (compEnvC scope cl' C X.env) fp) cl WF tg1 iter1 mi1)
    (hg1 : ∀ (s : Shared) (H : Hp) (C : Addr) (cl' : List (Str × Addr)) (fp : List Addr), SG (X.blk s H scope (compEnvC scope cl' C X.env) fp) tg1 g1)
    (ht1 : ∀ (s : Shared) (H : Hp) (C : Addr) (cl' : List (Str × Addr)) (fp : List Addr), PTs (X.blk s H scope (compEnvC scope cl' C X.env) fp) ifs1 (rd RBool X.K cl WF mt1))
    (he : ∀ (s : Shared) (H : Hp) (C : Addr) (cl' : List (Str × Addr)) (fp : List Addr), SE (X.blk s H scope (compEnvC scope cl' C X.env) fp) cl WF elt me)
    (hy : X.N[i]? = some y := by rfl) (hyl : X.env.scope.names.lookup y = some .local := by rfl)
    (hsw : swapsWith (.ListComp elt [⟨tg, iter, ifs, 0⟩, ⟨tg1, iter1, ifs1, 0⟩] scope pos) (some (.Name y py)) spos.line X.env = pure true := by rfl)
    (hsl : ∀ i ∈ g.slots, i ∈ own.map (·.2) := by decide) (hsl1 : ∀ i ∈ g1.slots, i ∈ vs1 := by decide) (hv : ∀ i ∈ vs1, i ∈ own.map (·.2) := by decide)
    (hs : ∀ x, foldedSetIterable iter X.env x = pure x := by intro _; rfl) (hs1 : ∀ env x, foldedSetIterable iter1 env x = pure x := by intro _ _; rfl) :
    SS X cl W (.Assign [.Name y py] (.ListComp elt [⟨tg, iter, ifs, 0⟩, ⟨tg1, iter1, ifs1, 0⟩] scope pos) spos) (sAsg (mM (mNL (mLc2 mi g mt mi1 g1 mt1 me (own.map (·.2)) vs1))) (.name i)) :=
  (ps_setLc2 (g := rdG X.K g) (g1 := rdG X.K g1) (wi := rdI X.K cl W mi) (wi1 := rdI X.K cl WF mi1) (tt := rd RBool X.K cl WF mt) (tt1 := rd RBool X.K cl WF mt1) (te := rd (RRep X.K) X.K cl WF me) hc hN hy hyl hsw hi ok hv hg ht hi1 hg1 ht1 he hs hs1).imp fun D sg H q => lc2_read hsl hsl1 (asg_new q)
end
end Gb

/-! GbJ: defs, calls, the law's end -/
namespace Gb
open PySem PySem.Spec PyProof.Rows L2

section
variable {K : PySem.W.Frag} {cl : Nat → Addr} {io l : List Addr} {H : Hp} {h : PHeap}
mutual
theorem Rep.small : ∀ (d : D) (v : V), d.small io.length = true → Rep K (io ++ l) H d v → Rep K io H d v
  | .non, _, _, h => h
  | .bl _, _, _, h => h
  | .int _, _, _, h => h
  | .str _, _, _, h => h
  | .ref n, _, s, ⟨a, h, e⟩ => ⟨a, by
      have s' : n < io.length := of_decide_eq_true s
      rw [List.getElem?_append_left s'] at h; exact h, e⟩
  | .tup xs, _, s, ⟨a, vs, e, h, r⟩ => ⟨a, vs, e, h, RepL.small xs vs s r⟩
  | .fro xs, _, s, ⟨a, vs, e, h, r⟩ => ⟨a, vs, e, h, RepL.small xs vs s r⟩
  | .lst _, _, _, r => r
  | .dct _ _, _, _, r => r
  | .map xs, _, s, ⟨a, o, ys, e, h, k, r⟩ => ⟨a, o, ys, e, h, k, RepI.small xs _ s r⟩
theorem RepL.small : ∀ (ds : List D) (vs : List V), D.smallL io.length ds = true → RepL K (io ++ l) H ds vs → RepL K io H ds vs
  | [], _, _, h => h
  | d :: ds, _, s, ⟨v, r, e, h, t⟩ => by
    simp only [D.smallL, Bool.and_eq_true] at s
    exact ⟨v, r, e, Rep.small d v s.1 h, RepL.small ds r s.2 t⟩
theorem RepI.small : ∀ (ds : List D) (vs : List (List V)), D.smallL io.length ds = true → RepI K (io ++ l) H ds vs → RepI K io H ds vs
  | [], _, _, h => h
  | .tup ds :: xs, _, s, ⟨v, r, e, h, t⟩ => by
    simp only [D.smallL, D.small, Bool.and_eq_true] at s
    exact ⟨v, r, e, RepL.small ds v s.1 h, RepI.small xs r s.2 t⟩
  | .non :: _, _, _, ⟨_, _, _, h, _⟩ => h.elim
  | .bl _ :: _, _, _, ⟨_, _, _, h, _⟩ => h.elim
  | .int _ :: _, _, _, ⟨_, _, _, h, _⟩ => h.elim
  | .str _ :: _, _, _, ⟨_, _, _, h, _⟩ => h.elim
  | .ref _ :: _, _, _, ⟨_, _, _, h, _⟩ => h.elim
  | .fro _ :: _, _, _, ⟨_, _, _, h, _⟩ => h.elim
  | .lst _ :: _, _, _, ⟨_, _, _, h, _⟩ => h.elim
  | .dct _ _ :: _, _, _, ⟨_, _, _, h, _⟩ => h.elim
  | .map _ :: _, _, _, ⟨_, _, _, h, _⟩ => h.elim
end
theorem smallL_map {n : Nat} : ∀ {fs : List (Str × D)}, (fs.all fun p => p.2.small n) = true → D.smallL n (fs.map (·.2)) = true
  | [], _ => rfl
  | p :: fs, s => by
    simp only [List.all_cons, Bool.and_eq_true] at s
    simp only [List.map_cons, D.smallL, s.1, smallL_map s.2, Bool.and_self]
theorem CellRep.small {a : Addr} {c : Cell} (s : c.small io.length = true) (r : CellRep K cl (io ++ l) H a c) : CellRep K cl io H a c := by
  cases c with
  | lst xs => obtain ⟨vs, h1, h2⟩ := r; exact ⟨vs, h1, RepL.small xs vs s h2⟩
  | map xs => obtain ⟨o, ys, h1, h2, h3⟩ := r; exact ⟨o, ys, h1, h2, RepI.small xs _ s h3⟩
  | dead => exact r
  | kst ks => exact r
  | ins c fs => obtain ⟨dx, vs, h1, h2⟩ := r; exact ⟨dx, vs, h1, h2.1, RepL.small _ _ (smallL_map s) h2.2⟩
theorem gc_rep {io0 io1 : List Addr} {H0 H1 : Hp} {h1 : PHeap} {d : D} {v : V} (h0 : io0.length = h.length) (s : Step K io0 H0 io1 H1) (hr : HRel K cl io1 H1 h1) (r : Rep K io1 H1 d v) :
    ∃ io2, Step K io0 H0 io2 H1 ∧ HRel K cl io2 H1 (gc h.length d h1) ∧ Rep K io2 H1 d v := by
  unfold gc
  split
  · exact ⟨io1, s, hr, r⟩
  · rename_i hl
    split
    · rename_i hc
      simp only [Bool.and_eq_true] at hc
      obtain ⟨l, e⟩ := s.pre
      subst e
      refine ⟨io0, ⟨⟨[], by simp⟩, fun b m n => absurd m n, fun b o e n => ?_, s.tup, s.fro⟩, ⟨?_, ?_, fun n a c g1 g2 => ?_⟩, Rep.small d v (by rw [h0]; exact hc.1) r⟩
      · by_cases m : b ∈ io0 ++ l
        · rw [s.new b m n] at e; cases e
        · exact s.keep b o e n
      · rw [List.length_take, h0]; omega
      · exact (List.nodup_append.mp hr.nd).1
      · have hn : n < io0.length := (List.getElem?_eq_some_iff.mp g1).1
        have hn2 : n < h.length := by rw [← h0]; exact hn
        rw [List.getElem?_take, if_pos hn2] at g2
        refine CellRep.small ?_ (hr.cell n a c (by rw [List.getElem?_append_left hn]; exact g1) g2)
        have m : c ∈ h1.take h.length := by
          refine List.mem_of_getElem? (i := n) ?_
          rw [List.getElem?_take, if_pos hn2]; exact g2
        rw [h0]
        exact List.all_eq_true.mp hc.2 c m
    · exact ⟨io1, s, hr, r⟩
end
/-- what a def promises, by its plain word -/
def spOf (K : PySem.W.Frag) (cl : Nat → Addr) (f : List D → PHeap → Res D) : Sp := fun vs H Q E => ∃ ds h io, RepL K io H ds vs ∧ HRel K cl io H h ∧ postR (RRep K) K cl (fun c d _ H => E c d H) io [] H (f ds h) Q
section
variable {P : Program} {w : World} {K : PySem.W.Frag} {mg : Str → Option Value} {base : Heap} {cl : Nat → Addr}
theorem env_start {io : List Addr} {H : Hp} {ds : List D} {vs : List V} (N : List Str) (r : RepL K io H ds vs) : ERel K io H (L2.start N vs) (ds.map some ++ List.replicate (N.length - ds.length) none) := by
  have hl := r.length
  refine ⟨by simp [L2.start, hl], fun i d e => ?_⟩
  by_cases hi : i < ds.length
  · rw [List.getElem?_append_left (by simpa using hi), List.getElem?_map] at e
    cases q : ds[i]? with
    | none => rw [q] at e; cases e
    | some x =>
      rw [q] at e
      cases e
      obtain ⟨v, h1, h2⟩ := r.get q
      refine ⟨v, ?_, h2⟩
      unfold L2.start
      rw [List.getElem?_append_left (by simpa [← hl] using hi), List.getElem?_map, h1]
      rfl
  · rw [List.getElem?_append_right (by simpa using hi)] at e
    have := List.mem_of_getElem? e
    simp at this
theorem fn_ok {x qual : Str} {st : Stmt} {f : Addr} {fd : FuncData} {N ps : List Str} {k np ns : Nat} {m : MS} (F : Fun K x qual st f fd) (S : FnScope N ps (defScope st)) (hN : N.length = ns) (hps : ps.length = np)
    (hb : ∀ (cdv : Value) (A : Around) (outer : List Env) (s : Shared) (H : Hp) (E : XK), Room k (A.deeper (envOfC qual (defScope st) s.heap.objs.size f cdv)) →
      Takes (cxOf (L2.CX P w) P w K mg base N qual (defScope st) f cdv A outer s H E) (fun c d _ H => E c d H) →
      SB (cxOf (L2.CX P w) P w K mg base N qual (defScope st) f cdv A outer s H E) cl (fun c d _ H => E c d H) (defBody st) m) : FnOk P w K mg base (L2.CX P w) (k + 1) f fd ps (spOf K cl (runFn np ns m)) := by
  refine F.okX S (fun vs H Q E h => ?_) (fun cdv A outer s H vs Q E hr h => ⟨_, hb cdv A outer s H E hr (takes_of rfl rfl rfl rfl), ?_⟩)
  · obtain ⟨ds, h, io, r, hr, p⟩ := h
    unfold runFn at p
    split at p
    · rename_i hl; rw [← r.length, hl, hps]
    · exact p.elim
  · obtain ⟨ds, h, io, r, hr, p⟩ := h
    unfold runFn at p
    split at p
    · rename_i hl
      have E0 := env_start N r
      rw [hN, hl] at E0
      refine rdS_mk E0 hr ?_
      cases q : m (ds.map some ++ List.replicate (ns - np) none) h with
      | nx e h1 =>
        rw [q] at p
        intro io' sg' H' s' E' r'
        obtain ⟨io2, g1, g2, g3⟩ := gc_rep (d := .non) (v := .non) hr.len s' r' rfl
        exact p _ io2 H' g1 g2 g3
      | rt d h1 =>
        rw [q] at p
        intro v io' H' s' r' rd
        obtain ⟨io2, g1, g2, g3⟩ := gc_rep hr.len s' r' rd
        exact p _ io2 H' g1 g2 g3
      | exc e e2 h1 => rw [q] at p; exact fun cls dd io' sg' H' s' E' r' x => p cls dd io' H' s' r' x
      | bk e h1 => rw [q] at p; exact p.elim
      | ct e h1 => rw [q] at p; exact p.elim
      | stuck => rw [q] at p; exact p.elim
    · exact p.elim
end
section
variable {X : Cx} {cl : Nat → Addr} {W : WX} {k : Nat} {f : Addr} {fd : FuncData} {ps : List Str} {g : List D → PHeap → Res D} {x : Str} {p pos : Pos} {e : Expr} {es : List Expr} {ml : MA}
theorem sp_use {sg : L2.St} {io : List Addr} {H : Hp} {Q : VK} {ds : List D} {vs : List V} {h : PHeap} (r : RepL X.K io H ds vs) (hr : HRel X.K cl io H h) (p : postR (RRep X.K) X.K cl W io sg H (g ds h) Q) : spOf X.K cl g vs H Q (WE W sg) := by
  refine ⟨ds, h, io, r, hr, ?_⟩
  cases q : g ds h with
  | ok d h1 => rw [q] at p; exact p
  | exc e h1 => rw [q] at p; exact p
  | stuck => rw [q] at p; exact p
/-- f(a, ..), f a def of the text -/
theorem sd_call (F : FnOk X.prog X.w X.K X.mg X.base (L2.CX X.prog X.w) k f fd ps (spOf X.K cl g)) (hr : Room k X.A) (hm : X.mg x = some (.ref f)) (hk : PySem.W.keepIn X.K (.ref f) = true) (hb : Binds X.K fd ps []) (tk : Takes X W) (ha : SA X cl W (e :: es) ml)
    (hg : Gl X x := by rfl) (hdb : (x == ("__debug__" : Str)) = false := by decide) (he : starEach (e :: es) X.env = (false, eval e X.env) :: starEach es X.env := by rfl) (hpl : (backTo pos (starEach es X.env)).any (·.1) = false := by rfl) : SE X cl W (.Call (.Name x p) (e :: es) [] pos) (mCall g ml) :=
  (pe_callS (E := WE W) F hr hg hm hk hb (passAt tk) ha hdb he hpl).imp fun sg H Q ⟨env, h, io, E, hr, p⟩ => rd_mk E hr (p.bind fun ds h1 vs io1 H1 e1 s1 r1 q1 p1 => sp_use q1 r1 p1)
end
/-- the law's end -/
theorem walk {l : PySem.W.OpenLaw} {q : Program} {loose : List Str} {XP : (Str → Option Value) → Heap → Prop} {YP : World → Heap → Prop} {d : DefRec} {K : Params → PySem.W.Frag} {x : Str} {kk : Nat} {cl : Nat → Addr} {g : List D → PHeap → Res D} (hn : l.most = some 63) (hdf : d.params.defaults = []) (hr : Room kk callerA)
    (hY : ∀ (w : World) (h : Heap), YP w h → (K w.params).In h)
    (F : ∀ (w : World) (mg : Str → Option Value) (fa : Addr) (h : Heap), (K w.params).In h → h.Ns mainGlobals mg → mg d.name = some (.ref fa) →
      ∃ fd : FuncData, (∀ (s : Shared) (u : Value), BindsTo s fd ⟨[u], []⟩ [(x, u)]) ∧ ∀ base : Heap, (K w.params).In base → base.Ns mainGlobals mg → FnOk l.prog w (K w.params) mg base (L2.CX l.prog w) kk fa fd [x] (spOf (K w.params) cl g))
    (hlaw : ∀ ns : List Int, ns.length ≤ 63 → ∃ h, g [.fro (ns.map .int)] [] = .ok (.bl true) h) :
    PySem.W.WalkO q loose XP YP l.row.toRowW d [] (fun f vs => PySem.call f vs) :=
  L2.walk_of (n := 63) (k := kk) (x := x) (CX := fun w => L2.CX l.prog w) (sp := fun w => spOf (K w.params) cl g) hn (by decide) hdf hr hY F (fun w H a ns hl hO hS => by
    obtain ⟨h, e⟩ := hlaw ns hl
    refine ⟨[.fro (ns.map .int)], [], [], ⟨_, [], rfl, ⟨a, ns.map V.int, rfl, ?_, ?_⟩, rfl⟩, ⟨rfl, List.nodup_nil, fun n a c h1 _ => by simp at h1⟩, ?_⟩
    · rcases hS with (hS | hS) | hS
      · rcases hO a with z | ⟨o, xs, z⟩
        · rw [hS] at z; cases z
        · rw [hS] at z; cases z
      · exact .inl hS
      · exact .inr hS
    · have : ∀ ns : List Int, RepL (K w.params) [] H (ns.map D.int) (ns.map V.int) := fun ns => by
        induction ns with
        | nil => rfl
        | cons n ns ih => exact ⟨_, _, rfl, rfl, ih⟩
      exact this ns
    · rw [e]
      exact fun v io' H' s r q => q) fun w H s e s' z => by
    obtain ⟨_, _, _, _, _, _, _, _, _, _, _, _, z⟩ := z
    exact z
end Gb

/-! GbK: odds and ends for printed walks -/
namespace Gb
open PySem PySem.Spec PyProof.Rows L2
theorem hu65 {k : Nat} {A : Around} (r : Room k A) : A.units + 65 < cLine := by have := r.un; omega
section
variable {X : Cx} {cl : Nat → Addr} {W : WX} {a b c e : Expr} {ma mb mc : ME} {ml : MA} {mo mp : MO} {pos p p2 : Pos}
theorem sd_sub (ha : SE X cl W a ma) (hb : SE X cl W b mb) : SE X cl W (.BinOp a .Sub b pos) (mBin fSub ma mb) := sd_op op_sub o2_sub ha hb
theorem sd_div (ha : SE X cl W a ma) (hb : SE X cl W b mb) : SE X cl W (.BinOp a .FloorDiv b pos) (mBin fDiv ma mb) := sd_op op_fdivN o2_div ha hb
theorem sd_mod (ha : SE X cl W a ma) (hb : SE X cl W b mb) : SE X cl W (.BinOp a .Mod b pos) (mBin fMod ma mb) := sd_op op_modN o2_mod ha hb
theorem sd_pow (ha : SE X cl W a ma) (hb : SE X cl W b mb) : SE X cl W (.BinOp a .Pow b pos) (mBin fPow ma mb) := sd_op op_pow o2_pow ha hb
theorem sd_neg (ha : SE X cl W a ma) : SE X cl W (.UnaryOp .USub a pos) (mUn fNeg ma) := sd_un un_neg o1_neg ha
theorem sd_eq (hu : X.A.units + 65 < cLine) (ha : SO X cl W a mo) (hb : SO X cl W b mp) : SE X cl W (.Compare a [.Eq] [b] pos) (m2 (fEqO id) mo mp) := so_cmp (op_eqP hu) ov_eq ha hb (nomark _)
theorem sd_ne (hu : X.A.units + 65 < cLine) (ha : SO X cl W a mo) (hb : SO X cl W b mp) : SE X cl W (.Compare a [.NotEq] [b] pos) (m2 (fEqO not) mo mp) := so_cmp (op_neP hu) ov_eq ha hb (nomark _)
theorem sd_in (hu : X.A.units + 65 < cLine) (ha : SO X cl W a mo) (hb : SO X cl W b mp) (hm : behindInMarks .In b = false := by rfl) : SE X cl W (.Compare a [.In] [b] pos) (m2 (fInO id) mo mp) := so_cmp (op_inP hu) ov_in ha hb hm
theorem sd_notin (hu : X.A.units + 65 < cLine) (ha : SO X cl W a mo) (hb : SO X cl W b mp) (hm : behindInMarks .NotIn b = false := by rfl) : SE X cl W (.Compare a [.NotIn] [b] pos) (m2 (fInO not) mo mp) := so_cmp (op_notinP hu) ov_in ha hb hm
theorem st_eq (hu : X.A.units + 65 < cLine) (ha : SO X cl W a mo) (hb : SO X cl W b mp) : ST X cl W (.Compare a [.Eq] [b] pos) (mTB (m2 (fEqO id) mo mp)) := st_cmpO (op_eqP hu) ov_eq ha hb (nomark _)
theorem st_ne (hu : X.A.units + 65 < cLine) (ha : SO X cl W a mo) (hb : SO X cl W b mp) : ST X cl W (.Compare a [.NotEq] [b] pos) (mTB (m2 (fEqO not) mo mp)) := st_cmpO (op_neP hu) ov_eq ha hb (nomark _)
theorem st_in (hu : X.A.units + 65 < cLine) (ha : SO X cl W a mo) (hb : SO X cl W b mp) (hm : behindInMarks .In b = false := by rfl) : ST X cl W (.Compare a [.In] [b] pos) (mTB (m2 (fInO id) mo mp)) := st_cmpO (op_inP hu) ov_in ha hb hm
theorem st_notin (hu : X.A.units + 65 < cLine) (ha : SO X cl W a mo) (hb : SO X cl W b mp) (hm : behindInMarks .NotIn b = false := by rfl) : ST X cl W (.Compare a [.NotIn] [b] pos) (mTB (m2 (fInO not) mo mp)) := st_cmpO (op_notinP hu) ov_in ha hb hm
theorem sd_lt (ha : SE X cl W a ma) (hb : SE X cl W b mb) : SE X cl W (.Compare a [.Lt] [b] pos) (mBin fLt ma mb) := sd_cmp op_lt o2_cmpI ha hb (nomark _)
theorem sd_le (ha : SE X cl W a ma) (hb : SE X cl W b mb) : SE X cl W (.Compare a [.LtE] [b] pos) (mBin fLe ma mb) := sd_cmp op_le o2_cmpI ha hb (nomark _)
theorem sd_gt (ha : SE X cl W a ma) (hb : SE X cl W b mb) : SE X cl W (.Compare a [.Gt] [b] pos) (mBin fGt ma mb) := sd_cmp op_gt o2_cmpI ha hb (nomark _)
theorem sd_ge (ha : SE X cl W a ma) (hb : SE X cl W b mb) : SE X cl W (.Compare a [.GtE] [b] pos) (mBin fGe ma mb) := sd_cmp op_ge o2_cmpI ha hb (nomark _)
theorem st_lt (ha : SE X cl W a ma) (hb : SE X cl W b mb) : ST X cl W (.Compare a [.Lt] [b] pos) (mTB (mBin fLt ma mb)) := st_cmp op_lt o2_cmpI ha hb (nomark _)
theorem st_le (ha : SE X cl W a ma) (hb : SE X cl W b mb) : ST X cl W (.Compare a [.LtE] [b] pos) (mTB (mBin fLe ma mb)) := st_cmp op_le o2_cmpI ha hb (nomark _)
theorem st_gt (ha : SE X cl W a ma) (hb : SE X cl W b mb) : ST X cl W (.Compare a [.Gt] [b] pos) (mTB (mBin fGt ma mb)) := st_cmp op_gt o2_cmpI ha hb (nomark _)
theorem st_ge (ha : SE X cl W a ma) (hb : SE X cl W b mb) : ST X cl W (.Compare a [.GtE] [b] pos) (mTB (mBin fGe ma mb)) := st_cmp op_ge o2_cmpI ha hb (nomark _)
theorem sd_is (ha : SE X cl W a ma) (hb : SE X cl W b mb) : SE X cl W (.Compare a [.Is] [b] pos) (mBin fIs ma mb) := sd_cmp op_isM o2_is ha hb (nomark _)
theorem sd_isnot (ha : SE X cl W a ma) (hb : SE X cl W b mb) : SE X cl W (.Compare a [.IsNot] [b] pos) (mBin fIsNot ma mb) := sd_cmp op_isnotM o2_isnot ha hb (nomark _)
theorem st_is (ha : SE X cl W a ma) (hb : SE X cl W b mb) : ST X cl W (.Compare a [.Is] [b] pos) (mTB (mBin fIs ma mb)) := st_cmp op_isM o2_is ha hb (nomark _)
theorem st_isnot (ha : SE X cl W a ma) (hb : SE X cl W b mb) : ST X cl W (.Compare a [.IsNot] [b] pos) (mTB (mBin fIsNot ma mb)) := st_cmp op_isnotM o2_isnot ha hb (nomark _)
theorem sd_lele (ha : SE X cl W a ma) (hb : SE X cl W b mb) (hc : SE X cl W c mc) : SE X cl W (.Compare a [.LtE, .LtE] [b, c] pos) (mChain fLe fLe ma mb mc) := sd_chain op_le op_le o2_cmpI o2_cmpI ha hb hc (nomark c)
theorem st_lele (ha : SE X cl W a ma) (hb : SE X cl W b mb) (hc : SE X cl W c mc) : ST X cl W (.Compare a [.LtE, .LtE] [b, c] pos) (mTB (mChain fLe fLe ma mb mc)) := st_chain op_le op_le o2_cmpI o2_cmpI ha hb hc (nomark c)
theorem sd_lelt (ha : SE X cl W a ma) (hb : SE X cl W b mb) (hc : SE X cl W c mc) : SE X cl W (.Compare a [.LtE, .Lt] [b, c] pos) (mChain fLe fLt ma mb mc) := sd_chain op_le op_lt o2_cmpI o2_cmpI ha hb hc (nomark c)
theorem st_lelt (ha : SE X cl W a ma) (hb : SE X cl W b mb) (hc : SE X cl W c mc) : ST X cl W (.Compare a [.LtE, .Lt] [b, c] pos) (mTB (mChain fLe fLt ma mb mc)) := st_chain op_le op_lt o2_cmpI o2_cmpI ha hb hc (nomark c)
end
end Gb

/-! GbL: three at once; tuples that stand in the module -/
namespace Gb
open PySem PySem.Spec PyProof.Rows L2
section
variable {X : Cx} {cl : Nat → Addr} {W : WX} {a b c e : Expr} {ma mb mc : ME} {ml : MA} {mo mp : MO} {pos p p2 : Pos}
theorem ss_par3 {i j l : Nat} {x y z : Str} {px py pz pt : Pos} {kt k2 pt2} (hc : X.calm = true) (hN : X.N.Nodup) (ha : SA X cl W [a, b, c] ml) (hi : X.N[i]? = some x := by rfl) (hj : X.N[j]? = some y := by rfl) (hl : X.N[l]? = some z := by rfl) (hij : i ≠ j := by decide) (hil : i ≠ l := by decide) (hjl : j ≠ l := by decide)
    (hx : X.env.scope.names.lookup x = some .local := by rfl) (hy : X.env.scope.names.lookup y = some .local := by rfl) (hz : X.env.scope.names.lookup z = some .local := by rfl)
    (hw : swappedStores [.Tuple [.Name x px, .Name y py, .Name z pz] kt pt] (.Tuple [a, b, c] k2 pt2) X.env = pure (some [x, y, z]) := by rfl)
    (hs : swapsWithSole [.Tuple [.Name x px, .Name y py, .Name z pz] kt pt] (.Tuple [a, b, c] k2 pt2) pos.line X.env = pure false := by rfl) :
    SS X cl W (.Assign [.Tuple [.Name x px, .Name y py, .Name z pz] kt pt] (.Tuple [a, b, c] k2 pt2) pos) (sPar [i, j, l] ml) :=
  (ps_par3 hc hN hi hj hl hij hil hjl hx hy hz ha hw hs).imp fun D sg H ⟨env, h, io, E, hr, p⟩ => rd_mk E hr (p.out E fun ds h1 vs io1 H1 e1 s1 r1 q1 p1 => by
    split at p1
    · rename_i hl
      match ds, hl, q1, p1 with
      | [d, d2, d3], _, q1, p1 =>
        obtain ⟨u, t, rfl, ra, rt⟩ := q1
        obtain ⟨v, t', rfl, rb, rt'⟩ := rt
        obtain ⟨w, t'', rfl, rc, rt''⟩ := rt'
        have rt3 : t'' = [] := rt''
        subst rt3
        exact ⟨u, v, w, rfl, p1 io1 _ H1 .refl ((((E.step s1).set ra).set rb).set rc) r1⟩
    · exact p1.elim)
/-- a tuple of ints that stands in the module -/
def KTup (K : PySem.W.Frag) (u : Value) (xs : List Int) : Prop := ∃ (a : Addr) (o : Obj) (its : Array Value) (n : Nat), u = .ref a ∧ K.lookup a = some o ∧ o.cls = .type "tuple" ∧ o.dict = none ∧ o.data = .seq its n ∧ its.size ≤ sizeLine ∧ Vals (xs.map V.int) its.toList
theorem sd_gct {x : Str} {xs : List Int} (hg : Gl X x) (h : ∃ u, X.mg x = some u ∧ KTup X.K u xs) (hd : (x == ("__debug__" : Str)) = false := by decide) : SE X cl W (.Name x pos) (mC (.tup (xs.map D.int))) := by
  obtain ⟨u, h1, a, o, its, n, rfl, k1, k2, k3, k4, k5, k6⟩ := h
  refine (pe_glob (v := .ref a) hg h1 rfl hd).imp fun sg H Q ⟨env, h, io, E, hr, p⟩ => p.here hr ?_
  have : ∀ xs : List Int, RepL X.K io H (xs.map D.int) (xs.map V.int) := fun xs => by
    induction xs with
    | nil => rfl
    | cons x xs ih => exact ⟨_, _, rfl, rfl, ih⟩
  exact ⟨a, xs.map V.int, rfl, .inr ⟨o, its, n, k1, k2, k3, k4, k5, k6⟩, this xs⟩
end
end Gb

/-! GbM: defs, called where no repr is under way -/
namespace Gb
open PySem PySem.Spec PyProof.Rows L2
structure FnG (P : Program) (w : World) (K : PySem.W.Frag) (mg : Str → Option Value) (base : Heap) (k : Nat) (f : Addr) (fd : FuncData) (ps : List Str) (sp : Sp) : Prop where
  len : ∀ vs H Q E, sp vs H Q E → vs.length = ps.length
  run : ∀ (A : Around) (outer : List Env) (s : Shared) (H : Hp) (args : Args) (us : List Value) (vs : List V) (Q : VK) (E : XK), Room k A → A.guards = some [] → Env0 P w K mg base A outer s H → BindsTo s fd args (ps.zip us) → Vals vs us → sp vs H Q E →
    codeAny (model P w) A (.call (.ref f) args) (CR (L2.CX P w) outer P w H s Q E) s
theorem FnG.mono {P : Program} {w : World} {K : PySem.W.Frag} {mg : Str → Option Value} {base : Heap} {j k : Nat} {f : Addr} {fd : FuncData} {ps : List Str} {sp : Sp} (F : FnG P w K mg base j f fd ps sp) (h : j ≤ k) : FnG P w K mg base k f fd ps sp :=
  ⟨F.len, fun A outer s H args us vs Q E hr => F.run A outer s H args us vs Q E (hr.mono h)⟩
theorem guards_deeper {A : Around} {env : Env} (h : A.guards = some []) : (A.deeper env).guards = some [] := by
  first
    | exact h
    | (show pushGuards _ A.guards = _; rw [h]; rfl)
    | simp [Around.deeper, Around.under, pushGuards, h, Code.guards, Code.isGuard]
section
variable {P : Program} {w : World} {K : PySem.W.Frag} {mg : Str → Option Value} {base : Heap} {cl : Nat → Addr}
theorem fng_of {x qual : Str} {st : Stmt} {f : Addr} {fd : FuncData} {N ps : List Str} {k : Nat} {sp : Sp} (F : Fun K x qual st f fd) (S : FnScope N ps (defScope st)) (len : ∀ vs H Q E, sp vs H Q E → vs.length = ps.length)
    (hbody : ∀ (cdv : Value) (A : Around) (outer : List Env) (s : Shared) (H : Hp) (vs : List V) (Q : VK) (E : XK), Room k (A.deeper (envOfC qual (defScope st) s.heap.objs.size f cdv)) → A.guards = some [] → sp vs H Q E →
      ∃ t, PSs (cxOf (L2.CX P w) P w K mg base N qual (defScope st) f cdv A outer s H E) (defBody st) t ∧ t { nx := fun _ H' => Q .non H', rt := Q } (L2.start N vs) H) : FnG P w K mg base (k + 1) f fd ps sp := by
  obtain ⟨oc, od, kV, doc, pm, an, cdv, ct, osl, rfl, lk, hcd⟩ := F.ex
  refine ⟨len, fun A outer s H args us vs Q E hr hg e0 hb r hsp => ?_⟩
  have kp := fun b o e => (e0.bs b o e).1
  have KX : K.In s.heap := e0.mod.kin.keeps kp
  have lim : s.heap.NoLimit := e0.mod.nolimit.keeps kp
  have kinds : ∀ y ∈ ps.zip us, (defScope st).names.lookup y.1 = some .local ∨ ((defScope st).names.lookup y.1 = some .cell ∧ ((cellsFrom (s.heap.objs.size + 1) (defScope st).names []).lookup y.1).isSome = true) := fun y hy =>
    (S.par y.1 (List.of_mem_zip hy).1).imp id fun q => ⟨q, PySem.W.cellsFrom_some _ _ _ (.inl q)⟩
  refine codeAny_call_function hr.depth (KX _ _ lk) rfl S.co S.gen rfl (PySem.W.codeRec_of KX hcd) (hb _ _ _ _ (wpAny_newFunctionEnv_cells S.kind kinds fun env he s1 x => ?_))
  subst he
  obtain ⟨t, ht, hq⟩ := hbody cdv A outer s H vs Q E (hr.deeper _) hg hsp
  refine ⟨lim.keeps x.toInCall.keep, codeAny_func (wpAny_mono (ht.run [] s1 (L2.start N vs) H _ (inv_start S hr.hd e0 (len _ _ _ _ hsp) r x) hq) (fun fl s' hs => ?_) fun _ _ z => z)⟩
  cases fl with
  | ret u => obtain ⟨v, σ', H', J, rv, q⟩ := hs; exact ⟨v, H', J.os, J.bare, J.base, J.hok, rv, q⟩
  | next => obtain ⟨σ', H', J, q⟩ := hs; exact ⟨.non, H', J.os, J.bare, J.base, J.hok, rfl, q⟩
  | brk => obtain ⟨_, _, _, q⟩ := hs; exact q.elim
  | cont => obtain ⟨_, _, _, q⟩ := hs; exact q.elim
theorem fng_ok {x qual : Str} {st : Stmt} {f : Addr} {fd : FuncData} {N ps : List Str} {k np ns : Nat} {m : MS} (F : Fun K x qual st f fd) (S : FnScope N ps (defScope st)) (hN : N.length = ns) (hps : ps.length = np)
    (hb : ∀ (cdv : Value) (A : Around) (outer : List Env) (s : Shared) (H : Hp) (E : XK), Room k (A.deeper (envOfC qual (defScope st) s.heap.objs.size f cdv)) → (A.deeper (envOfC qual (defScope st) s.heap.objs.size f cdv)).guards = some [] →
      Takes (cxOf (L2.CX P w) P w K mg base N qual (defScope st) f cdv A outer s H E) (fun c d _ H => E c d H) →
      SB (cxOf (L2.CX P w) P w K mg base N qual (defScope st) f cdv A outer s H E) cl (fun c d _ H => E c d H) (defBody st) m) : FnG P w K mg base (k + 1) f fd ps (spOf K cl (runFn np ns m)) := by
  refine fng_of F S (fun vs H Q E h => ?_) (fun cdv A outer s H vs Q E hr hg h => ⟨_, hb cdv A outer s H E hr (guards_deeper hg) (takes_of rfl rfl rfl rfl), ?_⟩)
  · obtain ⟨ds, h, io, r, hr, p⟩ := h
    unfold runFn at p
    split at p
    · rename_i hl; rw [← r.length, hl, hps]
    · exact p.elim
  · obtain ⟨ds, h, io, r, hr, p⟩ := h
    unfold runFn at p
    split at p
    · rename_i hl
      have E0 := env_start N r
      rw [hN, hl] at E0
      refine rdS_mk E0 hr ?_
      cases q : m (ds.map some ++ List.replicate (ns - np) none) h with
      | nx e h1 =>
        rw [q] at p
        intro io' sg' H' s' E' r'
        obtain ⟨io2, g1, g2, g3⟩ := gc_rep (d := .non) (v := .non) hr.len s' r' rfl
        exact p _ io2 H' g1 g2 g3
      | rt d h1 =>
        rw [q] at p
        intro v io' H' s' r' rd
        obtain ⟨io2, g1, g2, g3⟩ := gc_rep hr.len s' r' rd
        exact p _ io2 H' g1 g2 g3
      | exc e e2 h1 => rw [q] at p; exact fun cls dd io' sg' H' s' E' r' x => p cls dd io' H' s' r' x
      | bk e h1 => rw [q] at p; exact p.elim
      | ct e h1 => rw [q] at p; exact p.elim
      | stuck => rw [q] at p; exact p.elim
    · exact p.elim
end
section
variable {X : Cx} {cl : Nat → Addr} {W : WX} {k : Nat} {f : Addr} {fd : FuncData} {ps : List Str} {g : List D → PHeap → Res D} {x : Str} {p pos : Pos} {e : Expr} {es : List Expr} {ml : MA}
theorem sd_callG (F : FnG X.prog X.w X.K X.mg X.base k f fd ps (spOf X.K cl g)) (hr : Room k X.A) (hgd : X.A.guards = some []) (hm : X.mg x = some (.ref f)) (hk : PySem.W.keepIn X.K (.ref f) = true) (hb : Binds X.K fd ps []) (tk : Takes X W) (ha : SA X cl W (e :: es) ml)
    (hg : Gl X x := by rfl) (hdb : (x == ("__debug__" : Str)) = false := by decide) (he : starEach (e :: es) X.env = (false, eval e X.env) :: starEach es X.env := by rfl) (hpl : (backTo pos (starEach es X.env)).any (·.1) = false := by rfl) : SE X cl W (.Call (.Name x p) (e :: es) [] pos) (mCall g ml) := by
  refine PE.imp (t := tCallS (spOf X.K cl g) (WE W) (rd (RRepL X.K) X.K cl W ml)) ⟨fun pins s σ H Q I h => ?_⟩ fun sg H Q ⟨env, h, io, E, hr, p⟩ => rd_mk E hr (p.bind fun ds h1 vs io1 H1 e1 s1 r1 q1 p1 => sp_use q1 r1 p1)
  refine wpAny_Call_Name_kw (ld_glob I hg hm ?_ hdb)
  refine PySem.W.callWith_K (h₀ := X.base) I.ok.mod.kin hk (thn (ha.run pos pins s σ H _ I h) fun us s1 ⟨vs, H1, I1, r, q⟩ => ⟨I1.kIn, ?_⟩) he hpl
  have bd := hb s1 us I1.kIn (by rw [List.append_nil, ← r.length]; exact F.len _ _ _ _ q)
  rw [List.append_nil] at bd
  refine wpAny_call (codeAny_mono (F.run X.A X.stack s1 H1 ⟨us, []⟩ us vs Q (WE W σ) hr hgd I1.env0 bd r q) fun r' s' hq => ?_)
  cases r' with
  | error e => exact passAt tk σ pins H1 s1 e s' I1 hq
  | ok fl => cases fl with
    | ret u => exact I1.after hq
    | next => exact False.elim hq
    | brk => exact False.elim hq
    | cont => exact False.elim hq
end
section
variable {X : Cx} {cl : Nat → Addr} {W : WX} {a e : Expr} {mo : MO} {p pos : Pos}
/-- repr of a list or a tuple of plain data -/
def fRepr : LV → PHeap → Res D := fun x h => match x.seq h with
  | some _ => match x.py h with
    | some d => if (d.showable && !d.hasDict) = true ∧ d.shown.length ≤ 16777216 then .ok (.str d.shown) h else .stuck
    | none => .stuck
  | none => .stuck
def rReprD (K : PySem.W.Frag) : List V → Hp → VK → Prop := fun xs H Q => ∃ a d, xs = [.ref a] ∧ Dp K H (.ref a) d ∧ d.showable = true ∧ d.hasDict = false ∧ d.shown.length ≤ sizeLine ∧ d.depth ≤ 61 ∧ Q (.str d.shown) H
theorem call_reprD (hgd : X.A.guards = some []) (hu : X.A.units + 65 < cLine) : CallR X (.builtin "repr") (rReprD X.K) := by
  intro pins s σ H xs us Q I r h
  obtain ⟨a, d, rfl, hd, hs, hn, hz, hdep, q⟩ := h
  obtain ⟨u, rfl, rx⟩ := vals1 r
  cases rx
  obtain ⟨as, r1⟩ := Dp.reads I d _ _ hd rfl
  exact PySem.repr_of_reads' r1 hs (fun z => by rw [hn] at z; cases z) hgd (by omega) (fun _ _ e => e) (fun h' u tk kp => ⟨.str d.shown, H, I.kept (t' := tk) kp, ⟨u, rfl⟩, q⟩) hz
theorem con_repr : Con1 (β := V) (RRep X.K) X.K cl (rReprD X.K) fRepr := by
  intro W io sg H h x v Q hr r p
  have hz : sizeLine = 16777216 := sizeLine_eq
  unfold fRepr at p
  split at p
  · rename_i xs e
    split at p
    · rename_i d e2
      split at p
      · rename_i c
        obtain ⟨a, vs, rfl, _⟩ := r.seq hr e
        obtain ⟨h1, h2, h3⟩ := r.py hr e2
        simp only [Bool.and_eq_true, Bool.not_eq_true'] at c
        exact ⟨a, d, rfl, h1, c.1.1, c.1.2, by omega, h3, p.here hr rfl⟩
      · exact p.elim
    · exact p.elim
  · exact p.elim
theorem sd_repr (hgd : X.A.guards = some []) (hu : X.A.units + 65 < cLine) (he : SO X cl W e mo) (hm : X.mg "repr" = none) (hg : Gl X "repr" := by rfl) (hs : starEach [e] X.env = (false, eval e X.env) :: starEach [] X.env := by rfl) : SE X cl W (.Call (.Name "repr" p) [e] [] pos) (m1 fRepr mo) :=
  sc_b1 (call_reprD hgd hu) con_repr he hg hm (by decide +kernel) (by decide) (by decide) hs
end
end Gb

/-! GbN: the law's end for FnG -/
namespace Gb
open PySem PySem.Spec PyProof.Rows L2
theorem end_core {P : Program} {w : World} {K : PySem.W.Frag} {mg mb : Str → Option Value} {k : Nat} {fa a : Addr} {fd : FuncData} {x : Str} {sp : Sp} {s₁ : Shared} {vs : List Value}
    (KX : K.In s₁.heap) (hns : s₁.heap.Ns mainGlobals mg) (hb : s₁.heap.Ns builtinsNs mb) (hbb : ∀ x : Str, x ≠ "__name__" → mb x = bootBuiltins x) (hlim : s₁.heap.NoLimit) (hg : s₁.gens = #[])
    (ha : s₁.heap.get? a = some { cls := .type "list", data := .seq vs.toArray }) (hr : Room k callerA)
    (F : ∀ base : Heap, K.In base → base.Ns mainGlobals mg → FnG P w K mg base k fa fd [x] sp) (hbind : ∀ (s : Shared) (u : Value), BindsTo s fd ⟨[u], []⟩ [(x, u)])
    (H : Hp) (hO : Only H) (hsp : sp [.ref a] H (fun v _ => v = .bl true) fun _ _ _ => False) (hok : HOk P w H s₁.heap) (hA : ∀ b, H b ≠ none → b = a) (hK : H a ≠ none → K.lookup a = none) :
    codeAny (model P w) callerA (.call (.ref fa) ⟨[.ref a], []⟩) (fun r s' => r = .ok (.ret (.bool true)) ∧ OldK s₁.heap s'.heap ∧ s'.os = s₁.os ∧ AllBare s'.gens) s₁ := by
  have free : ∀ {b : Addr} {o : Obj}, s₁.heap.get? b = some o → (b = a → H a = none) → (hidT s₁.heap H).get? b = some o := fun {b o} e n => hidT_get e (by
    by_cases hb : b = a
    · rw [hb]; exact n hb
    · cases q : H b with
      | none => rfl
      | some u => exact absurd (hA b (by rw [q]; simp)) hb)
  have nsK : ∀ {b : Addr} {m : Str → Option Value}, s₁.heap.Ns b m → (hidT s₁.heap H).Ns b m := fun {b m} ⟨o, es, ep, e, d, r⟩ => by
    refine ⟨o, es, ep, free e (fun hb => ?_), d, r⟩
    subst hb
    rw [ha] at e; cases e
    have d' : Data.seq vs.toArray _ = Data.dict es ep := d
    cases d'
  have hKb : K.In (hidT s₁.heap H) := fun b o e => free (KX b o e) fun hb => by
    subst hb
    cases q : H b with
    | none => rfl
    | some u => rw [hK (by rw [q]; simp)] at e; cases e
  have e0 : Env0 P w K mg (hidT s₁.heap H) callerA [] s₁ H := ⟨rfl, ⟨hKb, nsK hns, ⟨mb, nsK hb, hbb⟩, (let ⟨mc, h1, h2⟩ := hlim; ⟨mc, nsK h1, h2⟩)⟩, fun b o e => of_hidT e, Nat.le_of_eq (hidT_size _ _), trivial, fun b hb => (by cases hb), hok, .of_eq hg⟩
  refine codeAny_mono ((F _ hKb (nsK hns)).run callerA [] s₁ H ⟨[.ref a], []⟩ [.ref a] [.ref a] _ _ hr rfl e0 (hbind s₁ (.ref a)) (.cons rfl .nil) hsp) fun r s' h => ?_
  cases r with
  | error e => obtain ⟨_, _, _, _, _, _, _, _, _, _, _, _, z⟩ := h; exact z.elim
  | ok fl => cases fl with
    | next => exact False.elim h
    | brk => exact False.elim h
    | cont => exact False.elim h
    | ret u =>
      obtain ⟨v, H', os, bare, un, hok', r', q⟩ := h
      have q' : v = .bl true := q
      subst q'
      obtain rfl : u = Value.bool true := r'
      refine ⟨rfl, OldK.of_keep fun b o e => ?_, os, bare⟩
      rcases hO b with z | ⟨ob, xs, z⟩
      · exact un.keep b o e z (by intro m; cases m) (by simp)
      · obtain ⟨e1, _⟩ := hok b _ z
        obtain ⟨e2, _⟩ := hok' b _ (un.frzs b ob _ z)
        rw [e] at e1; cases e1
        exact e2
theorem sp_end {K : PySem.W.Frag} {cl : Nat → Addr} {g : List D → PHeap → Res D} {H : Hp} {a : Addr} {ns : List Int} (hf : FroL K H a (ns.map V.int)) (hl : ∃ h, g [.fro (ns.map .int)] [] = .ok (.bl true) h) : spOf K cl g [.ref a] H (fun v _ => v = .bl true) fun _ _ _ => False := by
  obtain ⟨h, e⟩ := hl
  have allInts : ∀ ns : List Int, RepL K [] H (ns.map D.int) (ns.map V.int) := fun ns => by
    induction ns with
    | nil => rfl
    | cons n ns ih => exact ⟨_, _, rfl, rfl, ih⟩
  refine ⟨[.fro (ns.map .int)], [], [], ⟨_, [], rfl, ⟨a, ns.map V.int, rfl, hf, allInts ns⟩, rfl⟩, ⟨rfl, List.nodup_nil, fun n a c h1 _ => by simp at h1⟩, ?_⟩
  rw [e]
  exact fun v io' H' s r q => q
theorem walkG {l : PySem.W.OpenLaw} {q : Program} {loose : List Str} {XP : (Str → Option Value) → Heap → Prop} {YP : World → Heap → Prop} {d : DefRec} {K : Params → PySem.W.Frag} {x : Str} {kk : Nat} {cl : Nat → Addr} {g : List D → PHeap → Res D} (hn : l.most = some 63) (hdf : d.params.defaults = []) (hr : Room kk callerA)
    (hY : ∀ (w : World) (h : Heap), YP w h → (K w.params).In h)
    (F : ∀ (w : World) (mg : Str → Option Value) (fa : Addr) (h : Heap), (K w.params).In h → h.Ns mainGlobals mg → mg d.name = some (.ref fa) →
      ∃ fd : FuncData, (∀ (s : Shared) (u : Value), BindsTo s fd ⟨[u], []⟩ [(x, u)]) ∧ ∀ base : Heap, (K w.params).In base → base.Ns mainGlobals mg → FnG l.prog w (K w.params) mg base kk fa fd [x] (spOf (K w.params) cl g))
    (hlaw : ∀ ns : List Int, ns.length ≤ 63 → ∃ h, g [.fro (ns.map .int)] [] = .ok (.bl true) h) :
    PySem.W.WalkO q loose XP YP l.row.toRowW d [] (fun f vs => PySem.call f vs) := by
  refine Att.attach_call hn hdf fun w s₀ s₁ mg mb fa o pm cd doc a vs ns G Y ho hd hcd hmg hobj hints hlen hg => ?_
  have KX := hY w _ Y
  obtain ⟨fd, hb, hF⟩ := F w mg fa _ KX G.T.g hmg
  have rv := vals_ints hints
  have lenV := hints.length
  have hz : ns.length ≤ sizeLine := Nat.le_trans hlen (by decide)
  cases hk : (K w.params).lookup a with
  | some ob =>
    have e := KX a ob hk
    rw [hobj] at e
    cases e
    exact end_core KX G.T.g G.T.b G.T.builtins G.T.nolimit hg hobj hr hF hb (fun _ => none) (fun _ => .inl rfl) (sp_end (.inr ⟨_, vs.toArray, _, hk, rfl, rfl, rfl, by rw [List.size_toArray, lenV]; exact hz, by simpa using rv⟩) (hlaw ns hlen))
      (fun b u z => by cases z) (fun b z => absurd rfl z) fun z => absurd rfl z
  | none =>
    have at1 : (fun b => if b = a then some (HO.frz { cls := .type "list", data := .seq vs.toArray } (.lst (ns.map V.int))) else none) a = some (HO.frz { cls := .type "list", data := .seq vs.toArray } (.lst (ns.map V.int))) := if_pos rfl
    refine end_core KX G.T.g G.T.b G.T.builtins G.T.nolimit hg hobj hr hF hb (fun b => if b = a then some (HO.frz { cls := .type "list", data := .seq vs.toArray } (.lst (ns.map V.int))) else none) (fun b => ?_) (sp_end (.inl ⟨_, at1⟩) (hlaw ns hlen)) (fun b u z => ?_) (fun b z => ?_) fun _ => hk
    · by_cases hba : b = a
      · exact .inr ⟨_, _, if_pos hba⟩
      · exact .inl (if_neg hba)
    · by_cases hba : b = a
      · have z' := (if_pos hba).symm.trans z
        cases z'
        subst hba
        exact ⟨hobj, by rw [List.length_map]; exact hz, vs, _, rv, hobj⟩
      · have z' := (if_neg hba).symm.trans z
        cases z'
    · by_cases hba : b = a
      · exact hba
      · exact absurd (if_neg hba) z
end Gb

/-! GbO: sorted of ints -/
namespace Gb
open PySem PySem.Spec PyProof.Rows L2
def intsOf : List D → Option (List Int)
  | [] => some []
  | .int i :: r => (intsOf r).map (i :: ·)
  | _ => none
theorem intsOf_eq : ∀ {xs : List D} {ns : List Int}, intsOf xs = some ns → xs = ns.map D.int
  | [], ns, e => by cases e; rfl
  | x :: xs, ns, e => by
    cases x with
    | int i =>
      simp only [intsOf] at e
      cases q : intsOf xs with
      | none => rw [q] at e; cases e
      | some ms => rw [q] at e; cases e; rw [intsOf_eq q]; rfl
    | _ => cases e
theorem rep_ints {K : PySem.W.Frag} {io : List Addr} {H : Hp} : ∀ {ns : List Int} {vs : List V}, RepL K io H (ns.map D.int) vs → vs = ns.map V.int
  | [], vs, r => r
  | n :: ns, vs, ⟨v, t, e, r1, r2⟩ => by subst e; cases r1; rw [rep_ints r2]; rfl
theorem ints_rep {K : PySem.W.Frag} {io : List Addr} {H : Hp} : ∀ ns : List Int, RepL K io H (ns.map D.int) (ns.map V.int)
  | [] => rfl
  | n :: ns => ⟨_, _, rfl, rfl, ints_rep ns⟩
def sortI (ns : List Int) : List Int := ns.mergeSort fun a b => decide (a ≤ b)
theorem sorted_unique : ∀ {as bs : List Int}, as.Perm bs → as.Pairwise (· ≤ ·) → bs.Pairwise (· ≤ ·) → as = bs
  | [], bs, p, _, _ => by rw [List.nil_perm.mp p]
  | a :: as, [], p, _, _ => by cases List.perm_nil.mp p
  | a :: as, b :: bs, p, ha, hb => by
    rw [List.pairwise_cons] at ha hb
    have h1 : a ≤ b := by
      have m : b ∈ a :: as := p.mem_iff.mpr (by simp)
      rcases List.mem_cons.mp m with e | m
      · rw [e]; exact Int.le_refl _
      · exact ha.1 b m
    have h2 : b ≤ a := by
      have m : a ∈ b :: bs := p.mem_iff.mp (by simp)
      rcases List.mem_cons.mp m with e | m
      · rw [e]; exact Int.le_refl _
      · exact hb.1 a m
    have e : a = b := Int.le_antisymm h1 h2
    subst e
    rw [sorted_unique (List.Perm.cons_inv p) ha.2 hb.2]
theorem sortI_perm (ns : List Int) : (sortI ns).Perm ns := List.mergeSort_perm ns _
theorem sortI_sorted (ns : List Int) : (sortI ns).Pairwise (· ≤ ·) := by
  have h := List.pairwise_mergeSort (le := fun a b : Int => decide (a ≤ b)) (by intro a b c; simp; omega) (by intro a b; simp; omega) ns
  exact h.imp fun q => by simpa using q
section
variable {X : Cx} {cl : Nat → Addr} {W : WX} {e : Expr} {mo : MO} {p pos : Pos}
def fSortI : LV → PHeap → Res (List D) := fun x h => match x.items h with
  | some xs => match intsOf xs with
    | some ns => .ok ((sortI ns).map D.int) h
    | none => .stuck
  | none => .stuck
theorem con_sortI : Con1 (β := V) (RNew X.K) X.K cl (rSortedI X.K) fSortI := by
  intro W io sg H h x v Q hr r p
  unfold fSortI at p
  split at p
  · rename_i xs e
    split at p
    · rename_i ns e2
      obtain ⟨a, vs, rfl, h1, h2⟩ := r.items hr e
      have := intsOf_eq e2
      subst this
      have ev := rep_ints h2
      subst ev
      refine ⟨a, ns, rfl, h1, fun ns' t pm so ht => ?_⟩
      have es : ns' = sortI ns := sorted_unique (pm.trans (sortI_perm ns).symm) so (sortI_sorted ns)
      subst es
      exact p _ io _ (Step.laid ht) (hr.laid ht) ⟨t, _, rfl, ht, hr.out ht, upd_same, ints_rep _⟩
    · exact p.elim
  · exact p.elim
theorem sn_sortI (he : SO X cl W e mo) (hm : X.mg "sorted" = none) (hg : Gl X "sorted" := by rfl) (hs : starEach [e] X.env = (false, eval e X.env) :: starEach [] X.env := by rfl) : SN X cl W (.Call (.Name "sorted" p) [e] [] pos) (m1 fSortI mo) :=
  sc_b1 cr_sortedI con_sortI he hg hm (by decide +kernel) (by decide) (by decide) hs
end
end Gb

/-! GbS: the plain words told by equations: no Python in sight -/
namespace Gb
open PySem L2
section
variable {α β : Type} {env : PEnv} {h : PHeap} {a b c : ME} {t u : MT} {r : MA} {mo mp mq : MO} {s s2 : MS} {d x y : D}
@[simp] theorem s_var0 : mVar 0 (some d :: env) h = .ok d h := rfl
@[simp] theorem s_varS {i : Nat} {o : Option D} : mVar (i + 1) (o :: env) h = mVar i env h := by simp [mVar]
@[simp] theorem s_c : mC d env h = .ok d h := rfl
@[simp] theorem s_bin {f : D → D → PHeap → Res D} : mBin f a b env h = (a env h).bind fun x h1 => (b env h1).bind fun y h2 => f x y h2 := rfl
@[simp] theorem s_un {f : D → PHeap → Res D} : mUn f a env h = (a env h).bind f := rfl
def pick {α : Type} (k : Bool) (x y : α) : α := match k with
  | true => x
  | false => y
@[simp] theorem pick_t {x y : α} : pick true x y = x := rfl
@[simp] theorem pick_f {x y : α} : pick false x y = y := rfl
theorem pick_if {k : Bool} {x y : α} : pick k x y = if k = true then x else y := by cases k <;> rfl
@[simp] theorem pick_dec {p : Prop} [Decidable p] {x y : α} : pick (decide p) x y = if p then x else y := by by_cases h : p <;> simp [h]
@[simp] theorem s_if : mIf t a b env h = (t env h).bind fun k h1 => pick k (a env h1) (b env h1) := rfl
@[simp] theorem s_nil : mNil env h = .ok [] h := rfl
@[simp] theorem s_cons : mCons a r env h = (a env h).bind fun x h1 => (r env h1).bind fun xs h2 => .ok (x :: xs) h2 := rfl
@[simp] theorem s_tup : mTup r env h = (r env h).bind fun xs h1 => if xs.length ≤ 16777216 then .ok (.tup xs) h1 else .stuck := rfl
@[simp] theorem s_call {f : List D → PHeap → Res D} : mCall f r env h = (r env h).bind f := rfl
@[simp] theorem s_tst {f : D → PHeap → Res Bool} : mTst a f env h = (a env h).bind f := rfl
def tbD (d : D) (h : PHeap) : Res Bool := match d with
  | .bl b => .ok b h
  | _ => .stuck
@[simp] theorem s_tbD {k : Bool} : tbD (.bl k) h = .ok k h := rfl
@[simp] theorem s_tb : mTB a env h = (a env h).bind tbD := rfl
@[simp] theorem s_not : tNotM t env h = (t env h).bind fun k h1 => .ok (!k) h1 := rfl
@[simp] theorem s_and : tAndM t u env h = (t env h).bind fun k h1 => pick k (u env h1) (.ok false h1) := rfl
@[simp] theorem s_or : tOrM t u env h = (t env h).bind fun k h1 => pick k (.ok true h1) (u env h1) := rfl
@[simp] theorem tr_bl {k : Bool} : truthD (.bl k) h = .ok k h := rfl
@[simp] theorem tr_int {i : Int} : truthD (.int i) h = .ok (i != 0) h := rfl
@[simp] theorem tr_non : truthD .non h = .ok false h := rfl
@[simp] theorem tr_tup {xs : List D} : truthD (.tup xs) h = .ok (!xs.isEmpty) h := rfl
@[simp] theorem s_mand : mAnd a b env h = (a env h).bind fun d h1 => (truthD d h1).bind fun k h2 => pick k (b env h2) (.ok d h2) := rfl
@[simp] theorem s_mor : mOr a b env h = (a env h).bind fun d h1 => (truthD d h1).bind fun k h2 => pick k (.ok d h2) (b env h2) := rfl
@[simp] theorem s_mnot : mNot a env h = (a env h).bind fun d h1 => (truthD d h1).bind fun k h2 => .ok (.bl (!k)) h2 := rfl
@[simp] theorem s_chain {f g : D → D → PHeap → Res D} : mChain f g a b c env h = (a env h).bind fun x h1 => (b env h1).bind fun y h2 => (f x y h2).bind fun z h3 => (tbD z h3).bind fun k h4 => pick k ((c env h4).bind fun w h5 => g y w h5) (.ok (.bl false) h4) := by
  unfold mChain
  congr 1
  funext x h1
  congr 1
  funext y h2
  congr 1
  funext z h3
  cases z with
  | bl k => cases k <;> rfl
  | _ => rfl
/-! operands -/
@[simp] theorem s_val : mVal a env h = (a env h).bind fun d h1 => .ok (.val d) h1 := rfl
@[simp] theorem s_nl : mNL r env h = (r env h).bind fun xs h1 => .ok (.new xs) h1 := rfl
@[simp] theorem s_disp : mDisp r env h = (r env h).bind fun xs h1 => if xs.length ≤ 16777216 then .ok xs h1 else .stuck := rfl
@[simp] theorem s_m1 {f : LV → PHeap → Res α} : m1 f mo env h = (mo env h).bind f := rfl
@[simp] theorem s_m2 {f : LV → LV → PHeap → Res α} : m2 f mo mp env h = (mo env h).bind fun x h1 => (mp env h1).bind fun y h2 => f x y h2 := rfl
def matD (v : LV) (h : PHeap) : Res D := match v with
  | .val d => .ok d h
  | .new xs => .ok (.ref h.length) (h ++ [.lst xs])
@[simp] theorem matD_val : matD (.val d) h = .ok d h := rfl
@[simp] theorem matD_new {xs : List D} : matD (.new xs) h = .ok (.ref h.length) (h ++ [.lst xs]) := rfl
@[simp] theorem s_m : mM mo env h = (mo env h).bind matD := rfl
@[simp] theorem it_new {xs : List D} : (LV.new xs).items h = some xs := rfl
@[simp] theorem it_fro {xs : List D} : (LV.val (.fro xs)).items h = some xs := rfl
@[simp] theorem sq_new {xs : List D} : (LV.new xs).seq h = some xs := rfl
@[simp] theorem sq_fro {xs : List D} : (LV.val (.fro xs)).seq h = some xs := rfl
@[simp] theorem sq_tup {xs : List D} : (LV.val (.tup xs)).seq h = some xs := rfl
@[simp] theorem sq_int {i : Int} : (LV.val (.int i)).seq h = none := rfl
@[simp] theorem sq_bl {i : Bool} : (LV.val (.bl i)).seq h = none := rfl
@[simp] theorem sq_non : (LV.val .non).seq h = none := rfl
@[simp] theorem sq_str {z : Str} : (LV.val (.str z)).seq h = none := rfl
theorem sq_ref {n : Nat} {xs : List D} (e : h[n]? = some (.lst xs)) : (LV.val (.ref n)).seq h = some xs := by simp [LV.seq, LV.items, e]
theorem it_ref {n : Nat} {xs : List D} (e : h[n]? = some (.lst xs)) : (LV.val (.ref n)).items h = some xs := by simp [LV.items, e]
@[simp] theorem ow_new {xs : List D} : (LV.new xs).own h = some xs := rfl
@[simp] theorem ow_int {i : Int} : (LV.val (.int i)).own h = none := rfl
@[simp] theorem ow_tup {i : List D} : (LV.val (.tup i)).own h = none := rfl
@[simp] theorem ow_str {i : Str} : (LV.val (.str i)).own h = none := rfl
theorem ow_ref {n : Nat} {xs : List D} (e : h[n]? = some (.lst xs)) : (LV.val (.ref n)).own h = some xs := by simp [LV.own, e]
/-! operations -/
@[simp] theorem f_add {i j : Int} : fAddO (.val (.int i)) (.val (.int j)) h = .ok (.val (.int (i + j))) h := rfl
@[simp] theorem f_addT {i j : List D} : fAddO (.val (.tup i)) (.val (.tup j)) h = if i.length + j.length ≤ 16777216 then .ok (.val (.tup (i ++ j))) h else .stuck := by
  simp only [fAddO, ow_tup, fAdd, Res.val]
  split <;> rfl
@[simp] theorem f_mul {i j : Int} : fMulO (.val (.int i)) (.val (.int j)) h = if small64 i || small64 j then .ok (.val (.int (i * j))) h else .stuck := by
  simp only [fMulO, ow_int, fMul, Res.val]
  split <;> rfl
@[simp] theorem f_mulT {i : List D} {k : Int} : fMulO (.val (.tup i)) (.val (.int k)) h = if -1000 ≤ k ∧ k ≤ 1000 ∧ i.length ≤ 1000 then .ok (.val (.tup (List.replicate k.toNat i).flatten)) h else .stuck := by
  simp only [fMulO, ow_tup, fMul, Res.val]
  split <;> rfl
theorem f_addL {v w : LV} {xs ys : List D} (e : v.own h = some xs) (e2 : w.own h = some ys) (hl : xs.length + ys.length ≤ 16777216) : fAddO v w h = .ok (.new (xs ++ ys)) h := by
  simp only [fAddO, e, e2]
  rw [if_pos hl]
@[simp] theorem f_addNN {xs ys : List D} : fAddO (.new xs) (.new ys) h = if xs.length + ys.length ≤ 16777216 then .ok (.new (xs ++ ys)) h else .stuck := rfl
@[simp] theorem f_mulN {xs : List D} {k : Int} : fMulO (.new xs) (.val (.int k)) h = if -1000000 ≤ k ∧ k ≤ 1000000 ∧ xs.length * k.toNat ≤ 16777216 then .ok (.new (List.replicate k.toNat xs).flatten) h else .stuck := rfl
@[simp] theorem f_sub {i j : Int} : fSub (.int i) (.int j) h = .ok (.int (i - j)) h := rfl
@[simp] theorem f_div {i j : Int} : fDiv (.int i) (.int j) h = if j ≠ 0 ∧ j.natAbs < 1073741824 then .ok (.int (i.fdiv j)) h else .stuck := rfl
@[simp] theorem f_mod {i j : Int} : fMod (.int i) (.int j) h = if j ≠ 0 then .ok (.int (i.fmod j)) h else .stuck := rfl
@[simp] theorem f_pow {i j : Int} : fPow (.int i) (.int j) h = if 0 ≤ j ∧ j ≤ 1000000 ∧ i.natAbs < 2 ^ 64 then .ok (.int (i ^ j.toNat)) h else .stuck := rfl
@[simp] theorem f_neg {i : Int} : fNeg (.int i) h = .ok (.int (-i)) h := rfl
@[simp] theorem f_cmp {p : Int → Int → Bool} {i j : Int} : fCmpI p (.int i) (.int j) h = .ok (.bl (p i j)) h := rfl
@[simp] theorem f_isN : fIs d .non h = .ok (.bl (decide (d = .non))) h := rfl
@[simp] theorem f_isNN : fIsNot d .non h = .ok (.bl (!decide (d = .non))) h := rfl
@[simp] theorem f_isB {p q : Bool} : fIs (.bl p) (.bl q) h = .ok (.bl (decide (p = q))) h := rfl
@[simp] theorem f_lenT {xs : List D} : fLen (.val (.tup xs)) h = .ok (.int xs.length) h := rfl
@[simp] theorem f_lenF {xs : List D} : fLen (.val (.fro xs)) h = .ok (.int xs.length) h := rfl
@[simp] theorem f_lenN {xs : List D} : fLen (.new xs) h = .ok (.int xs.length) h := rfl
theorem f_lenR {xs : List D} {n : Nat} (e : h[n]? = some (.lst xs)) : fLen (.val (.ref n)) h = .ok (.int xs.length) h := by simp [fLen, sq_ref e]
@[simp] theorem f_tuple {v : LV} : fTuple v h = match v.seq h with | some xs => .ok (.tup xs) h | none => .stuck := rfl
@[simp] theorem f_list {v : LV} : fList v h = match v.seq h with | some xs => .ok xs h | none => .stuck := rfl
@[simp] theorem f_int {i : Int} : fInt (.val (.int i)) h = .ok (.int i) h := rfl
@[simp] theorem f_intB {i : Bool} : fInt (.val (.bl i)) h = .ok (.int (if i then 1 else 0)) h := rfl
@[simp] theorem f_abs {i : Int} : fAbs (.val (.int i)) h = .ok (.int (if i < 0 then -i else i)) h := rfl
@[simp] theorem f_max {i j : Int} : fMax2 (.val (.int i)) (.val (.int j)) h = .ok (.int (if j > i then j else i)) h := rfl
@[simp] theorem f_min {i j : Int} : fMin2 (.val (.int i)) (.val (.int j)) h = .ok (.int (if j < i then j else i)) h := rfl
@[simp] theorem f_isiN {k : Kd} {xs : List D} : fIsi k (.new xs) h = .ok (.bl (Kd.lst.isi k)) h := rfl
@[simp] theorem f_isiI {k : Kd} {i : Int} : fIsi k (.val (.int i)) h = .ok (.bl (Kd.int.isi k)) h := rfl
@[simp] theorem f_isiB {k : Kd} {i : Bool} : fIsi k (.val (.bl i)) h = .ok (.bl (Kd.bl.isi k)) h := rfl
@[simp] theorem f_isiS {k : Kd} {i : Str} : fIsi k (.val (.str i)) h = .ok (.bl (Kd.str.isi k)) h := rfl
@[simp] theorem f_isiT {k : Kd} {i : List D} : fIsi k (.val (.tup i)) h = .ok (.bl (Kd.tup.isi k)) h := rfl
@[simp] theorem f_isi0 {k : Kd} : fIsi k (.val .non) h = .ok (.bl (Kd.non.isi k)) h := rfl
@[simp] theorem k1 : Kd.isi .int .int = true := rfl
@[simp] theorem k2 : Kd.isi .int .bl = false := rfl
@[simp] theorem k3 : Kd.isi .bl .int = true := rfl
@[simp] theorem k4 : Kd.isi .bl .bl = true := rfl
@[simp] theorem k5 : Kd.isi .tup .tup = true := rfl
@[simp] theorem k6 : Kd.isi .int .tup = false := rfl
def ixD (xs : List D) (i : Int) (h : PHeap) : Res D := match atI xs i with
  | some d => .ok d h
  | none => .stuck
@[simp] theorem f_ixT {xs : List D} {i : Int} : fIx (.val (.tup xs)) (.val (.int i)) h = ixD xs i h := rfl
@[simp] theorem f_ixF {xs : List D} {i : Int} : fIx (.val (.fro xs)) (.val (.int i)) h = ixD xs i h := rfl
@[simp] theorem f_ixN {xs : List D} {i : Int} : fIx (.new xs) (.val (.int i)) h = ixD xs i h := rfl
theorem f_ixR {xs : List D} {n : Nat} {i : Int} (e : h[n]? = some (.lst xs)) : fIx (.val (.ref n)) (.val (.int i)) h = ixD xs i h := by
  simp only [fIx, sq_ref e]
  rfl
theorem atI_nat {α : Type} {xs : List α} (i : Nat) (hi : i < xs.length) : atI xs (i : Int) = xs[i]? := by
  unfold atI ixN
  rw [if_pos (by omega), if_pos (by omega)]
  simp
@[simp] theorem ix0 {x : D} {xs : List D} : ixD (x :: xs) 0 h = .ok x h := by
  have := atI_nat (xs := x :: xs) 0 (by simp)
  simp only [Int.natCast_zero] at this
  simp [ixD, show atI (x :: xs) 0 = (x :: xs)[0]? from this]
@[simp] theorem ix1 {x y : D} {xs : List D} : ixD (x :: y :: xs) 1 h = .ok y h := by
  have := atI_nat (xs := x :: y :: xs) 1 (by simp)
  simp [ixD, show atI (x :: y :: xs) 1 = (x :: y :: xs)[1]? from this]
@[simp] theorem ix2 {x y z : D} {xs : List D} : ixD (x :: y :: z :: xs) 2 h = .ok z h := by
  have := atI_nat (xs := x :: y :: z :: xs) 2 (by simp)
  simp [ixD, show atI (x :: y :: z :: xs) 2 = (x :: y :: z :: xs)[2]? from this]
@[simp] theorem ix3 {x y z u : D} {xs : List D} : ixD (x :: y :: z :: u :: xs) 3 h = .ok u h := by
  have := atI_nat (xs := x :: y :: z :: u :: xs) 3 (by simp)
  simp [ixD, show atI (x :: y :: z :: u :: xs) 3 = (x :: y :: z :: u :: xs)[3]? from this]
@[simp] theorem ix4 {x y z u v : D} {xs : List D} : ixD (x :: y :: z :: u :: v :: xs) 4 h = .ok v h := by
  have := atI_nat (xs := x :: y :: z :: u :: v :: xs) 4 (by simp)
  simp [ixD, show atI (x :: y :: z :: u :: v :: xs) 4 = (x :: y :: z :: u :: v :: xs)[4]? from this]
@[simp] theorem ix5 {x y z u v w : D} {xs : List D} : ixD (x :: y :: z :: u :: v :: w :: xs) 5 h = .ok w h := by
  have := atI_nat (xs := x :: y :: z :: u :: v :: w :: xs) 5 (by simp)
  simp [ixD, show atI (x :: y :: z :: u :: v :: w :: xs) 5 = (x :: y :: z :: u :: v :: w :: xs)[5]? from this]
@[simp] theorem ix6 {x y z u v w p : D} {xs : List D} : ixD (x :: y :: z :: u :: v :: w :: p :: xs) 6 h = .ok p h := by
  have := atI_nat (xs := x :: y :: z :: u :: v :: w :: p :: xs) 6 (by simp)
  simp [ixD, show atI (x :: y :: z :: u :: v :: w :: p :: xs) 6 = (x :: y :: z :: u :: v :: w :: p :: xs)[6]? from this]
@[simp] theorem ix7 {x y z u v w p q : D} {xs : List D} : ixD (x :: y :: z :: u :: v :: w :: p :: q :: xs) 7 h = .ok q h := by
  have := atI_nat (xs := x :: y :: z :: u :: v :: w :: p :: q :: xs) 7 (by simp)
  simp [ixD, show atI (x :: y :: z :: u :: v :: w :: p :: q :: xs) 7 = (x :: y :: z :: u :: v :: w :: p :: q :: xs)[7]? from this]
theorem ix_some {xs : List D} {i : Int} (h0 : 0 ≤ i) (h1 : i < xs.length) : ∃ d, xs[i.toNat]? = some d ∧ ixD xs i h = .ok d h := by
  have hi : i.toNat < xs.length := by omega
  have := atI_nat (xs := xs) i.toNat hi
  rw [Int.toNat_of_nonneg h0] at this
  exact ⟨xs[i.toNat], List.getElem?_eq_getElem hi, by simp [ixD, this, List.getElem?_eq_getElem hi]⟩
@[simp] theorem f_slT {xs : List D} {l u : Option Int} : fSl (.val (.tup xs)) l u h = .ok (.val (.tup (cutD xs l u))) h := rfl
@[simp] theorem s_sl {l u : MP} : mSl mo l u env h = (mo env h).bind fun x h1 => (l env h1).bind fun l h2 => (u env h2).bind fun u h3 => fSl x l u h3 := rfl
@[simp] theorem s_pn : pNone env h = .ok none h := rfl
def partD (d : D) (h : PHeap) : Res (Option Int) := match d with
  | .int i => .ok (some i) h
  | _ => .stuck
@[simp] theorem s_partD {i : Int} : partD (.int i) h = .ok (some i) h := rfl
@[simp] theorem s_ps : pSome a env h = (a env h).bind partD := rfl
/-! statements -/
def Out.thn (o : Out) (s : MS) : Out := match o with
  | .nx e h1 => s e h1
  | o => o
@[simp] theorem thn_nx : (Out.nx env h).thn s = s env h := rfl
@[simp] theorem thn_rt : (Out.rt d h).thn s = .rt d h := rfl
@[simp] theorem thn_bk : (Out.bk env h).thn s = .bk env h := rfl
@[simp] theorem thn_ct : (Out.ct env h).thn s = .ct env h := rfl
@[simp] theorem thn_ex : (Out.exc d env h).thn s = .exc d env h := rfl
@[simp] theorem thn_st : Out.stuck.thn s = .stuck := rfl
@[simp] theorem s_seq : sSeq s s2 env h = (s env h).thn s2 := rfl
@[simp] theorem s_next : sNext env h = .nx env h := rfl
@[simp] theorem s_brk : sBreak env h = .bk env h := rfl
@[simp] theorem s_cont : sCont env h = .ct env h := rfl
@[simp] theorem s_stk : sStuck env h = .stuck := rfl
def setO (g : TgM) (env : PEnv) (d : D) (h : PHeap) : Out := match g.set d env with
  | some e => .nx e h
  | none => .stuck
@[simp] theorem s_asg {g : TgM} : sAsg a g env h = (a env h).out env (setO g env) := rfl
@[simp] theorem set_name {i : Nat} : setO (.name i) env d h = .nx (env.set i (some d)) h := rfl
@[simp] theorem set_tup {gs : List TgM} {xs : List D} : setO (.tup gs) env (.tup xs) h = match TgM.sets gs xs env with | some e => .nx e h | none => .stuck := by
  unfold setO
  rw [TgM.set]
@[simp] theorem tg_name {i : Nat} : TgM.set (.name i) d env = some (env.set i (some d)) := by rw [TgM.set]
@[simp] theorem tg_tup {gs : List TgM} {xs : List D} : TgM.set (.tup gs) (.tup xs) env = TgM.sets gs xs env := by rw [TgM.set]
@[simp] theorem tg_nil : TgM.sets [] [] env = some env := by rw [TgM.sets]
@[simp] theorem tg_cons {g : TgM} {gs : List TgM} {xs : List D} : TgM.sets (g :: gs) (d :: xs) env = (g.set d env).bind (TgM.sets gs xs) := by
  rw [TgM.sets]
  cases g.set d env <;> rfl
@[simp] theorem s_par {is : List Nat} : sPar is r env h = (r env h).out env fun xs h1 => if xs.length = is.length then .nx ((is.zip xs).foldl (fun e p => e.set p.1 (some p.2)) env) h1 else .stuck := rfl
@[simp] theorem s_drop : sDrop a env h = (a env h).out env fun _ h1 => .nx env h1 := rfl
@[simp] theorem s_ret : sRet a env h = (a env h).out env fun d h1 => .rt d h1 := rfl
@[simp] theorem s_retN : sRetN env h = .rt .non h := rfl
@[simp] theorem s_sif : sIf t s s2 env h = (t env h).out env fun k h1 => pick k (s env h1) (s2 env h1) := rfl
@[simp] theorem s_while {kill : List Nat} : sWhile t s kill env h = whileL t s kill 1000000000000 env h := rfl
@[simp] theorem s_for {i : MI} {g : TgM} {kill : List Nat} : sFor i g s kill env h = (i env h).out env fun t h1 => forL g s kill t t.items env h1 := rfl
@[simp] theorem s_lc {i : MI} {g : TgM} {own : List Nat} : mLc i g t a own env h = (i env h).bind fun t' h1 => lcL g t a t' (wipeE env own) t'.items [] h1 := rfl
@[simp] theorem s_yes : tYesM env h = .ok true h := rfl
@[simp] theorem w_nil : wipeE env [] = env := rfl
@[simp] theorem w_cons {v : Nat} {vs : List Nat} : wipeE env (v :: vs) = (wipeE env vs).set v none := rfl
def retO (n : Nat) (o : Out) : Res D := match o with
  | .nx _ h1 => .ok .non (gc n .non h1)
  | .rt d h1 => .ok d (gc n d h1)
  | .exc e _ h1 => .exc e h1
  | _ => .stuck
@[simp] theorem ret_nx {n : Nat} : retO n (.nx env h) = .ok .non (gc n .non h) := rfl
@[simp] theorem ret_rt {n : Nat} : retO n (.rt d h) = .ok d (gc n d h) := rfl
@[simp] theorem ret_ex {n : Nat} : retO n (.exc d env h) = .exc d h := rfl
theorem s_fn {np ns : Nat} {as : List D} (hl : as.length = np) : runFn np ns s as h = retO h.length (s (as.map some ++ List.replicate (ns - np) none) h) := by
  unfold runFn
  rw [if_pos hl]
  cases s (as.map some ++ List.replicate (ns - np) none) h <;> rfl
@[simp] theorem s_fnS {np ns : Nat} {as : List D} : runFn np ns s as h = if as.length = np then retO h.length (s (as.map some ++ List.replicate (ns - np) none) h) else .stuck := by
  split
  · rename_i hl; exact s_fn hl
  · rename_i hl; unfold runFn; rw [if_neg hl]
theorem gc_same {n : Nat} (hl : h.length ≤ n) : gc n d h = h := by
  unfold gc
  rw [if_pos hl]
theorem gc_self : gc h.length d h = h := gc_same (Nat.le_refl _)
def storeO (d x y : D) (env : PEnv) (h : PHeap) : Out := match x, y with
  | .ref n, .int k => match h[n]? with
    | some (.lst xs) => match ixN xs.length k with
      | some j => .nx env (h.set n (.lst (xs.set j d)))
      | none => .stuck
    | _ => .stuck
  | _, _ => .stuck
@[simp] theorem s_sub {v o i : ME} : sSub v o i env h = (v env h).out env fun d h1 => (o env h1).out env fun x h2 => (i env h2).out env fun y h3 => storeO d x y env h3 := rfl
theorem store_ref {n : Nat} {k : Int} {xs : List D} {j : Nat} (e : h[n]? = some (.lst xs)) (hj : ixN xs.length k = some j) : storeO d (.ref n) (.int k) env h = .nx env (h.set n (.lst (xs.set j d))) := by
  simp only [storeO, e, hj]
def mtE (f : List D → List D → Option (D × List D)) (n : Nat) (ys : List D) (h2 : PHeap) : Res D := match h2[n]? with
  | some (.lst xs) => match f xs ys with
    | some (z, zs) => .ok z (h2.set n (.lst zs))
    | none => .stuck
  | _ => .stuck
def mtD (f : List D → List D → Option (D × List D)) (as : MA) (env : PEnv) (d : D) (h1 : PHeap) : Res D := match d with
  | .ref n => match h1[n]? with
    | some (.lst _) => (as env h1).bind (mtE f n)
    | _ => .stuck
  | _ => .stuck
@[simp] theorem s_mt {f : List D → List D → Option (D × List D)} {o : ME} : mMt f o r env h = (o env h).bind (mtD f r env) := rfl
@[simp] theorem mtD_ref {f : List D → List D → Option (D × List D)} {n : Nat} : mtD f r env (.ref n) h = match h[n]? with | some (.lst _) => (r env h).bind (mtE f n) | _ => .stuck := rfl
theorem mtE_append {n : Nat} {xs : List D} (e : h[n]? = some (.lst xs)) (hl : xs.length < 16777216) : mtE fAppend n [d] h = .ok .non (h.set n (.lst (xs ++ [d]))) := by
  simp only [mtE, e, fAppend]
  rw [if_pos hl]
theorem mtE_pop {n : Nat} {xs : List D} (e : h[n]? = some (.lst xs)) (hd : xs[xs.length - 1]? = some d) : mtE fPop n [] h = .ok d (h.set n (.lst xs.dropLast)) := by
  simp only [mtE, e, fPop, hd]
/-! what is walked -/
@[simp] theorem s_src : iSrc mo env h = (mo env h).bind fun lv h1 => match lv.seq h1 with | some xs => .ok ⟨xs, srcDeps lv xs⟩ h1 | none => .stuck := rfl
@[simp] theorem s_z2 : iZip2 mo mp env h = (mo env h).bind fun x h1 => (mp env h1).bind fun y h2 => match x.seq h2, y.seq h2 with | some xs, some ys => .ok ⟨List.zipWith (fun p q => D.tup [p, q]) xs ys, srcDeps x xs ++ srcDeps y ys⟩ h2 | _, _ => .stuck := rfl
@[simp] theorem s_z3 : iZip3 mo mp mq env h = (mo env h).bind fun x h1 => (mp env h1).bind fun y h2 => (mq env h2).bind fun z h3 => match x.seq h3, y.seq h3, z.seq h3 with | some xs, some ys, some zs => .ok ⟨List.zipWith (fun p q => D.tup [p, q.1, q.2]) xs (ys.zip zs), srcDeps x xs ++ (srcDeps y ys ++ srcDeps z zs)⟩ h3 | _, _, _ => .stuck := rfl
@[simp] theorem s_enu : iEnu mo env h = (mo env h).bind fun lv h1 => match lv.seq h1 with | some xs => .ok ⟨enuD xs, srcDeps lv xs⟩ h1 | none => .stuck := rfl
@[simp] theorem s_r1 : iR1 a env h = (a env h).bind fun y h1 => match y with | .int hi => if -(2 ^ 60) ≤ hi ∧ hi ≤ 2 ^ 60 then .ok ⟨rngD 0 hi, []⟩ h1 else .stuck | _ => .stuck := rfl
@[simp] theorem s_r2 : iR2 a b env h = (a env h).bind fun x h1 => (b env h1).bind fun y h2 => match x, y with | .int lo, .int hi => if (-(2 ^ 60) ≤ lo ∧ lo ≤ 2 ^ 60) ∧ -(2 ^ 60) ≤ hi ∧ hi ≤ 2 ^ 60 then .ok ⟨rngD lo hi, []⟩ h2 else .stuck | _, _ => .stuck := rfl
@[simp] theorem sd_tup' {xs ys : List D} : srcDeps (.val (.tup xs)) ys = [] := rfl
@[simp] theorem sd_fro' {xs ys : List D} : srcDeps (.val (.fro xs)) ys = [] := rfl
@[simp] theorem sd_new' {xs ys : List D} : srcDeps (.new xs) ys = [] := rfl
@[simp] theorem sd_ref' {n : Nat} {ys : List D} : srcDeps (.val (.ref n)) ys = [(n, ys)] := rfl
@[simp] theorem lv_nil {xs : List D} : Itr.live ⟨xs, []⟩ h = true := rfl
/-! loops -/
/-- a for whose body goes on at each turn -/
theorem for_inv {g : TgM} {kill : List Nat} {t : Itr} {I : Nat → PEnv → PHeap → Prop} (h0 : I 0 env h) (hl : ∀ i env h, I i env h → t.live h = true)
    (hs : ∀ i d env h, t.items[i]? = some d → I i env h → ∃ e1, g.set d (wipeE env kill) = some e1 ∧ ∃ e h', (s e1 h = .nx e h' ∨ s e1 h = .ct e h') ∧ I (i + 1) e h') :
    ∃ e h', forL g s kill t t.items env h = .nx (wipeE e kill) h' ∧ I t.items.length e h' := by
  have key : ∀ (ds : List D) (i : Nat) (env : PEnv) (h : PHeap), t.items.drop i = ds → i + ds.length = t.items.length → I i env h → ∃ e h', forL g s kill t ds env h = .nx (wipeE e kill) h' ∧ I t.items.length e h' := by
    intro ds
    induction ds with
    | nil =>
      intro i env h _ el q
      have ei : i = t.items.length := by simpa using el
      subst ei
      exact ⟨env, h, by unfold forL; rw [if_pos (hl _ _ _ q)], q⟩
    | cons d ds ih =>
      intro i env h e0 el q
      have hi : i < t.items.length := by rw [List.length_cons] at el; omega
      rw [List.drop_eq_getElem_cons hi] at e0
      injection e0 with e1 e2
      obtain ⟨e3, g1, e4, h4, g2, q4⟩ := hs i d env h (by rw [List.getElem?_eq_getElem hi, e1]) q
      obtain ⟨e5, h5, g5, q5⟩ := ih (i + 1) e4 h4 e2 (by rw [List.length_cons] at el; omega) q4
      refine ⟨e5, h5, ?_, q5⟩
      unfold forL
      rw [if_pos (hl i env h q), g1]
      rcases g2 with g2 | g2 <;> simp only [g2] <;> exact g5
  exact key t.items 0 env h rfl (by omega) h0
/-- a comprehension: the items made one by one -/
theorem lc_inv {g : TgM} {t' : Itr} {I : Nat → List D → PHeap → Prop} (h0 : I 0 [] h) (hn : t'.items.length ≤ 16777216) (hl : ∀ i acc h, I i acc h → t'.live h = true)
    (hs : ∀ i acc d h, acc.length ≤ i → i < 16777216 → t'.items[i]? = some d → I i acc h → ∃ e1, g.set d env = some e1 ∧ ∃ k h1, t e1 h = .ok k h1 ∧ ((k = false ∧ I (i + 1) acc h1) ∨ (k = true ∧ ∃ y h2, a e1 h1 = .ok y h2 ∧ I (i + 1) (acc ++ [y]) h2))) :
    ∃ acc h', lcL g t a t' env t'.items [] h = .ok acc h' ∧ I t'.items.length acc h' := by
  have key : ∀ (ds : List D) (i : Nat) (acc : List D) (h : PHeap), t'.items.drop i = ds → i + ds.length = t'.items.length → acc.length ≤ i → I i acc h → ∃ acc' h', lcL g t a t' env ds acc h = .ok acc' h' ∧ I t'.items.length acc' h' := by
    intro ds
    induction ds with
    | nil =>
      intro i acc h _ el _ q
      have ei : i = t'.items.length := by simpa using el
      subst ei
      exact ⟨acc, h, by unfold lcL; rw [if_pos (hl _ _ _ q)], q⟩
    | cons d ds ih =>
      intro i acc h e0 el ea q
      have hi : i < t'.items.length := by rw [List.length_cons] at el; omega
      rw [List.drop_eq_getElem_cons hi] at e0
      injection e0 with e1 e2
      obtain ⟨e3, g1, k, h1, g2, g3⟩ := hs i acc d h ea (by omega) (by rw [List.getElem?_eq_getElem hi, e1]) q
      unfold lcL
      rw [if_pos (hl i acc h q), g1]
      simp only [g2, Res.calm_ok, Res.bind_ok]
      rcases g3 with ⟨rfl, q3⟩ | ⟨rfl, y, h2, g4, q3⟩
      · exact ih (i + 1) acc h1 e2 (by rw [List.length_cons] at el; omega) (by omega) q3
      · simp only [g4, Res.calm_ok, Res.bind_ok]
        rw [if_pos (by omega)]
        exact ih (i + 1) (acc ++ [y]) h2 e2 (by rw [List.length_cons] at el; omega) (by simp; omega) q3
  exact key t'.items 0 [] h rfl (by omega) (Nat.zero_le _) h0
/-- a comprehension that touches nothing: a map with a filter -/
theorem lc_pure {g : TgM} {t' : Itr} {p : D → Bool} {f : D → D} (hn : t'.items.length ≤ 16777216) (hl : t'.live h = true) (hs : ∀ d ∈ t'.items, ∃ e1, g.set d env = some e1 ∧ t e1 h = .ok (p d) h ∧ (p d = true → a e1 h = .ok (f d) h)) :
    lcL g t a t' env t'.items [] h = .ok ((t'.items.filter p).map f) h := by
  obtain ⟨acc, h', e, q⟩ := lc_inv (env := env) (h := h) (g := g) (t := t) (a := a) (t' := t') (I := fun i acc h' => h' = h ∧ acc = ((t'.items.take i).filter p).map f) ⟨rfl, rfl⟩ hn (fun i acc h' q => by rw [q.1]; exact hl) (by
    rintro i acc d h' ha hi hd ⟨rfl, rfl⟩
    obtain ⟨e1, g1, g2, g3⟩ := hs d (List.mem_of_getElem? hd)
    obtain ⟨hi2, hd2⟩ := List.getElem?_eq_some_iff.mp hd
    have et : t'.items.take (i + 1) = t'.items.take i ++ [d] := by rw [List.take_succ, hd]; rfl
    refine ⟨e1, g1, p d, _, g2, ?_⟩
    cases hp : p d with
    | false => exact .inl ⟨rfl, rfl, by rw [et]; simp [hp]⟩
    | true => exact .inr ⟨rfl, f d, _, g3 hp, rfl, by rw [et]; simp [hp]⟩)
  obtain ⟨rfl, rfl⟩ := q
  rw [e, List.take_length]

/-! == and in, of ints -/
theorem toPy_int {n : Nat} {i : Int} : toPy h (n + 1) (.int i) = some (.int i) := by rw [toPy]
theorem toPy_bl {n : Nat} {i : Bool} : toPy h (n + 1) (.bl i) = some (.bool i) := by rw [toPy]
theorem toPy_non {n : Nat} : toPy h (n + 1) .non = some .none := by rw [toPy]
theorem toPy_tupE {n : Nat} {xs : List D} : toPy h (n + 1) (.tup xs) = (travO (toPy h n) xs).map .tuple := by rw [toPy]
@[simp] theorem py_int {i : Int} : (LV.val (.int i)).py h = some (.int i) := show toPy h (59 + 1) (.int i) = _ from toPy_int
@[simp] theorem py_bl {i : Bool} : (LV.val (.bl i)).py h = some (.bool i) := show toPy h (59 + 1) (.bl i) = _ from toPy_bl
@[simp] theorem py_non : (LV.val .non).py h = some .none := show toPy h (59 + 1) .non = _ from toPy_non
@[simp] theorem f_eqI {k : Bool → Bool} {i j : Int} : fEqO k (.val (.int i)) (.val (.int j)) h = .ok (.bl (k (decide (i = j)))) h := by
  simp only [fEqO, py_int, PyData.eqv]
  congr 3
theorem trav_ints {n : Nat} : ∀ (xs : List Int), travO (toPy h (n + 1)) (xs.map D.int) = some (xs.map PyData.int)
  | [] => rfl
  | x :: xs => by simp only [List.map_cons, travO, toPy_int, trav_ints xs]
theorem py_ints {xs : List Int} : (LV.val (.tup (xs.map D.int))).py h = some (.tuple (xs.map PyData.int)) := by
  show toPy h (59 + 1) (.tup (xs.map D.int)) = _
  rw [toPy_tupE, trav_ints (n := 58)]
  rfl
theorem f_inI {k : Bool → Bool} {i : Int} {xs : List Int} : fInO k (.val (.int i)) (.val (.tup (xs.map D.int))) h = .ok (.bl (k (decide (i ∈ xs)))) h := by
  simp only [fInO, py_int, py_ints, itemsP]
  congr 3
  rw [List.any_map]
  rw [Bool.eq_iff_iff]
  simp only [List.any_eq_true, Function.comp, PyData.eqv, decide_eq_true_eq, beq_iff_eq]
  exact ⟨fun ⟨x, m, e⟩ => e ▸ m, fun m => ⟨i, m, rfl⟩⟩
@[simp] theorem f_in2 {k : Bool → Bool} {i a b : Int} : fInO k (.val (.int i)) (.val (.tup [.int a, .int b])) h = .ok (.bl (k (decide (i ∈ [a, b])))) h := f_inI (xs := [a, b])
@[simp] theorem f_in3 {k : Bool → Bool} {i a b c : Int} : fInO k (.val (.int i)) (.val (.tup [.int a, .int b, .int c])) h = .ok (.bl (k (decide (i ∈ [a, b, c])))) h := f_inI (xs := [a, b, c])
theorem cnt_ints {xs : List Int} {k : Int} : cntOf (.val (.tup (xs.map D.int))) (.int k) h = some (xs.countP fun x => decide (x = k)) := by
  unfold cntOf
  rw [show toPy h 60 (.int k) = some (.int k) from toPy_int (n := 59), py_ints]
  simp only [List.countP_map]
  congr 2
def cntD (as : MA) (env : PEnv) (d : LV) (h1 : PHeap) : Res D := match d.seq h1 with
  | some _ => (as env h1).bind fun ys h2 => match ys with
    | [y] => match cntOf d y h2 with
      | some n => .ok (.int n) h2
      | none => .stuck
    | _ => .stuck
  | none => .stuck
@[simp] theorem s_cnt : mCnt mo r env h = (mo env h).bind (cntD r env) := rfl
theorem cnt_tup {xs : List Int} {k : Int} (er : r env h = .ok [.int k] h) : cntD r env (.val (.tup (xs.map D.int))) h = .ok (.int (xs.countP fun x => decide (x = k) : Nat)) h := by
  simp only [cntD, sq_tup, er, Res.bind_ok, cnt_ints]
/-! heaps whose cells point within -/
def Tidy (h : PHeap) : Prop := ∀ c ∈ h, Cell.small h.length c = true
theorem gc_drop {h1 : PHeap} {l : List Cell} (hl : h1.length = h.length) (w : Tidy h1) (hd : d.small h.length = true) : gc h.length d (h1 ++ l) = h1 := by
  unfold gc
  rw [List.length_append]
  split
  · rename_i q
    have : l = [] := List.eq_nil_of_length_eq_zero (by omega)
    rw [this, List.append_nil]
  · rw [if_pos ?_, ← hl, List.take_left]
    rw [hd, Bool.true_and, ← hl, List.take_left]
    exact List.all_eq_true.mpr w
theorem gc_drop0 {l : List Cell} (w : Tidy h) (hd : d.small h.length = true) : gc h.length d (h ++ l) = h := gc_drop rfl w hd
theorem smallL_all {n : Nat} : ∀ {xs : List D}, (∀ x ∈ xs, x.small n = true) → D.smallL n xs = true
  | [], _ => rfl
  | x :: xs, q => by rw [D.smallL, q x (List.mem_cons_self ..), smallL_all fun y m => q y (List.mem_cons_of_mem _ m)]; rfl
@[simp] theorem sm_int {n : Nat} {i : Int} : (D.int i).small n = true := rfl
@[simp] theorem sm_bl {n : Nat} {i : Bool} : (D.bl i).small n = true := rfl
@[simp] theorem sm_non {n : Nat} : D.non.small n = true := rfl
@[simp] theorem sm_str {n : Nat} {z : Str} : (D.str z).small n = true := rfl
@[simp] theorem sm_tup {n : Nat} {xs : List D} : (D.tup xs).small n = D.smallL n xs := rfl
@[simp] theorem sm_ref {n k : Nat} : (D.ref k).small n = decide (k < n) := rfl
@[simp] theorem sm_nilL {n : Nat} : D.smallL n [] = true := rfl
@[simp] theorem sm_consL {n : Nat} {x : D} {xs : List D} : D.smallL n (x :: xs) = (x.small n && D.smallL n xs) := rfl

theorem lcL_nil {g : TgM} {t' : Itr} {acc : List D} : lcL g t a t' env [] acc h = if t'.live h then .ok acc h else .stuck := by rw [lcL]
theorem lcL_cons {g : TgM} {t' : Itr} {ds acc : List D} : lcL g t a t' env (d :: ds) acc h = if t'.live h then (match g.set d env with
    | none => .stuck
    | some e1 => (t e1 h).calm.bind fun k h1 => pick k ((a e1 h1).calm.bind fun y h2 => if acc.length < 16777216 then lcL g t a t' env ds (acc ++ [y]) h2 else .stuck) (lcL g t a t' env ds acc h1)) else .stuck := by
  rw [lcL]
  congr 1
  cases g.set d env with
  | none => rfl
  | some e1 =>
    simp only
    congr 1
    funext k h1
    cases k <;> rfl
theorem py_newI {xs : List Int} : (LV.new (xs.map D.int)).py h = some (.list (xs.map PyData.int)) := by
  show (travO (toPy h (59 + 1)) (xs.map D.int)).map PyData.list = _
  rw [trav_ints]
  rfl
theorem py_refI {n : Nat} {xs : List Int} (e : h[n]? = some (.lst (xs.map D.int))) : (LV.val (.ref n)).py h = some (.list (xs.map PyData.int)) := by
  show toPy h (59 + 1) (.ref n) = _
  rw [toPy]
  simp only [e]
  rw [trav_ints (n := 58)]
  rfl
theorem eqv_ints : ∀ xs ys : List Int, PyData.eqvAll (xs.map PyData.int) (ys.map PyData.int) = decide (xs = ys)
  | [], [] => rfl
  | [], y :: ys => by simp [PyData.eqvAll]
  | x :: xs, [] => by simp [PyData.eqvAll]
  | x :: xs, y :: ys => by
    simp only [List.map_cons, PyData.eqvAll, PyData.eqv, eqv_ints xs ys, List.cons.injEq, Bool.decide_and]
    rfl
theorem f_eqRN {k : Bool → Bool} {n : Nat} {xs ys : List Int} (e : h[n]? = some (.lst (xs.map D.int))) : fEqO k (.val (.ref n)) (.new (ys.map D.int)) h = .ok (.bl (k (decide (xs = ys)))) h := by
  simp only [fEqO, py_refI e, py_newI, PyData.eqv, eqv_ints]
end
end Gb

/-! GbP: sum, max, min of ints; divmod; extend; range with a step; tuples of the module -/
namespace Gb
open PySem PySem.Spec PyProof.Rows L2
section
variable {X : Cx} {cl : Nat → Addr} {W : WX} {a b c e o : Expr} {es : List Expr} {ma mb mc : ME} {ml : MA} {mo mp : MO} {tg : Expr} {p pos : Pos}
/-! a tuple of the module -/
def atomV : D → V
  | .int i => .int i
  | .str x => .str x
  | .bl b => .bl b
  | _ => .non
def atomB : D → Bool
  | .int _ => true
  | .str _ => true
  | .bl _ => true
  | .non => true
  | _ => false
def KTupD (K : PySem.W.Frag) (u : Value) (xs : List D) : Prop := ∃ (a : Addr) (o : Obj) (its : Array Value) (n : Nat), u = .ref a ∧ K.lookup a = some o ∧ o.cls = .type "tuple" ∧ o.dict = none ∧ o.data = .seq its n ∧ its.size ≤ sizeLine ∧ Vals (xs.map atomV) its.toList
theorem rep_atoms {K : PySem.W.Frag} {io : List Addr} {H : Hp} : ∀ {xs : List D}, xs.all atomB = true → RepL K io H xs (xs.map atomV)
  | [], _ => rfl
  | x :: xs, h => by
    rw [List.all_cons, Bool.and_eq_true] at h
    refine ⟨_, _, rfl, ?_, rep_atoms h.2⟩
    cases x <;> first | rfl | (exact absurd h.1 (by simp [atomB]))
theorem sd_gctD {x : Str} {xs : List D} (hg : Gl X x) (ha : xs.all atomB = true) (h : ∃ u, X.mg x = some u ∧ KTupD X.K u xs) (hd : (x == ("__debug__" : Str)) = false := by decide) : SE X cl W (.Name x pos) (mC (.tup xs)) := by
  obtain ⟨u, h1, a, o, its, n, rfl, k1, k2, k3, k4, k5, k6⟩ := h
  refine (pe_glob (v := .ref a) hg h1 rfl hd).imp fun sg H Q ⟨env, h, io, E, hr, p⟩ => p.here hr ?_
  exact ⟨a, xs.map atomV, rfl, .inr ⟨o, its, n, k1, k2, k3, k4, k5, k6⟩, rep_atoms ha⟩
/-! sum, max, min of a list of ints -/
def fSum : LV → PHeap → Res D := fun x h => match x.items h with
  | some xs => match intsOf xs with
    | some ns => .ok (.int ns.sum) h
    | none => .stuck
  | none => .stuck
def maxI : List Int → Int
  | [] => 0
  | x :: xs => xs.foldl max x
def minI : List Int → Int
  | [] => 0
  | x :: xs => xs.foldl min x
theorem foldl_max : ∀ (xs : List Int) (x : Int), (xs.foldl max x = x ∨ xs.foldl max x ∈ xs) ∧ x ≤ xs.foldl max x ∧ ∀ y ∈ xs, y ≤ xs.foldl max x
  | [], x => ⟨.inl rfl, Int.le_refl _, fun y m => by cases m⟩
  | z :: xs, x => by
    obtain ⟨h1, h2, h3⟩ := foldl_max xs (max x z)
    rw [List.foldl_cons]
    refine ⟨?_, by omega, fun y m => ?_⟩
    · rcases h1 with h1 | h1
      · rw [h1]
        by_cases hz : x ≤ z
        · right; rw [Int.max_eq_right hz]; exact List.mem_cons_self ..
        · left; omega
      · exact .inr (List.mem_cons_of_mem _ h1)
    · rcases List.mem_cons.mp m with rfl | m
      · omega
      · exact h3 y m
theorem foldl_min : ∀ (xs : List Int) (x : Int), (xs.foldl min x = x ∨ xs.foldl min x ∈ xs) ∧ xs.foldl min x ≤ x ∧ ∀ y ∈ xs, xs.foldl min x ≤ y
  | [], x => ⟨.inl rfl, Int.le_refl _, fun y m => by cases m⟩
  | z :: xs, x => by
    obtain ⟨h1, h2, h3⟩ := foldl_min xs (min x z)
    rw [List.foldl_cons]
    refine ⟨?_, by omega, fun y m => ?_⟩
    · rcases h1 with h1 | h1
      · rw [h1]
        by_cases hz : z ≤ x
        · right; rw [Int.min_eq_right hz]; exact List.mem_cons_self ..
        · left; omega
      · exact .inr (List.mem_cons_of_mem _ h1)
    · rcases List.mem_cons.mp m with rfl | m
      · omega
      · exact h3 y m
theorem maxI_spec {xs : List Int} (h : xs ≠ []) : maxI xs ∈ xs ∧ ∀ y ∈ xs, y ≤ maxI xs := by
  cases xs with
  | nil => exact absurd rfl h
  | cons x xs =>
    obtain ⟨h1, h2, h3⟩ := foldl_max xs x
    refine ⟨?_, fun y m => ?_⟩
    · show xs.foldl max x ∈ _
      rcases h1 with h1 | h1
      · rw [h1]; exact List.mem_cons_self ..
      · exact List.mem_cons_of_mem _ h1
    · show y ≤ xs.foldl max x
      rcases List.mem_cons.mp m with rfl | m
      · exact h2
      · exact h3 y m
theorem minI_spec {xs : List Int} (h : xs ≠ []) : minI xs ∈ xs ∧ ∀ y ∈ xs, minI xs ≤ y := by
  cases xs with
  | nil => exact absurd rfl h
  | cons x xs =>
    obtain ⟨h1, h2, h3⟩ := foldl_min xs x
    refine ⟨?_, fun y m => ?_⟩
    · show xs.foldl min x ∈ _
      rcases h1 with h1 | h1
      · rw [h1]; exact List.mem_cons_self ..
      · exact List.mem_cons_of_mem _ h1
    · show xs.foldl min x ≤ y
      rcases List.mem_cons.mp m with rfl | m
      · exact h2
      · exact h3 y m
def fMaxL : LV → PHeap → Res D := fun x h => match x.items h with
  | some xs => match intsOf xs with
    | some (n :: ns) => .ok (.int (maxI (n :: ns))) h
    | _ => .stuck
  | none => .stuck
def fMinL : LV → PHeap → Res D := fun x h => match x.items h with
  | some xs => match intsOf xs with
    | some (n :: ns) => .ok (.int (minI (n :: ns))) h
    | _ => .stuck
  | none => .stuck
theorem con_sum : Con1 (β := V) (RRep X.K) X.K cl (rSum X.K) fSum := by
  intro W io sg H h x v Q hr r p
  unfold fSum at p
  split at p
  · rename_i xs e
    split at p
    · rename_i ns e2
      obtain ⟨a, vs, rfl, h1, h2⟩ := r.items hr e
      have := intsOf_eq e2
      subst this
      have ev := rep_ints h2
      subst ev
      exact ⟨a, ns, rfl, h1, p.here hr rfl⟩
    · exact p.elim
  · exact p.elim
theorem con_maxL : Con1 (β := V) (RRep X.K) X.K cl (rMax X.K) fMaxL := by
  intro W io sg H h x v Q hr r p
  unfold fMaxL at p
  split at p
  · rename_i xs e
    split at p
    · rename_i n ns e2
      obtain ⟨a, vs, rfl, h1, h2⟩ := r.items hr e
      have := intsOf_eq e2
      subst this
      have ev := rep_ints h2
      subst ev
      refine ⟨a, n :: ns, rfl, h1, by simp, fun m mm hm => ?_⟩
      obtain ⟨s1, s2⟩ := maxI_spec (xs := n :: ns) (by simp)
      have : m = maxI (n :: ns) := Int.le_antisymm (s2 m mm) (hm _ s1)
      subst this
      exact p.here hr rfl
    · exact p.elim
  · exact p.elim
theorem con_minL : Con1 (β := V) (RRep X.K) X.K cl (rMin X.K) fMinL := by
  intro W io sg H h x v Q hr r p
  unfold fMinL at p
  split at p
  · rename_i xs e
    split at p
    · rename_i n ns e2
      obtain ⟨a, vs, rfl, h1, h2⟩ := r.items hr e
      have := intsOf_eq e2
      subst this
      have ev := rep_ints h2
      subst ev
      refine ⟨a, n :: ns, rfl, h1, by simp, fun m mm hm => ?_⟩
      obtain ⟨s1, s2⟩ := minI_spec (xs := n :: ns) (by simp)
      have : m = minI (n :: ns) := Int.le_antisymm (hm _ s1) (s2 m mm)
      subst this
      exact p.here hr rfl
    · exact p.elim
  · exact p.elim
theorem sd_sum (he : SO X cl W e mo) (hm : X.mg "sum" = none) (hc : X.calm = true := by rfl) (hg : Gl X "sum" := by rfl) (hs : starEach [e] X.env = (false, eval e X.env) :: starEach [] X.env := by rfl) : SE X cl W (.Call (.Name "sum" p) [e] [] pos) (m1 fSum mo) :=
  sc_b1 (cr_sum hc) con_sum he hg hm (by decide +kernel) (by decide) (by decide) hs
theorem sd_maxL (he : SO X cl W e mo) (hm : X.mg "max" = none) (hc : X.calm = true := by rfl) (hg : Gl X "max" := by rfl) (hs : starEach [e] X.env = (false, eval e X.env) :: starEach [] X.env := by rfl) : SE X cl W (.Call (.Name "max" p) [e] [] pos) (m1 fMaxL mo) :=
  sc_b1 (cr_max hc) con_maxL he hg hm (by decide +kernel) (by decide) (by decide) hs
theorem sd_minL (he : SO X cl W e mo) (hm : X.mg "min" = none) (hc : X.calm = true := by rfl) (hg : Gl X "min" := by rfl) (hs : starEach [e] X.env = (false, eval e X.env) :: starEach [] X.env := by rfl) : SE X cl W (.Call (.Name "min" p) [e] [] pos) (m1 fMinL mo) :=
  sc_b1 (cr_min hc) con_minL he hg hm (by decide +kernel) (by decide) (by decide) hs
/-! extend by a tuple -/
theorem ext_tup (l : Addr) (xa : Array Value) (n : Nat) (b : Addr) (ya : Array Value) (m : Nat) (dc : Option Addr) (sl : Array (Option Value)) (c0 : ¬(!xa.isEmpty && Builtin.List.listTooLong (xa.size + ya.size)) = true) (c1 : xa.size ≤ sizeLine) (c2 : xa.size + ya.size ≤ sizeLine + 1) :
    Meets (Builtin.«list.extend» ⟨[.ref l, .ref b], []⟩) (fun _ R s => s.heap.get? l = some { cls := .type "list", dict := none, data := .seq xa n, slots := #[] } ∧ s.heap.get? b = some { cls := .type "tuple", dict := dc, data := .seq ya m, slots := sl } ∧ R (.ok (.ret Value.none)) { s with heap := s.heap.update l (Obj.mapSeq fun x => x ++ ya), toks := s.toks }) :=
  .of_wp fun prog w A R s h => by
    obtain ⟨hp, gs, dr, tk, os⟩ := s
    obtain ⟨el, eb, h⟩ := h
    have f1 := AutoSeq1.idx_int
    have f2 := AutoSeq1.sub_tuple_tuple
    have f3 := AutoSeq1.sub_list_list
    have f4 := AutoSeq1.sub_tuple_list
    have f5 := AutoSeq1.sub_list_tuple
    have c3 : (xa ++ ya).size ≤ sizeLine + 1 := by rw [Array.size_append]; exact c2
    wp_walk using (wpAny_updateSeq el rfl (hz := c1) (_hz' := c3)), AutoSeq1.wpAny_loadPart' el, AutoSeq1.wpAny_loadPart' eb
    exact ⟨_, rfl, h⟩
/-- a list or a tuple behind it -/
def rExtend2 (K : PySem.W.Frag) : V → List V → Hp → VK → Prop := fun x vs H Q => ∃ l b xs zs, x = .ref l ∧ vs = [.ref b] ∧ H l = some (.lst xs) ∧ (H b = some (.lst zs) ∨ SqT K H b zs) ∧ xs.length + zs.length ≤ sizeLine ∧ Q .non (upd H l (.lst (xs ++ zs)))
theorem mt_extend2 : MtM X "list.extend" (rExtend2 X.K) := by
  intro pins sh σ H x vs v us Q I rx rv hh
  obtain ⟨l, b, xs, zs, e1, e2, hH, hB, hz, q⟩ := hh
  rcases hB with hB | hB
  · exact mt_extend pins sh σ H x vs v us Q I rx rv ⟨l, b, xs, zs, e1, e2, hH, hB, hz, q⟩
  subst e1; subst e2
  cases rx
  obtain ⟨u, rfl, ru⟩ := rv.one
  cases ru
  obtain ⟨z, xl, n, r, l1, e⟩ := I.lstM hH
  obtain ⟨yl, r2, ⟨⟨c2, dc, da, sl⟩, e3, hc2, n2, hd2⟩, z2⟩ := I.tuple hB
  replace hc2 : c2 = .type "tuple" := hc2
  replace hd2 : da = .seq yl.toArray n2 := hd2
  subst hc2; subst hd2
  have l2 := r2.length
  have both : xl.toArray.size + yl.toArray.size ≤ sizeLine := by rw [List.size_toArray, List.size_toArray]; omega
  have fits : ¬ (!xl.toArray.isEmpty && Builtin.List.listTooLong (xl.toArray.size + yl.toArray.size)) = true := by
    rw [notLongL both, Bool.and_false]; exact Bool.false_ne_true
  refine call_meets PySem.F.slot_list_extend ⟨_, e, rfl⟩ PySem.F.entry_list_extend (PySem.F.args_list_extend_2 _ _)
    (ext_tup l xl.toArray n b yl.toArray n2 dc sl fits (by rw [List.size_toArray]; omega) (by omega)) ⟨e, e3, ?_⟩
  refine ⟨.non, _, I.lset (its' := xl ++ yl) hH e (by simp) (r.append r2) ?_, rfl, q⟩
  rw [List.length_append]; omega
/-! o.extend(e), e a list or a tuple -/
def mExt (o : ME) (as : MA) : ME := fun env h => (o env h).bind fun d h1 => match d with
  | .ref n => match h1[n]? with
    | some (.lst _) => (as env h1).bind fun ys h2 => match ys with
      | [.ref m] => match h2[n]?, h2[m]? with
        | some (.lst xs), some (.lst zs) => if xs.length + zs.length ≤ 16777216 then .ok .non (h2.set n (.lst (xs ++ zs))) else .stuck
        | _, _ => .stuck
      | [.tup zs] => match h2[n]? with
        | some (.lst xs) => if xs.length + zs.length ≤ 16777216 then .ok .non (h2.set n (.lst (xs ++ zs))) else .stuck
        | _ => .stuck
      | _ => .stuck
    | _ => .stuck
  | _ => .stuck
theorem rd_ext {sg : L2.St} {H : Hp} {Q : VK} (q : rd (RRep X.K) X.K cl W (mExt ma ml) sg H Q) :
    tBM X.K "list" (rExtend2 X.K) (rd (RRep X.K) X.K cl W ma) (rd (RRepL X.K) X.K cl W ml) sg H Q := by
  have hz : sizeLine = 16777216 := sizeLine_eq
  obtain ⟨env, h, io, E, hr, p⟩ := q
  refine rd_mk E hr (p.bind fun d h1 v io1 H1 e1 s1 r1 q1 p1 => ?_)
  cases d with
  | ref n =>
    obtain ⟨a, ha, rfl⟩ := q1
    simp only at p1
    split at p1
    · rename_i xs0 e0
      obtain ⟨vs0, hv0, _⟩ := r1.cell n a _ ha e0
      refine ⟨.inl ⟨rfl, _, .of hv0⟩, rd_mk (E.step s1) r1 (p1.bind fun ys h2 us io2 H2 e2 s2 r2 q2 p2 => ?_)⟩
      have ha2 := s2.get ha
      split at p2
      · rename_i m
        obtain ⟨u, t, rfl, ⟨bb, hb, rfl⟩, rt⟩ := q2
        have rt' : t = [] := rt
        subst rt'
        split at p2
        · rename_i xs zs e3 e4
          obtain ⟨vs, hv, r3⟩ := r2.cell n a _ ha2 e3
          obtain ⟨ws, hw, r4⟩ := r2.cell m bb _ hb e4
          split at p2
          · rename_i c
            have hl := r3.length
            have hl2 := r4.length
            have r5 : RepL X.K io2 H2 (xs ++ zs) (vs ++ ws) := r3.append r4
            exact ⟨a, bb, vs, ws, rfl, rfl, hv, .inl hw, by omega, p2 _ io2 _ (Step.write (List.mem_of_getElem? ha2) hv) (r2.write ha2 hv r5) rfl⟩
          · exact p2.elim
        · exact p2.elim
      · rename_i zs
        obtain ⟨u, t, rfl, ⟨bb, ws, rfl, hb, r4⟩, rt⟩ := q2
        have rt' : t = [] := rt
        subst rt'
        split at p2
        · rename_i xs e3
          obtain ⟨vs, hv, r3⟩ := r2.cell n a _ ha2 e3
          split at p2
          · rename_i c
            have hl := r3.length
            have hl2 := r4.length
            have r5 : RepL X.K io2 H2 (xs ++ zs) (vs ++ ws) := r3.append r4
            exact ⟨a, bb, vs, ws, rfl, rfl, hv, .inr hb.sq, by omega, p2 _ io2 _ (Step.write (List.mem_of_getElem? ha2) hv) (r2.write ha2 hv r5) rfl⟩
          · exact p2.elim
        · exact p2.elim
      · exact p2.elim
    · exact p1.elim
  | _ => exact p1.elim
theorem sd_extend {apos cpos : Pos} (ho : SE X cl W o ma) (ha : SA X cl W [e] ml) (hbase : attributeBase o "extend" X.env (eval o X.env) = eval o X.env := by rfl)
    (hfew : ((backTo cpos (starEach [e] X.env)).all (fun x => !x.1) && (backToKw cpos (keywordEach [] X.env)).all (fun x => x.1.isSome)
      && decide ([e].length + ([] : List Keyword).length + (if ([] : List Keyword).isEmpty then 0 else 1) < 30)) = true := by rfl)
    (hline : (apos.endLine == cpos.line) = true := by rfl) (hs : starEach [e] X.env = (false, eval e X.env) :: starEach [] X.env := by rfl) (hplain : (backTo cpos (starEach [] X.env)).any (·.1) = false := by rfl) :
    SE X cl W (.Call (.Attribute o "extend" apos) [e] [] cpos) (mExt ma ml) :=
  (pe_bm PySem.F.plainAttrs_list PySem.F.slot_list_extend (by rfl) mt_extend2 ho ha hbase hfew hline hs hplain).imp fun sg H Q q => rd_ext q
/-! range(a, b, -1) -/
def rngN (lo hi : Int) : List D := (List.range (lo - hi).toNat).map fun i => D.int (lo - (i : Nat))
def iR3 (a b c : ME) : MI := fun env h => (a env h).bind fun x h1 => (b env h1).bind fun y h2 => (c env h2).bind fun z h3 => match x, y, z with
  | .int lo, .int hi, .int (-1) => if (-(2 ^ 60) ≤ lo ∧ lo ≤ 2 ^ 60) ∧ -(2 ^ 60) ≤ hi ∧ hi ≤ 2 ^ 60 then .ok ⟨rngN lo hi, []⟩ h3 else .stuck
  | _, _, _ => .stuck
theorem walk_rngN {lo hi : Int} {K : PySem.W.Frag} {io : List Addr} {Hs H : Hp} : WalkRep K cl Hs io H ⟨rngN lo hi, []⟩ (Itc lo (-1) (lo - hi).toNat) := by
  refine ⟨[], _, _, fun a m => by simp at m, by simpa [rngN] using walk_rangeC (lo := lo) (c := -1) (n := (lo - hi).toNat), fun _ _ _ _ _ _ => trivial, fun i io2 H2 h2 x H' d s2 r2 l2 hd y => ?_⟩
  obtain ⟨rfl, rfl⟩ := y
  refine ⟨.refl, r2, ?_⟩
  simp only [rngN, List.getElem?_map] at hd
  cases q : (List.range (lo - hi).toNat)[i]? with
  | none => rw [q] at hd; cases hd
  | some j =>
    rw [q] at hd
    cases hd
    obtain ⟨h1, h2⟩ := List.getElem?_eq_some_iff.mp q
    simp at h2
    subst h2
    show V.int _ = V.int _
    congr 1
    first | done | omega
theorem si_rng3 (hm : X.mg "range" = none) (ha : SE X cl W a ma) (hb : SE X cl W b mb) (hcc : SE X cl W c mc) (hg : Gl X "range" := by rfl) (hs : starEach [a, b, c] X.env = (false, eval a X.env) :: starEach [b, c] X.env := by rfl) (hs2 : starEach [b, c] X.env = (false, eval b X.env) :: starEach [c] X.env := by rfl) (hs3 : starEach [c] X.env = (false, eval c X.env) :: starEach [] X.env := by rfl) (hpl : (backTo pos (starEach [b, c] X.env)).any (·.1) = false := by rfl) : SI X cl W tg (.Call (.Name "range" p) [a, b, c] [] pos) (iR3 ma mb mc) :=
  (pi_range3 hg hm (pa_cons ha (pa_cons hb (pa_cons hcc pa_nil hs3) hs2) hs) hs hpl).imp fun sg H R ⟨env, h, io, E, hr, p⟩ => rd_mk E hr (p.bind fun d h1 v io1 H1 e1 s1 r1 q1 p1 => rd_mk (E.step s1) r1 (p1.bind fun d2 h2 u io2 H2 e2 s2 r2 q2 p2 => rd_mk ((E.step s1).step s2) r2 (p2.bind fun d3 h3 w io3 H3 e3 s3 r3 q3 p3 => by
    split at p3
    · rename_i lo hi
      cases q1
      cases q2
      cases q3
      split at p3
      · exact ⟨lo, hi, -1, (lo - hi).toNat, rfl, RgC.neg (by omega) (by omega) (by omega) (by omega), p3 _ io3 H3 .refl r3 walk_rngN⟩
      · exact p3.elim
    · exact p3.elim)))
end
end Gb

/-! GbQ: dicts of ints that nobody writes; repr of any data -/
namespace Gb
open PySem PySem.Spec PyProof.Rows L2
mutual
/-- data with no list in it -/
def D.okT : D → Bool
  | .tup xs => D.okTL xs
  | .ref _ => false
  | .fro _ => false
  | .lst _ => false
  | .non => true
  | .bl _ => true
  | .int _ => true
  | .str _ => true
  | .dct _ _ => true
  | .map _ => false
def D.okTL : List D → Bool
  | [] => true
  | x :: xs => x.okT && D.okTL xs
end
mutual
def pyX : D → PyData
  | .non => .none
  | .bl b => .bool b
  | .int i => .int i
  | .str x => .str x
  | .tup xs => .tuple (pyXL xs)
  | .dct ks vs => .dict ((pyXL ks).zip (pyXL vs))
  | .lst _ => .none
  | .map _ => .none
  | .fro _ => .none
  | .ref _ => .none
def pyXL : List D → List PyData
  | [] => []
  | x :: xs => pyX x :: pyXL xs
end
def intP (ns : List (Int × Int)) : List (PyData × PyData) := ns.map fun p => (.int p.1, .int p.2)
theorem pyX_dct (ns : List (Int × Int)) : pyX (.dct (ns.map fun p => D.int p.1) (ns.map fun p => D.int p.2)) = .dict (intP ns) := by
  rw [pyX]
  congr 1
  induction ns with
  | nil => rfl
  | cons n ns ih => simp only [List.map_cons, pyXL, List.zip_cons_cons, pyX, intP, ih]
mutual
inductive Dt (K : PySem.W.Frag) (H : Hp) : V → PyData → Prop
  | non : Dt K H .non .none
  | bl (b : Bool) : Dt K H (.bl b) (.bool b)
  | int (i : Int) : Dt K H (.int i) (.int i)
  | str (x : Str) : Dt K H (.str x) (.str x)
  | tup {a : Addr} {xs : List V} {ds : List PyData} (s : SqT K H a xs) (q : DtAll K H xs ds) : Dt K H (.ref a) (.tuple ds)
  | dct {a : Addr} {ns : List (Int × Int)} (s : FroL K H a (.d ns)) : Dt K H (.ref a) (.dict (intP ns))
inductive DtAll (K : PySem.W.Frag) (H : Hp) : List V → List PyData → Prop
  | nil : DtAll K H [] []
  | cons {v : V} {vs : List V} {d : PyData} {ds : List PyData} (h : Dt K H v d) (t : DtAll K H vs ds) : DtAll K H (v :: vs) (d :: ds)
end
section
variable {K : PySem.W.Frag} {io : List Addr} {H : Hp}
mutual
theorem dt_of : ∀ (d : D) (v : V), d.okT = true → Rep K io H d v → Dt K H v (pyX d)
  | .non, _, _, r => by cases r; exact .non
  | .bl b, _, _, r => by cases r; exact .bl b
  | .int i, _, _, r => by cases r; exact .int i
  | .str x, _, _, r => by cases r; exact .str x
  | .tup xs, _, e, ⟨a, vs, e2, s, r⟩ => by
    subst e2
    rw [pyX]
    exact .tup s.sq (dtL_of xs vs (by simpa only [D.okT] using e) r)
  | .dct ks ws, _, _, ⟨a, ns, e2, s, e3, e4⟩ => by
    subst e2 e3 e4
    rw [pyX_dct]
    exact .dct s
  | .ref _, _, e, _ => by simp [D.okT] at e
  | .map _, _, e, _ => by simp [D.okT] at e
  | .fro _, _, e, _ => by simp [D.okT] at e
  | .lst _, _, e, _ => by simp [D.okT] at e
theorem dtL_of : ∀ (ds : List D) (vs : List V), D.okTL ds = true → RepL K io H ds vs → DtAll K H vs (pyXL ds)
  | [], _, _, r => by
    have r' : _ = _ := r
    subst r'
    exact .nil
  | d :: ds, _, e, ⟨v, t, e2, r1, r2⟩ => by
    subst e2
    simp only [D.okTL, Bool.and_eq_true] at e
    exact .cons (dt_of d v e.1 r1) (dtL_of ds t e.2 r2)
end
end
theorem pairs_reads {P : Program} {w : World} {h : Heap} : ∀ {ns : List (Int × Int)} {es : List DictEntry} {kvs : List (Key × Value)}, KV (dkv ns) kvs → Pairs (mixKind P w) es kvs →
    ReadsAll h (es.map (·.key)) ((intP ns).map (·.1)) [] ∧ ReadsAll h (es.map (·.val)) ((intP ns).map (·.2)) []
  | [], es, kvs, r, q => by
    have r' : KV ([] : List (Key × V)) kvs := r
    cases r'
    cases q
    exact ⟨.nil, .nil⟩
  | n :: ns, es, kvs, r, q => by
    have r' : KV ((Sum.inl n.1, V.int n.2) :: dkv ns) kvs := r
    cases r' with
    | @cons _ b _ bs r1 r2 =>
      cases q with
      | @cons e _ es' _ q1 q2 q3 =>
        obtain ⟨h1, h2⟩ := pairs_reads (h := h) r2 q3
        obtain ⟨b1, b2⟩ := b
        obtain ⟨e1, t2, e2⟩ := r1
        cases e1
        obtain ⟨t1, e3⟩ := Value.isInt_shape (show Value.isInt n.1 e.key = true from q1)
        refine ⟨?_, ?_⟩
        · show ReadsAll h (e.key :: es'.map (·.key)) (PyData.int n.1 :: (intP ns).map (·.1)) ([] ++ [])
          exact .cons (by rw [e3]; exact .int _ _) h1
        · show ReadsAll h (e.val :: es'.map (·.val)) (PyData.int n.2 :: (intP ns).map (·.2)) ([] ++ [])
          exact .cons (by rw [q2]; show Reads h b2 _ _; rw [show b2 = _ from e2]; exact .int _ _) h2
section
variable {X : Cx} {pins : List (Addr × Obj)} {σ : L2.St} {H : Hp} {s : Shared}
mutual
theorem Dt.reads (I : Inv X pins σ H s) : ∀ (d : PyData) (v : V) (u : Value), Dt X.K H v d → RelV v u → ∃ as, Reads s.heap u d as ∧ sysModules ∉ as
  | .none, _, u, h, r => by
    cases h
    have r : u = _ := r
    rw [r]
    exact ⟨_, .none, by simp⟩
  | .bool b, _, u, h, r => by
    cases h
    have r : u = _ := r
    rw [r]
    exact ⟨_, .bool b, by simp⟩
  | .int i, _, _, h, r => by
    cases h
    obtain ⟨t, e⟩ := r
    rw [e]
    exact ⟨_, .int i t, by simp⟩
  | .str x, _, _, h, r => by
    cases h
    obtain ⟨t, e⟩ := r
    rw [e]
    exact ⟨_, .str x t, by simp⟩
  | .list _, _, _, h, _ => by cases h
  | .tuple ds, _, u, h, r => by
    cases h with
    | tup hs ha =>
      have r : u = _ := r
      rw [r]
      obtain ⟨its, rv, ⟨o, ho, hc, n, hd⟩, _⟩ := I.tuple hs
      obtain ⟨as, h1, h2⟩ := DtAll.reads I ds _ its ha rv
      exact ⟨as, .tuple ho hc hd h1, h2⟩
  | .dict _, _, u, h, r => by
    cases h with
    | @dct a ns hs =>
      have r : u = _ := r
      rw [r]
      obtain ⟨o, ho⟩ := hs
      obtain ⟨ho, _, hn, kvs, rel, o2, es, ep, g1, g2, g3, _, g5, _⟩ := I.hok a _ ho
      obtain ⟨h1, h2⟩ := pairs_reads (h := s.heap) rel g5
      have nb : sysModules ≠ a := fun z => by rw [← z] at hn; simp at hn
      exact ⟨_, .dict g1 g2.1 g3 h1 h2, by simpa using nb⟩
theorem DtAll.reads (I : Inv X pins σ H s) : ∀ (ds : List PyData) (vs : List V) (us : List Value), DtAll X.K H vs ds → Vals vs us → ∃ as, ReadsAll s.heap us ds as ∧ sysModules ∉ as
  | [], _, _, h, r => by
    cases h
    cases r
    exact ⟨_, .nil, by simp⟩
  | d :: ds, _, _, h, r => by
    cases h with
    | cons h1 h2 =>
      cases r with
      | cons r1 r2 =>
        obtain ⟨as, q1, n1⟩ := Dt.reads I d _ _ h1 r1
        obtain ⟨bs, q2, n2⟩ := DtAll.reads I ds _ _ h2 r2
        exact ⟨_, .cons q1 q2, by rw [List.mem_append]; exact fun z => z.elim n1 n2⟩
end
end
section
variable {X : Cx} {cl : Nat → Addr} {W : WX} {a e : Expr} {mo : MO} {p pos : Pos}
def fReprX : LV → PHeap → Res D := fun x h => match x with
  | .val d => match d.okT with
    | true => if (pyX d).showable = true ∧ (pyX d).depth ≤ 61 ∧ (pyX d).shown.length ≤ 16777216 then .ok (.str (pyX d).shown) h else .stuck
    | false => fRepr x h
  | .new _ => fRepr x h
def rReprX (K : PySem.W.Frag) : List V → Hp → VK → Prop := fun xs H Q => rReprD K xs H Q ∨ ∃ v d, xs = [v] ∧ Dt K H v d ∧ d.showable = true ∧ d.shown.length ≤ sizeLine ∧ d.depth ≤ 61 ∧ Q (.str d.shown) H
theorem call_reprX (hgd : X.A.guards = some []) (hu : X.A.units + 65 < cLine) : CallR X (.builtin "repr") (rReprX X.K) := by
  intro pins s σ H xs us Q I r h
  rcases h with h | ⟨v, d, rfl, hd, hs, hz, hdep, q⟩
  · exact call_reprD hgd hu pins s σ H xs us Q I r h
  · obtain ⟨u, rfl, rx⟩ := vals1 r
    have ends : ∀ t, EP X pins σ Q (.str d.shown t) { s with toks := s.toks + 1 } := fun t => ⟨.str d.shown, H, I.tok _, ⟨t, rfl⟩, q⟩
    have byRef : ∀ a, u = .ref a → wpAny (model X.prog X.w) X.A (call (.builtin "repr") [u]) (EP X pins σ Q) X.xe s := fun a e => by
      subst e
      obtain ⟨as, r1, n1⟩ := Dt.reads I d _ _ hd rx
      exact PySem.repr_of_reads' r1 hs (fun _ => n1) hgd (by omega) (fun _ _ e => e) (fun h' u tk kp => ⟨.str d.shown, H, I.kept (t' := tk) kp, ⟨u, rfl⟩, q⟩) hz
    cases hd with
    | non =>
      have rx : u = _ := rx
      rw [rx]
      exact PySem.P.repr_of_none (ends _)
    | bl b =>
      have rx : u = _ := rx
      rw [rx]
      refine PySem.P.repr_of_bool ?_
      have e : (if b then "True" else "False" : Str) = PyData.shown (.bool b) := by first | rfl | (cases b <;> rfl)
      first
        | exact ends _
        | (rw [e]; exact ends _)
        | (cases b <;> exact ends _)
    | int i =>
      obtain ⟨t, e⟩ := rx
      rw [e]
      exact PySem.P.repr_of_int (of_decide_eq_true hs) (ends _)
    | str x =>
      obtain ⟨t, e⟩ := rx
      rw [e]
      exact PySem.P.repr_of_str (ends _) hz
    | tup hs' ha => exact byRef _ rx
    | dct hs' => exact byRef _ rx
theorem con_reprX : Con1 (β := V) (RRep X.K) X.K cl (rReprX X.K) fReprX := by
  intro W io sg H h x v Q hr r p
  have hz : sizeLine = 16777216 := sizeLine_eq
  cases x with
  | new xs => exact .inl (con_repr W io sg H h _ v Q hr r p)
  | val d =>
    simp only [fReprX] at p
    split at p
    · rename_i e
      split at p
      · rename_i c
        exact .inr ⟨v, _, rfl, dt_of d v e r, c.1, by omega, c.2.1, p.here hr rfl⟩
      · exact p.elim
    · exact .inl (con_repr W io sg H h _ v Q hr r p)
theorem sd_reprX (hgd : X.A.guards = some []) (hu : X.A.units + 65 < cLine) (he : SO X cl W e mo) (hm : X.mg "repr" = none) (hg : Gl X "repr" := by rfl) (hs : starEach [e] X.env = (false, eval e X.env) :: starEach [] X.env := by rfl) : SE X cl W (.Call (.Name "repr" p) [e] [] pos) (m1 fReprX mo) :=
  sc_b1 (call_reprX hgd hu) con_reprX he hg hm (by decide +kernel) (by decide) (by decide) hs
/-! displays -/
/-- a new dict of ints, frozen at once -/
theorem pe_frozen {e : Expr} {t : TE} {ns : List (Int × Int)} (h : PE X e t) (ht : ∀ σ H, t σ H fun v H1 => ∃ p, v = .ref p ∧ H p = none ∧ H1 = upd H p (.dK (dkv ns))) :
    PE X e (fun _ H Q => ∀ p o, H p = none → Q (.ref p) (upd H p (.frz o (.dK (dkv ns))))) := ⟨fun pins s σ H Q I q => by
  refine thn (h.run pins s σ H _ I (ht σ H)) fun u s1 ⟨v, H1, I1, r, p, e1, hp, e2⟩ => ?_
  subst e2
  obtain ⟨od, I2⟩ := I1.lock (d := p) (u := .dK (dkv ns)) upd_same True.intro
  rw [upd_upd] at I2
  exact ⟨v, _, I2, r, by rw [e1]; exact q p od hp⟩⟩
theorem sd_frozen {ns : List (Int × Int)} (h : PE X e (fun _ H Q => ∀ p o, H p = none → Q (.ref p) (upd H p (.frz o (.dK (dkv ns)))))) : SE X cl W e (mC (.dct (ns.map fun p => D.int p.1) (ns.map fun p => D.int p.2))) :=
  h.imp fun sg H Q ⟨env, h, io, E, hr, p⟩ q o hq => p _ io _ (Step.laid hq) (hr.laid hq) ⟨q, ns, rfl, ⟨o, upd_same⟩, rfl, rfl⟩
theorem sd_dct0 : SE X cl W (.Dict [] [] pos) (mC (.dct [] [])) :=
  sd_frozen (ns := []) (pe_frozen pe_dnewK fun σ H p hp => ⟨p, rfl, hp, rfl⟩)
theorem sd_dct1 {i j : Int} {k k' p p'} : SE X cl W (.Dict [some (.Constant (.int i) k p)] [.Constant (.int j) k' p'] pos) (mC (.dct [.int i] [.int j])) :=
  sd_frozen (ns := [(i, j)]) (pe_frozen (pe_disp (pps_cons pe_int pe_int pps_nil) rfl rfl (by simp) (by simp)) fun σ H p hp => ⟨upd_same, [(.inl i, .int j)], rfl, by simp, p, rfl, hp, by rw [upd_upd]; rfl⟩)
end
end Gb

/-! GbV: a row turned round; defs without parameters; defs that call themselves -/
namespace Gb
open PySem PySem.Spec PyProof.Rows L2
section
variable {prog : Program} {w : World} {A : Around} {E : Value → Shared → Prop} {s : Shared}
theorem rev_applied {sl : Addr} {vl vu vs : Value} {n : Nat} {Q : Int × Int × Nat → Shared → Prop} (hs : s.heap.IsSliceOf sl vl vu vs) (pl : IsPart vl none) (pu : IsPart vu none) (ps : IsPart vs (some (-1)))
    (h : Q ((n : Int) - 1, -1, n) s) : wpAny (model prog w) A (Builtin.Slice.sliceApplied (.ref sl) (pure (n : Int))) Q E s := by
  obtain ⟨os, hos, _, hds⟩ := hs
  unfold Builtin.Slice.sliceApplied Builtin.Slice.sliceFields
  refine wpAny_bind (wpAny_bind (wpAny_field hos hds (x := vl) rfl (wpAny_bind (wpAny_field hos hds (x := vu) rfl (wpAny_bind (wpAny_field hos hds (x := vs) rfl (wpAny_pure ?_)))))))
  refine wpAny_bind (HT.slicePart_ ps ?_)
  show wpAny _ _ (if ((-1 : Int) == 0) = true then _ else _) _ _ s
  rw [if_neg (by decide)]
  refine wpAny_bind (HT.slicePart_ pl (wpAny_bind (HT.slicePart_ pu (wpAny_bind (wpAny_pure ?_)))))
  have e : Builtin.Slice.slicePlaces ((n : Int) - 1) (-1) (-1) = n := by
    unfold Builtin.Slice.slicePlaces
    rw [if_neg (by decide)]
    by_cases hn : n = 0
    · subst hn; decide
    · rw [if_pos (by omega)]
      have : ((n : Int) - 1 - -1 - 1) / (- -1) + 1 = n := by
        rw [show (- -1 : Int) = 1 by decide, Int.ediv_one]; omega
      rw [this]; rfl
  show wpAny _ _ (pure ((n : Int) - 1, (-1 : Int), Builtin.Slice.slicePlaces ((n : Int) - 1) (-1) (-1))) _ _ s
  rw [e]
  exact wpAny_pure h
theorem fm_congr {α β : Type} {f g : α → Option β} : ∀ {l : List α}, (∀ x ∈ l, f x = g x) → l.filterMap f = l.filterMap g
  | [], _ => rfl
  | x :: l, h => by
    rw [List.filterMap_cons, List.filterMap_cons, h x (List.mem_cons_self ..), fm_congr fun y m => h y (List.mem_cons_of_mem _ m)]
theorem rev_pick (xs : Array Value) : ((List.range xs.size).filterMap fun (k : Nat) => xs[(((xs.size : Int) - 1) + (k : Int) * -1).toNat]?).toArray = xs.toList.reverse.toArray := by
  congr 1
  apply List.ext_getElem?
  intro i
  have h1 : ((List.range xs.size).filterMap fun (k : Nat) => xs[(((xs.size : Int) - 1) + (k : Int) * -1).toNat]?) = (List.range xs.size).filterMap (fun k => xs.toList[xs.toList.length - 1 - k]?) := by
    refine fm_congr fun k hk => ?_
    have := List.mem_range.mp hk
    have e : (((xs.size : Int) - 1) + (k : Int) * -1).toNat = xs.toList.length - 1 - k := by rw [Array.length_toList]; omega
    rw [e, Array.getElem?_toList]
  rw [h1]
  have h2 : ∀ l : List Value, (List.range l.length).filterMap (fun k => l[l.length - 1 - k]?) = l.reverse := by
    intro l
    have : (List.range l.length).filterMap (fun k => l[l.length - 1 - k]?) = (List.range l.length).filterMap (fun k => l.reverse[k]?) := by
      refine fm_congr fun k hk => ?_
      rw [List.getElem?_reverse (List.mem_range.mp hk)]
    rw [this]
    have h3 : ∀ m : List Value, (List.range m.length).filterMap (fun k => m[k]?) = m := by
      intro m
      induction m with
      | nil => rfl
      | cons x m ih =>
        rw [List.length_cons, List.range_succ_eq_map, List.filterMap_cons]
        simp only [List.getElem?_cons_zero, List.filterMap_map, Function.comp_def, List.getElem?_cons_succ]
        rw [ih]
    have := h3 l.reverse
    rw [List.length_reverse] at this
    exact this
  have := h2 xs.toList
  rw [Array.length_toList] at this
  rw [Array.length_toList, this]
theorem getItem_tuple_rev {t sl : Addr} {items : Array Value} {vl vu vs : Value} {Q : Value → Shared → Prop} (ht : IsTup s.heap t items) (hs : s.heap.IsSliceOf sl vl vu vs) (pl : IsPart vl none) (pu : IsPart vu none) (ps : IsPart vs (some (-1)))
    (h : Q (.ref s.heap.objs.size) { s with heap := s.heap.push { cls := .type "tuple", data := .seq items.toList.reverse.toArray } }) (hsz : items.size ≤ sizeLine) : wpAny (model prog w) A (getItem (.ref t) (.ref sl)) Q E s := by
  have hTs : s.TypeIs (.ref sl) "slice" := let ⟨os, hos, hcs, _⟩ := hs; ⟨os, hos, hcs⟩
  have hok : sizeOk (.seq items.toList.reverse.toArray) := by
    show items.toList.reverse.toArray.size ≤ sizeLine
    rw [List.size_toArray, List.length_reverse, Array.length_toList]; exact hsz
  unfold getItem
  try with_reducible refine wpAny_holding ?_
  first | refine wpAny_bind (wpAny_pure ?_) | skip
  refine wpAny_bind (wpAny_sequenceKey ht.typeIs (by decide) (wpAny_bind (wpAny_callSpecial?_slot (name := Str.ofString "__getitem__") ht.typeIs PyProof.Rows.slot_tuple_getitem
    (wpAny_call_entry PyProof.Rows.slot_tuple_getitem ht.typeIs entry_tuple_getitem ?_ (args_tuple_getitem _ _)))))
  show wpAny _ _ (Builtin.Tuple.tupleItemsOf (.ref t) >>= _) _ _ s
  refine wpAny_bind (tupleItemsOf_ ht (wpAny_bind (wpAny_typeOf hTs ?_)))
  rw [if_pos (by decide)]
  refine wpAny_bind (rev_applied hs pl pu ps ?_)
  have hno : ¬ (((((items.size : Int) - 1) == 0) && ((-1 : Int) == 1) && (items.size == items.size)) = true) := by
    rw [show ((-1 : Int) == 1) = false by decide, Bool.and_false, Bool.false_and]; exact Bool.false_ne_true
  show wpAny _ _ (if (((((items.size : Int) - 1) == 0) && ((-1 : Int) == 1) && (items.size == items.size)) = true) then _ else _) _ _ s
  rw [if_neg hno, rev_pick]
  first
    | exact wpAny_bind (m := Builtin.Tuple.tupleExact _) (wpAny_newObj_type (wpAny_pure ⟨_, rfl, wpAny_pure h⟩) hok)
    | exact wpAny_bind (wpAny_bind (m := Builtin.Tuple.tupleExact _) (wpAny_newObj_type (wpAny_pure (wpAny_pure ⟨_, rfl, wpAny_pure h⟩)) hok))
    | exact wpAny_bind (wpAny_bind (m := Builtin.Tuple.tupleExact _) (wpAny_newObj_type (wpAny_pure ⟨_, rfl, wpAny_pure h⟩) hok))
end
section
variable {X : Cx}
/-- xs[::-1], a tuple or a list -/
def tRevX (K : PySem.W.Frag) (te : TE) : TE := fun σ H Q => te σ H fun x H1 => ∃ a xs, x = .ref a ∧ ((SqL K H1 a xs ∧ ∀ q, H1 q = none → Q (.ref q) (upd H1 q (.lst xs.reverse))) ∨ (TupA K H1 a xs ∧ NewT H1 xs.reverse Q))
theorem pe_revX {e : Expr} {te : TE} {k : Nat} {p1 p2 p3 pos : Pos} (he : PE X e te) : PE X (.Subscript e (.Slice none none (some (.UnaryOp .USub (.Constant (.int 1) k p1) p2)) p3) pos) (tRevX X.K te) := by
  refine ⟨fun pins s σ H Q I h => ?_⟩
  refine Subscript_ (thn (he.run pins s σ H _ I h) fun v s1 ⟨x, H1, I1, r1, a, xs, ex, q1⟩ => ?_)
  subst ex
  cases r1
  have hst : PO X (some (.UnaryOp .USub (.Constant (.int 1) k p1) p2)) (tPart (tUn (rU fun i => .int (-i)) (tC (.int 1)))) := po_some (pe_un un_neg pe_int)
  refine wpAny_Slice (thn (po_none.run pins s1 σ H1 (fun o G => o = none ∧ G = H1) I1 ⟨rfl, rfl⟩) fun vl s2 ⟨l, H2, I2, pl, el, e2⟩ => thn (po_none.run pins s2 σ H2 (fun o G => o = none ∧ G = H2) I2 ⟨rfl, rfl⟩) fun vu s3 ⟨u, H3, I3, pu, eu, e3⟩ =>
    thn (hst.run pins s3 σ H3 (fun o G => o = some (-1) ∧ G = H3) I3 ⟨1, rfl, -1, rfl, rfl, rfl⟩) fun vs s4 ⟨o, H4, I4, ps, eo, e4⟩ => ?_)
  subst el e2 eu e3 eo e4
  have I5 : Inv X pins σ H4 { s4 with heap := s4.heap.push { cls := .type "slice", data := .fields #[vl, vu, vs] } } := I4.kept (t' := s4.toks) fun b ob q => Heap.get?_push_of_some _ q
  show wpAny (model X.prog X.w) X.A (subscriptTail e (.Slice none none (some (.UnaryOp .USub (.Constant (.int 1) k p1) p2)) p3) (.ref a) (.ref s4.heap.objs.size)) (EP X pins σ Q) X.xe { s4 with heap := s4.heap.push { cls := .type "slice", data := .fields #[vl, vu, vs] } }
  rcases q1 with ⟨hx, q⟩ | ⟨hx, q⟩
  · obtain ⟨its, r, ht, hz⟩ := I5.list hx
    have hlen := r.length
    refine tail_any (ops := [.ref a, .ref s4.heap.objs.size]) ht.isList.typeIs (PySem.slot_list_getitem.lookup) ?_ (by with_unfolding_all rfl)
    refine wpAny_getItem_list_slice ht.isList (Heap.IsSliceOf.new _ vl vu vs) pl pu ps (by decide) ?_ (by rw [List.size_toArray]; omega)
    rw [PySem.W.krv_pick]
    exact ⟨.ref _, _, I5.laid (t' := s4.toks) (o := .lst xs.reverse) (fun b ob q => Heap.get?_push_of_some _ q) (Nat.le_refl _) ⟨by rw [List.length_reverse]; exact hz, _, 0, r.reverse, Heap.get?_push_size _ rfl⟩, rfl, q _ (I5.hok.fresh (Nat.le_refl _))⟩
  · obtain ⟨its, r, ht, hz⟩ := I5.tuple hx.sq
    have hlen := r.length
    refine tail_any (ops := [.ref a, .ref s4.heap.objs.size]) ht.typeIs (PyProof.Rows.slot_tuple_getitem.lookup) ?_ (by with_unfolding_all rfl)
    refine getItem_tuple_rev ht (Heap.IsSliceOf.new _ vl vu vs) pl pu ps ?_ (by rw [List.size_toArray]; omega)
    exact ⟨.ref _, _, I5.tnew (t' := s4.toks) r.reverse (by rw [List.length_reverse]; exact hz), rfl, q _ _ I5.fresh rfl⟩
end
section
variable {X : Cx} {cl : Nat → Addr} {W : WX} {a e : Expr} {mo : MO} {p pos : Pos}
def fRev : LV → PHeap → Res LV := fun x h => match x with
  | .val (.tup xs) => .ok (.val (.tup xs.reverse)) h
  | x => match x.items h with
    | some xs => .ok (.new xs.reverse) h
    | none => .stuck
theorem RepL.reverse {K : PySem.W.Frag} {io : List Addr} {H : Hp} : ∀ {ds : List D} {vs : List V}, RepL K io H ds vs → RepL K io H ds.reverse vs.reverse
  | [], _, r => by
    have r' : _ = _ := r
    subst r'; rfl
  | d :: ds, _, ⟨v, t, e, r1, r2⟩ => by
    subst e
    rw [List.reverse_cons, List.reverse_cons]
    exact (RepL.reverse r2).append ⟨v, [], rfl, r1, rfl⟩
theorem so_rev {k : Nat} {p1 p2 p3 : Pos} (ha : SO X cl W a mo) : SO X cl W (.Subscript a (.Slice none none (some (.UnaryOp .USub (.Constant (.int 1) k p1) p2)) p3) pos) (m1 fRev mo) :=
  (pe_revX ha).imp fun sg H Q ⟨env, h, io, E, hr, p⟩ => rd_mk E hr (p.bind fun d h1 v io1 H1 e1 s1 r1 q1 p1 => by
    have q := q1.ov
    unfold fRev at p1
    split at p1
    · rename_i xs
      obtain ⟨a, vs, rfl, h1, h2⟩ := q
      exact ⟨a, vs, rfl, .inr ⟨h1, fun t o ht hd => p1 _ io1 _ (Step.laid ht) (r1.laid ht) ⟨t, _, rfl, .of upd_same hd, h2.reverse.step (Step.laid ht) _ _⟩⟩⟩
    · split at p1
      · rename_i xs e
        obtain ⟨a, vs, rfl, h1, h2⟩ := q.items r1 e
        exact ⟨a, vs, rfl, .inl ⟨h1, fun t ht => p1 _ io1 _ (Step.laid ht) (r1.laid ht) ⟨t, _, rfl, ht, r1.out ht, upd_same, h2.reverse.step (Step.laid ht) _ _⟩⟩⟩
      · exact p1.elim)
end
section
variable {X : Cx} {cl : Nat → Addr} {W : WX} {k : Nat} {f : Addr} {fd : FuncData} {g : List D → PHeap → Res D} {x : Str} {p pos : Pos}
/-- f() -/
theorem sd_callG0 (F : FnG X.prog X.w X.K X.mg X.base k f fd [] (spOf X.K cl g)) (hr : Room k X.A) (hgd : X.A.guards = some []) (hm : X.mg x = some (.ref f)) (hk : PySem.W.keepIn X.K (.ref f) = true) (hb : Binds X.K fd [] []) (tk : Takes X W)
    (hg : Gl X x := by rfl) (hdb : (x == ("__debug__" : Str)) = false := by decide) : SE X cl W (.Call (.Name x p) [] [] pos) (mCall g mNil) := by
  refine PE.imp (t := tCallS (spOf X.K cl g) (WE W) (rd (RRepL X.K) X.K cl W mNil)) ⟨fun pins s σ H Q I h => ?_⟩ fun sg H Q ⟨env, h, io, E, hr, p⟩ => rd_mk E hr (p.bind fun ds h1 vs io1 H1 e1 s1 r1 q1 p1 => sp_use q1 r1 p1)
  have h0 : spOf X.K cl g [] H (fun v H' => Q v H') (WE W σ) := by
    obtain ⟨env, ph, io, E, hr, p⟩ := h
    exact p [] io H .refl hr rfl
  refine wpAny_Call_Name_kw (ld_glob I hg hm ?_ hdb)
  refine PySem.W.callWith_K0 I.kIn hk ?_
  have bd := hb s [] I.kIn rfl
  refine wpAny_call (codeAny_mono (F.run X.A X.stack s H ⟨[], []⟩ [] [] Q (WE W σ) hr hgd I.env0 (by simpa using bd) .nil h0) fun r' s' hq => ?_)
  cases r' with
  | error e => exact passAt tk σ pins H s e s' I hq
  | ok fl => cases fl with
    | ret u => exact I.after hq
    | next => exact False.elim hq
    | brk => exact False.elim hq
    | cont => exact False.elim hq
end
/-- what is not come to -/
def pStuck : List D → PHeap → Res D := fun _ _ => .stuck
theorem fng_stuck {P : Program} {w : World} {K : PySem.W.Frag} {mg : Str → Option Value} {base : Heap} {cl : Nat → Addr} {k : Nat} {f : Addr} {fd : FuncData} {ps : List Str} : FnG P w K mg base k f fd ps (spOf K cl pStuck) :=
  ⟨fun vs H Q E ⟨_, _, _, _, _, p⟩ => False.elim p, fun A outer s H args us vs Q E _ _ _ _ _ ⟨_, _, _, _, _, p⟩ => False.elim p⟩
end Gb

/-! GbX: a number in a range -/
namespace Gb
open PySem PySem.Spec PyProof.Rows L2
section
variable {X : Cx} {cl : Nat → Addr} {W : WX} {a b e : Expr} {ma mb mx : ME} {p p2 pos : Pos}
def rNinR : R2 := fun x y H Q => ∃ i a lo hi, x = V.int i ∧ y = V.ref a ∧ H a = some (.rng lo hi) ∧ Q (.bl (!decide (lo ≤ i ∧ i < hi))) H
theorem op_nin_rng : OpR X (compareOp .NotIn) rNinR := by
  intro pins s σ H x y v u Q I rx ry h
  obtain ⟨i, a, lo, hi, e1, e2, ha, q⟩ := h
  subst e1 e2
  obtain ⟨k, e⟩ := rx
  have ry : u = Value.ref a := ry
  subst e ry
  obtain ⟨t1, t2, t3, ho⟩ := I.hok a _ ha
  show wpAny _ _ (do return Value.bool (!(← contains (Value.ref a) (Value.int i k)))) _ _ s
  refine wpAny_bind (wpAny_contains_slot (T := "range") ⟨_, ho, rfl⟩ F.slot_range_contains (call_meets F.slot_range_contains ⟨_, ho, rfl⟩ F.entry_range_contains (F.args_range_contains_2 _ _) (q_contains a lo hi i t1 t2 t3 k)
    ⟨ho, wpAny_truthy_bool (wpAny_pure ⟨.bl _, H, I, rfl, ?_⟩)⟩))
  rw [place1]
  exact q
def mRng (k : Bool → Bool) (mx ma mb : ME) : ME := fun env h => (mx env h).bind fun x h1 => (ma env h1).bind fun a h2 => (mb env h2).bind fun b h3 => match x, a, b with
  | .int i, .int lo, .int hi => .ok (.bl (k (decide (lo ≤ i ∧ i < hi)))) h3
  | _, _, _ => .stuck
abbrev tRngC (X : Cx) (cl : Nat → Addr) (W : WX) (ma mb : ME) : TE := tCB (fun vs H Q => ∃ i j, vs = [V.int i, V.int j] ∧ ∀ (p : Addr), H p = none → Q (V.ref p) (upd H p (HO.rng i j))) (rd (RRepL X.K) X.K cl W (mCons ma (mCons mb mNil)))
theorem rd_rng {sg : L2.St} {H : Hp} {Q : VK} (q : rd (RRep X.K) X.K cl W (mRng not mx ma mb) sg H Q) : tOp rNinR (rd (RRep X.K) X.K cl W mx) (tRngC X cl W ma mb) sg H Q := by
  obtain ⟨env, h, io, E, hr, q⟩ := q
  unfold mRng at q
  refine rd_mk E hr (q.bind fun x h1 v io1 H1 e1 s1 r1 q1 p1 => rd_mk (E.step s1) r1 ?_)
  cases em : ma env h1 with
  | exc c h2 => rw [em] at p1; simp only [mCons, em]; exact p1
  | stuck => rw [em] at p1; exact p1.elim
  | ok c h2 =>
    cases en : mb env h2 with
    | exc d h3 => rw [em] at p1; simp only [Res.bind_ok, en] at p1; simp only [mCons, em, en, Res.bind_ok]; exact p1
    | stuck => rw [em] at p1; simp only [Res.bind_ok, en] at p1; exact p1.elim
    | ok d h3 =>
      rw [em] at p1
      simp only [Res.bind_ok, en] at p1
      simp only [mCons, mNil, em, en, Res.bind_ok]
      split at p1
      · rename_i i lo hi
        intro bs io2 H2 s2 r2 rl
        obtain ⟨u1, t1, rfl, a1, u2, t2, rfl, a2, a3⟩ := rl
        have a1 : u1 = .int lo := a1
        have a2 : u2 = .int hi := a2
        have a3 : t2 = [] := a3
        have q1 : v = .int i := q1
        subst a1 a2 a3 q1
        exact ⟨lo, hi, rfl, fun p hp => ⟨i, p, lo, hi, rfl, rfl, upd_same, p1 _ io2 _ (s2.trans (Step.laid hp)) (r2.laid hp) rfl⟩⟩
      · exact p1.elim
theorem sd_ninRng (hx : SE X cl W e mx) (ha : SE X cl W a ma) (hb : SE X cl W b mb) (hm : X.mg "range" = none) (hg : Gl X "range" := by rfl)
    (hs : starEach [a, b] X.env = (false, eval a X.env) :: starEach [b] X.env := by rfl) (hs2 : starEach [b] X.env = (false, eval b X.env) :: starEach [] X.env := by rfl) (hpl : (backTo p2 (starEach [b] X.env)).any (·.1) = false := by rfl)
    (hmk : behindInMarks .NotIn (.Call (.Name "range" p) [a, b] [] p2) = false := by with_unfolding_all rfl) : SE X cl W (.Compare e [.NotIn] [.Call (.Name "range" p) [a, b] [] p2] pos) (mRng not mx ma mb) :=
  (pe_cmpR op_nin_rng hx (pe_callTy (pos := p2) (p := p) cr_range2 hg hm (by decide +kernel) (sa_cons ha (sa_cons hb sa_nil hs2) hs) (by decide) (by decide) hs hpl) hmk).imp fun sg H Q q => rd_rng q
theorem st_ninRng (hx : SE X cl W e mx) (ha : SE X cl W a ma) (hb : SE X cl W b mb) (hm : X.mg "range" = none) (hg : Gl X "range" := by rfl)
    (hs : starEach [a, b] X.env = (false, eval a X.env) :: starEach [b] X.env := by rfl) (hs2 : starEach [b] X.env = (false, eval b X.env) :: starEach [] X.env := by rfl) (hpl : (backTo p2 (starEach [b] X.env)).any (·.1) = false := by rfl)
    (hmk : behindInMarks .NotIn (.Call (.Name "range" p) [a, b] [] p2) = false := by with_unfolding_all rfl) : ST X cl W (.Compare e [.NotIn] [.Call (.Name "range" p) [a, b] [] p2] pos) (mTB (mRng not mx ma mb)) :=
  (pt_cmpR op_nin_rng hx (pe_callTy (pos := p2) (p := p) cr_range2 hg hm (by decide +kernel) (sa_cons ha (sa_cons hb sa_nil hs2) hs) (by decide) (by decide) hs hpl) hmk).imp fun sg H Q ⟨env, h, io, E, hr, q⟩ => rd_rng (W := W) (rd_mk E hr (postR.tb q))
end
end Gb

/-! GuA: values without a heap: a list is .fro; what a value with refs stands for -/
namespace Gb
open PySem L2

inductive UR (α : Type) where
  | ok (a : α) (v : PEnv)
  | exc (e : D) (v : PEnv)
  | stuck
inductive UO where
  | nx (v : PEnv)
  | rt (d : D) (v : PEnv)
  | bk (v : PEnv)
  | ct (v : PEnv)
  | exc (e : D) (v : PEnv)
  | stuck
def UR.bind {α β : Type} (r : UR α) (f : α → PEnv → UR β) : UR β := match r with
  | .ok a v => f a v
  | .exc e v => .exc e v
  | .stuck => .stuck
def UR.out {α : Type} (r : UR α) (f : α → PEnv → UO) : UO := match r with
  | .ok a v => f a v
  | .exc e v => .exc e v
  | .stuck => .stuck
def UR.of {α : Type} (o : Option α) (v : PEnv) : UR α := match o with
  | some a => .ok a v
  | none => .stuck
section
variable {α β : Type}
@[simp] theorem UR.bind_ok (a : α) (v : PEnv) (f : α → PEnv → UR β) : (UR.ok a v).bind f = f a v := rfl
@[simp] theorem UR.bind_exc (e : D) (v : PEnv) (f : α → PEnv → UR β) : (UR.exc e v : UR α).bind f = .exc e v := rfl
@[simp] theorem UR.bind_stuck (f : α → PEnv → UR β) : (UR.stuck : UR α).bind f = .stuck := rfl
@[simp] theorem UR.out_ok (a : α) (v : PEnv) (f : α → PEnv → UO) : (UR.ok a v).out f = f a v := rfl
@[simp] theorem UR.out_exc (e : D) (v : PEnv) (f : α → PEnv → UO) : (UR.exc e v : UR α).out f = .exc e v := rfl
@[simp] theorem UR.out_stuck (f : α → PEnv → UO) : (UR.stuck : UR α).out f = .stuck := rfl
@[simp] theorem UR.of_some (a : α) (v : PEnv) : UR.of (some a) v = .ok a v := rfl
@[simp] theorem UR.of_none (v : PEnv) : UR.of (none : Option α) v = .stuck := rfl
end

/-! ### what stands for what -/
mutual
def Den (L : Nat → Prop) (h : PHeap) : D → D → Prop
  | .lst us, d => ∃ n ds, d = .ref n ∧ ¬ L n ∧ h[n]? = some (.lst ds) ∧ DenL L h us ds
  | .fro us, d => ∃ ds, d = .fro ds ∧ DenL L h us ds
  | .dct ks vs, d => d = .dct ks vs
  | .tup us, d => ∃ ds, d = .tup ds ∧ DenL L h us ds
  | .map us, d => ∃ ds, d = .map ds ∧ DenL L h us ds
  | .ref _, _ => False
  | .non, d => d = .non
  | .bl b, d => d = .bl b
  | .int i, d => d = .int i
  | .str x, d => d = .str x
def DenL (L : Nat → Prop) (h : PHeap) : List D → List D → Prop
  | [], ds => ds = []
  | u :: us, ds => ∃ d r, ds = d :: r ∧ Den L h u d ∧ DenL L h us r
end
/-- what is kept, of heaps and locks -/
def Kp (L : Nat → Prop) (h : PHeap) (L' : Nat → Prop) (h' : PHeap) : Prop := ∀ n ds, ¬ L n → h[n]? = some (.lst ds) → ¬ L' n ∧ h'[n]? = some (.lst ds)
mutual
theorem Den.kp {L L' : Nat → Prop} {h h' : PHeap} (k : Kp L h L' h') : ∀ u d, Den L h u d → Den L' h' u d
  | .lst us, d, q => by
    rw [Den] at q ⊢
    obtain ⟨n, ds, e, l, g, q⟩ := q
    exact ⟨n, ds, e, (k n ds l g).1, (k n ds l g).2, DenL.kp k us ds q⟩
  | .fro us, d, q => by
    rw [Den] at q ⊢
    obtain ⟨ds, e, q⟩ := q
    exact ⟨ds, e, DenL.kp k us ds q⟩
  | .dct _ _, d, q => by rw [Den] at q ⊢; exact q
  | .tup us, d, q => by
    rw [Den] at q ⊢
    obtain ⟨ds, e, q⟩ := q
    exact ⟨ds, e, DenL.kp k us ds q⟩
  | .map us, d, q => by
    rw [Den] at q ⊢
    obtain ⟨ds, e, q⟩ := q
    exact ⟨ds, e, DenL.kp k us ds q⟩
  | .ref _, d, q => by rw [Den] at q; exact q.elim
  | .non, d, q => by rw [Den] at q ⊢; exact q
  | .bl _, d, q => by rw [Den] at q ⊢; exact q
  | .int _, d, q => by rw [Den] at q ⊢; exact q
  | .str _, d, q => by rw [Den] at q ⊢; exact q
theorem DenL.kp {L L' : Nat → Prop} {h h' : PHeap} (k : Kp L h L' h') : ∀ us ds, DenL L h us ds → DenL L' h' us ds
  | [], ds, q => by rw [DenL] at q ⊢; exact q
  | u :: us, ds, q => by
    rw [DenL] at q ⊢
    obtain ⟨d, r, e, q1, q2⟩ := q
    exact ⟨d, r, e, Den.kp k u d q1, DenL.kp k us r q2⟩
end
section
variable {L L' : Nat → Prop} {h h' : PHeap}
theorem denL_nil {ds : List D} : DenL L h [] ds ↔ ds = [] := by rw [DenL]
theorem denL_cons {u : D} {us ds : List D} : DenL L h (u :: us) ds ↔ ∃ d r, ds = d :: r ∧ Den L h u d ∧ DenL L h us r := by rw [DenL]
theorem DenL.mk {u d : D} {us ds : List D} (q1 : Den L h u d) (q2 : DenL L h us ds) : DenL L h (u :: us) (d :: ds) := by rw [DenL]; exact ⟨d, ds, rfl, q1, q2⟩
theorem DenL.len : ∀ {us ds : List D}, DenL L h us ds → us.length = ds.length
  | [], ds, q => by rw [DenL] at q; rw [q]
  | u :: us, ds, q => by
    rw [DenL] at q
    obtain ⟨d, r, e, _, q2⟩ := q
    rw [e, List.length_cons, List.length_cons, DenL.len q2]
theorem DenL.app : ∀ {us ds vs es : List D}, DenL L h us ds → DenL L h vs es → DenL L h (us ++ vs) (ds ++ es)
  | [], ds, vs, es, q, r => by rw [DenL] at q; rw [q]; exact r
  | u :: us, ds, vs, es, q, r => by
    rw [DenL] at q
    obtain ⟨d, r', e, q1, q2⟩ := q
    rw [e]
    exact DenL.mk q1 (DenL.app q2 r)
theorem DenL.one {u d : D} (q : Den L h u d) : DenL L h [u] [d] := DenL.mk q (by rw [DenL])
theorem DenL.get : ∀ {us ds : List D} {i : Nat} {u : D}, DenL L h us ds → us[i]? = some u → ∃ d, ds[i]? = some d ∧ Den L h u d
  | [], ds, i, u, q, e => by simp at e
  | v :: us, ds, i, u, q, e => by
    rw [DenL] at q
    obtain ⟨d, r, e', q1, q2⟩ := q
    rw [e']
    cases i with
    | zero => simp at e; subst e; exact ⟨d, by simp, q1⟩
    | succ i => simp at e; obtain ⟨d', a, b⟩ := DenL.get q2 e; exact ⟨d', by simpa using a, b⟩
theorem DenL.of_get : ∀ {us ds : List D}, us.length = ds.length → (∀ (i : Nat) (u d : D), us[i]? = some u → ds[i]? = some d → Den L h u d) → DenL L h us ds
  | [], ds, e, q => by rw [DenL]; exact List.eq_nil_of_length_eq_zero e.symm
  | u :: us, [], e, q => by simp at e
  | u :: us, d :: ds, e, q => DenL.mk (q 0 u d (by simp) (by simp)) (DenL.of_get (by simpa using e) fun i u d a b => q (i + 1) u d (by simpa using a) (by simpa using b))
theorem DenL.drop : ∀ {n : Nat} {us ds : List D}, DenL L h us ds → DenL L h (us.drop n) (ds.drop n)
  | 0, us, ds, q => q
  | n + 1, [], ds, q => by rw [DenL] at q; rw [q]; simp; rw [DenL]
  | n + 1, u :: us, ds, q => by
    rw [DenL] at q
    obtain ⟨d, r, e, q1, q2⟩ := q
    rw [e]
    exact DenL.drop (n := n) q2
theorem DenL.take : ∀ {n : Nat} {us ds : List D}, DenL L h us ds → DenL L h (us.take n) (ds.take n)
  | 0, us, ds, q => by simp; rw [DenL]
  | n + 1, [], ds, q => by rw [DenL] at q; rw [q]; simp; rw [DenL]
  | n + 1, u :: us, ds, q => by
    rw [DenL] at q
    obtain ⟨d, r, e, q1, q2⟩ := q
    rw [e]
    exact DenL.mk q1 (DenL.take q2)
theorem DenL.set : ∀ {n : Nat} {us ds : List D} {u d : D}, DenL L h us ds → Den L h u d → DenL L h (us.set n u) (ds.set n d)
  | n, [], ds, u, d, q, r => by rw [DenL] at q; rw [q]; simp; rw [DenL]
  | 0, v :: us, ds, u, d, q, r => by
    rw [DenL] at q
    obtain ⟨d', r', e, q1, q2⟩ := q
    rw [e]
    exact DenL.mk r q2
  | n + 1, v :: us, ds, u, d, q, r => by
    rw [DenL] at q
    obtain ⟨d', r', e, q1, q2⟩ := q
    rw [e]
    exact DenL.mk q1 (DenL.set q2 r)
theorem DenL.rep {us ds : List D} (q : DenL L h us ds) : ∀ n, DenL L h (List.replicate n us).flatten (List.replicate n ds).flatten
  | 0 => by simp; rw [DenL]
  | n + 1 => by rw [List.replicate_succ, List.replicate_succ, List.flatten_cons, List.flatten_cons]; exact q.app (DenL.rep q n)
theorem DenL.zip : ∀ {us ds vs es : List D}, DenL L h us ds → DenL L h vs es → DenL L h (List.zipWith (fun p q => D.tup [p, q]) us vs) (List.zipWith (fun p q => D.tup [p, q]) ds es)
  | [], ds, vs, es, q, r => by rw [DenL] at q; rw [q]; simp; rw [DenL]
  | u :: us, ds, [], es, q, r => by rw [DenL] at r; rw [r]; simp; rw [DenL]
  | u :: us, ds, v :: vs, es, q, r => by
    rw [DenL] at q r
    obtain ⟨d, x, e, q1, q2⟩ := q
    obtain ⟨c, y, e', r1, r2⟩ := r
    rw [e, e', List.zipWith_cons_cons, List.zipWith_cons_cons]
    exact DenL.mk (by rw [Den]; exact ⟨_, rfl, DenL.mk q1 (.one r1)⟩) (DenL.zip q2 r2)
theorem DenL.zip3 : ∀ {us ds vs es ws fs : List D}, DenL L h us ds → DenL L h vs es → DenL L h ws fs → DenL L h (List.zipWith (fun p q => D.tup [p, q.1, q.2]) us (vs.zip ws)) (List.zipWith (fun p q => D.tup [p, q.1, q.2]) ds (es.zip fs))
  | [], ds, vs, es, ws, fs, q, r, t => by rw [DenL] at q; rw [q]; simp; rw [DenL]
  | u :: us, ds, [], es, ws, fs, q, r, t => by rw [DenL] at r; rw [r]; simp; rw [DenL]
  | u :: us, ds, v :: vs, es, [], fs, q, r, t => by rw [DenL] at t; rw [t]; simp; rw [DenL]
  | u :: us, ds, v :: vs, es, w :: ws, fs, q, r, t => by
    rw [DenL] at q r t
    obtain ⟨d, x, e, q1, q2⟩ := q
    obtain ⟨c, y, e', r1, r2⟩ := r
    obtain ⟨b, z, e2, t1, t2⟩ := t
    rw [e, e', e2, List.zip_cons_cons, List.zip_cons_cons, List.zipWith_cons_cons, List.zipWith_cons_cons]
    exact DenL.mk (by rw [Den]; exact ⟨_, rfl, DenL.mk q1 (DenL.mk r1 (.one t1))⟩) (DenL.zip3 q2 r2 t2)
theorem DenL.enu : ∀ {us ds : List D} (k : Nat), DenL L h us ds → DenL L h (us.mapIdx fun i d => D.tup [.int ((k + i : Nat) : Int), d]) (ds.mapIdx fun i d => D.tup [.int ((k + i : Nat) : Int), d])
  | [], ds, k, q => by rw [DenL] at q; rw [q]; simp; rw [DenL]
  | u :: us, ds, k, q => by
    rw [DenL] at q
    obtain ⟨d, x, e, q1, q2⟩ := q
    rw [e, List.mapIdx_cons, List.mapIdx_cons]
    refine DenL.mk (by rw [Den]; exact ⟨_, rfl, DenL.mk (by rw [Den]) (.one q1)⟩) ?_
    have := DenL.enu (k + 1) q2
    simpa only [Nat.add_assoc, Nat.add_comm 1] using this
theorem DenL.ints : ∀ ns : List Int, DenL L h (ns.map D.int) (ns.map D.int)
  | [] => by simp; rw [DenL]
  | n :: ns => DenL.mk (by rw [Den]) (DenL.ints ns)
theorem DenL.bls : ∀ ns : List Bool, DenL L h (ns.map D.bl) (ns.map D.bl)
  | [] => by simp; rw [DenL]
  | n :: ns => DenL.mk (by rw [Den]) (DenL.bls ns)
end
/-! ### ground values -/
mutual
def D.gnd : D → Bool
  | .ref _ => false
  | .lst _ => false
  | .fro _ => false
  | .dct _ _ => true
  | .tup xs => D.gndL xs
  | .map _ => false
  | _ => true
def D.gndL : List D → Bool
  | [] => true
  | x :: xs => x.gnd && D.gndL xs
end
mutual
theorem gnd_den {L : Nat → Prop} {h : PHeap} : ∀ u, D.gnd u = true → Den L h u u
  | .ref _, e => by rw [D.gnd] at e; cases e
  | .lst _, e => by rw [D.gnd] at e; cases e
  | .fro _, e => by rw [D.gnd] at e; cases e
  | .dct _ _, _ => by rw [Den]
  | .tup us, e => by rw [D.gnd] at e; rw [Den]; exact ⟨us, rfl, gndL_den us e⟩
  | .map us, e => by rw [D.gnd] at e; cases e
  | .non, _ => by rw [Den]
  | .bl _, _ => by rw [Den]
  | .int _, _ => by rw [Den]
  | .str _, _ => by rw [Den]
theorem gndL_den {L : Nat → Prop} {h : PHeap} : ∀ us, D.gndL us = true → DenL L h us us
  | [], _ => by rw [DenL]
  | u :: us, e => by
    rw [D.gndL, Bool.and_eq_true] at e
    exact DenL.mk (gnd_den u e.1) (gndL_den us e.2)
end
mutual
theorem den_gnd {L : Nat → Prop} {h : PHeap} : ∀ u d, D.gnd u = true → Den L h u d → d = u
  | .ref _, d, e, q => by rw [D.gnd] at e; cases e
  | .lst _, d, e, q => by rw [D.gnd] at e; cases e
  | .fro _, d, e, q => by rw [D.gnd] at e; cases e
  | .dct _ _, d, _, q => by rw [Den] at q; exact q
  | .tup us, d, e, q => by
    rw [D.gnd] at e
    rw [Den] at q
    obtain ⟨ds, rfl, q⟩ := q
    rw [denL_gnd us ds e q]
  | .map us, d, e, q => by rw [D.gnd] at e; cases e
  | .non, d, _, q => by rw [Den] at q; exact q
  | .bl _, d, _, q => by rw [Den] at q; exact q
  | .int _, d, _, q => by rw [Den] at q; exact q
  | .str _, d, _, q => by rw [Den] at q; exact q
theorem denL_gnd {L : Nat → Prop} {h : PHeap} : ∀ us ds, D.gndL us = true → DenL L h us ds → ds = us
  | [], ds, _, q => by rw [DenL] at q; exact q
  | u :: us, ds, e, q => by
    rw [D.gndL, Bool.and_eq_true] at e
    rw [DenL] at q
    obtain ⟨d, r, rfl, q1, q2⟩ := q
    rw [den_gnd u d e.1 q1, denL_gnd us r e.2 q2]
end
/-! ### collecting -/
mutual
theorem den_small {L : Nat → Prop} {h : PHeap} {n : Nat} (w : (h.take n).all (Cell.small n) = true) : ∀ u d, d.small n = true → Den L h u d → Den L (h.take n) u d
  | .fro us, d, s, q => by
    rw [Den] at q ⊢
    obtain ⟨ds, rfl, q⟩ := q
    exact ⟨ds, rfl, denL_small w us ds (by simpa [D.small] using s) q⟩
  | .dct _ _, d, s, q => by rw [Den] at q ⊢; exact q
  | .lst us, d, s, q => by
    rw [Den] at q ⊢
    obtain ⟨m, ds, rfl, l, g, q⟩ := q
    have hm : m < n := by simpa using s
    have g' : (h.take n)[m]? = some (.lst ds) := by rw [List.getElem?_take, if_pos hm]; exact g
    refine ⟨m, ds, rfl, l, g', denL_small w us ds ?_ q⟩
    exact List.all_eq_true.mp w _ (List.mem_of_getElem? g')
  | .tup us, d, s, q => by
    rw [Den] at q ⊢
    obtain ⟨ds, rfl, q⟩ := q
    exact ⟨ds, rfl, denL_small w us ds (by simpa using s) q⟩
  | .map us, d, s, q => by
    rw [Den] at q ⊢
    obtain ⟨ds, rfl, q⟩ := q
    exact ⟨ds, rfl, denL_small w us ds (by simpa [D.small] using s) q⟩
  | .ref _, d, s, q => by rw [Den] at q; exact q.elim
  | .non, d, s, q => by rw [Den] at q ⊢; exact q
  | .bl _, d, s, q => by rw [Den] at q ⊢; exact q
  | .int _, d, s, q => by rw [Den] at q ⊢; exact q
  | .str _, d, s, q => by rw [Den] at q ⊢; exact q
theorem denL_small {L : Nat → Prop} {h : PHeap} {n : Nat} (w : (h.take n).all (Cell.small n) = true) : ∀ us ds, D.smallL n ds = true → DenL L h us ds → DenL L (h.take n) us ds
  | [], ds, s, q => by rw [DenL] at q ⊢; exact q
  | u :: us, ds, s, q => by
    rw [DenL] at q ⊢
    obtain ⟨d, r, rfl, q1, q2⟩ := q
    rw [sm_consL, Bool.and_eq_true] at s
    exact ⟨d, r, rfl, den_small w u d s.1 q1, denL_small w us r s.2 q2⟩
end
theorem gc_cases (n : Nat) (d : D) (h : PHeap) : gc n d h = h ∨ (n < h.length ∧ d.small n = true ∧ (h.take n).all (Cell.small n) = true ∧ gc n d h = h.take n) := by
  unfold gc
  split
  · exact .inl rfl
  · rename_i hl
    split
    · rename_i w
      rw [Bool.and_eq_true] at w
      exact .inr ⟨by omega, w.1, w.2, rfl⟩
    · exact .inl rfl
theorem gc_den {L : Nat → Prop} {h : PHeap} {n : Nat} {u d : D} (q : Den L h u d) : Den L (gc n d h) u d := by
  rcases gc_cases n d h with e | ⟨_, s, w, e⟩
  · rw [e]; exact q
  · rw [e]; exact den_small w u d s q
theorem gc_get {h : PHeap} {n m : Nat} {d : D} {c : Cell} (hm : m < n) (q : h[m]? = some c) : (gc n d h)[m]? = some c := by
  rcases gc_cases n d h with e | ⟨_, _, _, e⟩
  · rw [e]; exact q
  · rw [e, List.getElem?_take, if_pos hm]; exact q
theorem gc_len {h : PHeap} {n : Nat} {d : D} (hn : n ≤ h.length) : n ≤ (gc n d h).length := by
  rcases gc_cases n d h with e | ⟨_, _, _, e⟩
  · rw [e]; exact hn
  · rw [e, List.length_take]; omega
theorem gc_denL {L : Nat → Prop} {h : PHeap} {n m : Nat} {d : D} {us ds : List D} (hm : m < n) (g : h[m]? = some (.lst ds)) (q : DenL L h us ds) : DenL L (gc n d h) us ds := by
  rcases gc_cases n d h with e | ⟨_, _, w, e⟩
  · rw [e]; exact q
  · rw [e]
    refine denL_small w us ds ?_ q
    have g' : (h.take n)[m]? = some (.lst ds) := by rw [List.getElem?_take, if_pos hm]; exact g
    exact List.all_eq_true.mp w _ (List.mem_of_getElem? g')
end Gb

/-! GuB: slots, who owns which list, what a step leaves behind -/
namespace Gb
open PySem L2
/-- owned slots, those pinned (a parameter that is written), those that may be written; whether the def gives a new list -/
structure Sx where
  O : List Nat
  P : List Nat
  M : List Nat
  fr : Bool
  /-- those of the owned ones that hold a dict -/
  Q : List Nat
def bxD (b : Bool) (us : List D) : D := match b with
  | false => .lst us
  | true => .map us
def bxC (b : Bool) (ds : List D) : Cell := match b with
  | false => .lst ds
  | true => .map ds
abbrev Sx.q (S : Sx) (i : Nat) : Bool := decide (i ∈ S.Q)
abbrev Ow := Nat → Option Nat
def lk (B : Nat → Prop) (ow : Ow) : Nat → Prop := fun n => B n ∨ ∃ i, ow i = some n
structure Rl (S : Sx) (k : Nat) (B : Nat → Prop) (ow : Ow) (h : PHeap) (env ven : PEnv) : Prop where
  kl : k ≤ h.length
  lt : ∀ n, B n → n < h.length
  inj : ∀ i j n, ow i = some n → ow j = some n → i = j
  dis : ∀ i n, ow i = some n → ¬ B n
  frs : ∀ i n, ow i = some n → i ∉ S.P → k ≤ n
  own : ∀ i n, ow i = some n → i ∈ S.O ∧ env[i]? = some (some (.ref n)) ∧ ∃ us ds, ven[i]? = some (some (bxD (S.q i) us)) ∧ h[n]? = some (bxC (S.q i) ds) ∧ DenL (lk B ow) h us ds
  all : ∀ i u, i ∈ S.O → ven[i]? = some (some u) → ∃ n, ow i = some n
  len : env.length = ven.length
  oth : ∀ i u, i ∉ S.O → ven[i]? = some (some u) → ∃ d, env[i]? = some (some d) ∧ Den (lk B ow) h u d
structure Stp (S : Sx) (ow : Ow) (h : PHeap) (ow' : Ow) (h' : PHeap) : Prop where
  len : h.length ≤ h'.length
  keep : ∀ (n : Nat) (c : Cell), (∀ i, ow i = some n → i ∉ S.M) → h[n]? = some c → h'[n]? = some c
  sub : ∀ i n, ow' i = some n → ow i = some n ∨ h.length ≤ n
  pin : ∀ i, i ∈ S.P → ow' i = ow i
theorem get_lt {h : PHeap} {n : Nat} {c : Cell} (e : h[n]? = some c) : n < h.length := (List.getElem?_eq_some_iff.mp e).1
section
variable {S : Sx} {k : Nat} {B : Nat → Prop} {ow ow' ow2 : Ow} {h h' h2 : PHeap} {env ven env' ven' : PEnv}
theorem Rl.ownL (r : Rl S k B ow h env ven) {i n : Nat} (hq : i ∉ S.Q) (e : ow i = some n) : i ∈ S.O ∧ env[i]? = some (some (.ref n)) ∧ ∃ us ds, ven[i]? = some (some (.lst us)) ∧ h[n]? = some (.lst ds) ∧ DenL (lk B ow) h us ds := by
  have := r.own i n e
  rw [show S.q i = false from decide_eq_false hq] at this
  exact this
theorem Rl.ownM (r : Rl S k B ow h env ven) {i n : Nat} (hq : i ∈ S.Q) (e : ow i = some n) : i ∈ S.O ∧ env[i]? = some (some (.ref n)) ∧ ∃ us ds, ven[i]? = some (some (.map us)) ∧ h[n]? = some (.map ds) ∧ DenL (lk B ow) h us ds := by
  have := r.own i n e
  rw [show S.q i = true from decide_eq_true hq] at this
  exact this
theorem Stp.refl : Stp S ow h ow h := ⟨Nat.le_refl _, fun _ _ _ e => e, fun _ _ e => .inl e, fun _ _ => rfl⟩
theorem Stp.trans (a : Stp S ow h ow' h') (b : Stp S ow' h' ow2 h2) : Stp S ow h ow2 h2 := by
  refine ⟨Nat.le_trans a.len b.len, fun n c q e => b.keep n c (fun i e2 => ?_) (a.keep n c q e), fun i n e => ?_, fun i m => (b.pin i m).trans (a.pin i m)⟩
  · rcases a.sub i n e2 with e3 | e3
    · exact q i e3
    · have := get_lt e; omega
  · rcases b.sub i n e with e3 | e3
    · exact a.sub i n e3
    · exact .inr (Nat.le_trans a.len e3)
theorem Stp.kp (a : Stp S ow h ow' h') : Kp (lk B ow) h (lk B ow') h' := by
  intro n ds l e
  refine ⟨fun l2 => ?_, a.keep n _ (fun i e2 => absurd (Or.inr ⟨i, e2⟩) l) e⟩
  rcases l2 with l2 | ⟨i, e2⟩
  · exact l (.inl l2)
  · rcases a.sub i n e2 with e3 | e3
    · exact l (.inr ⟨i, e3⟩)
    · have := get_lt e; omega
/-- fewer may be written -/
theorem Stp.wide {M' : List Nat} (a : Stp { S with M := M' } ow h ow' h') (hm : ∀ i, i ∈ M' → i ∈ S.M) : Stp S ow h ow' h' :=
  ⟨a.len, fun n c q e => a.keep n c (fun i e2 m => q i e2 (hm i m)) e, a.sub, a.pin⟩
theorem Rl.toM {M' : List Nat} (r : Rl S k B ow h env ven) : Rl { S with M := M' } k B ow h env ven := ⟨r.kl, r.lt, r.inj, r.dis, r.frs, r.own, r.all, r.len, r.oth⟩
theorem Rl.ofM {M' : List Nat} (r : Rl { S with M := M' } k B ow h env ven) : Rl S k B ow h env ven := ⟨r.kl, r.lt, r.inj, r.dis, r.frs, r.own, r.all, r.len, r.oth⟩
theorem Rl.fresh (r : Rl S k B ow h env ven) {n : Nat} (hn : h.length ≤ n) : ¬ lk B ow n := by
  rintro (q | ⟨i, e⟩)
  · have := r.lt n q; omega
  · obtain ⟨_, _, us, ds, _, e2, _⟩ := r.own i n e
    have := get_lt e2; omega
theorem get_app {h l : PHeap} {n : Nat} {c : Cell} (e : h[n]? = some c) : (h ++ l)[n]? = some c := by
  rw [List.getElem?_append_left (get_lt e)]; exact e
/-- cells are added -/
theorem Rl.app (r : Rl S k B ow h env ven) (l : PHeap) : Rl S k B ow (h ++ l) env ven := by
  have kp : Kp (lk B ow) h (lk B ow) (h ++ l) := fun n ds q e => ⟨q, get_app e⟩
  refine ⟨by have := r.kl; simp; omega, fun n q => by have := r.lt n q; simp; omega, r.inj, r.dis, r.frs, fun i n e => ?_, r.all, r.len, fun i u a b => ?_⟩
  · obtain ⟨a, b, us, ds, c, d, q⟩ := r.own i n e
    exact ⟨a, b, us, ds, c, get_app d, DenL.kp kp us ds q⟩
  · obtain ⟨d, e, q⟩ := r.oth i u a b
    exact ⟨d, e, Den.kp kp u d q⟩
theorem Stp.app (l : PHeap) : Stp S ow h ow (h ++ l) := ⟨by simp, fun _ _ _ e => get_app e, fun _ _ e => .inl e, fun _ _ => rfl⟩
/-- only what was not locked counts, more may be there -/
theorem Rl.pass (r : Rl S k B ow h env ven) (hl : h.length ≤ h'.length) (hk : ∀ (n : Nat) (c : Cell), h[n]? = some c → h'[n]? = some c) : Rl S k B ow h' env ven := by
  have kp : Kp (lk B ow) h (lk B ow) h' := fun n ds q e => ⟨q, hk n _ e⟩
  refine ⟨Nat.le_trans r.kl hl, fun n q => Nat.lt_of_lt_of_le (r.lt n q) hl, r.inj, r.dis, r.frs, fun i n e => ?_, r.all, r.len, fun i u a b => ?_⟩
  · obtain ⟨a, b, us, ds, c, d, q⟩ := r.own i n e
    exact ⟨a, b, us, ds, c, hk _ _ d, DenL.kp kp us ds q⟩
  · obtain ⟨d, e, q⟩ := r.oth i u a b
    exact ⟨d, e, Den.kp kp u d q⟩
theorem Stp.pass (hl : h.length ≤ h'.length) (hk : ∀ (n : Nat) (c : Cell), h[n]? = some c → h'[n]? = some c) : Stp S ow h ow h' := ⟨hl, fun n c _ e => hk n c e, fun _ _ e => .inl e, fun _ _ => rfl⟩
/-- slots given up -/
def dropO (ow : Ow) (X : List Nat) : Ow := fun i => if i ∈ X then none else ow i
theorem dropO_some {X : List Nat} {i n : Nat} (e : dropO ow X i = some n) : ow i = some n ∧ i ∉ X := by
  unfold dropO at e
  split at e
  · cases e
  · exact ⟨e, by assumption⟩
theorem dropO_kp {X : List Nat} : Kp (lk B ow) h (lk B (dropO ow X)) h := fun n ds q e => ⟨by
  rintro (l | ⟨i, e2⟩)
  · exact q (.inl l)
  · exact q (.inr ⟨i, (dropO_some e2).1⟩), e⟩
theorem Stp.drop {X : List Nat} (hp : ∀ i, i ∈ S.P → i ∉ X) : Stp S ow h (dropO ow X) h := ⟨Nat.le_refl _, fun _ _ _ e => e, fun _ _ e => .inl (dropO_some e).1, fun i m => by unfold dropO; rw [if_neg (hp i m)]⟩
/-- the slots of X are forgotten -/
theorem Rl.forget (r : Rl S k B ow h env ven) {X : List Nat} (hl : ven'.length = ven.length) (hle : env'.length = env.length) (hv : ∀ i u, ven'[i]? = some (some u) → ven[i]? = some (some u) ∧ i ∉ X) (hv2 : ∀ i u, i ∉ X → ven[i]? = some (some u) → ven'[i]? = some (some u)) (he : ∀ i, i ∉ X → env'[i]? = env[i]?) : Rl S k B (dropO ow X) h env' ven' := by
  refine ⟨r.kl, r.lt, fun i j n a b => r.inj i j n (dropO_some a).1 (dropO_some b).1, fun i n a => r.dis i n (dropO_some a).1, fun i n a => r.frs i n (dropO_some a).1, fun i n e => ?_, fun i u m e => ?_, by rw [hl, hle, r.len], fun i u m e => ?_⟩
  · obtain ⟨e1, e2⟩ := dropO_some e
    obtain ⟨a, b, us, ds, c, d, q⟩ := r.own i n e1
    exact ⟨a, by rw [he i e2]; exact b, us, ds, hv2 i _ e2 c, d, DenL.kp dropO_kp us ds q⟩
  · obtain ⟨e1, e2⟩ := hv i u e
    obtain ⟨n, e3⟩ := r.all i u m e1
    exact ⟨n, by unfold dropO; rw [if_neg e2]; exact e3⟩
  · obtain ⟨e1, e2⟩ := hv i u e
    obtain ⟨d, e3, q⟩ := r.oth i u m e1
    exact ⟨d, by rw [he i e2]; exact e3, Den.kp dropO_kp u d q⟩
theorem wipeE_get {env : PEnv} {i : Nat} : ∀ {vs : List Nat}, i ∉ vs → (wipeE env vs)[i]? = env[i]?
  | [], _ => rfl
  | v :: vs, q => by
    show ((wipeE env vs).set v none)[i]? = _
    rw [List.getElem?_set_ne (fun e => q (by rw [e]; exact List.mem_cons_self ..)), wipeE_get fun m => q (List.mem_cons_of_mem _ m)]
theorem Rl.wipe (r : Rl S k B ow h env ven) (X : List Nat) : Rl S k B (dropO ow X) h (wipeE env X) (wipeE ven X) :=
  r.forget (wipeE_length _ _) (wipeE_length _ _) (fun i u e => wipeE_some e) (fun i u m e => by rw [wipeE_get m]; exact e) (fun i m => wipeE_get m)
theorem Rl.wipeV (r : Rl S k B ow h env ven) (X : List Nat) : Rl S k B (dropO ow X) h env (wipeE ven X) :=
  r.forget (wipeE_length _ _) rfl (fun i u e => wipeE_some e) (fun i u m e => by rw [wipeE_get m]; exact e) (fun i m => rfl)
/-- a slot that is nobody's is set -/
theorem Rl.set (r : Rl S k B ow h env ven) {i : Nat} {u d : D} (hi : i ∉ S.O) (q : Den (lk B ow) h u d) : Rl S k B ow h (env.set i (some d)) (ven.set i (some u)) := by
  refine ⟨r.kl, r.lt, r.inj, r.dis, r.frs, fun j n e => ?_, fun j v m e => ?_, by simp [r.len], fun j v m e => ?_⟩
  · obtain ⟨a, b, us, ds, c, d, q⟩ := r.own j n e
    have hij : i ≠ j := fun e => hi (e ▸ a)
    exact ⟨a, by rw [List.getElem?_set_ne hij]; exact b, us, ds, by rw [List.getElem?_set_ne hij]; exact c, d, q⟩
  · have hij : i ≠ j := fun e => hi (e ▸ m)
    rw [List.getElem?_set_ne hij] at e
    exact r.all j v m e
  · by_cases hij : i = j
    · subst hij
      have hl : i < ven.length := by
        have := (List.getElem?_eq_some_iff.mp e).1; simpa using this
      rw [List.getElem?_set_self hl] at e
      cases e
      exact ⟨d, by rw [List.getElem?_set_self (by rw [r.len]; exact hl)], q⟩
    · rw [List.getElem?_set_ne hij] at e ⊢
      exact r.oth j v m e
def setOw (ow : Ow) (i n : Nat) : Ow := fun j => if j = i then some n else ow j
theorem setOw_some {ow : Ow} {i n j m : Nat} (e : setOw ow i n j = some m) : (j = i ∧ m = n) ∨ (j ≠ i ∧ ow j = some m) := by
  unfold setOw at e
  split at e
  · cases e; exact .inl ⟨by assumption, rfl⟩
  · exact .inr ⟨by assumption, e⟩
theorem setOw_same {ow : Ow} {i n : Nat} : setOw ow i n i = some n := by unfold setOw; rw [if_pos rfl]
theorem setOw_ne {ow : Ow} {i n j : Nat} (hj : j ≠ i) : setOw ow i n j = ow j := by unfold setOw; rw [if_neg hj]
/-- a slot gets a list that nobody else has -/
theorem Rl.setOb (r : Rl S k B ow h env ven) {i n : Nat} {us ds : List D} {bb : Bool} (hb : S.q i = bb) (hi : i ∈ S.O) (hl : h.length ≤ h'.length) (hk : ∀ (n : Nat) (c : Cell), h[n]? = some c → h'[n]? = some c)
    (hn : h.length ≤ n) (hg : h'[n]? = some (bxC bb ds)) (q : DenL (fun m => lk B ow m ∨ m = n) h' us ds)
    (hv : i < ven.length) : Rl S k B (setOw ow i n) h' (env.set i (some (.ref n))) (ven.set i (some (bxD bb us))) := by
  subst hb
  have hf := r.fresh hn
  have ne : ∀ {j m}, ow j = some m → m ≠ n := fun {j m} e e2 => hf (.inr ⟨j, e2 ▸ e⟩)
  have kp0 : Kp (fun m => lk B ow m ∨ m = n) h' (lk B (setOw ow i n)) h' := fun m cs l e => ⟨by
    rintro (l2 | ⟨j, e2⟩)
    · exact l (.inl (.inl l2))
    · rcases setOw_some e2 with ⟨_, e3⟩ | ⟨_, e3⟩
      · exact l (.inr e3)
      · exact l (.inl (.inr ⟨j, e3⟩)), e⟩
  have kp : Kp (lk B ow) h (lk B (setOw ow i n)) h' := fun m cs l e => ⟨by
    rintro (l2 | ⟨j, e2⟩)
    · exact l (.inl l2)
    · rcases setOw_some e2 with ⟨_, e3⟩ | ⟨_, e3⟩
      · have := get_lt e; omega
      · exact l (.inr ⟨j, e3⟩), hk m _ e⟩
  refine ⟨Nat.le_trans r.kl hl, fun m q => Nat.lt_of_lt_of_le (r.lt m q) hl, fun a b m e1 e2 => ?_, fun a m e => ?_, fun a m e hp2 => ?_, fun a m e => ?_, fun a v m e => ?_, by simp [r.len], fun a v m e => ?_⟩
  · rcases setOw_some e1 with ⟨e3, e4⟩ | ⟨e3, e4⟩ <;> rcases setOw_some e2 with ⟨e5, e6⟩ | ⟨e5, e6⟩
    · rw [e3, e5]
    · exact absurd e4 (ne e6)
    · exact absurd e6 (ne e4)
    · exact r.inj a b m e4 e6
  · rcases setOw_some e with ⟨e3, e4⟩ | ⟨e3, e4⟩
    · subst e4; exact fun q => hf (.inl q)
    · exact r.dis a m e4
  · rcases setOw_some e with ⟨e3, e4⟩ | ⟨e3, e4⟩
    · have := r.kl; omega
    · exact r.frs a m e4 hp2
  · rcases setOw_some e with ⟨e3, e4⟩ | ⟨e3, e4⟩
    · subst e3; subst e4
      exact ⟨hi, List.getElem?_set_self (by rw [r.len]; exact hv), us, ds, List.getElem?_set_self hv, hg, DenL.kp kp0 us ds q⟩
    · obtain ⟨x1, x2, vs, cs, x3, x4, x5⟩ := r.own a m e4
      exact ⟨x1, by rw [List.getElem?_set_ne (fun e => e3 e.symm)]; exact x2, vs, cs, by rw [List.getElem?_set_ne (fun e => e3 e.symm)]; exact x3, hk _ _ x4, DenL.kp kp vs cs x5⟩
  · by_cases ea : a = i
    · exact ⟨n, by rw [ea]; exact setOw_same⟩
    · rw [List.getElem?_set_ne (fun e => ea e.symm)] at e
      obtain ⟨x, y⟩ := r.all a v m e
      exact ⟨x, by rw [setOw_ne ea]; exact y⟩
  · have ea : a ≠ i := fun e => m (e ▸ hi)
    rw [List.getElem?_set_ne (fun e => ea e.symm)] at e ⊢
    obtain ⟨d, y1, y2⟩ := r.oth a v m e
    exact ⟨d, y1, Den.kp kp v d y2⟩
theorem Rl.setO (r : Rl S k B ow h env ven) {i n : Nat} {us ds : List D} (hi : i ∈ S.O) (hl : h.length ≤ h'.length) (hk : ∀ (n : Nat) (c : Cell), h[n]? = some c → h'[n]? = some c)
    (hn : h.length ≤ n) (hg : h'[n]? = some (.lst ds)) (q : DenL (fun m => lk B ow m ∨ m = n) h' us ds)
    (hv : i < ven.length) (hq : i ∉ S.Q) : Rl S k B (setOw ow i n) h' (env.set i (some (.ref n))) (ven.set i (some (.lst us))) := r.setOb (bb := false) (decide_eq_false hq) hi hl hk hn hg q hv
theorem Stp.setO {i n : Nat} (hp : i ∉ S.P) (hl : h.length ≤ h'.length) (hk : ∀ (n : Nat) (c : Cell), h[n]? = some c → h'[n]? = some c) (hn : h.length ≤ n) : Stp S ow h (setOw ow i n) h' :=
  ⟨hl, fun n c _ e => hk n c e, fun j m e => by
    rcases setOw_some e with ⟨_, e3⟩ | ⟨_, e3⟩
    · exact .inr (by omega)
    · exact .inl e3, fun j m => setOw_ne fun e => hp (e ▸ m)⟩
/-- the owned list of a slot is written -/
theorem Rl.writeB (r : Rl S k B ow h env ven) {i n : Nat} {us ds : List D} {bb : Bool} (hb : S.q i = bb) (e : ow i = some n) (q : DenL (lk B ow) h us ds) : Rl S k B ow (h.set n (bxC bb ds)) env (ven.set i (some (bxD bb us))) := by
  subst hb
  obtain ⟨x1, x2, vs, cs, x3, x4, x5⟩ := r.own i n e
  have hl := get_lt x4
  have hi : i < ven.length := (List.getElem?_eq_some_iff.mp x3).1
  have kp : Kp (lk B ow) h (lk B ow) (h.set n (bxC (S.q i) ds)) := fun m es l g => ⟨l, by rw [List.getElem?_set_ne (fun e2 : n = m => l (.inr ⟨i, by rw [← e2]; exact e⟩))]; exact g⟩
  refine ⟨by simpa using r.kl, fun m q => by simpa using r.lt m q, r.inj, r.dis, r.frs, fun j m g => ?_, fun j v m g => ?_, by simp [r.len], fun j v m g => ?_⟩
  · by_cases hj : j = i
    · subst hj
      rw [e] at g; cases g
      exact ⟨x1, x2, us, ds, List.getElem?_set_self hi, List.getElem?_set_self hl, DenL.kp kp us ds q⟩
    · obtain ⟨y1, y2, ws, es, y3, y4, y5⟩ := r.own j m g
      have hm : n ≠ m := fun e2 => hj (r.inj j i m g (e2 ▸ e))
      exact ⟨y1, y2, ws, es, by rw [List.getElem?_set_ne (fun e => hj e.symm)]; exact y3, by rw [List.getElem?_set_ne hm]; exact y4, DenL.kp kp ws es y5⟩
  · by_cases hj : j = i
    · subst hj; exact ⟨n, e⟩
    · rw [List.getElem?_set_ne (fun e => hj e.symm)] at g
      exact r.all j v m g
  · have hj : j ≠ i := fun e => m (e ▸ x1)
    rw [List.getElem?_set_ne (fun e => hj e.symm)] at g
    obtain ⟨d, y1, y2⟩ := r.oth j v m g
    exact ⟨d, y1, Den.kp kp v d y2⟩
theorem Rl.write (r : Rl S k B ow h env ven) {i n : Nat} {us ds : List D} (e : ow i = some n) (q : DenL (lk B ow) h us ds) (hq : i ∉ S.Q) : Rl S k B ow (h.set n (.lst ds)) env (ven.set i (some (.lst us))) := r.writeB (bb := false) (decide_eq_false hq) e q
theorem Stp.write {i n : Nat} {c : Cell} (e : ow i = some n) (hm : i ∈ S.M) : Stp S ow h ow (h.set n c) :=
  ⟨by simp, fun m c q g => by rw [List.getElem?_set_ne (fun e2 : n = m => q i (by rw [← e2]; exact e) hm)]; exact g, fun _ _ e => .inl e, fun _ _ => rfl⟩
end

/-! ### what a word comes to -/
abbrev Re (β α : Type) := (Nat → Prop) → Ow → PHeap → β → α → Prop
def RD : Re D D := fun B ow h u d => Den (lk B ow) h u d
def RL : Re (List D) (List D) := fun B ow h u d => DenL (lk B ow) h u d
def RB {α : Type} : Re α α := fun _ _ _ u d => u = d
/-- an operand -/
def DenV (L : Nat → Prop) (h : PHeap) (u : D) : LV → Prop
  | .val d => Den L h u d
  | .new ds => ∃ us, u = .lst us ∧ DenL L h us ds
def RV : Re D LV := fun B ow h u x => DenV (lk B ow) h u x
/-- .. that may be an owned list -/
def DenW (L : Nat → Prop) (h : PHeap) (u : D) (x : LV) : Prop := DenV L h u x ∨ ∃ n us ds, x = .val (.ref n) ∧ u = .lst us ∧ h[n]? = some (.lst ds) ∧ DenL L h us ds
def RW : Re D LV := fun B ow h u x => DenW (lk B ow) h u x
/-- what is walked; X: owned slots that must stand as they do -/
def RI (X : List Nat) : Re (List D) Itr := fun B ow h us t => DenL (lk B ow) h us t.items ∧ ∀ p ∈ t.deps, h[p.1]? = some (.lst p.2) ∧ ¬ B p.1 ∧ ∀ i, ow i = some p.1 → i ∈ X
section
variable {α β γ δ : Type}
class Sta (S : Sx) (R : Re β α) : Prop where
  sta : ∀ {B ow h ow' h' u a}, Stp S ow h ow' h' → R B ow h u a → R B ow' h' u a
instance {S : Sx} : Sta S RD := ⟨fun s q => Den.kp s.kp _ _ q⟩
instance {S : Sx} : Sta S RL := ⟨fun s q => DenL.kp s.kp _ _ q⟩
instance {S : Sx} : Sta S (RB (α := α)) := ⟨fun s q => q⟩
instance {S : Sx} : Sta S RV := ⟨fun {B ow h ow' h' u a} s q => by
  cases a with
  | val d => exact Den.kp s.kp _ _ q
  | new ds => obtain ⟨us, e, q⟩ := q; exact ⟨us, e, DenL.kp s.kp _ _ q⟩⟩
theorem RI.sta {S : Sx} {X : List Nat} (hX : ∀ i, i ∈ X → i ∉ S.M) {B ow h ow' h' u a} (s : Stp S ow h ow' h') (q : RI X B ow h u a) : RI X B ow' h' u a := by
  refine ⟨DenL.kp s.kp _ _ q.1, fun p m => ?_⟩
  obtain ⟨g, b, o⟩ := q.2 p m
  refine ⟨s.keep _ _ (fun i e => hX i (o i e)) g, b, fun i e => ?_⟩
  rcases s.sub i _ e with e2 | e2
  · exact o i e2
  · have := get_lt g; omega
theorem RI.live {X : List Nat} {B ow h u a} (q : RI X B ow h u a) : a.live h = true := by
  unfold Itr.live
  refine List.all_eq_true.mpr fun p m => ?_
  rw [(q.2 p m).1]
  exact decide_eq_true rfl
def Post (S : Sx) (R : Re β α) (k : Nat) (B : Nat → Prop) (ow : Ow) (h : PHeap) (env : PEnv) (r : Res α) (w : UR β) : Prop := match w with
  | .ok u ven' => ∃ a h' ow', r = .ok a h' ∧ Rl S k B ow' h' env ven' ∧ Stp S ow h ow' h' ∧ R B ow' h' u a
  | .exc e ven' => ∃ h' ow', r = .exc e h' ∧ Rl S k B ow' h' env ven' ∧ Stp S ow h ow' h'
  | .stuck => True
def JU (S : Sx) (R : Re β α) (m : PEnv → PHeap → Res α) (v : PEnv → UR β) : Prop := ∀ k B ow h env ven, Rl S k B ow h env ven → Post S R k B ow h env (m env h) (v ven)
variable {S : Sx} {R : Re β α} {R' : Re δ γ} {k : Nat} {B : Nat → Prop} {ow : Ow} {h : PHeap} {env ven : PEnv}
theorem Post.bind {r : Res α} {w : UR β} {f : α → PHeap → Res γ} {g : β → PEnv → UR δ} (p : Post S R k B ow h env r w)
    (hf : ∀ a h1 ow1 ven1 u, Rl S k B ow1 h1 env ven1 → Stp S ow h ow1 h1 → R B ow1 h1 u a → Post S R' k B ow1 h1 env (f a h1) (g u ven1)) : Post S R' k B ow h env (r.bind f) (w.bind g) := by
  cases w with
  | ok u ven1 =>
    obtain ⟨a, h1, ow1, rfl, r1, s1, q1⟩ := p
    have := hf a h1 ow1 ven1 u r1 s1 q1
    simp only [Res.bind_ok, UR.bind_ok]
    generalize g u ven1 = w2 at this
    cases w2 with
    | ok u2 v2 => obtain ⟨a2, h2, ow2, e, r2, s2, q2⟩ := this; exact ⟨a2, h2, ow2, e, r2, s1.trans s2, q2⟩
    | exc e v2 => obtain ⟨h2, ow2, e, r2, s2⟩ := this; exact ⟨h2, ow2, e, r2, s1.trans s2⟩
    | stuck => trivial
  | exc e ven1 =>
    obtain ⟨h1, ow1, rfl, r1, s1⟩ := p
    exact ⟨h1, ow1, rfl, r1, s1⟩
  | stuck => trivial
theorem Post.ok {a : α} {u : β} (r : Rl S k B ow h env ven) (q : R B ow h u a) : Post S R k B ow h env (.ok a h) (.ok u ven) := ⟨a, h, ow, rfl, r, .refl, q⟩
theorem Post.map {R2 : Re β α} {r : Res α} {w : UR β} (p : Post S R k B ow h env r w) (hf : ∀ {h1 ow1 ven1 u a}, Rl S k B ow1 h1 env ven1 → R B ow1 h1 u a → R2 B ow1 h1 u a) : Post S R2 k B ow h env r w := by
  cases w with
  | ok u v => obtain ⟨a, h1, ow1, e, r1, s1, q1⟩ := p; exact ⟨a, h1, ow1, e, r1, s1, hf r1 q1⟩
  | exc e v => exact p
  | stuck => trivial
/-- nothing may be raised -/
def UR.calm (w : UR β) : UR β := match w with
  | .exc _ _ => .stuck
  | w => w
theorem Post.calm {r : Res α} {w : UR β} (p : Post S R k B ow h env r w) : Post S R k B ow h env r.calm w.calm := by
  cases w with
  | ok u v => obtain ⟨a, h1, ow1, rfl, r1⟩ := p; exact ⟨a, h1, ow1, rfl, r1⟩
  | exc e v => trivial
  | stuck => trivial
theorem Post.of {g : Option β} {r : Res α} (rl : Rl S k B ow h env ven) (q : ∀ u, g = some u → ∃ a, r = .ok a h ∧ R B ow h u a) : Post S R k B ow h env r (UR.of g ven) := by
  cases g with
  | none => trivial
  | some u => obtain ⟨a, e, q⟩ := q u rfl; exact ⟨a, h, ow, e, rl, .refl, q⟩
end
end Gb

/-! GuC: expressions without a heap -/
namespace Gb
open PySem L2
abbrev UE := PEnv → UR D
abbrev UT := PEnv → UR Bool
abbrev UA := PEnv → UR (List D)
/-- what a def comes to; one that writes the list that it is handed first -/
inductive UX where
  | ok (d : D)
  | exc (e : D)
  | stuck
inductive UM where
  | ok (d : D) (s : List D)
  | exc (e : D) (s : List D)
  | stuck
abbrev UF := List D → UX
abbrev UG := List D → List D → UM
def uVar (i : Nat) : UE := fun v => match v[i]? with
  | some (some d) => .ok d v
  | _ => .stuck
/-- an owned list is given away -/
def uMove (i : Nat) : UE := fun v => match v[i]? with
  | some (some d) => .ok d (v.set i none)
  | _ => .stuck
def uC (d : D) : UE := fun v => .ok d v
def uBin (g : D → D → Option D) (a b : UE) : UE := fun v => (a v).bind fun x v1 => (b v1).bind fun y v2 => .of (g x y) v2
def uUn (g : D → Option D) (a : UE) : UE := fun v => (a v).bind fun x v1 => .of (g x) v1
def uIf (c : UT) (a b : UE) : UE := fun v => (c v).bind fun k v1 => match k with
  | true => a v1
  | false => b v1
def uNil : UA := fun v => .ok [] v
def uCons (a : UE) (r : UA) : UA := fun v => (a v).bind fun x v1 => (r v1).bind fun xs v2 => .ok (x :: xs) v2
def uTup (a : UA) : UE := fun v => (a v).bind fun xs v1 => if xs.length ≤ 16777216 then .ok (.tup xs) v1 else .stuck
def uNew (a : UA) : UE := fun v => (a v).bind fun xs v1 => .ok (.lst xs) v1
def uDisp (a : UA) : UA := fun v => (a v).bind fun xs v1 => if xs.length ≤ 16777216 then .ok xs v1 else .stuck
def uTst (a : UE) (g : D → Option Bool) : UT := fun v => (a v).bind fun x v1 => .of (g x) v1
def uTB (a : UE) : UT := fun v => (a v).bind fun d v1 => match d with
  | .bl b => .ok b v1
  | _ => .stuck
def uTNot (c : UT) : UT := fun v => (c v).bind fun k v1 => .ok (!k) v1
def uTAnd (a b : UT) : UT := fun v => (a v).bind fun k v1 => match k with
  | true => b v1
  | false => .ok false v1
def uTOr (a b : UT) : UT := fun v => (a v).bind fun k v1 => match k with
  | true => .ok true v1
  | false => b v1
def uTYes : UT := fun v => .ok true v
def gTruth : D → Option Bool := fun d => match d with
  | .non => some false
  | .bl b => some b
  | .int i => some (i != 0)
  | .str x => if x.length ≤ 16777216 then some ((x.length : Int) != 0) else none
  | .tup xs => some (!xs.isEmpty)
  | .lst xs => some (!xs.isEmpty)
  | .fro xs => some (!xs.isEmpty)
  | .dct _ _ => none
  | .map _ => none
  | .ref _ => none
def uAnd (a b : UE) : UE := fun v => (a v).bind fun d v1 => (UR.of (gTruth d) v1).bind fun k v2 => match k with
  | true => b v2
  | false => .ok d v2
def uOr (a b : UE) : UE := fun v => (a v).bind fun d v1 => (UR.of (gTruth d) v1).bind fun k v2 => match k with
  | true => .ok d v2
  | false => b v2
def uNot (a : UE) : UE := fun v => (a v).bind fun d v1 => (UR.of (gTruth d) v1).bind fun k v2 => .ok (.bl (!k)) v2
def uChain (f g : D → D → Option D) (a b c : UE) : UE := fun v => (a v).bind fun x v1 => (b v1).bind fun y v2 => match f x y with
  | some (.bl true) => (c v2).bind fun w v4 => .of (g y w) v4
  | some (.bl false) => .ok (.bl false) v2
  | _ => .stuck
def u1 {β : Type} (g : D → Option β) (a : UE) : PEnv → UR β := fun v => (a v).bind fun x v1 => .of (g x) v1
def u2 {β : Type} (g : D → D → Option β) (a b : UE) : PEnv → UR β := fun v => (a v).bind fun x v1 => (b v1).bind fun y v2 => .of (g x y) v2
/-- the left one is an owned list, read behind the right one -/
def u2o {β : Type} (g : D → D → Option β) (i : Nat) (b : UE) : PEnv → UR β := fun v => (uVar i v).bind fun _ v1 => (b v1).bind fun y v2 => (uVar i v2).bind fun x v3 => .of (g x y) v3
def UX.res (r : UX) (v : PEnv) : UR D := match r with
  | .ok d => .ok d v
  | .exc e => .exc e v
  | .stuck => .stuck
def UM.res (r : UM) (i : Nat) (v : PEnv) : UR D := match r with
  | .ok d s => .ok d (v.set i (some (.lst s)))
  | .exc e s => .exc e (v.set i (some (.lst s)))
  | .stuck => .stuck
/-- the items of an owned list -/
def uOwn (i : Nat) : UA := fun v => match v[i]? with
  | some (some (.lst xs)) => .ok xs v
  | _ => .stuck
def uCall (F : UF) (a : UA) : UE := fun v => (a v).bind fun ds v1 => (F ds).res v1
def uCallM (F : UG) (i : Nat) (a : UA) : UE := fun v => (uOwn i v).bind fun _ v0 => (a v0).bind fun ds v1 => (uOwn i v1).bind fun s v2 => (F s ds).res i v2
/-- owned lists are lent: what comes back has no list -/
def UX.gnd (r : UX) : UX := match r with
  | .ok d => if d.gnd = true then .ok d else .stuck
  | r => r
def uCallB (F : UF) (a : UA) : UE := fun v => (a v).bind fun ds v1 => (F ds).gnd.res v1

section
variable {α β : Type} {S : Sx} {a b c : ME} {va vb vc : UE} {m : MA} {w : UA} {t t2 : MT} {x x2 : UT} {mo mp : MO} {i : Nat}
theorem ju_mk {R : Re β α} {m : PEnv → PHeap → Res α} {v : PEnv → UR β} (q : ∀ k B ow h env ven, Rl S k B ow h env ven → Post S R k B ow h env (m env h) (v ven)) : JU S R m v := q
theorem uVar_cases (i : Nat) (v : PEnv) : uVar i v = .stuck ∨ ∃ u, v[i]? = some (some u) ∧ uVar i v = .ok u v := by
  unfold uVar
  split
  · rename_i u e; exact .inr ⟨u, e, rfl⟩
  · exact .inl rfl
theorem uOwn_cases (i : Nat) (v : PEnv) : uOwn i v = .stuck ∨ ∃ us, v[i]? = some (some (.lst us)) ∧ uOwn i v = .ok us v := by
  unfold uOwn
  split
  · rename_i u e; exact .inr ⟨u, e, rfl⟩
  · exact .inl rfl
theorem mVar_at {env : PEnv} {h : PHeap} {d : D} (e : env[i]? = some (some d)) : mVar i env h = .ok d h := by unfold mVar; rw [e]
theorem ue_var (hi : i ∉ S.O) : JU S RD (mVar i) (uVar i) := by
  intro k B ow h env ven r
  rcases uVar_cases i ven with e | ⟨u, e, e1⟩
  · rw [e]; trivial
  · obtain ⟨d, e2, q⟩ := r.oth i u hi e
    rw [e1, mVar_at e2]
    exact .ok r q
theorem ue_move (hi : i ∈ S.O) (hp : i ∉ S.P) (hq : i ∉ S.Q := by decide) : JU S RD (mVar i) (uMove i) := by
  intro k B ow h env ven r
  have : uMove i ven = .stuck ∨ ∃ u, ven[i]? = some (some u) ∧ uMove i ven = .ok u (ven.set i none) := by
    unfold uMove
    split
    · rename_i u e; exact .inr ⟨u, e, rfl⟩
    · exact .inl rfl
  rcases this with e | ⟨u, e, e1⟩
  · rw [e]; trivial
  · obtain ⟨n, e0⟩ := r.all i u hi e
    obtain ⟨_, e2, us, ds, e3, e4, q⟩ := r.ownL hq e0
    rw [e1, mVar_at e2]
    rw [e] at e3
    cases e3
    have hl := (List.getElem?_eq_some_iff.mp e).1
    refine ⟨.ref n, h, dropO ow [i], rfl, r.forget (by simp) rfl (fun j u q => ?_) (fun j u q g => ?_) (fun _ _ => rfl), .drop fun j m q => hp (by rw [← List.mem_singleton.mp q]; exact m), ?_⟩
    · by_cases hj : i = j
      · subst hj; rw [List.getElem?_set_self hl] at q; cases q
      · rw [List.getElem?_set_ne hj] at q
        exact ⟨q, fun m => hj (List.mem_singleton.mp m).symm⟩
    · rw [List.getElem?_set_ne (fun e => q (by rw [e]; exact List.mem_singleton.mpr rfl))]; exact g
    · show Den _ _ _ _
      rw [Den]
      refine ⟨n, ds, rfl, ?_, e4, DenL.kp dropO_kp us ds q⟩
      rintro (l | ⟨j, l⟩)
      · exact r.dis i n e0 l
      · obtain ⟨l1, l2⟩ := dropO_some l
        exact l2 (by rw [r.inj j i n l1 e0]; exact List.mem_singleton.mpr rfl)
theorem ue_c {d : D} (hd : d.gnd = true := by rfl) : JU S RD (mC d) (uC d) := fun k B ow h env ven r => .ok r (gnd_den d hd)
/-- ints and truths alone come back -/
def MB (f : D → D → PHeap → Res D) (g : D → D → Option D) : Prop := ∀ L h u w d e z, Den L h u d → Den L h w e → g u w = some z → f d e h = .ok z h ∧ z.gnd = true
def MU (f : D → PHeap → Res D) (g : D → Option D) : Prop := ∀ L h u d z, Den L h u d → g u = some z → f d h = .ok z h ∧ z.gnd = true
theorem ue_bin {f : D → D → PHeap → Res D} {g : D → D → Option D} (hf : MB f g) (ha : JU S RD a va) (hb : JU S RD b vb) : JU S RD (mBin f a b) (uBin g va vb) := fun k B ow h env ven r =>
  (ha k B ow h env ven r).bind fun d h1 ow1 v1 u r1 s1 q1 => (hb k B ow1 h1 env v1 r1).bind fun e h2 ow2 v2 w r2 s2 q2 => .of r2 fun z ez => by
    obtain ⟨e1, e2⟩ := hf (lk B ow2) h2 u w d e z (Sta.sta s2 q1) q2 ez
    exact ⟨z, e1, gnd_den z e2⟩
theorem ue_un {f : D → PHeap → Res D} {g : D → Option D} (hf : MU f g) (ha : JU S RD a va) : JU S RD (mUn f a) (uUn g va) := fun k B ow h env ven r =>
  (ha k B ow h env ven r).bind fun d h1 ow1 v1 u r1 s1 q1 => .of r1 fun z ez => by
    obtain ⟨e1, e2⟩ := hf (lk B ow1) h1 u d z q1 ez
    exact ⟨z, e1, gnd_den z e2⟩
theorem ue_if (hc : JU S RB t x) (ha : JU S RD a va) (hb : JU S RD b vb) : JU S RD (mIf t a b) (uIf x va vb) := fun k B ow h env ven r =>
  (hc k B ow h env ven r).bind fun d h1 ow1 v1 u r1 s1 q1 => by
    cases q1
    cases d
    · exact hb k B ow1 h1 env v1 r1
    · exact ha k B ow1 h1 env v1 r1
theorem ua_nil : JU S RL mNil uNil := fun k B ow h env ven r => .ok r (denL_nil.mpr rfl)
theorem ua_cons (ha : JU S RD a va) (hm : JU S RL m w) : JU S RL (mCons a m) (uCons va w) := fun k B ow h env ven r =>
  (ha k B ow h env ven r).bind fun d h1 ow1 v1 u r1 s1 q1 => (hm k B ow1 h1 env v1 r1).bind fun e h2 ow2 v2 w r2 s2 q2 => .ok r2 (DenL.mk (Sta.sta s2 q1) q2)
theorem ue_tup (hm : JU S RL m w) : JU S RD (mTup m) (uTup w) := fun k B ow h env ven r =>
  (hm k B ow h env ven r).bind fun d h1 ow1 v1 u r1 s1 q1 => by
    have e : u.length = d.length := DenL.len q1
    rw [e]
    split
    · exact .ok r1 (show Den _ _ _ _ by rw [Den]; exact ⟨d, rfl, q1⟩)
    · trivial
theorem uo_new (hm : JU S RL m w) : JU S RV (mNL m) (uNew w) := fun k B ow h env ven r =>
  (hm k B ow h env ven r).bind fun d h1 ow1 v1 u r1 s1 q1 => .ok r1 ⟨u, rfl, q1⟩
theorem ua_disp (hm : JU S RL m w) : JU S RL (mDisp m) (uDisp w) := fun k B ow h env ven r =>
  (hm k B ow h env ven r).bind fun d h1 ow1 v1 u r1 s1 q1 => by
    have e : u.length = d.length := DenL.len q1
    rw [e]
    split
    · exact .ok r1 q1
    · trivial
theorem isEmpty_len {α β : Type} : ∀ {us : List α} {ds : List β}, us.length = ds.length → us.isEmpty = ds.isEmpty
  | [], [], _ => rfl
  | _ :: _, _ :: _, _ => rfl
  | [], _ :: _, e => by simp at e
  | _ :: _, [], e => by simp at e
theorem truth_den {L : Nat → Prop} {h : PHeap} {u d : D} {k : Bool} (q : DenW L h u (.val d)) (e : gTruth u = some k) : truthD d h = .ok k h := by
  rcases q with q | ⟨n, us, ds, e1, rfl, g, q⟩
  · replace q : Den L h u d := q
    cases u with
    | non => rw [Den] at q; subst q; cases e; rfl
    | bl b => rw [Den] at q; subst q; cases e; rfl
    | int b => rw [Den] at q; subst q; cases e; rfl
    | str s =>
      rw [Den] at q; subst q
      simp only [gTruth] at e
      split at e
      · rename_i hl
        cases e
        simp only [truthD]
        rw [if_pos hl]
      · cases e
    | tup us =>
      rw [Den] at q
      obtain ⟨ds, rfl, q⟩ := q
      cases e
      simp only [truthD, isEmpty_len q.len]
    | lst us =>
      rw [Den] at q
      cases e
      obtain ⟨n, ds, rfl, _, g, q⟩ := q
      simp only [truthD, g, isEmpty_len q.len]
    | fro us =>
      rw [Den] at q
      cases e
      obtain ⟨ds, rfl, q⟩ := q
      simp only [truthD, isEmpty_len q.len]
    | dct _ _ => cases e
    | map _ => cases e
    | ref n => cases e
  · cases e1
    cases e
    simp only [truthD, g, isEmpty_len q.len]
theorem ut_truth (ha : JU S RD a va) : JU S RB (mTst a truthD) (uTst va gTruth) := fun k B ow h env ven r =>
  (ha k B ow h env ven r).bind fun d h1 ow1 v1 u r1 s1 q1 => .of r1 fun z ez => ⟨z, truth_den (.inl q1) ez, rfl⟩
theorem ut_tb (ha : JU S RD a va) : JU S RB (mTB a) (uTB va) := fun k B ow h env ven r =>
  (ha k B ow h env ven r).bind fun d h1 ow1 v1 u r1 s1 q1 => by
    cases u with
    | bl b => rw [RD, Den] at q1; subst q1; exact .ok r1 rfl
    | _ => trivial
theorem ut_not (hc : JU S RB t x) : JU S RB (tNotM t) (uTNot x) := fun k B ow h env ven r =>
  (hc k B ow h env ven r).bind fun d h1 ow1 v1 u r1 s1 q1 => by cases q1; exact .ok r1 rfl
theorem ut_and (hc : JU S RB t x) (hd : JU S RB t2 x2) : JU S RB (tAndM t t2) (uTAnd x x2) := fun k B ow h env ven r =>
  (hc k B ow h env ven r).bind fun d h1 ow1 v1 u r1 s1 q1 => by
    cases q1
    cases d
    · exact .ok r1 rfl
    · exact hd k B ow1 h1 env v1 r1
theorem ut_or (hc : JU S RB t x) (hd : JU S RB t2 x2) : JU S RB (tOrM t t2) (uTOr x x2) := fun k B ow h env ven r =>
  (hc k B ow h env ven r).bind fun d h1 ow1 v1 u r1 s1 q1 => by
    cases q1
    cases d
    · exact hd k B ow1 h1 env v1 r1
    · exact .ok r1 rfl
theorem ut_yes : JU S RB tYesM uTYes := fun k B ow h env ven r => .ok r rfl
theorem truth_post {k : Nat} {B : Nat → Prop} {ow : Ow} {h : PHeap} {env ven : PEnv} {u d : D} (r : Rl S k B ow h env ven) (q : RD B ow h u d) : Post S RB k B ow h env (truthD d h) (UR.of (gTruth u) ven) :=
  .of r fun z ez => ⟨z, truth_den (.inl q) ez, rfl⟩
theorem ue_and (ha : JU S RD a va) (hb : JU S RD b vb) : JU S RD (mAnd a b) (uAnd va vb) := fun k B ow h env ven r =>
  (ha k B ow h env ven r).bind fun d h1 ow1 v1 u r1 s1 q1 => (truth_post r1 q1).bind fun kk h2 ow2 v2 u2 r2 s2 q2 => by
    cases q2
    cases kk
    · exact .ok r2 (Sta.sta s2 q1)
    · exact hb k B ow2 h2 env v2 r2
theorem ue_or (ha : JU S RD a va) (hb : JU S RD b vb) : JU S RD (mOr a b) (uOr va vb) := fun k B ow h env ven r =>
  (ha k B ow h env ven r).bind fun d h1 ow1 v1 u r1 s1 q1 => (truth_post r1 q1).bind fun kk h2 ow2 v2 u2 r2 s2 q2 => by
    cases q2
    cases kk
    · exact hb k B ow2 h2 env v2 r2
    · exact .ok r2 (Sta.sta s2 q1)
theorem ue_not (ha : JU S RD a va) : JU S RD (mNot a) (uNot va) := fun k B ow h env ven r =>
  (ha k B ow h env ven r).bind fun d h1 ow1 v1 u r1 s1 q1 => (truth_post r1 q1).bind fun kk h2 ow2 v2 u2 r2 s2 q2 => by
    cases q2
    exact .ok r2 (gnd_den (.bl (!kk)) rfl)
theorem ue_chain {f g : D → D → PHeap → Res D} {f2 g2 : D → D → Option D} (hf : MB f f2) (hg : MB g g2) (ha : JU S RD a va) (hb : JU S RD b vb) (hc : JU S RD c vc) : JU S RD (mChain f g a b c) (uChain f2 g2 va vb vc) := fun k B ow h env ven r =>
  (ha k B ow h env ven r).bind fun d h1 ow1 v1 u r1 s1 q1 => (hb k B ow1 h1 env v1 r1).bind fun e h2 ow2 v2 w r2 s2 q2 => by
    cases ez : f2 u w with
    | none => simp only [ez]; trivial
    | some z =>
      obtain ⟨e1, e2⟩ := hf (lk B ow2) h2 u w d e z (Sta.sta s2 q1) q2 ez
      simp only [e1, ez, Res.bind_ok]
      cases z with
      | bl b =>
        cases b
        · exact .ok r2 (gnd_den (.bl false) rfl)
        · exact (hc k B ow2 h2 env v2 r2).bind fun e' h3 ow3 v3 w3 r3 s3 q3 => .of r3 fun z ez => by
            obtain ⟨e1, e2⟩ := hg (lk B ow3) h3 w w3 e e' z (Sta.sta s3 q2) q3 ez
            exact ⟨z, e1, gnd_den z e2⟩
      | _ => trivial
/-! operands -/
theorem uo_val (ha : JU S RD a va) : JU S RV (mVal a) va := fun k B ow h env ven r => by
  have := ha k B ow h env ven r
  unfold mVal
  cases e : va ven with
  | ok u v =>
    rw [e] at this
    obtain ⟨d, h1, ow1, e1, r1, s1, q1⟩ := this
    rw [e1]
    exact ⟨_, h1, ow1, rfl, r1, s1, q1⟩
  | exc e2 v => rw [e] at this; obtain ⟨h1, ow1, e1, r1⟩ := this; rw [e1]; exact ⟨h1, ow1, rfl, r1⟩
  | stuck => trivial
theorem own_W {k : Nat} {B : Nat → Prop} {ow : Ow} {h : PHeap} {env ven : PEnv} {u : D} (r : Rl S k B ow h env ven) (hi : i ∈ S.O) (e : ven[i]? = some (some u)) (hq : i ∉ S.Q) : ∃ n, ow i = some n ∧ env[i]? = some (some (.ref n)) ∧ RW B ow h u (.val (.ref n)) := by
  obtain ⟨n, e0⟩ := r.all i u hi e
  obtain ⟨_, e2, us, ds, e3, e4, q⟩ := r.ownL hq e0
  rw [e] at e3
  cases e3
  exact ⟨n, e0, e2, .inr ⟨n, us, ds, rfl, rfl, e4, q⟩⟩
theorem uo_own (hi : i ∈ S.O) (hq : i ∉ S.Q := by decide) : JU S RW (mVal (mVar i)) (uVar i) := by
  intro k B ow h env ven r
  rcases uVar_cases i ven with e | ⟨u, e, e1⟩
  · rw [e]; trivial
  · obtain ⟨n, _, e2, q⟩ := own_W r hi e hq
    rw [e1, s_val, mVar_at e2]
    exact .ok r q
theorem uo_w (hm : JU S RV mo va) : JU S RW mo va := fun k B ow h env ven r => (hm k B ow h env ven r).map fun _ q => .inl q
theorem ut_own (hi : i ∈ S.O) (hq : i ∉ S.Q := by decide) : JU S RB (mTst (mVar i) truthD) (uTst (uVar i) gTruth) := by
  intro k B ow h env ven r
  unfold uTst
  rcases uVar_cases i ven with e | ⟨u, e, e1⟩
  · rw [e]; trivial
  · obtain ⟨n, _, e2, q⟩ := own_W r hi e hq
    rw [e1, s_tst, mVar_at e2]
    exact .of r fun z ez => ⟨z, truth_den q ez, rfl⟩
theorem ue_mat (hm : JU S RV mo va) : JU S RD (mM mo) va := by
  intro k B ow h env ven r
  have := hm k B ow h env ven r
  rw [s_m]
  cases e : va ven with
  | ok u v =>
    rw [e] at this
    obtain ⟨x, h1, ow1, e1, r1, s1, q1⟩ := this
    rw [e1]
    cases x with
    | val d => exact ⟨d, h1, ow1, rfl, r1, s1, q1⟩
    | new ds =>
      obtain ⟨us, rfl, q1⟩ := q1
      refine ⟨.ref h1.length, h1 ++ [.lst ds], ow1, rfl, r1.app _, s1.trans (.app _), ?_⟩
      show Den _ _ _ _
      rw [Den]
      exact ⟨_, ds, rfl, r1.fresh (Nat.le_refl _), by simp, DenL.kp (fun n cs l g => ⟨l, get_app g⟩) us ds q1⟩
  | exc e2 v => rw [e] at this; obtain ⟨h1, ow1, e1, r1⟩ := this; rw [e1]; exact ⟨h1, ow1, rfl, r1⟩
  | stuck => trivial
def Mo1 {α β : Type} (R : Re β α) (f : LV → PHeap → Res α) (g : D → Option β) : Prop := ∀ B ow h u x z, DenW (lk B ow) h u x → g u = some z → ∃ a, f x h = .ok a h ∧ R B ow h z a
def Mo2 {α β : Type} (R : Re β α) (f : LV → LV → PHeap → Res α) (g : D → D → Option β) : Prop := ∀ B ow h u x w y z, DenW (lk B ow) h u x → DenW (lk B ow) h w y → g u w = some z → ∃ a, f x y h = .ok a h ∧ R B ow h z a
theorem ue_m1 {R : Re β α} {f : LV → PHeap → Res α} {g : D → Option β} (hf : Mo1 R f g) (ha : JU S RW mo va) : JU S R (m1 f mo) (u1 g va) := fun k B ow h env ven r =>
  (ha k B ow h env ven r).bind fun d h1 ow1 v1 u r1 s1 q1 => .of r1 fun z ez => hf B ow1 h1 u d z q1 ez
theorem ue_m2 {R : Re β α} {f : LV → LV → PHeap → Res α} {g : D → D → Option β} (hf : Mo2 R f g) (ha : JU S RV mo va) (hb : JU S RW mp vb) : JU S R (m2 f mo mp) (u2 g va vb) := fun k B ow h env ven r =>
  (ha k B ow h env ven r).bind fun d h1 ow1 v1 u r1 s1 q1 => (hb k B ow1 h1 env v1 r1).bind fun e h2 ow2 v2 w r2 s2 q2 => .of r2 fun z ez => hf B ow2 h2 u d w e z (.inl (Sta.sta s2 q1)) q2 ez
/-- a step keeps what a slot has where the plain side still knows it -/
theorem own_stays {k : Nat} {B : Nat → Prop} {ow ow' : Ow} {h h' : PHeap} {env ven ven' : PEnv} {u u' : D} (r : Rl S k B ow h env ven) (r' : Rl S k B ow' h' env ven') (hi : i ∈ S.O) (e : ven[i]? = some (some u)) (e' : ven'[i]? = some (some u')) (hq : i ∉ S.Q) : ∃ n, env[i]? = some (some (.ref n)) ∧ RW B ow' h' u' (.val (.ref n)) := by
  obtain ⟨n, _, e2, _⟩ := own_W r hi e hq
  obtain ⟨n', _, e3, q⟩ := own_W r' hi e' hq
  rw [e2] at e3
  cases e3
  exact ⟨n, e2, q⟩
theorem ue_m2o {R : Re β α} {f : LV → LV → PHeap → Res α} {g : D → D → Option β} (hf : Mo2 R f g) (hi : i ∈ S.O) (hb : JU S RW mp vb) (hq : i ∉ S.Q := by decide) : JU S R (m2 f (mVal (mVar i)) mp) (u2o g i vb) := by
  intro k B ow h env ven r
  unfold u2o
  rcases uVar_cases i ven with e | ⟨u, e, e1⟩
  · rw [e]; trivial
  · obtain ⟨n, _, e2, q⟩ := own_W r hi e hq
    rw [s_m2, s_val, mVar_at e2, e1]
    exact (hb k B ow h env ven r).bind fun y h2 ow2 v2 w r2 s2 q2 => by
      rcases uVar_cases i v2 with e' | ⟨u', e', e1'⟩
      · rw [e']; trivial
      · obtain ⟨n', e3, q3⟩ := own_stays r r2 hi e e' hq
        rw [e2] at e3
        cases e3
        rw [e1']
        exact .of r2 fun z ez => hf B ow2 h2 u' (.val (.ref n)) w y z q3 q2 ez
end

/-! ### calls -/
def Ret (fr : Bool) (k : Nat) (L : Nat → Prop) (h : PHeap) (u d : D) : Prop := match fr with
  | false => Den L h u d
  | true => ∃ n us ds, d = .ref n ∧ k ≤ n ∧ u = .lst us ∧ h[n]? = some (.lst ds) ∧ ¬ L n ∧ DenL (fun m => L m ∨ m = n) h us ds
theorem Ret.den {fr : Bool} {k : Nat} {L : Nat → Prop} {h : PHeap} {u d : D} (q : Ret fr k L h u d) : Den L h u d := by
  cases fr with
  | false => exact q
  | true =>
    obtain ⟨n, us, ds, rfl, _, rfl, g, l, q⟩ := q
    rw [Den]
    exact ⟨n, ds, rfl, l, g, DenL.kp (fun m cs l2 g2 => ⟨fun l3 => l2 (.inl l3), g2⟩) us ds q⟩
def Pass (h h' : PHeap) : Prop := h.length ≤ h'.length ∧ ∀ (n : Nat) (c : Cell), h[n]? = some c → h'[n]? = some c
def PassN (n : Nat) (h h' : PHeap) : Prop := h.length ≤ h'.length ∧ ∀ (m : Nat) (c : Cell), m ≠ n → h[m]? = some c → h'[m]? = some c
/-- a def that writes nothing that it was handed -/
def FP (fr : Bool) (p : List D → PHeap → Res D) (F : UF) : Prop := ∀ (B : Nat → Prop) h us ds, (∀ n, B n → n < h.length) → DenL B h us ds → match F us with
  | .ok u => ∃ d h', p ds h = .ok d h' ∧ Pass h h' ∧ Ret fr h.length B h' u d
  | .exc e => ∃ h', p ds h = .exc e h' ∧ Pass h h'
  | .stuck => True
/-- a def that writes the list that it is handed first -/
def FM (fr : Bool) (p : List D → PHeap → Res D) (F : UG) : Prop := ∀ (B : Nat → Prop) h xs cs n us ds, (∀ n, B n → n < h.length) → ¬ B n → h[n]? = some (.lst cs) → DenL (fun m => B m ∨ m = n) h xs cs → DenL (fun m => B m ∨ m = n) h us ds → match F xs us with
  | .ok u ys => ∃ d h' es, p (.ref n :: ds) h = .ok d h' ∧ PassN n h h' ∧ h'[n]? = some (.lst es) ∧ DenL (fun m => B m ∨ m = n) h' ys es ∧ Ret fr h.length (fun m => B m ∨ m = n) h' u d
  | .exc e ys => ∃ h' es, p (.ref n :: ds) h = .exc e h' ∧ PassN n h h' ∧ h'[n]? = some (.lst es) ∧ DenL (fun m => B m ∨ m = n) h' ys es
  | .stuck => True
section
variable {S : Sx} {m : MA} {w : UA} {p : List D → PHeap → Res D} {F : UF} {G : UG} {fr : Bool} {i : Nat}
theorem Rl.ltL {k : Nat} {B : Nat → Prop} {ow : Ow} {h : PHeap} {env ven : PEnv} (r : Rl S k B ow h env ven) : ∀ n, lk B ow n → n < h.length := fun n q => by
  by_cases hl : h.length ≤ n
  · exact absurd q (r.fresh hl)
  · omega
theorem ue_call (hf : FP fr p F) (hm : JU S RL m w) : JU S RD (mCall p m) (uCall F w) := fun k B ow h env ven r =>
  (hm k B ow h env ven r).bind fun ds h1 ow1 v1 us r1 s1 q1 => by
    have := hf (lk B ow1) h1 us ds r1.ltL q1
    revert this
    cases F us with
    | ok u => intro ⟨d, h2, e1, ps, q⟩; exact ⟨d, h2, ow1, e1, r1.pass ps.1 ps.2, .pass ps.1 ps.2, q.den⟩
    | exc e2 => intro ⟨h2, e1, ps⟩; exact ⟨h2, ow1, e1, r1.pass ps.1 ps.2, .pass ps.1 ps.2⟩
    | stuck => intro _; trivial
/-- a list of the def's slot is written by a call -/
theorem Rl.passN {k : Nat} {B : Nat → Prop} {ow : Ow} {h h' : PHeap} {env ven : PEnv} {n : Nat} {ys es : List D} (r : Rl S k B ow h env ven) (e : ow i = some n) (ps : PassN n h h') (g : h'[n]? = some (.lst es)) (q : DenL (lk B ow) h' ys es) (hq : i ∉ S.Q) : Rl S k B ow h' env (ven.set i (some (.lst ys))) := by
  obtain ⟨x1, x2, vs, cs, x3, x4, x5⟩ := r.own i n e
  have hi : i < ven.length := (List.getElem?_eq_some_iff.mp x3).1
  have kp : Kp (lk B ow) h (lk B ow) h' := fun m cs l g => ⟨l, ps.2 m _ (fun e2 => l (.inr ⟨i, by rw [e2]; exact e⟩)) g⟩
  refine ⟨Nat.le_trans r.kl ps.1, fun m q => Nat.lt_of_lt_of_le (r.lt m q) ps.1, r.inj, r.dis, r.frs, fun j m g2 => ?_, fun j v m g2 => ?_, by simp [r.len], fun j v m g2 => ?_⟩
  · by_cases hj : j = i
    · subst hj
      rw [e] at g2; cases g2
      exact ⟨x1, x2, ys, es, by rw [show S.q j = false from decide_eq_false hq]; exact List.getElem?_set_self hi, by rw [show S.q j = false from decide_eq_false hq]; exact g, q⟩
    · obtain ⟨y1, y2, ws, es, y3, y4, y5⟩ := r.own j m g2
      have hm : m ≠ n := fun e2 => hj (r.inj j i m g2 (by rw [e2]; exact e))
      exact ⟨y1, y2, ws, es, by rw [List.getElem?_set_ne (fun e => hj e.symm)]; exact y3, ps.2 m _ hm y4, DenL.kp kp ws es y5⟩
  · by_cases hj : j = i
    · subst hj; exact ⟨n, e⟩
    · rw [List.getElem?_set_ne (fun e => hj e.symm)] at g2
      exact r.all j v m g2
  · have hj : j ≠ i := fun e => m (e ▸ x1)
    rw [List.getElem?_set_ne (fun e => hj e.symm)] at g2
    obtain ⟨d, y1, y2⟩ := r.oth j v m g2
    exact ⟨d, y1, Den.kp kp v d y2⟩
theorem Stp.passN {ow : Ow} {h h' : PHeap} {n : Nat} (e : ow i = some n) (hm : i ∈ S.M) (ps : PassN n h h') : Stp S ow h ow h' :=
  ⟨ps.1, fun m c q g => ps.2 m c (fun e2 => q i (by rw [e2]; exact e) hm) g, fun _ _ e => .inl e, fun _ _ => rfl⟩
theorem ue_callM (hf : FM fr p G) (hi : i ∈ S.O) (hM : i ∈ S.M) (hm : JU S RL m w) (hq : i ∉ S.Q := by decide) : JU S RD (mCall p (mCons (mVar i) m)) (uCallM G i w) := by
  intro k B ow h env ven r
  unfold uCallM
  rcases uOwn_cases i ven with e | ⟨u, e, e1⟩
  · rw [e]; trivial
  · obtain ⟨n, eo, e2, _⟩ := own_W r hi e hq
    rw [s_call, s_cons, mVar_at e2, e1]
    have key : Post S RD k B ow h env ((m env h).bind fun xs h1 => p (.ref n :: xs) h1) ((w ven).bind fun ds v1 => (uOwn i v1).bind fun s v2 => (G s ds).res i v2) := (hm k B ow h env ven r).bind fun ds h1 ow1 v1 us r1 s1 q1 => by
      rcases uOwn_cases i v1 with e' | ⟨xs, e', e1'⟩
      · rw [e']; trivial
      · rw [e1']
        obtain ⟨n', eo', e3, _⟩ := own_W r1 hi e' hq
        rw [e2] at e3
        cases e3
        obtain ⟨x1, x2, xs', cs, x3, x4, x5⟩ := r1.ownL hq eo'
        rw [e'] at x3
        cases x3
        have inv : ∀ {m : Nat}, lk B ow1 m → (lk B (dropO ow1 [i])) m ∨ m = n := fun {m} l => by
          rcases l with l | ⟨j, l⟩
          · exact .inl (.inl l)
          · by_cases hj : j = i
            · subst hj; rw [eo'] at l; cases l; exact .inr rfl
            · exact .inl (.inr ⟨j, by unfold dropO; rw [if_neg (by simpa using hj)]; exact l⟩)
        have vni : ∀ {m : Nat}, ((lk B (dropO ow1 [i])) m ∨ m = n) → lk B ow1 m := fun {m} l2 => by
          rcases l2 with l2 | l2
          · rcases l2 with l2 | ⟨j, l2⟩
            · exact .inl l2
            · exact .inr ⟨j, (dropO_some l2).1⟩
          · exact .inr ⟨i, by rw [l2]; exact eo'⟩
        have inc : ∀ {us ds : List D} {h : PHeap}, DenL (lk B ow1) h us ds → DenL (fun m => (lk B (dropO ow1 [i])) m ∨ m = n) h us ds := fun {us ds h} q => DenL.kp (fun m cs l g => ⟨fun l2 => l (vni l2), g⟩) us ds q
        have exc : ∀ {us ds : List D} {h : PHeap}, DenL (fun m => (lk B (dropO ow1 [i])) m ∨ m = n) h us ds → DenL (lk B ow1) h us ds := fun {us ds h} q => DenL.kp (fun m cs l g => ⟨fun l2 => l (inv l2), g⟩) us ds q
        have hB : ∀ m, lk B (dropO ow1 [i]) m → m < h1.length := fun m l => r1.ltL m (vni (.inl l))
        have hn : ¬ lk B (dropO ow1 [i]) n := by
          rintro (l | ⟨j, l⟩)
          · exact r1.dis i n eo' l
          · obtain ⟨l1, l2⟩ := dropO_some l
            exact l2 (by rw [r1.inj j i n l1 eo']; exact List.mem_singleton.mpr rfl)
        have := hf (lk B (dropO ow1 [i])) h1 xs cs n us ds hB hn x4 (inc x5) (inc q1)
        revert this
        simp only [UR.bind_ok]
        cases G xs us with
        | ok z ys =>
          intro ⟨d, h2, es, e1, ps, g, q2, q3⟩
          have q4 : Den (lk B ow1) h2 z d := Den.kp (fun m cs l g => ⟨fun l2 => l (inv l2), g⟩) z d q3.den
          exact ⟨d, h2, ow1, e1, r1.passN eo' ps g (exc q2) hq, .passN eo' hM ps, q4⟩
        | exc z ys =>
          intro ⟨h2, es, e1, ps, g, q2⟩
          exact ⟨h2, ow1, e1, r1.passN eo' ps g (exc q2) hq, .passN eo' hM ps⟩
        | stuck => intro _; trivial
    simp only [Res.bind_ok, UR.bind_ok]
    generalize m env h = mm at key ⊢
    cases mm <;> exact key
/-! lists that are lent -/
/-- values that keep clear of what is locked from outside alone -/
def RDB : Re D D := fun B ow h u d => Den B h u d
def RLB : Re (List D) (List D) := fun B ow h u d => DenL B h u d
theorem lk_B {B : Nat → Prop} {ow : Ow} {h : PHeap} : Kp (lk B ow) h B h := fun n cs l g => ⟨fun l2 => l (.inl l2), g⟩
theorem quiet_kp {B : Nat → Prop} {ow ow' : Ow} {h h' : PHeap} (s : Stp { S with M := [] } ow h ow' h') : Kp B h B h' := fun n cs l g => ⟨l, s.keep n _ (fun i _ m => by cases m) g⟩
theorem ub_of {a : ME} {va : UE} (ha : JU S RD a va) : JU S RDB a va := fun k B ow h env ven r => (ha k B ow h env ven r).map fun _ q => Den.kp lk_B _ _ q
theorem ub_own (hi : i ∈ S.O) (hq : i ∉ S.Q := by decide) : JU S RDB (mVar i) (uVar i) := by
  intro k B ow h env ven r
  rcases uVar_cases i ven with e | ⟨u, e, e1⟩
  · rw [e]; trivial
  · obtain ⟨n, e0⟩ := r.all i u hi e
    obtain ⟨_, e2, us, ds, e3, e4, q⟩ := r.ownL hq e0
    rw [e1, mVar_at e2]
    rw [e] at e3
    cases e3
    refine .ok r ?_
    show Den _ _ _ _
    rw [Den]
    exact ⟨n, ds, rfl, r.dis i n e0, e4, DenL.kp lk_B us ds q⟩
theorem ub_nil : JU S RLB mNil uNil := fun k B ow h env ven r => .ok r (denL_nil.mpr rfl)
theorem quiet_kp' {B : Nat → Prop} {ow ow' : Ow} {h h' : PHeap} (hM : S.M = []) (s : Stp S ow h ow' h') : Kp B h B h' := fun n cs l g => ⟨l, s.keep n _ (fun i _ m => by rw [hM] at m; cases m) g⟩
theorem ub_cons {a : ME} {va : UE} (ha : JU S RDB a va) (hm : JU S RLB m w) (hM : S.M = [] := by rfl) : JU S RLB (mCons a m) (uCons va w) := fun k B ow h env ven r =>
  (ha k B ow h env ven r).bind fun d h1 ow1 v1 u r1 s1 q1 => (hm k B ow1 h1 env v1 r1).bind fun e h2 ow2 v2 w r2 s2 q2 => .ok r2 (DenL.mk (Den.kp (quiet_kp' hM s2) _ _ q1) q2)
theorem Post.wide {α β : Type} {R : Re β α} {k : Nat} {B : Nat → Prop} {ow : Ow} {h : PHeap} {env : PEnv} {r : Res α} {w : UR β} {M' : List Nat} (p : Post { S with M := M' } R k B ow h env r w) (hm : ∀ i, i ∈ M' → i ∈ S.M) : Post S R k B ow h env r w := by
  cases w with
  | ok u v => obtain ⟨a, h1, ow1, e, r1, s1, q1⟩ := p; exact ⟨a, h1, ow1, e, r1.ofM, s1.wide hm, q1⟩
  | exc e v => obtain ⟨h1, ow1, e, r1, s1⟩ := p; exact ⟨h1, ow1, e, r1.ofM, s1.wide hm⟩
  | stuck => trivial
theorem ue_callB (hf : FP fr p F) (hm : JU { S with M := [] } RLB m w) : JU S RD (mCall p m) (uCallB F w) := fun k B ow h env ven r =>
  ((hm k B ow h env ven r.toM).wide (S := S) (M' := []) fun i m => by cases m).bind fun ds h1 ow1 v1 us r1 s1 q1 => by
    have := hf B h1 us ds r1.lt q1
    revert this
    cases F us with
    | ok u =>
      intro ⟨d, h2, e1, ps, q⟩
      by_cases g : u.gnd = true
      · simp only [UX.gnd, if_pos g]
        rw [den_gnd u d g q.den] at e1
        exact ⟨u, h2, ow1, e1, r1.pass ps.1 ps.2, .pass ps.1 ps.2, gnd_den u g⟩
      · simp only [UX.gnd, if_neg g]; trivial
    | exc e2 => intro ⟨h2, e1, ps⟩; exact ⟨h2, ow1, e1, r1.pass ps.1 ps.2, .pass ps.1 ps.2⟩
    | stuck => intro _; trivial
/-! methods of owned lists -/
def MtU (f g : List D → List D → Option (D × List D)) : Prop := ∀ L h us ds ws es z us', DenL L h us ds → DenL L h ws es → g us ws = some (z, us') → ∃ z' ds', f ds es = some (z', ds') ∧ Den L h z z' ∧ DenL L h us' ds'
def uMt (g : List D → List D → Option (D × List D)) (i : Nat) (a : UA) : UE := fun v => (uOwn i v).bind fun _ v0 => (a v0).bind fun ws v1 => (uOwn i v1).bind fun us v2 => match g us ws with
  | some (z, us') => .ok z (v2.set i (some (.lst us')))
  | none => .stuck
theorem ue_mt {f g : List D → List D → Option (D × List D)} (hf : MtU f g) (hi : i ∈ S.O) (hM : i ∈ S.M) (hm : JU S RL m w) (hq : i ∉ S.Q := by decide) : JU S RD (mMt f (mVar i) m) (uMt g i w) := by
  intro k B ow h env ven r
  unfold uMt
  rcases uOwn_cases i ven with e | ⟨u, e, e1⟩
  · rw [e]; trivial
  · obtain ⟨n, eo⟩ := r.all i _ hi e
    obtain ⟨_, e2, us, ds, e3, e4, q⟩ := r.ownL hq eo
    rw [e1, s_mt, mVar_at e2]
    simp only [Res.bind_ok, UR.bind_ok, mtD_ref, e4]
    exact (hm k B ow h env ven r).bind fun es h1 ow1 v1 ws r1 s1 q1 => by
      rcases uOwn_cases i v1 with e' | ⟨us1, e', e1'⟩
      · rw [e']; trivial
      · rw [e1']
        obtain ⟨n', eo'⟩ := r1.all i _ hi e'
        obtain ⟨_, e2', us', ds', e3', e4', q'⟩ := r1.ownL hq eo'
        rw [e2] at e2'
        cases e2'
        rw [e'] at e3'
        cases e3'
        simp only [UR.bind_ok, mtE, e4']
        cases eg : g us1 ws with
        | none => trivial
        | some zz =>
          obtain ⟨z, us2⟩ := zz
          obtain ⟨z', ds2, e5, q5, q6⟩ := hf (lk B ow1) h1 us1 ds' ws es z us2 q' q1 eg
          simp only [e5]
          have r2 := r1.write eo' q6 hq
          have s2 : Stp S ow1 h1 ow1 (h1.set n (.lst ds2)) := .write eo' hM
          exact ⟨z', _, ow1, rfl, r2, s2, Den.kp s2.kp z z' q5⟩
end
end Gb

/-! GuD: what is walked, comprehensions, statements, defs -/
namespace Gb
open PySem L2
abbrev UI := PEnv → UR (List D)
abbrev US := PEnv → UO
/-! ### what is walked -/
def gSeq : D → Option (List D) := fun u => match u with
  | .tup xs => some xs
  | .lst xs => some xs
  | .fro xs => some xs
  | _ => none
def uSrc (a : UE) : UI := fun v => (a v).bind fun u v1 => .of (gSeq u) v1
def uR1 (b : UE) : UI := fun v => (b v).bind fun y v1 => match y with
  | .int hi => if -(2 ^ 60) ≤ hi ∧ hi ≤ 2 ^ 60 then .ok (rngD 0 hi) v1 else .stuck
  | _ => .stuck
def uR2 (a b : UE) : UI := fun v => (a v).bind fun x v1 => (b v1).bind fun y v2 => match x, y with
  | .int lo, .int hi => if (-(2 ^ 60) ≤ lo ∧ lo ≤ 2 ^ 60) ∧ -(2 ^ 60) ≤ hi ∧ hi ≤ 2 ^ 60 then .ok (rngD lo hi) v2 else .stuck
  | _, _ => .stuck
def uEnu (a : UE) : UI := fun v => (a v).bind fun u v1 => .of ((gSeq u).map enuD) v1
def zip2D (xs ys : List D) : List D := List.zipWith (fun p q => D.tup [p, q]) xs ys
def zip3D (xs ys zs : List D) : List D := List.zipWith (fun p q => D.tup [p, q.1, q.2]) xs (ys.zip zs)
def uZip2 (a b : UE) : UI := fun v => (a v).bind fun x v1 => (b v1).bind fun y v2 => match gSeq x, gSeq y with
  | some xs, some ys => .ok (zip2D xs ys) v2
  | _, _ => .stuck
def uZip3 (a b c : UE) : UI := fun v => (a v).bind fun x v1 => (b v1).bind fun y v2 => (c v2).bind fun z v3 => match gSeq x, gSeq y, gSeq z with
  | some xs, some ys, some zs => .ok (zip3D xs ys zs) v3
  | _, _, _ => .stuck
/-- an operand whose list, where it is owned, is one of X -/
def RWX (X : List Nat) : Re D LV := fun B ow h u x => RV B ow h u x ∨ ∃ i n us ds, i ∈ X ∧ ow i = some n ∧ x = .val (.ref n) ∧ u = .lst us ∧ h[n]? = some (.lst ds) ∧ DenL (lk B ow) h us ds
section
variable {S : Sx} {X : List Nat} {mo mp mq : MO} {va vb vc : UE} {a b c : ME}
theorem ux_v (hm : JU S RV mo va) : JU S (RWX X) mo va := fun k B ow h env ven r => (hm k B ow h env ven r).map fun _ q => .inl q
theorem ux_own {i : Nat} (hi : i ∈ S.O) (hX : i ∈ X) (hq : i ∉ S.Q := by decide) : JU S (RWX X) (mVal (mVar i)) (uVar i) := by
  intro k B ow h env ven r
  rcases uVar_cases i ven with e | ⟨u, e, e1⟩
  · rw [e]; trivial
  · obtain ⟨n, e0⟩ := r.all i u hi e
    obtain ⟨_, e2, us, ds, e3, e4, q⟩ := r.ownL hq e0
    rw [e1, s_val, mVar_at e2]
    rw [e] at e3
    cases e3
    exact .ok r (.inr ⟨i, n, us, ds, hX, e0, rfl, rfl, e4, q⟩)
/-- the items, and the cells that they stand in -/
theorem seq_den {k : Nat} {B : Nat → Prop} {ow : Ow} {h : PHeap} {env ven : PEnv} {u : D} {x : LV} {us : List D} (r : Rl S k B ow h env ven) (q : RWX X B ow h u x) (e : gSeq u = some us) : ∃ ds, x.seq h = some ds ∧ DenL (lk B ow) h us ds ∧ ∀ p ∈ srcDeps x ds, h[p.1]? = some (.lst p.2) ∧ ¬ B p.1 ∧ ∀ i, ow i = some p.1 → i ∈ X := by
  rcases q with q | ⟨i, n, us', ds, hi, eo, rfl, rfl, g, q⟩
  · cases x with
    | val d =>
      replace q : Den (lk B ow) h u d := q
      cases u with
      | tup us' =>
        cases e
        rw [Den] at q
        obtain ⟨ds, rfl, q⟩ := q
        exact ⟨ds, rfl, q, fun p m => by cases m⟩
      | lst us' =>
        cases e
        rw [Den] at q
        obtain ⟨n, ds, rfl, l, g, q⟩ := q
        refine ⟨ds, sq_ref g, q, fun p m => ?_⟩
        rw [sd_ref', List.mem_singleton] at m
        subst m
        exact ⟨g, fun l2 => l (.inl l2), fun i e => absurd (Or.inr ⟨i, e⟩) l⟩
      | fro us' =>
        cases e
        rw [Den] at q
        obtain ⟨ds, rfl, q⟩ := q
        exact ⟨ds, rfl, q, fun p m => by cases m⟩
      | _ => cases e
    | new ds =>
      obtain ⟨us', rfl, q⟩ := q
      cases e
      exact ⟨ds, rfl, q, fun p m => by cases m⟩
  · cases e
    refine ⟨ds, sq_ref g, q, fun p m => ?_⟩
    rw [sd_ref', List.mem_singleton] at m
    subst m
    exact ⟨g, r.dis i n eo, fun j e => by rw [r.inj j i n e eo]; exact hi⟩
theorem ui_src (hm : JU S (RWX X) mo va) : JU S (RI X) (iSrc mo) (uSrc va) := fun k B ow h env ven r =>
  (hm k B ow h env ven r).bind fun x h1 ow1 v1 u r1 s1 q1 => by
    cases e : gSeq u with
    | none => trivial
    | some us =>
      obtain ⟨ds, e1, q, d⟩ := seq_den r1 q1 e
      simp only [e1, UR.of_some]
      exact .ok r1 ⟨q, d⟩
theorem ui_enu (hm : JU S (RWX X) mo va) : JU S (RI X) (iEnu mo) (uEnu va) := fun k B ow h env ven r =>
  (hm k B ow h env ven r).bind fun x h1 ow1 v1 u r1 s1 q1 => by
    cases e : gSeq u with
    | none => trivial
    | some us =>
      obtain ⟨ds, e1, q, d⟩ := seq_den r1 q1 e
      simp only [e1, UR.of_some, Option.map_some]
      exact .ok r1 ⟨by have := DenL.enu 0 q; simp only [Nat.zero_add] at this; exact this, d⟩
theorem ui_r1 (hm : JU S RD a va) : JU S (RI X) (iR1 a) (uR1 va) := fun k B ow h env ven r =>
  (hm k B ow h env ven r).bind fun x h1 ow1 v1 u r1 s1 q1 => by
    cases u with
    | int i =>
      rw [RD, Den] at q1
      subst q1
      simp only
      split
      · exact .ok r1 ⟨by show DenL _ _ (rngD 0 i) (rngD 0 i); unfold rngD; rw [← Function.comp_def D.int, ← List.map_map]; exact DenL.ints _, fun p m => by cases m⟩
      · trivial
    | _ => trivial
theorem ui_r2 (hm : JU S RD a va) (hb : JU S RD b vb) : JU S (RI X) (iR2 a b) (uR2 va vb) := fun k B ow h env ven r =>
  (hm k B ow h env ven r).bind fun x h1 ow1 v1 u r1 s1 q1 => (hb k B ow1 h1 env v1 r1).bind fun y h2 ow2 v2 w r2 s2 q2 => by
    cases u with
    | int i =>
      cases w with
      | int j =>
        rw [RD, Den] at q1 q2
        subst q1
        subst q2
        simp only
        split
        · exact .ok r2 ⟨by show DenL _ _ (rngD i j) (rngD i j); unfold rngD; rw [← Function.comp_def D.int, ← List.map_map]; exact DenL.ints _, fun p m => by cases m⟩
        · trivial
      | _ => trivial
    | _ => trivial
theorem RWX.sta {B : Nat → Prop} {ow ow' : Ow} {h h' : PHeap} {u : D} {x : LV} (hX : ∀ i, i ∈ X → i ∉ S.M) (hk : ∀ i, i ∈ X → ow' i = ow i) (s : Stp S ow h ow' h') {k : Nat} {env ven : PEnv} (r : Rl S k B ow h env ven) (q : RWX X B ow h u x) : RWX X B ow' h' u x := by
  rcases q with q | ⟨i, n, us', ds, hi, eo, e1, e2, g, q⟩
  · exact .inl (Sta.sta s q)
  · exact .inr ⟨i, n, us', ds, hi, by rw [hk i hi]; exact eo, e1, e2, s.keep n _ (fun j e => by rw [r.inj j i n e eo]; exact hX i hi) g, DenL.kp s.kp _ _ q⟩
/-- zip: what stands left of the last is nobody's -/
theorem ui_zip2 (hm : JU S RV mo va) (hb : JU S (RWX X) mp vb) : JU S (RI X) (iZip2 mo mp) (uZip2 va vb) := fun k B ow h env ven r =>
  (hm k B ow h env ven r).bind fun x h1 ow1 v1 u r1 s1 q1 => (hb k B ow1 h1 env v1 r1).bind fun y h2 ow2 v2 w r2 s2 q2 => by
    cases e : gSeq u with
    | none => trivial
    | some us =>
      cases e' : gSeq w with
      | none => trivial
      | some ws =>
        obtain ⟨ds, e1, q, d⟩ := seq_den (X := X) r2 (.inl (Sta.sta s2 q1)) e
        obtain ⟨es, e2, q', d'⟩ := seq_den r2 q2 e'
        simp only [e1, e2]
        exact .ok r2 ⟨DenL.zip q q', fun p m => (List.mem_append.mp m).elim (d p) (d' p)⟩
theorem ui_zip3 (hm : JU S RV mo va) (hb : JU S RV mp vb) (hc : JU S (RWX X) mq vc) : JU S (RI X) (iZip3 mo mp mq) (uZip3 va vb vc) := fun k B ow h env ven r =>
  (hm k B ow h env ven r).bind fun x h1 ow1 v1 u r1 s1 q1 => (hb k B ow1 h1 env v1 r1).bind fun y h2 ow2 v2 w r2 s2 q2 => (hc k B ow2 h2 env v2 r2).bind fun z h3 ow3 v3 t r3 s3 q3 => by
    cases e : gSeq u with
    | none => trivial
    | some us =>
      cases e' : gSeq w with
      | none => trivial
      | some ws =>
        cases e'' : gSeq t with
        | none => trivial
        | some ts =>
          obtain ⟨ds, e1, q, d⟩ := seq_den (X := X) r3 (.inl (Sta.sta s3 (Sta.sta s2 q1))) e
          obtain ⟨es, e2, q', d'⟩ := seq_den (X := X) r3 (.inl (Sta.sta s3 q2)) e'
          obtain ⟨fs, e3, q'', d''⟩ := seq_den r3 q3 e''
          simp only [e1, e2, e3]
          refine .ok r3 ⟨DenL.zip3 q q' q'', fun p m => ?_⟩
          exact (List.mem_append.mp m).elim (d p) fun m => (List.mem_append.mp m).elim (d' p) (d'' p)
end

/-! ### targets -/
mutual
theorem set_den {S : Sx} {k : Nat} {B : Nat → Prop} {ow : Ow} {h : PHeap} : ∀ (g : TgM) {env ven ven' : PEnv} {u d : D}, (∀ i, i ∈ g.slots → i ∉ S.O) → Rl S k B ow h env ven → Den (lk B ow) h u d → g.set u ven = some ven' → ∃ env', g.set d env = some env' ∧ Rl S k B ow h env' ven'
  | .name i, env, ven, ven', u, d, hg, r, q, e => by
    rw [tg_name] at e
    cases e
    exact ⟨_, tg_name, r.set (hg i (by simp [TgM.slots])) q⟩
  | .tup ts, env, ven, ven', u, d, hg, r, q, e => by
    cases u with
    | tup us =>
      rw [Den] at q
      obtain ⟨ds, rfl, q⟩ := q
      rw [tg_tup] at e ⊢
      exact sets_den ts (by simpa [TgM.slots] using hg) r q e
    | _ => simp [TgM.set] at e
theorem sets_den {S : Sx} {k : Nat} {B : Nat → Prop} {ow : Ow} {h : PHeap} : ∀ (g : List TgM) {env ven ven' : PEnv} {us ds : List D}, (∀ i, i ∈ TgM.slotsL g → i ∉ S.O) → Rl S k B ow h env ven → DenL (lk B ow) h us ds → TgM.sets g us ven = some ven' → ∃ env', TgM.sets g ds env = some env' ∧ Rl S k B ow h env' ven'
  | [], env, ven, ven', us, ds, hg, r, q, e => by
    cases us with
    | nil =>
      rw [DenL] at q
      subst q
      rw [tg_nil] at e ⊢
      cases e
      exact ⟨_, rfl, r⟩
    | cons u us => simp [TgM.sets] at e
  | t :: ts, env, ven, ven', us, ds, hg, r, q, e => by
    cases us with
    | nil => simp [TgM.sets] at e
    | cons u us =>
      rw [DenL] at q
      obtain ⟨d, ds', rfl, q1, q2⟩ := q
      rw [tg_cons] at e ⊢
      cases e1 : t.set u ven with
      | none => rw [e1] at e; cases e
      | some v1 =>
        rw [e1] at e
        obtain ⟨env1, e2, r1⟩ := set_den t (fun i m => hg i (by simp [TgM.slotsL, m])) r q1 e1
        rw [e2]
        exact sets_den ts (fun i m => hg i (by simp [TgM.slotsL, m])) r1 q2 e
end
mutual
theorem set_same : ∀ (g : TgM) {env env' : PEnv} {d : D} {i : Nat}, g.set d env = some env' → i ∉ g.slots → env'[i]? = env[i]?
  | .name j, env, env', d, i, e, hi => by
    rw [tg_name] at e
    cases e
    exact List.getElem?_set_ne (fun e => hi (by simp [TgM.slots, e]))
  | .tup ts, env, env', d, i, e, hi => by
    cases d with
    | tup ds => rw [tg_tup] at e; exact sets_same ts e (by simpa [TgM.slots] using hi)
    | _ => simp [TgM.set] at e
theorem sets_same : ∀ (g : List TgM) {env env' : PEnv} {ds : List D} {i : Nat}, TgM.sets g ds env = some env' → i ∉ TgM.slotsL g → env'[i]? = env[i]?
  | [], env, env', ds, i, e, hi => by
    cases ds with
    | nil => rw [tg_nil] at e; cases e; rfl
    | cons d ds => simp [TgM.sets] at e
  | t :: ts, env, env', ds, i, e, hi => by
    cases ds with
    | nil => simp [TgM.sets] at e
    | cons d ds =>
      rw [tg_cons] at e
      cases e1 : t.set d env with
      | none => rw [e1] at e; cases e
      | some v1 =>
        rw [e1] at e
        have h2 : i ∉ t.slots ∧ i ∉ TgM.slotsL ts := by simpa [TgM.slotsL] using hi
        rw [sets_same ts (env := v1) e h2.2, set_same t e1 h2.1]
end
mutual
theorem set_len : ∀ (g : TgM) {env env' : PEnv} {d : D}, g.set d env = some env' → env'.length = env.length
  | .name j, env, env', d, e => by
    rw [tg_name] at e
    cases e
    exact List.length_set
  | .tup ts, env, env', d, e => by
    cases d with
    | tup ds => rw [tg_tup] at e; exact sets_len ts e
    | _ => simp [TgM.set] at e
theorem sets_len : ∀ (g : List TgM) {env env' : PEnv} {ds : List D}, TgM.sets g ds env = some env' → env'.length = env.length
  | [], env, env', ds, e => by
    cases ds with
    | nil => rw [tg_nil] at e; cases e; rfl
    | cons d ds => simp [TgM.sets] at e
  | t :: ts, env, env', ds, e => by
    cases ds with
    | nil => simp [TgM.sets] at e
    | cons d ds =>
      rw [tg_cons] at e
      cases e1 : t.set d env with
      | none => rw [e1] at e; cases e
      | some v1 =>
        rw [e1] at e
        rw [sets_len ts (env := v1) e, set_len t e1]
end
/-! ### comprehensions -/
def ulcL (g : TgM) (c : UT) (elt : UE) (own : List Nat) : List D → List D → PEnv → UR (List D)
  | [], acc, v => .ok acc v
  | d :: ds, acc, v => match g.set d v with
    | none => .stuck
    | some v1 => (c v1).calm.bind fun k v2 => match k with
      | false => ulcL g c elt own ds acc (wipeE v2 own)
      | true => (elt v2).calm.bind fun y v3 => if acc.length < 16777216 then ulcL g c elt own ds (acc ++ [y]) (wipeE v3 own) else .stuck
def uLc (i : UI) (g : TgM) (c : UT) (elt : UE) (own : List Nat) : UA := fun v => (i v).bind fun ds v1 => ulcL g c elt own ds [] (wipeE v1 own)
section
variable {S : Sx} {g g1 : TgM} {c c1 : MT} {vc vc1 : UT} {elt : ME} {velt : UE} {own own1 : List Nat} {X X1 : List Nat}
theorem dropO_none {ow : Ow} {X : List Nat} (h : ∀ i n, ow i = some n → i ∉ X) : dropO ow X = ow := by
  funext i
  unfold dropO
  split
  · rename_i hi
    cases e : ow i with
    | none => rfl
    | some n => exact absurd hi (h i n e)
  · rfl
/-- the names of a block forgotten: nobody's -/
theorem Rl.block {k : Nat} {B : Nat → Prop} {ow : Ow} {h : PHeap} {env e1 v3 : PEnv} (r : Rl S k B ow h e1 v3) (ho : ∀ i, i ∈ own → i ∉ S.O) (hl : e1.length = env.length) (he : ∀ i, i ∉ own → e1[i]? = env[i]?) : Rl S k B ow h env (wipeE v3 own) := by
  have := r.forget (X := own) (ven' := wipeE v3 own) (env' := env) (wipeE_length _ _) hl.symm (fun i u e => wipeE_some e) (fun i u m e => by rw [wipeE_get m]; exact e) (fun i m => (he i m).symm)
  rwa [dropO_none fun i n e m => ho i m (r.own i n e).1] at this
theorem JU.at {α β : Type} {R : Re β α} {m : PEnv → PHeap → Res α} {v : PEnv → UR β} (j : JU S R m v) {k : Nat} {B : Nat → Prop} {ow : Ow} {h : PHeap} {env ven ven' : PEnv} {u : β} (r : Rl S k B ow h env ven) (e : v ven = .ok u ven') : ∃ a h' ow', m env h = .ok a h' ∧ Rl S k B ow' h' env ven' ∧ Stp S ow h ow' h' ∧ R B ow' h' u a := by
  have := j k B ow h env ven r
  rw [e] at this
  exact this
theorem Post.after {α β : Type} {R : Re β α} {k : Nat} {B : Nat → Prop} {ow ow1 : Ow} {h h1 : PHeap} {env : PEnv} {r : Res α} {w : UR β} (s : Stp S ow h ow1 h1) (p : Post S R k B ow1 h1 env r w) : Post S R k B ow h env r w := by
  cases w with
  | ok u v => obtain ⟨a, h1, ow1, e, r1, s1, q1⟩ := p; exact ⟨a, h1, ow1, e, r1, s.trans s1, q1⟩
  | exc e v => obtain ⟨h1, ow1, e, r1, s1⟩ := p; exact ⟨h1, ow1, e, r1, s.trans s1⟩
  | stuck => trivial
/-- from the wiped env back to the env: what is wiped is not known on the plain side -/
theorem Rl.unwipe0 {k : Nat} {B : Nat → Prop} {ow : Ow} {h : PHeap} {env v3 : PEnv} (r : Rl S k B ow h (wipeE env own) v3) : Rl S k B ow h env v3 := by
  have nv : ∀ i (d : D), (wipeE env own)[i]? = some (some d) → env[i]? = some (some d) := fun i d e => (wipeE_some e).1
  refine ⟨r.kl, r.lt, r.inj, r.dis, r.frs, fun i n e => ?_, r.all, by rw [← r.len, wipeE_length], fun i u m e => ?_⟩
  · obtain ⟨x1, x2, x3⟩ := r.own i n e
    exact ⟨x1, nv _ _ x2, x3⟩
  · obtain ⟨d, x1, x2⟩ := r.oth i u m e
    exact ⟨d, nv _ _ x1, x2⟩
theorem Rl.unwipe {k : Nat} {B : Nat → Prop} {ow : Ow} {h : PHeap} {env v3 : PEnv} (r : Rl S k B ow h (wipeE env own) v3) (ho : ∀ i, i ∈ own → i ∉ S.O) : Rl S k B ow h env v3 := r.unwipe0
theorem lc_den {t : Itr} (hg : ∀ i, i ∈ g.slots → i ∈ own) (ho : ∀ i, i ∈ own → i ∉ S.O) (hc : JU S RB c vc) (he : JU S RD elt velt) (hX : ∀ i, i ∈ X → i ∉ S.M) {B : Nat → Prop} {env : PEnv} {k : Nat} : ∀ (us ds : List D) {acc acc' : List D} {ow : Ow} {h : PHeap} {ven : PEnv} {xs : List D},
    Rl S k B ow h env ven → DenL (lk B ow) h us ds → DenL (lk B ow) h acc acc' → RI X B ow h xs t → Post S RL k B ow h env (lcL g c elt t env ds acc' h) (ulcL g vc velt own us acc ven)
  | [], ds, acc, acc', ow, h, ven, xs, r, q, qa, qt => by
    rw [denL_nil] at q
    subst q
    rw [lcL_nil, if_pos qt.live]
    exact .ok r qa
  | u :: us, ds, acc, acc', ow, h, ven, xs, r, q, qa, qt => by
    rw [DenL] at q
    obtain ⟨d, ds', rfl, q1, q2⟩ := q
    rw [lcL_cons, if_pos qt.live, ulcL]
    cases es : g.set u ven with
    | none => trivial
    | some v1 =>
      obtain ⟨e1, es1, r1⟩ := set_den g (fun i m => ho i (hg i m)) r q1 es
      simp only [es1]
      have back : ∀ {ow : Ow} {h : PHeap} {v3 : PEnv}, Rl S k B ow h e1 v3 → Rl S k B ow h env (wipeE v3 own) := fun r => r.block ho (set_len g es1) fun i m => set_same g es1 fun m2 => m (hg i m2)
      cases ec : vc v1 with
      | stuck => trivial
      | exc x v2 => trivial
      | ok kk v2 =>
        obtain ⟨kk', h2, ow2, e2, r2, s2, q3⟩ := hc.at r1 ec
        cases q3
        rw [e2]
        simp only [Res.calm_ok, Res.bind_ok, UR.calm, UR.bind_ok]
        cases kk with
        | false => exact Post.after s2 (lc_den hg ho hc he hX us ds' (back r2) (DenL.kp s2.kp _ _ q2) (DenL.kp s2.kp _ _ qa) (qt.sta hX s2))
        | true =>
          simp only [pick_t]
          cases ee : velt v2 with
          | stuck => trivial
          | exc x v3 => trivial
          | ok y v3 =>
            obtain ⟨y', h3, ow3, e3, r3, s3, q4⟩ := he.at r2 ee
            rw [e3]
            have s4 := s2.trans s3
            simp only [Res.calm_ok, Res.bind_ok, UR.calm, UR.bind_ok]
            rw [qa.len]
            split
            · exact Post.after s4 (lc_den hg ho hc he hX us ds' (back r3) (DenL.kp s4.kp _ _ q2) ((DenL.kp s4.kp _ _ qa).app (.one q4)) (qt.sta hX s4))
            · trivial
theorem ua_lc {i : MI} {vi : UI} (hi : JU S (RI X) i vi) (hg : ∀ i, i ∈ g.slots → i ∈ own) (ho : ∀ i, i ∈ own → i ∉ S.O) (hX : ∀ i, i ∈ X → i ∉ S.M) (hc : JU S RB c vc) (he : JU S RD elt velt) : JU S RL (mLc i g c elt own) (uLc vi g vc velt own) := fun k B ow h env ven r =>
  (hi k B ow h env ven r).bind fun t h1 ow1 v1 us r1 s1 q1 => by
    have r2 := r1.wipe own
    rw [dropO_none fun i n e m => ho i m (r1.own i n e).1] at r2
    have p := lc_den hg ho hc he hX us t.items (acc := []) (acc' := []) r2 q1.1 (denL_nil.mpr rfl) q1
    revert p
    cases ulcL g vc velt own us [] (wipeE v1 own) with
    | stuck => intro _; trivial
    | exc x v2 => intro ⟨h2, ow2, e2, r2, s2⟩; exact ⟨h2, ow2, e2, r2.unwipe ho, s2⟩
    | ok y v2 => intro ⟨a, h2, ow2, e2, r2, s2, q2⟩; exact ⟨a, h2, ow2, e2, r2.unwipe ho, s2, q2⟩
end
end Gb

/-! GuE: two generators, statements, defs -/
namespace Gb
open PySem L2
def ulc2L (g : TgM) (c : UT) (i1 : UI) (g1 : TgM) (c1 : UT) (elt : UE) (own own1 : List Nat) : List D → List D → PEnv → UR (List D)
  | [], acc, v => .ok acc v
  | d :: ds, acc, v => match g.set d v with
    | none => .stuck
    | some v1 => (c v1).calm.bind fun k v2 => match k with
      | false => ulc2L g c i1 g1 c1 elt own own1 ds acc (wipeE v2 own)
      | true => (i1 v2).calm.bind fun us v3 => (ulcL g1 c1 elt own1 us acc (wipeE v3 own1)).calm.bind fun acc' v4 => ulc2L g c i1 g1 c1 elt own own1 ds acc' (wipeE v4 own)
def uLc2 (i : UI) (g : TgM) (c : UT) (i1 : UI) (g1 : TgM) (c1 : UT) (elt : UE) (own own1 : List Nat) : UA := fun v => (i v).bind fun ds v1 => ulc2L g c i1 g1 c1 elt own own1 ds [] (wipeE v1 own)
theorem lc2In_eq {g : TgM} {c : MT} {elt : ME} {t : Itr} {env : PEnv} : ∀ (ds acc : List D) (h : PHeap), lc2In g c elt t env ds acc h = lcL g c elt t env ds acc h
  | [], acc, h => by rw [lc2In, lcL]
  | d :: ds, acc, h => by
    rw [lc2In, lcL]
    congr 1
    cases g.set d env with
    | none => rfl
    | some e1 =>
      simp only
      congr 1
      funext k h1
      cases k with
      | false => exact lc2In_eq ds acc h1
      | true =>
        simp only
        congr 1
        funext y h2
        split
        · exact lc2In_eq ds _ h2
        · rfl
section
variable {S : Sx} {g g1 : TgM} {c c1 : MT} {vc vc1 : UT} {elt : ME} {velt : UE} {own own1 : List Nat} {X X1 : List Nat} {i1 : MI} {vi1 : UI}
theorem lc2_den {t : Itr} (hg : ∀ i, i ∈ g.slots → i ∈ own) (ho : ∀ i, i ∈ own → i ∉ S.O) (hc : JU S RB c vc) (hX : ∀ i, i ∈ X → i ∉ S.M) (hi1 : JU S (RI X1) i1 vi1)
    (hg1 : ∀ i, i ∈ g1.slots → i ∈ own1) (ho1 : ∀ i, i ∈ own1 → i ∉ S.O) (hX1 : ∀ i, i ∈ X1 → i ∉ S.M) (hc1 : JU S RB c1 vc1) (he : JU S RD elt velt) {B : Nat → Prop} {env : PEnv} {k : Nat} : ∀ (us ds : List D) {acc acc' : List D} {ow : Ow} {h : PHeap} {ven : PEnv} {xs : List D},
    Rl S k B ow h env ven → DenL (lk B ow) h us ds → DenL (lk B ow) h acc acc' → RI X B ow h xs t → Post S RL k B ow h env (lc2L g c i1 g1 c1 elt own1 t env ds acc' h) (ulc2L g vc vi1 g1 vc1 velt own own1 us acc ven)
  | [], ds, acc, acc', ow, h, ven, xs, r, q, qa, qt => by
    rw [denL_nil] at q
    subst q
    rw [lc2L, if_pos qt.live]
    exact .ok r qa
  | u :: us, ds, acc, acc', ow, h, ven, xs, r, q, qa, qt => by
    rw [DenL] at q
    obtain ⟨d, ds', rfl, q1, q2⟩ := q
    rw [lc2L, if_pos qt.live, ulc2L]
    cases es : g.set u ven with
    | none => trivial
    | some v1 =>
      obtain ⟨e1, es1, r1⟩ := set_den g (fun i m => ho i (hg i m)) r q1 es
      simp only [es1]
      have back : ∀ {ow : Ow} {h : PHeap} {v3 : PEnv}, Rl S k B ow h e1 v3 → Rl S k B ow h env (wipeE v3 own) := fun r => r.block ho (set_len g es1) fun i m => set_same g es1 fun m2 => m (hg i m2)
      cases ec : vc v1 with
      | stuck => trivial
      | exc x v2 => trivial
      | ok kk v2 =>
        obtain ⟨kk', h2, ow2, e2, r2, s2, q3⟩ := hc.at r1 ec
        cases q3
        rw [e2]
        simp only [Res.calm_ok, Res.bind_ok, UR.calm, UR.bind_ok]
        cases kk with
        | false => exact Post.after s2 (lc2_den hg ho hc hX hi1 hg1 ho1 hX1 hc1 he us ds' (back r2) (DenL.kp s2.kp _ _ q2) (DenL.kp s2.kp _ _ qa) (qt.sta hX s2))
        | true =>
          simp only
          cases ei : vi1 v2 with
          | stuck => trivial
          | exc x v3 => trivial
          | ok ys v3 =>
            obtain ⟨t1, h3, ow3, e3, r3, s3, q4⟩ := hi1.at r2 ei
            rw [e3]
            have s23 := s2.trans s3
            simp only [Res.calm_ok, Res.bind_ok, UR.calm, UR.bind_ok]
            rw [lc2In_eq]
            have rw1 := r3.wipe own1
            rw [dropO_none fun i n e m => ho1 i m (r3.own i n e).1] at rw1
            have p := lc_den hg1 ho1 hc1 he hX1 ys t1.items rw1 q4.1 (DenL.kp s23.kp _ _ qa) q4
            cases el : ulcL g1 vc1 velt own1 ys acc (wipeE v3 own1) with
            | stuck => trivial
            | exc x v4 => trivial
            | ok acc2 v4 =>
              rw [el] at p
              obtain ⟨a, h4, ow4, e4, r4, s4, q5⟩ := p
              rw [e4]
              have s234 := s23.trans s4
              exact Post.after s234 (lc2_den hg ho hc hX hi1 hg1 ho1 hX1 hc1 he us ds' (back (r4.unwipe ho1)) (DenL.kp s234.kp _ _ q2) q5 (qt.sta hX s234))
theorem ua_lc2 {i : MI} {vi : UI} (hi : JU S (RI X) i vi) (hg : ∀ i, i ∈ g.slots → i ∈ own) (ho : ∀ i, i ∈ own → i ∉ S.O) (hX : ∀ i, i ∈ X → i ∉ S.M) (hc : JU S RB c vc) (hi1 : JU S (RI X1) i1 vi1)
    (hg1 : ∀ i, i ∈ g1.slots → i ∈ own1) (ho1 : ∀ i, i ∈ own1 → i ∉ S.O) (hX1 : ∀ i, i ∈ X1 → i ∉ S.M) (hc1 : JU S RB c1 vc1) (he : JU S RD elt velt) : JU S RL (mLc2 i g c i1 g1 c1 elt own own1) (uLc2 vi g vc vi1 g1 vc1 velt own own1) := fun k B ow h env ven r =>
  (hi k B ow h env ven r).bind fun t h1 ow1 v1 us r1 s1 q1 => by
    have r2 := r1.wipe own
    rw [dropO_none fun i n e m => ho i m (r1.own i n e).1] at r2
    have p := lc2_den hg ho hc hX hi1 hg1 ho1 hX1 hc1 he us t.items (acc := []) (acc' := []) r2 q1.1 (denL_nil.mpr rfl) q1
    revert p
    cases ulc2L g vc vi1 g1 vc1 velt own own1 us [] (wipeE v1 own) with
    | stuck => intro _; trivial
    | exc x v2 => intro ⟨h2, ow2, e2, r2, s2⟩; exact ⟨h2, ow2, e2, r2.unwipe ho, s2⟩
    | ok y v2 => intro ⟨a, h2, ow2, e2, r2, s2, q2⟩; exact ⟨a, h2, ow2, e2, r2.unwipe ho, s2, q2⟩
end

/-! ### statements -/
def PostS (S : Sx) (k : Nat) (B : Nat → Prop) (ow : Ow) (h : PHeap) (o : Out) (w : UO) : Prop := match w with
  | .nx v => ∃ e h' ow', o = .nx e h' ∧ Rl S k B ow' h' e v ∧ Stp S ow h ow' h'
  | .bk v => ∃ e h' ow', o = .bk e h' ∧ Rl S k B ow' h' e v ∧ Stp S ow h ow' h'
  | .ct v => ∃ e h' ow', o = .ct e h' ∧ Rl S k B ow' h' e v ∧ Stp S ow h ow' h'
  | .rt u v => ∃ d e h' ow', o = .rt d h' ∧ Rl S k B ow' h' e v ∧ Stp S ow h ow' h' ∧ Ret S.fr k (lk B ow') h' u d
  | .exc x v => ∃ e h' ow', o = .exc x e h' ∧ Rl S k B ow' h' e v ∧ Stp S ow h ow' h'
  | .stuck => True
def SU (S : Sx) (m : MS) (v : US) : Prop := ∀ k B ow h env ven, Rl S k B ow h env ven → PostS S k B ow h (m env h) (v ven)
def UO.thn (o : UO) (s : US) : UO := match o with
  | .nx v => s v
  | o => o
def uSeq (a b : US) : US := fun v => (a v).thn b
def uNext : US := fun v => .nx v
def uAsg (a : UE) (g : TgM) : US := fun v => (a v).out fun d v1 => match g.set d v1 with
  | some v2 => .nx v2
  | none => .stuck
def setS (v : PEnv) : List (Nat × D) → PEnv
  | [] => v
  | p :: ps => setS (v.set p.1 (some p.2)) ps
def uPar (is : List Nat) (a : UA) : US := fun v => (a v).out fun xs v1 => if xs.length = is.length then .nx (setS v1 (is.zip xs)) else .stuck
def uDrop (a : UE) : US := fun v => (a v).out fun _ v1 => .nx v1
def uRet (a : UE) : US := fun v => (a v).out fun d v1 => .rt d v1
def uRetN : US := fun v => .rt .non v
def uSIf (c : UT) (a b : US) : US := fun v => (c v).out fun k v1 => match k with
  | true => a v1
  | false => b v1
def uBreak : US := fun v => .bk v
def uCont : US := fun v => .ct v
def uStuck : US := fun _ => .stuck
def uforL (g : TgM) (body : US) (kill : List Nat) : List D → PEnv → UO
  | [], v => .nx (wipeE v kill)
  | d :: ds, v => match g.set d (wipeE v kill) with
    | none => .stuck
    | some v1 => match body v1 with
      | .nx v2 => uforL g body kill ds v2
      | .ct v2 => uforL g body kill ds v2
      | .bk v2 => .nx v2
      | .rt d v2 => .rt d v2
      | .exc x v2 => .exc x v2
      | .stuck => .stuck
def uFor (i : UI) (g : TgM) (body : US) (kill : List Nat) : US := fun v => (i v).out fun ds v1 => uforL g body kill ds v1
def uwhileL (c : UT) (body : US) (kill : List Nat) : Nat → PEnv → UO
  | 0, _ => .stuck
  | n + 1, v => (c (wipeE v kill)).out fun k v1 => match k with
    | false => .nx (wipeE v1 kill)
    | true => match body (wipeE v1 kill) with
      | .nx v2 => uwhileL c body kill n v2
      | .ct v2 => uwhileL c body kill n v2
      | .bk v2 => .nx v2
      | .rt d v2 => .rt d v2
      | .exc x v2 => .exc x v2
      | .stuck => .stuck
def uWhile (c : UT) (body : US) (kill : List Nat) : US := fun v => uwhileL c body kill 1000000000000 v
def uSub (a : UE) (i : Nat) (b : UE) : US := fun v => (a v).out fun d v1 => (uOwn i v1).out fun _ v2 => (b v2).out fun y v3 => (uOwn i v3).out fun xs v4 => match y with
  | .int k => match ixN xs.length k with
    | some j => .nx (v4.set i (some (.lst (xs.set j d))))
    | none => .stuck
  | _ => .stuck
section
variable {S : Sx} {k : Nat} {B : Nat → Prop} {ow ow1 : Ow} {h h1 : PHeap} {env ven : PEnv}
theorem PostS.after {o : Out} {w : UO} (s : Stp S ow h ow1 h1) (p : PostS S k B ow1 h1 o w) : PostS S k B ow h o w := by
  cases w with
  | nx v => obtain ⟨e, h', ow', a, b, c⟩ := p; exact ⟨e, h', ow', a, b, s.trans c⟩
  | bk v => obtain ⟨e, h', ow', a, b, c⟩ := p; exact ⟨e, h', ow', a, b, s.trans c⟩
  | ct v => obtain ⟨e, h', ow', a, b, c⟩ := p; exact ⟨e, h', ow', a, b, s.trans c⟩
  | rt u v => obtain ⟨d, e, h', ow', a, b, c, q⟩ := p; exact ⟨d, e, h', ow', a, b, s.trans c, q⟩
  | exc x v => obtain ⟨e, h', ow', a, b, c⟩ := p; exact ⟨e, h', ow', a, b, s.trans c⟩
  | stuck => trivial
theorem Post.out {α β : Type} {R : Re β α} {r : Res α} {w : UR β} {f : α → PHeap → Out} {g : β → PEnv → UO} (p : Post S R k B ow h env r w)
    (hf : ∀ a h1 ow1 ven1 u, Rl S k B ow1 h1 env ven1 → Stp S ow h ow1 h1 → R B ow1 h1 u a → PostS S k B ow1 h1 (f a h1) (g u ven1)) : PostS S k B ow h (r.out env f) (w.out g) := by
  cases w with
  | ok u ven1 =>
    obtain ⟨a, h1, ow1, rfl, r1, s1, q1⟩ := p
    exact PostS.after s1 (hf a h1 ow1 ven1 u r1 s1 q1)
  | exc e ven1 =>
    obtain ⟨h1, ow1, rfl, r1, s1⟩ := p
    exact ⟨env, h1, ow1, rfl, r1, s1⟩
  | stuck => trivial
theorem PostS.wide {o : Out} {w : UO} {M' : List Nat} (p : PostS { S with M := M' } k B ow h o w) (hm : ∀ i, i ∈ M' → i ∈ S.M) : PostS S k B ow h o w := by
  cases w with
  | nx v => obtain ⟨e, h', ow', a, b, c⟩ := p; exact ⟨e, h', ow', a, b.ofM, c.wide hm⟩
  | bk v => obtain ⟨e, h', ow', a, b, c⟩ := p; exact ⟨e, h', ow', a, b.ofM, c.wide hm⟩
  | ct v => obtain ⟨e, h', ow', a, b, c⟩ := p; exact ⟨e, h', ow', a, b.ofM, c.wide hm⟩
  | rt u v => obtain ⟨d, e, h', ow', a, b, c, q⟩ := p; exact ⟨d, e, h', ow', a, b.ofM, c.wide hm, q⟩
  | exc x v => obtain ⟨e, h', ow', a, b, c⟩ := p; exact ⟨e, h', ow', a, b.ofM, c.wide hm⟩
  | stuck => trivial
end
section
variable {S : Sx} {a b c : ME} {va vb vc : UE} {m : MA} {w : UA} {t : MT} {x : UT} {mo mp : MO} {i : Nat} {s s2 : MS} {u u2 : US} {g : TgM}
theorem us_seq (h1 : SU S s u) (h2 : SU S s2 u2) : SU S (sSeq s s2) (uSeq u u2) := by
  intro k B ow h env ven r
  have p := h1 k B ow h env ven r
  unfold uSeq sSeq
  cases e : u ven with
  | nx v => rw [e] at p; obtain ⟨e2, h', ow', a, b, c⟩ := p; rw [a]; exact PostS.after c (h2 k B ow' h' e2 v b)
  | bk v => rw [e] at p; obtain ⟨e2, h', ow', a, b, c⟩ := p; rw [a]; exact ⟨e2, h', ow', rfl, b, c⟩
  | ct v => rw [e] at p; obtain ⟨e2, h', ow', a, b, c⟩ := p; rw [a]; exact ⟨e2, h', ow', rfl, b, c⟩
  | rt z v => rw [e] at p; obtain ⟨d, e2, h', ow', a, b, c, q⟩ := p; rw [a]; exact ⟨d, e2, h', ow', rfl, b, c, q⟩
  | exc z v => rw [e] at p; obtain ⟨e2, h', ow', a, b, c⟩ := p; rw [a]; exact ⟨e2, h', ow', rfl, b, c⟩
  | stuck => trivial
theorem us_next : SU S sNext uNext := fun k B ow h env ven r => ⟨env, h, ow, rfl, r, .refl⟩
theorem us_break : SU S sBreak uBreak := fun k B ow h env ven r => ⟨env, h, ow, rfl, r, .refl⟩
theorem us_cont : SU S sCont uCont := fun k B ow h env ven r => ⟨env, h, ow, rfl, r, .refl⟩
theorem us_stuck : SU S s uStuck := fun k B ow h env ven r => trivial
theorem us_asg (ha : JU S RD a va) (hg : ∀ i, i ∈ g.slots → i ∉ S.O) : SU S (sAsg a g) (uAsg va g) := fun k B ow h env ven r =>
  (ha k B ow h env ven r).out fun d h1 ow1 v1 z r1 s1 q1 => by
    cases e : g.set z v1 with
    | none => simp only; trivial
    | some v2 =>
      obtain ⟨e2, e3, r2⟩ := set_den g hg r1 q1 e
      simp only [e3]
      exact ⟨e2, h1, ow1, rfl, r2, .refl⟩
/-- a list that was just made -/
def RN : Re D LV := fun B ow h u x => ∃ us ds, x = .new ds ∧ u = .lst us ∧ DenL (lk B ow) h us ds
theorem un_new (hm : JU S RL m w) : JU S RN (mNL m) (uNew w) := fun k B ow h env ven r =>
  (hm k B ow h env ven r).bind fun d h1 ow1 v1 u r1 s1 q1 => .ok r1 ⟨u, d, rfl, rfl, q1⟩
theorem uo_n (hm : JU S RN mo va) : JU S RV mo va := fun k B ow h env ven r => (hm k B ow h env ven r).map fun {h1 ow1 v1 u a} _ q => by
  obtain ⟨us, ds, rfl, rfl, q⟩ := q
  exact ⟨us, rfl, q⟩
theorem get_of_len {v : PEnv} {i : Nat} : i < v.length ∨ v[i]? = none := by
  by_cases h : i < v.length
  · exact .inl h
  · exact .inr (by simp; omega)
theorem Rl.setOut {k : Nat} {B : Nat → Prop} {ow : Ow} {h : PHeap} {env ven : PEnv} (r : Rl S k B ow h env ven) {d u : D} (hl : ¬ i < ven.length) : Rl S k B ow h (env.set i (some d)) (ven.set i (some u)) := by
  have e1 : env.set i (some d) = env := List.set_eq_of_length_le (by rw [r.len]; omega)
  have e2 : ven.set i (some u) = ven := List.set_eq_of_length_le (by omega)
  rw [e1, e2]
  exact r
theorem us_asgN (hm : JU S RN mo va) (hi : i ∈ S.O) (hp : i ∉ S.P) (hq : i ∉ S.Q := by decide) : SU S (sAsg (mM mo) (.name i)) (uAsg va (.name i)) := by
  intro k B ow h env ven r
  have := hm k B ow h env ven r
  unfold uAsg
  rw [s_asg, s_m]
  cases e : va ven with
  | ok u v =>
    rw [e] at this
    obtain ⟨x, h1, ow1, e1, r1, s1, us, ds, rfl, rfl, q1⟩ := this
    rw [e1]
    simp only [Res.bind_ok, matD_new, Res.out_ok, set_name, UR.out_ok, tg_name]
    by_cases hl : i < v.length
    · refine ⟨_, _, setOw ow1 i h1.length, rfl, r1.setO hi (by simp) (fun n c e => get_app e) (Nat.le_refl _) (by simp) (DenL.kp (fun n cs l g => ⟨?_, get_app g⟩) us ds q1) hl hq, s1.trans (.setO hp (by simp) (fun n c e => get_app e) (Nat.le_refl _))⟩
      rintro (l2 | l2)
      · exact l l2
      · have := get_lt g; omega
    · exact ⟨_, _, ow1, rfl, (r1.app _).setOut hl, s1.trans (.app _)⟩
  | exc e2 v => rw [e] at this; obtain ⟨h1, ow1, e1, r1, s1⟩ := this; rw [e1]; exact ⟨env, h1, ow1, rfl, r1, s1⟩
  | stuck => trivial
theorem us_asgF {p : List D → PHeap → Res D} {F : UF} (hf : FP true p F) (hm : JU S RL m w) (hi : i ∈ S.O) (hp : i ∉ S.P) (hq : i ∉ S.Q := by decide) : SU S (sAsg (mCall p m) (.name i)) (uAsg (uCall F w) (.name i)) := by
  intro k B ow h env ven r
  have := hm k B ow h env ven r
  unfold uAsg uCall
  rw [s_asg, s_call]
  cases e : w ven with
  | ok us v =>
    rw [e] at this
    obtain ⟨ds, h1, ow1, e1, r1, s1, q1⟩ := this
    rw [e1]
    simp only [Res.bind_ok, UR.bind_ok]
    have := hf (lk B ow1) h1 us ds r1.ltL q1
    revert this
    cases F us with
    | ok z =>
      rintro ⟨d, h2, e3, ps, n, us2, ds2, rfl, hn, rfl, g, l, q⟩
      rw [e3]
      simp only [UX.res, UR.out_ok, Res.out_ok, set_name, tg_name]
      by_cases hl : i < v.length
      · exact ⟨_, _, setOw ow1 i n, rfl, r1.setO hi ps.1 ps.2 hn g q hl hq, s1.trans (.setO hp ps.1 ps.2 hn)⟩
      · exact ⟨_, _, ow1, rfl, (r1.pass ps.1 ps.2).setOut hl, s1.trans (.pass ps.1 ps.2)⟩
    | exc z =>
      intro ⟨h2, e3, ps⟩
      rw [e3]
      exact ⟨env, h2, ow1, rfl, r1.pass ps.1 ps.2, s1.trans (.pass ps.1 ps.2)⟩
    | stuck => intro _; trivial
  | exc e2 v => rw [e] at this; obtain ⟨h1, ow1, e1, r1, s1⟩ := this; rw [e1]; exact ⟨env, h1, ow1, rfl, r1, s1⟩
  | stuck => trivial
theorem us_drop (ha : JU S RD a va) : SU S (sDrop a) (uDrop va) := fun k B ow h env ven r =>
  (ha k B ow h env ven r).out fun d h1 ow1 v1 z r1 s1 q1 => ⟨env, h1, ow1, rfl, r1, .refl⟩
theorem us_ret (hS : S.fr = false) (ha : JU S RD a va) : SU S (sRet a) (uRet va) := fun k B ow h env ven r =>
  (ha k B ow h env ven r).out fun d h1 ow1 v1 z r1 s1 q1 => ⟨d, env, h1, ow1, rfl, r1, .refl, by rw [hS]; exact q1⟩
theorem us_retN (hS : S.fr = false) : SU S sRetN uRetN := fun k B ow h env ven r => ⟨.non, env, h, ow, rfl, r, .refl, by rw [hS]; exact gnd_den (L := lk B ow) (h := h) .non rfl⟩
theorem us_retNew (hm : JU S RN mo va) : SU S (sRet (mM mo)) (uRet va) := by
  intro k B ow h env ven r
  have := hm k B ow h env ven r
  unfold uRet
  rw [s_ret, s_m]
  cases e : va ven with
  | ok u v =>
    rw [e] at this
    obtain ⟨x, h1, ow1, e1, r1, s1, us, ds, rfl, rfl, q1⟩ := this
    rw [e1]
    simp only [Res.bind_ok, matD_new, Res.out_ok, UR.out_ok]
    refine ⟨_, env, _, ow1, rfl, r1.app _, s1.trans (.app _), ?_⟩
    have q2 : DenL (fun m => lk B ow1 m ∨ m = h1.length) (h1 ++ [.lst ds]) us ds := DenL.kp (fun n cs l g => ⟨by
      rintro (l2 | l2)
      · exact l l2
      · have := get_lt g; omega, get_app g⟩) us ds q1
    have q3 : Ret true k (lk B ow1) (h1 ++ [.lst ds]) (.lst us) (.ref h1.length) := ⟨_, us, ds, rfl, r1.kl, rfl, by simp, r1.fresh (Nat.le_refl _), q2⟩
    cases S.fr
    · exact q3.den
    · exact q3
  | exc e2 v => rw [e] at this; obtain ⟨h1, ow1, e1, r1, s1⟩ := this; rw [e1]; exact ⟨env, h1, ow1, rfl, r1, s1⟩
  | stuck => trivial
theorem us_retOwn (hi : i ∈ S.O) (hp : i ∉ S.P) (hq : i ∉ S.Q := by decide) : SU S (sRet (mVar i)) (uRet (uMove i)) := by
  intro k B ow h env ven r
  have := ue_move hi hp hq k B ow h env ven r
  unfold uRet
  rw [s_ret]
  have eo : ∀ u, ven[i]? = some (some u) → ∃ n, ow i = some n := fun u e => r.all i u hi e
  cases e : uMove i ven with
  | ok u v =>
    rw [e] at this
    obtain ⟨d, h1, ow1, e1, r1, s1, q1⟩ := this
    rw [e1]
    refine ⟨d, env, h1, ow1, rfl, r1, s1, ?_⟩
    cases hS : S.fr
    · exact q1
    · unfold uMove at e
      split at e
      · rename_i u' e'
        cases e
        obtain ⟨n, e0⟩ := eo _ e'
        obtain ⟨x1, x2, us, ds, x3, x4, x5⟩ := r.ownL hq e0
        rw [mVar_at x2] at e1
        cases e1
        rw [e'] at x3
        cases x3
        have hn : ¬ lk B ow1 n := by
          replace q1 : Den (lk B ow1) h (.lst us) (.ref n) := q1
          rw [Den] at q1
          obtain ⟨n', _, e, l, _⟩ := q1
          cases e
          exact l
        refine ⟨n, us, ds, rfl, r.frs i n e0 hp, rfl, x4, hn, DenL.kp (fun m cs l g => ⟨?_, g⟩) us ds x5⟩
        rintro (l2 | l2)
        · rcases l2 with l2 | ⟨j, l2⟩
          · exact l (.inl l2)
          · rcases s1.sub j m l2 with l3 | l3
            · exact l (.inr ⟨j, l3⟩)
            · have := get_lt g; omega
        · subst l2; exact l (.inr ⟨i, e0⟩)
      · cases e
  | exc e2 v => rw [e] at this; obtain ⟨h1, ow1, e1, r1, s1⟩ := this; rw [e1]; exact ⟨env, h1, ow1, rfl, r1, s1⟩
  | stuck => trivial
theorem us_if (ht : JU S RB t x) (h1 : SU S s u) (h2 : SU S s2 u2) : SU S (sIf t s s2) (uSIf x u u2) := fun k B ow h env ven r =>
  (ht k B ow h env ven r).out fun d h1' ow1 v1 z r1 s1 q1 => by
    cases q1
    cases d
    · exact h2 k B ow1 h1' env v1 r1
    · exact h1 k B ow1 h1' env v1 r1
theorem us_sub (ha : JU S RD a va) (hi : i ∈ S.O) (hM : i ∈ S.M) (hb : JU S RD b vb) (hq : i ∉ S.Q := by decide) : SU S (sSub a (mVar i) b) (uSub va i vb) := fun k B ow h env ven r =>
  (ha k B ow h env ven r).out fun d h1 ow1 v1 z r1 s1 q1 => by
    rcases uOwn_cases i v1 with e | ⟨us, e, e1⟩
    · rw [e]; trivial
    · obtain ⟨n, eo⟩ := r1.all i _ hi e
      obtain ⟨_, e2, us1, ds1, e3, e4, q⟩ := r1.ownL hq eo
      rw [e1, mVar_at e2]
      simp only [Res.out_ok, UR.out_ok]
      exact (hb k B ow1 h1 env v1 r1).out fun y h2 ow2 v2 w r2 s2 q2 => by
        rcases uOwn_cases i v2 with e' | ⟨us', e', e1'⟩
        · rw [e']; trivial
        · rw [e1']
          obtain ⟨n', eo'⟩ := r2.all i _ hi e'
          obtain ⟨_, e2', us2, ds2, e3', e4', q'⟩ := r2.ownL hq eo'
          rw [e2] at e2'
          cases e2'
          rw [e'] at e3'
          cases e3'
          simp only [UR.out_ok]
          cases w with
          | int kk =>
            rw [RD, Den] at q2
            subst q2
            simp only [e4', q'.len]
            cases ex : ixN ds2.length kk with
            | none => trivial
            | some j =>
              simp only
              exact ⟨env, _, ow2, rfl, r2.write eo' (q'.set (Sta.sta s2 q1)) hq, .write eo' hM⟩
          | _ => trivial
theorem for_den {kill : List Nat} {X : List Nat} {t : Itr} (hg : ∀ i, i ∈ g.slots → i ∉ S.O) (hk : ∀ i, i ∈ S.P → i ∉ kill) (hX : ∀ i, i ∈ X → i ∉ S.M) (hs : SU S s u) : ∀ (us ds : List D) {k : Nat} {B : Nat → Prop} {ow : Ow} {h : PHeap} {env ven : PEnv} {xs : List D},
    Rl S k B ow h env ven → DenL (lk B ow) h us ds → RI X B ow h xs t → PostS S k B ow h (forL g s kill t ds env h) (uforL g u kill us ven)
  | [], ds, k, B, ow, h, env, ven, xs, r, q, qt => by
    rw [denL_nil] at q
    subst q
    rw [forL, if_pos qt.live]
    exact ⟨_, h, _, rfl, r.wipe kill, .drop hk⟩
  | z :: us, ds, k, B, ow, h, env, ven, xs, r, q, qt => by
    rw [DenL] at q
    obtain ⟨d, ds', rfl, q1, q2⟩ := q
    rw [forL, if_pos qt.live, uforL]
    have r0 := r.wipe kill
    have s0 : Stp S ow h (dropO ow kill) h := .drop hk
    cases es : g.set z (wipeE ven kill) with
    | none => trivial
    | some v1 =>
      obtain ⟨e1, es1, r1⟩ := set_den g hg r0 (Sta.sta (R := RD) s0 q1) es
      simp only [es1]
      have p := hs k B _ h e1 v1 r1
      cases eb : u v1 with
      | nx v2 =>
        rw [eb] at p
        obtain ⟨e2, h2, ow2, a, b, c⟩ := p
        rw [a]
        have sc := s0.trans c
        exact PostS.after sc (for_den hg hk hX hs us ds' b (DenL.kp sc.kp _ _ q2) (qt.sta hX sc))
      | ct v2 =>
        rw [eb] at p
        obtain ⟨e2, h2, ow2, a, b, c⟩ := p
        rw [a]
        have sc := s0.trans c
        exact PostS.after sc (for_den hg hk hX hs us ds' b (DenL.kp sc.kp _ _ q2) (qt.sta hX sc))
      | bk v2 => rw [eb] at p; obtain ⟨e2, h2, ow2, a, b, c⟩ := p; rw [a]; exact ⟨e2, h2, ow2, rfl, b, s0.trans c⟩
      | rt y v2 => rw [eb] at p; obtain ⟨dd, e2, h2, ow2, a, b, c, q⟩ := p; rw [a]; exact ⟨dd, e2, h2, ow2, rfl, b, s0.trans c, q⟩
      | exc y v2 => rw [eb] at p; obtain ⟨e2, h2, ow2, a, b, c⟩ := p; rw [a]; exact ⟨e2, h2, ow2, rfl, b, s0.trans c⟩
      | stuck => trivial
theorem us_for {i : MI} {vi : UI} {kill : List Nat} {X M' : List Nat} (hM : ∀ i, i ∈ M' → i ∈ S.M) (hi : JU S (RI X) i vi) (hg : ∀ i, i ∈ g.slots → i ∉ S.O) (hk : ∀ i, i ∈ S.P → i ∉ kill) (hX : ∀ i, i ∈ X → i ∉ M') (hs : SU { S with M := M' } s u) : SU S (sFor i g s kill) (uFor vi g u kill) := fun k B ow h env ven r =>
  (hi k B ow h env ven r).out fun d h1 ow1 v1 z r1 s1 q1 => PostS.wide (for_den (S := { S with M := M' }) hg hk hX hs z d.items r1.toM q1.1 q1) hM
theorem while_den {kill : List Nat} (hk : ∀ i, i ∈ S.P → i ∉ kill) (ht : JU S RB t x) (hs : SU S s u) : ∀ (n : Nat) {k : Nat} {B : Nat → Prop} {ow : Ow} {h : PHeap} {env ven : PEnv},
    Rl S k B ow h env ven → PostS S k B ow h (whileL t s kill n env h) (uwhileL x u kill n ven)
  | 0, k, B, ow, h, env, ven, r => trivial
  | n + 1, k, B, ow, h, env, ven, r => by
    have r0 := r.wipe kill
    have s0 : Stp S ow h (dropO ow kill) h := .drop hk
    rw [whileL, uwhileL]
    have p0 := ht k B _ h _ _ r0
    cases et : x (wipeE ven kill) with
    | stuck => trivial
    | exc y v2 =>
      rw [et] at p0
      obtain ⟨h1, ow1, e1, r1, s1⟩ := p0
      rw [e1]
      exact ⟨env, h1, ow1, rfl, r1.unwipe0, s0.trans s1⟩
    | ok kk v1 =>
      rw [et] at p0
      obtain ⟨kk', h1, ow1, e1, r1, s1, q1⟩ := p0
      cases q1
      rw [e1]
      simp only [Res.out_ok, UR.out_ok]
      have s01 := s0.trans s1
      have r2 := r1.unwipe0
      cases kk with
      | false => exact ⟨_, h1, _, rfl, r2.wipe kill, s01.trans (.drop hk)⟩
      | true =>
        simp only
        have s2 := s01.trans (Stp.drop (S := S) (ow := ow1) (h := h1) hk)
        have p := hs k B _ h1 _ _ (r2.wipe kill)
        cases eb : u (wipeE v1 kill) with
        | nx v2 => rw [eb] at p; obtain ⟨e2, h2, ow2, a, b, c⟩ := p; rw [a]; exact PostS.after (s2.trans c) (while_den hk ht hs n b)
        | ct v2 => rw [eb] at p; obtain ⟨e2, h2, ow2, a, b, c⟩ := p; rw [a]; exact PostS.after (s2.trans c) (while_den hk ht hs n b)
        | bk v2 => rw [eb] at p; obtain ⟨e2, h2, ow2, a, b, c⟩ := p; rw [a]; exact ⟨e2, h2, ow2, rfl, b, s2.trans c⟩
        | rt y v2 => rw [eb] at p; obtain ⟨dd, e2, h2, ow2, a, b, c, q⟩ := p; rw [a]; exact ⟨dd, e2, h2, ow2, rfl, b, s2.trans c, q⟩
        | exc y v2 => rw [eb] at p; obtain ⟨e2, h2, ow2, a, b, c⟩ := p; rw [a]; exact ⟨e2, h2, ow2, rfl, b, s2.trans c⟩
        | stuck => trivial
theorem us_while {kill : List Nat} (hk : ∀ i, i ∈ S.P → i ∉ kill) (ht : JU S RB t x) (hs : SU S s u) : SU S (sWhile t s kill) (uWhile x u kill) := fun k B ow h env ven r => while_den hk ht hs _ r
end
end Gb

/-! GuF: several names at once; defs -/
namespace Gb
open PySem L2
/-- values of which some are lists that were just made: those are locked by X until a slot has them -/
def PL (S : Sx) (k : Nat) (B : Nat → Prop) (h : PHeap) (L : Nat → Prop) : List (Nat × Bool) → List Nat → List D → List D → Prop
  | [], X, us, ds => X = [] ∧ us = [] ∧ ds = []
  | (i, false) :: fl, X, us, ds => ∃ u us' d ds', us = u :: us' ∧ ds = d :: ds' ∧ i ∉ S.O ∧ Den L h u d ∧ PL S k B h L fl X us' ds'
  | (i, true) :: fl, X, us, ds => ∃ n X' us' vs cs ds', X = n :: X' ∧ us = .lst vs :: us' ∧ ds = .ref n :: ds' ∧ i ∈ S.O ∧ i ∉ S.P ∧ i ∉ S.Q ∧ k ≤ n ∧ ¬ B n ∧ n ∉ X' ∧ h[n]? = some (.lst cs) ∧ DenL L h vs cs ∧ PL S k B h L fl X' us' ds'
theorem foldl_setS : ∀ (ps : List (Nat × D)) (v : PEnv), ps.foldl (fun e p => e.set p.1 (some p.2)) v = setS v ps
  | [], v => rfl
  | p :: ps, v => by rw [List.foldl_cons, foldl_setS ps, setS]
section
variable {S : Sx} {k : Nat} {B : Nat → Prop} {ow ow' : Ow} {h : PHeap} {env ven : PEnv}
/-- a locked list gets its slot -/
theorem Rl.takeB {n i : Nat} {us ds : List D} {Y : Nat → Prop} (r : Rl S k (fun m => Y m ∨ m = n) ow h env ven) (hi : i ∈ S.O) (hq : i ∉ S.Q) (hk : k ≤ n) (hY : ¬ Y n) (hg : h[n]? = some (.lst ds)) (q : DenL (lk (fun m => Y m ∨ m = n) ow) h us ds) :
    ∃ ow2, Rl S k Y ow2 h (env.set i (some (.ref n))) (ven.set i (some (.lst us))) ∧ (∀ m, lk Y ow2 m → lk (fun m => Y m ∨ m = n) ow m) ∧ (∀ j m, ow2 j = some m → ow j = some m ∨ m = n) ∧ (∀ j, j ≠ i → ow2 j = ow j) := by
  by_cases hv : i < ven.length
  · have kp : Kp (lk (fun m => Y m ∨ m = n) ow) h (lk Y (setOw ow i n)) h := fun m cs l e => ⟨by
      rintro (l2 | ⟨j, e2⟩)
      · exact l (.inl (.inl l2))
      · rcases setOw_some e2 with ⟨_, e3⟩ | ⟨_, e3⟩
        · exact l (.inl (.inr e3))
        · exact l (.inr ⟨j, e3⟩), e⟩
    have ne : ∀ {j m}, ow j = some m → m ≠ n := fun {j m} e e2 => r.dis j m e (.inr e2)
    refine ⟨setOw ow i n, ⟨r.kl, fun m q => r.lt m (.inl q), fun a b m e1 e2 => ?_, fun a m e => ?_, fun a m e hp2 => ?_, fun a m e => ?_, fun a v m e => ?_, by simp [r.len], fun a v m e => ?_⟩, fun m l => ?_, fun j m e => ?_, fun j hj => setOw_ne hj⟩
    · rcases setOw_some e1 with ⟨e3, e4⟩ | ⟨e3, e4⟩ <;> rcases setOw_some e2 with ⟨e5, e6⟩ | ⟨e5, e6⟩
      · rw [e3, e5]
      · exact absurd e4 (ne e6)
      · exact absurd e6 (ne e4)
      · exact r.inj a b m e4 e6
    · rcases setOw_some e with ⟨e3, e4⟩ | ⟨e3, e4⟩
      · subst e4; exact hY
      · exact fun q => r.dis a m e4 (.inl q)
    · rcases setOw_some e with ⟨e3, e4⟩ | ⟨e3, e4⟩
      · omega
      · exact r.frs a m e4 hp2
    · rcases setOw_some e with ⟨e3, e4⟩ | ⟨e3, e4⟩
      · subst e3; subst e4
        exact ⟨hi, List.getElem?_set_self (by rw [r.len]; exact hv), us, ds, by rw [show S.q a = false from decide_eq_false hq]; exact List.getElem?_set_self hv, by rw [show S.q a = false from decide_eq_false hq]; exact hg, DenL.kp kp us ds q⟩
      · obtain ⟨x1, x2, vs, cs, x3, x4, x5⟩ := r.own a m e4
        exact ⟨x1, by rw [List.getElem?_set_ne (fun e => e3 e.symm)]; exact x2, vs, cs, by rw [List.getElem?_set_ne (fun e => e3 e.symm)]; exact x3, x4, DenL.kp kp vs cs x5⟩
    · by_cases ea : a = i
      · exact ⟨n, by rw [ea]; exact setOw_same⟩
      · rw [List.getElem?_set_ne (fun e => ea e.symm)] at e
        obtain ⟨x, y⟩ := r.all a v m e
        exact ⟨x, by rw [setOw_ne ea]; exact y⟩
    · have ea : a ≠ i := fun e => m (e ▸ hi)
      rw [List.getElem?_set_ne (fun e => ea e.symm)] at e ⊢
      obtain ⟨d, y1, y2⟩ := r.oth a v m e
      exact ⟨d, y1, Den.kp kp v d y2⟩
    · rcases l with l | ⟨j, l⟩
      · exact .inl (.inl l)
      · rcases setOw_some l with ⟨_, e3⟩ | ⟨_, e3⟩
        · exact .inl (.inr e3)
        · exact .inr ⟨j, e3⟩
    · rcases setOw_some e with ⟨_, e3⟩ | ⟨_, e3⟩
      · exact .inr e3
      · exact .inl e3
  · have kp : Kp (lk (fun m => Y m ∨ m = n) ow) h (lk Y ow) h := fun m cs l e => ⟨by
      rintro (l2 | ⟨j, e2⟩)
      · exact l (.inl (.inl l2))
      · exact l (.inr ⟨j, e2⟩), e⟩
    have r2 : Rl S k Y ow h env ven := ⟨r.kl, fun m q => r.lt m (.inl q), r.inj, fun a m e q => r.dis a m e (.inl q), r.frs, fun a m e => by
      obtain ⟨x1, x2, vs, cs, x3, x4, x5⟩ := r.own a m e
      exact ⟨x1, x2, vs, cs, x3, x4, DenL.kp kp vs cs x5⟩, r.all, r.len, fun a v m e => by
      obtain ⟨d, y1, y2⟩ := r.oth a v m e
      exact ⟨d, y1, Den.kp kp v d y2⟩⟩
    exact ⟨ow, r2.setOut hv, fun m l => l.imp .inl id, fun j m e => .inl e, fun j hj => rfl⟩
theorem pl_set : ∀ {fl : List (Nat × Bool)} {X : List Nat} {us ds : List D} {L : Nat → Prop} {ow : Ow} {env ven : PEnv},
    Rl S k (fun m => B m ∨ m ∈ X) ow h env ven → (∀ m, lk (fun m => B m ∨ m ∈ X) ow m → L m) → PL S k B h L fl X us ds → us.length = fl.length ∧ ds.length = fl.length ∧ ∃ ow2, Rl S k B ow2 h (setS env ((fl.map (·.1)).zip ds)) (setS ven ((fl.map (·.1)).zip us)) ∧ (∀ j m, ow2 j = some m → ow j = some m ∨ m ∈ X) ∧ (∀ j, j ∈ S.P → ow2 j = ow j)
  | [], X, us, ds, L, ow, env, ven, r, hL, q => by
    obtain ⟨rfl, rfl, rfl⟩ := q
    refine ⟨rfl, rfl, ow, ?_, fun j m e => .inl e, fun j hj => rfl⟩
    have e : (fun m => B m ∨ m ∈ ([] : List Nat)) = B := by funext m; simp
    rw [e] at r
    exact r
  | (i, false) :: fl, X, us, ds, L, ow, env, ven, r, hL, q => by
    obtain ⟨u, us', d, ds', rfl, rfl, hi, q1, q2⟩ := q
    have r1 := r.set (i := i) (u := u) (d := d) hi (Den.kp (fun n cs l g => ⟨fun l2 => l (hL n l2), g⟩) u d q1)
    obtain ⟨e1, e2, ow2, r2, o2, p2⟩ := pl_set r1 hL q2
    exact ⟨by simp [e1], by simp [e2], ow2, r2, o2, p2⟩
  | (i, true) :: fl, X, us, ds, L, ow, env, ven, r, hL, q => by
    obtain ⟨n, X', us', vs, cs, ds', rfl, rfl, rfl, hi, hp, hq, hk, hB, hX, hg, q1, q2⟩ := q
    have e0 : (fun m => B m ∨ m ∈ n :: X') = fun m => (B m ∨ m ∈ X') ∨ m = n := by
      funext m
      simp only [List.mem_cons]
      apply propext
      constructor
      · rintro (a | a | a)
        · exact .inl (.inl a)
        · exact .inr a
        · exact .inl (.inr a)
      · rintro ((a | a) | a)
        · exact .inl a
        · exact .inr (.inr a)
        · exact .inr (.inl a)
    rw [e0] at r hL
    have hY : ¬ (B n ∨ n ∈ X') := fun a => a.elim hB hX
    obtain ⟨ow1, r1, l1, o1, p1⟩ := r.takeB (us := vs) (ds := cs) (Y := fun m => B m ∨ m ∈ X') hi hq hk hY hg (DenL.kp (fun n cs l g => ⟨fun l2 => l (hL n l2), g⟩) vs cs q1)
    obtain ⟨e1, e2, ow2, r2, o2, p2⟩ := pl_set r1 (fun m l => hL m (l1 m l)) q2
    refine ⟨by simp [e1], by simp [e2], ow2, r2, fun j m e => ?_, fun j hj => (p2 j hj).trans (p1 j fun e => hp (e ▸ hj))⟩
    rcases o2 j m e with e | e
    · rcases o1 j m e with e | e
      · exact .inl e
      · exact .inr (by rw [e]; exact List.mem_cons_self ..)
    · exact .inr (List.mem_cons_of_mem _ e)
theorem PL.kp {B' : Nat → Prop} {L L' : Nat → Prop} {h' : PHeap} (hB : ∀ n, B n → B' n) : ∀ {fl : List (Nat × Bool)} {X : List Nat} {us ds : List D}, PL S k B' h L fl X us ds → PL S k B h L fl X us ds
  | [], X, us, ds, q => q
  | (i, false) :: fl, X, us, ds, q => by
    obtain ⟨u, us', d, ds', e1, e2, hi, q1, q2⟩ := q
    exact ⟨u, us', d, ds', e1, e2, hi, q1, PL.kp (h' := h') (L' := L') hB q2⟩
  | (i, true) :: fl, X, us, ds, q => by
    obtain ⟨n, X', us', vs, cs, ds', e1, e2, e3, hi, hp, hq, hk, hb, hX, hg, q1, q2⟩ := q
    exact ⟨n, X', us', vs, cs, ds', e1, e2, e3, hi, hp, hq, hk, fun b => hb (hB n b), hX, hg, q1, PL.kp (h' := h') (L' := L') hB q2⟩
theorem Rl.lessB {B' : Nat → Prop} (r : Rl S k B' ow h env ven) (hB : ∀ n, B n → B' n) : Rl S k B ow h env ven := by
  have kp : Kp (lk B' ow) h (lk B ow) h := fun n cs l g => ⟨fun l2 => l (l2.imp (hB n) id), g⟩
  refine ⟨r.kl, fun n b => r.lt n (hB n b), r.inj, fun i n e b => r.dis i n e (hB n b), r.frs, fun i n e => ?_, r.all, r.len, fun i u m e => ?_⟩
  · obtain ⟨x1, x2, vs, cs, x3, x4, x5⟩ := r.own i n e
    exact ⟨x1, x2, vs, cs, x3, x4, DenL.kp kp vs cs x5⟩
  · obtain ⟨d, y1, y2⟩ := r.oth i u m e
    exact ⟨d, y1, Den.kp kp u d y2⟩
end
def JP (S : Sx) (fl : List (Nat × Bool)) (m : MA) (w : UA) : Prop := ∀ k B ow h env ven, Rl S k B ow h env ven → match w ven with
  | .ok us ven' => ∃ ds h' ow' X, m env h = .ok ds h' ∧ Rl S k (fun m => B m ∨ m ∈ X) ow' h' env ven' ∧ Stp S ow h ow' h' ∧ PL S k B h' (lk (fun m => B m ∨ m ∈ X) ow') fl X us ds ∧ ∀ n ∈ X, h.length ≤ n
  | .exc e ven' => ∃ h' ow', m env h = .exc e h' ∧ Rl S k B ow' h' env ven' ∧ Stp S ow h ow' h'
  | .stuck => True
section
variable {S : Sx} {fl : List (Nat × Bool)} {m : MA} {w : UA} {a : ME} {va : UE} {mo : MO} {i : Nat}
theorem jp_nil : JP S [] mNil uNil := fun k B ow h env ven r => by
  have e : (fun m => B m ∨ m ∈ ([] : List Nat)) = B := by funext m; simp
  exact ⟨[], h, ow, [], rfl, by rw [e]; exact r, .refl, ⟨rfl, rfl, rfl⟩, fun n m => by cases m⟩
theorem jp_val (i : Nat) (hi : i ∉ S.O) (ha : JU S RD a va) (hm : JP S fl m w) : JP S ((i, false) :: fl) (mCons a m) (uCons va w) := by
  intro k B ow h env ven r
  unfold uCons
  rw [s_cons]
  cases ea : va ven with
  | stuck => trivial
  | exc x v =>
    have := ha k B ow h env ven r
    rw [ea] at this
    obtain ⟨h1, ow1, e1, r1, s1⟩ := this
    rw [e1]
    exact ⟨h1, ow1, rfl, r1, s1⟩
  | ok u v =>
    obtain ⟨d, h1, ow1, e1, r1, s1, q1⟩ := ha.at r ea
    rw [e1]
    simp only [Res.bind_ok, UR.bind_ok]
    have := hm k B ow1 h1 env v r1
    revert this
    cases w v with
    | stuck => intro _; trivial
    | exc x v2 => intro ⟨h2, ow2, e2, r2, s2⟩; rw [e2]; exact ⟨h2, ow2, rfl, r2, s1.trans s2⟩
    | ok us v2 =>
      intro ⟨ds, h2, ow2, X, e2, r2, s2, q2, f2⟩
      rw [e2]
      refine ⟨d :: ds, h2, ow2, X, rfl, r2, s1.trans s2, ⟨u, us, d, ds, rfl, rfl, hi, Den.kp (fun n cs l g => ⟨?_, (s2.kp (B := B) n cs l g).2⟩) u d q1, q2⟩, fun n m => Nat.le_trans s1.len (f2 n m)⟩
      rintro ((l2 | l2) | l2)
      · exact l (.inl l2)
      · have := get_lt g; have := f2 n l2; omega
      · exact (s2.kp (B := B) n cs l g).1 (.inr l2)
theorem jp_new (i : Nat) (hi : i ∈ S.O) (hp : i ∉ S.P) (ha : JU S RN mo va) (hm : JP S fl m w) (hq : i ∉ S.Q := by decide) : JP S ((i, true) :: fl) (mCons (mM mo) m) (uCons va w) := by
  intro k B ow h env ven r
  unfold uCons
  rw [s_cons, s_m]
  cases ea : va ven with
  | stuck => trivial
  | exc x v =>
    have := ha k B ow h env ven r
    rw [ea] at this
    obtain ⟨h1, ow1, e1, r1, s1⟩ := this
    rw [e1]
    exact ⟨h1, ow1, rfl, r1, s1⟩
  | ok u v =>
    obtain ⟨x, h1, ow1, e1, r1, s1, vs, cs, rfl, rfl, q1⟩ := ha.at r ea
    rw [e1]
    simp only [Res.bind_ok, UR.bind_ok, matD_new]
    have fr := r1.fresh (Nat.le_refl h1.length)
    have r1' : Rl S k (fun m => B m ∨ m = h1.length) ow1 (h1 ++ [.lst cs]) env v := by
      have r3 := r1.app [.lst cs]
      have kp : Kp (lk B ow1) h1 (lk (fun m => B m ∨ m = h1.length) ow1) (h1 ++ [.lst cs]) := fun n es l g => ⟨by
        rintro ((l2 | l2) | l2)
        · exact l (.inl l2)
        · have := get_lt g; omega
        · exact l (.inr l2), get_app g⟩
      refine ⟨r3.kl, fun n b => ?_, r3.inj, fun j n e b => ?_, r3.frs, fun j n e => ?_, r3.all, r3.len, fun j z m e => ?_⟩
      · rcases b with b | b
        · exact r3.lt n b
        · simp; omega
      · rcases b with b | b
        · exact r1.dis j n e b
        · subst b; exact fr (.inr ⟨j, e⟩)
      · obtain ⟨x1, x2, ws, es, x3, x4, x5⟩ := r1.own j n e
        exact ⟨x1, x2, ws, es, x3, get_app x4, DenL.kp kp ws es x5⟩
      · obtain ⟨d, y1, y2⟩ := r1.oth j z m e
        exact ⟨d, y1, Den.kp kp z d y2⟩
    have := hm k _ ow1 _ env v r1'
    revert this
    cases w v with
    | stuck => intro _; trivial
    | exc x v2 => intro ⟨h2, ow2, e2, r2, s2⟩; rw [e2]; exact ⟨h2, ow2, rfl, r2.lessB fun n b => .inl b, s1.trans ((Stp.app _).trans s2)⟩
    | ok us v2 =>
      intro ⟨ds, h2, ow2, X, e2, r2, s2, q2, f2⟩
      rw [e2]
      have e0 : (fun m => (B m ∨ m = h1.length) ∨ m ∈ X) = fun m => B m ∨ m ∈ h1.length :: X := by
        funext m
        simp only [List.mem_cons]
        exact propext or_assoc
      rw [e0] at r2 q2
      have hn : ∀ j, ow1 j = some h1.length → j ∉ S.M := fun j e => absurd (Or.inr ⟨j, e⟩) fr
      refine ⟨.ref h1.length :: ds, h2, ow2, h1.length :: X, rfl, r2, s1.trans ((Stp.app _).trans s2), ⟨h1.length, X, us, vs, cs, ds, rfl, rfl, rfl, hi, hp, hq, r1.kl, fun b => fr (.inl b), fun m => by have := f2 _ m; simp at this; omega, s2.keep _ _ hn (by simp), ?_, q2.kp (h' := h2) (L' := B) fun n b => .inl b⟩, fun n m => ?_⟩
      · refine DenL.kp (fun n es l g => ⟨?_, s2.keep n _ (fun j e => absurd (Or.inr ⟨j, e⟩) l) (get_app g)⟩) vs cs q1
        have hlt := get_lt g
        rintro ((l2 | l2) | ⟨j, l2⟩)
        · exact l (.inl l2)
        · rcases List.mem_cons.mp l2 with l2 | l2
          · omega
          · have := f2 n l2; simp at this; omega
        · rcases s2.sub j n l2 with l3 | l3
          · exact l (.inr ⟨j, l3⟩)
          · simp at l3; omega
      · rcases List.mem_cons.mp m with m | m
        · rw [m]; exact s1.len
        · have := f2 n m; have := s1.len; simp at *; omega
theorem us_par {is : List Nat} (hm : JP S fl m w) (he : fl.map (·.1) = is) : SU S (sPar is m) (uPar is w) := by
  subst he
  intro k B ow h env ven r
  have := hm k B ow h env ven r
  unfold uPar
  rw [s_par]
  revert this
  cases w ven with
  | stuck => intro _; trivial
  | exc x v2 => intro ⟨h2, ow2, e2, r2, s2⟩; rw [e2]; exact ⟨env, h2, ow2, rfl, r2, s2⟩
  | ok us v2 =>
    intro ⟨ds, h2, ow2, X, e2, r2, s2, q2, f2⟩
    rw [e2]
    obtain ⟨l1, l2, ow3, r3, o3, p3⟩ := pl_set r2 (fun m l => l) q2
    simp only [Res.out_ok, UR.out_ok, List.length_map]
    rw [if_pos l1, if_pos l2, foldl_setS]
    refine ⟨_, h2, ow3, rfl, r3, ⟨s2.len, s2.keep, fun j n e => ?_, fun j hj => (p3 j hj).trans (s2.pin j hj)⟩⟩
    rcases o3 j n e with e | e
    · exact s2.sub j n e
    · exact .inr (f2 n e)
end
/-! ### defs -/
def uRunP (fr : Bool) (np ns : Nat) (body : US) : UF := fun args => if args.length = np then (match body (args.map some ++ List.replicate (ns - np) none) with
  | .nx _ => match fr with
    | true => .stuck
    | false => .ok .non
  | .rt d _ => .ok d
  | .exc e _ => .exc e
  | _ => .stuck) else .stuck
def stateOf (v : PEnv) : Option (List D) := match v with
  | some (.lst xs) :: _ => some xs
  | _ => none
def uRunM (fr : Bool) (np ns : Nat) (body : US) : UG := fun s args => if args.length + 1 = np then (match body (some (.lst s) :: args.map some ++ List.replicate (ns - np) none) with
  | .nx v => match stateOf v with
    | some t => match fr with
      | true => .stuck
      | false => .ok .non t
    | none => .stuck
  | .rt d v => match stateOf v with
    | some t => .ok d t
    | none => .stuck
  | .exc e v => match stateOf v with
    | some t => .exc e t
    | none => .stuck
  | _ => .stuck) else .stuck
theorem args_get {np : Nat} {args : List D} {n : Nat} (hl : args.length = np) {i : Nat} {u : D} (e : (args.map some ++ List.replicate n none)[i]? = some (some u)) : args[i]? = some u := by
  by_cases hi : i < args.length
  · rw [List.getElem?_append_left (by simpa using hi), List.getElem?_map] at e
    cases q : args[i]? with
    | none => rw [q] at e; cases e
    | some d => rw [q] at e; cases e; rfl
  · rw [List.getElem?_append_right (by simp; omega), List.getElem?_replicate] at e
    split at e <;> cases e
theorem args_at {args : List D} {n : Nat} {i : Nat} {d : D} (e : args[i]? = some d) : (args.map some ++ List.replicate n none)[i]? = some (some d) := by
  have hi := (List.getElem?_eq_some_iff.mp e).1
  rw [List.getElem?_append_left (by simpa using hi), List.getElem?_map, e]
  rfl
theorem fp_of {O M Q : List Nat} {fr : Bool} {np ns : Nat} {b : MS} {v : US} (hb : SU ⟨O, [], M, fr, Q⟩ b v) (hO : ∀ i ∈ O, np ≤ i) : FP fr (runFn np ns b) (uRunP fr np ns v) := by
  intro B h us ds hB q
  unfold uRunP
  by_cases hl : us.length = np
  · have hl2 : ds.length = np := by rw [← q.len]; exact hl
    rw [if_pos hl, s_fn hl2]
    have r : Rl ⟨O, [], M, fr, Q⟩ h.length B (fun _ => none) h (ds.map some ++ List.replicate (ns - np) none) (us.map some ++ List.replicate (ns - np) none) := by
      have lkB : lk B (fun _ => none) = B := by funext n; apply propext; exact ⟨fun l => l.elim id fun ⟨_, e⟩ => (by cases e), .inl⟩
      refine ⟨Nat.le_refl _, hB, fun i j n e => (by cases e), fun i n e => (by cases e), fun i n e => (by cases e), fun i n e => (by cases e), fun i u m e => ?_, by simp [hl, hl2], fun i u m e => ?_⟩
      · have := args_get hl e
        have := (List.getElem?_eq_some_iff.mp this).1
        have := hO i m
        omega
      · obtain ⟨d, e1, e2⟩ := q.get (args_get hl e)
        exact ⟨d, args_at e1, by rw [lkB]; exact e2⟩
    have p := hb h.length B _ h _ _ r
    have fin : ∀ {u d : D} {h1 : PHeap} {ow1 : Ow} {e v : PEnv}, Rl ⟨O, [], M, fr, Q⟩ h.length B ow1 h1 e v → Stp ⟨O, [], M, fr, Q⟩ (fun _ => none) h ow1 h1 → Ret fr h.length (lk B ow1) h1 u d → Pass h (gc h.length d h1) ∧ Ret fr h.length B (gc h.length d h1) u d := fun {u d h1 ow1 e v} r1 s1 q1 => by
      refine ⟨⟨gc_len s1.len, fun n c g => gc_get (get_lt g) (s1.keep n c (fun i e => (by cases e)) g)⟩, ?_⟩
      cases fr with
      | false => exact gc_den (Den.kp lk_B _ _ q1)
      | true =>
        obtain ⟨n, us, ds, rfl, hk, rfl, g, l, q⟩ := q1
        have eg : gc h.length (.ref n) h1 = h1 := by
          rcases gc_cases h.length (.ref n) h1 with e | ⟨_, s, _⟩
          · exact e
          · rw [sm_ref, decide_eq_true_eq] at s; omega
        rw [eg]
        exact ⟨n, us, ds, rfl, hk, rfl, g, fun b => l (.inl b), DenL.kp (fun m cs l2 g2 => ⟨fun l3 => l2 (l3.imp .inl id), g2⟩) us ds q⟩
    revert p
    generalize v (us.map some ++ List.replicate (ns - np) none) = w
    cases w with
    | nx v2 =>
      intro ⟨e, h1, ow1, e1, r1, s1⟩
      rw [e1]
      cases fr with
      | false => obtain ⟨f1, f2⟩ := fin (u := .non) (d := .non) r1 s1 (gnd_den (L := lk B ow1) (h := h1) .non rfl); exact ⟨.non, _, rfl, f1, f2⟩
      | true => trivial
    | rt u v2 =>
      intro ⟨d, e, h1, ow1, e1, r1, s1, q1⟩
      rw [e1]
      obtain ⟨f1, f2⟩ := fin r1 s1 q1
      exact ⟨d, _, rfl, f1, f2⟩
    | exc x v2 =>
      intro ⟨e, h1, ow1, e1, r1, s1⟩
      rw [e1]
      exact ⟨h1, rfl, s1.len, fun n c g => s1.keep n c (fun i e => (by cases e)) g⟩
    | bk v2 => intro _; trivial
    | ct v2 => intro _; trivial
    | stuck => intro _; trivial
  · rw [if_neg hl]; trivial
end Gb

/-! GuG: defs that write their first; what is done with values -/
namespace Gb
open PySem L2
def ow0 (n : Nat) : Ow := fun i => if i = 0 then some n else none
theorem ow0_some {n i m : Nat} (e : ow0 n i = some m) : i = 0 ∧ m = n := by
  unfold ow0 at e
  split at e
  · cases e; exact ⟨by assumption, rfl⟩
  · cases e
theorem state_get {v : PEnv} {t : List D} (e : stateOf v = some t) : v[0]? = some (some (.lst t)) := by
  unfold stateOf at e
  split at e
  · cases e; rfl
  · cases e
theorem fm_of {O M Q : List Nat} {fr : Bool} {np ns : Nat} {b : MS} {v : US} (hb : SU ⟨O, [0], M, fr, Q⟩ b v) (h0 : 0 ∈ O) (hO : ∀ i ∈ O, i = 0 ∨ np ≤ i) (hQ : 0 ∉ Q := by decide) : FM fr (runFn np ns b) (uRunM fr np ns v) := by
  intro B h xs cs n us ds hB hn hg qx q
  unfold uRunM
  by_cases hl : us.length + 1 = np
  · have hl2 : (D.ref n :: ds).length = np := by rw [List.length_cons, ← q.len]; exact hl
    rw [if_pos hl, s_fn hl2]
    have lkB : lk B (ow0 n) = fun m => B m ∨ m = n := by
      funext m
      apply propext
      constructor
      · rintro (l | ⟨i, l⟩)
        · exact .inl l
        · exact .inr (ow0_some l).2
      · rintro (l | l)
        · exact .inl l
        · exact .inr ⟨0, by rw [l]; rfl⟩
    have hnl := get_lt hg
    have r : Rl ⟨O, [0], M, fr, Q⟩ h.length B (ow0 n) h ((D.ref n :: ds).map some ++ List.replicate (ns - np) none) (some (.lst xs) :: us.map some ++ List.replicate (ns - np) none) := by
      refine ⟨Nat.le_refl _, hB, fun i j m e e2 => by rw [(ow0_some e).1, (ow0_some e2).1], fun i m e => by rw [(ow0_some e).2]; exact hn, fun i m e h => absurd (show i ∈ [0] by rw [(ow0_some e).1]; simp) h, fun i m e => ?_, fun i u m e => ?_, by simp [← q.len], fun i u m e => ?_⟩
      · obtain ⟨rfl, rfl⟩ := ow0_some e
        exact ⟨h0, rfl, xs, cs, by rw [show Sx.q ⟨O, [0], M, fr, Q⟩ 0 = false from decide_eq_false hQ]; rfl, by rw [show Sx.q ⟨O, [0], M, fr, Q⟩ 0 = false from decide_eq_false hQ]; exact hg, by rw [lkB]; exact qx⟩
      · rcases hO i m with rfl | hi
        · exact ⟨n, rfl⟩
        · have hz : i < us.length + 1 := by
            have hz : (some (D.lst xs) :: us.map some ++ List.replicate (ns - np) none) = ((D.lst xs :: us).map some ++ List.replicate (ns - np) none) := rfl
            rw [hz] at e
            have := args_get (args := .lst xs :: us) (np := np) (by simpa using hl) e
            have := (List.getElem?_eq_some_iff.mp this).1
            simpa using this
          omega
      · have hz : (some (D.lst xs) :: us.map some ++ List.replicate (ns - np) none) = ((D.lst xs :: us).map some ++ List.replicate (ns - np) none) := rfl
        rw [hz] at e
        have e1 := args_get (args := .lst xs :: us) (np := np) (by simpa using hl) e
        cases i with
        | zero => exact absurd h0 m
        | succ i =>
          obtain ⟨d, e2, e3⟩ := q.get (by simpa using e1)
          exact ⟨d, args_at (args := .ref n :: ds) (by simpa using e2), by rw [lkB]; exact e3⟩
    have p := hb h.length B _ h _ _ r
    have st : ∀ {ow1 : Ow} {h1 : PHeap} {e v : PEnv} {t : List D}, Rl ⟨O, [0], M, fr, Q⟩ h.length B ow1 h1 e v → Stp ⟨O, [0], M, fr, Q⟩ (ow0 n) h ow1 h1 → stateOf v = some t → ow1 0 = some n ∧ ∃ es, h1[n]? = some (.lst es) ∧ DenL (fun m => B m ∨ m = n) h1 t es := fun {ow1 h1 e v t} r1 s1 e2 => by
      have e3 : ow1 0 = some n := s1.pin 0 (List.mem_singleton.mpr rfl)
      obtain ⟨x1, x2, vs, es, x3, x4, x5⟩ := r1.ownL hQ e3
      rw [state_get e2] at x3
      cases x3
      exact ⟨e3, es, x4, DenL.kp (fun m cs l g => ⟨fun l2 => l (l2.imp id fun l3 => ⟨0, by rw [l3]; exact e3⟩), g⟩) _ _ x5⟩
    have pn : ∀ {ow1 : Ow} {h1 : PHeap}, Stp ⟨O, [0], M, fr, Q⟩ (ow0 n) h ow1 h1 → PassN n h h1 := fun {ow1 h1} s1 => ⟨s1.len, fun m c hm g => s1.keep m c (fun i e => absurd (ow0_some e).2 hm) g⟩
    have fin : ∀ {u d : D} {h1 : PHeap} {ow1 : Ow} {e v : PEnv} {t : List D}, Rl ⟨O, [0], M, fr, Q⟩ h.length B ow1 h1 e v → Stp ⟨O, [0], M, fr, Q⟩ (ow0 n) h ow1 h1 → stateOf v = some t → Ret fr h.length (lk B ow1) h1 u d →
        ∃ es, PassN n h (gc h.length d h1) ∧ (gc h.length d h1)[n]? = some (.lst es) ∧ DenL (fun m => B m ∨ m = n) (gc h.length d h1) t es ∧ Ret fr h.length (fun m => B m ∨ m = n) (gc h.length d h1) u d := fun {u d h1 ow1 e v t} r1 s1 e2 q1 => by
      obtain ⟨e3, es, g, qe⟩ := st r1 s1 e2
      have p1 := pn s1
      refine ⟨es, ⟨gc_len s1.len, fun m c hm g => gc_get (get_lt g) (p1.2 m c hm g)⟩, gc_get hnl g, gc_denL hnl g qe, ?_⟩
      have low : ∀ {m : Nat}, (B m ∨ m = n) → lk B ow1 m := fun {m} l => l.imp id fun l3 => ⟨0, by rw [l3]; exact e3⟩
      cases fr with
      | false => exact gc_den (Den.kp (fun m cs l g => ⟨fun l2 => l (low l2), g⟩) _ _ q1)
      | true =>
        obtain ⟨m, us, ds, rfl, hk, rfl, g, l, q⟩ := q1
        have eg : gc h.length (.ref m) h1 = h1 := by
          rcases gc_cases h.length (.ref m) h1 with e | ⟨_, s, _⟩
          · exact e
          · rw [sm_ref, decide_eq_true_eq] at s; omega
        rw [eg]
        exact ⟨m, us, ds, rfl, hk, rfl, g, fun b => l (low b), DenL.kp (fun m cs l2 g2 => ⟨fun l3 => l2 (l3.imp low id), g2⟩) us ds q⟩
    revert p
    generalize v (some (.lst xs) :: us.map some ++ List.replicate (ns - np) none) = w
    cases w with
    | nx v2 =>
      intro ⟨e, h1, ow1, e1, r1, s1⟩
      rw [e1]
      cases e2 : stateOf v2 with
      | none => simp only [e2]
      | some t =>
        simp only [e2, ret_nx]
        cases fr with
        | false =>
          obtain ⟨es, f1, f2, f3, f4⟩ := fin (u := .non) (d := .non) r1 s1 e2 (gnd_den (L := lk B ow1) (h := h1) .non rfl)
          exact ⟨.non, _, es, rfl, f1, f2, f3, f4⟩
        | true => trivial
    | rt u v2 =>
      intro ⟨d, e, h1, ow1, e1, r1, s1, q1⟩
      rw [e1]
      cases e2 : stateOf v2 with
      | none => simp only [e2]
      | some t =>
        simp only [e2, ret_rt]
        obtain ⟨es, f1, f2, f3, f4⟩ := fin r1 s1 e2 q1
        exact ⟨d, _, es, rfl, f1, f2, f3, f4⟩
    | exc x v2 =>
      intro ⟨e, h1, ow1, e1, r1, s1⟩
      rw [e1]
      cases e2 : stateOf v2 with
      | none => simp only [e2]
      | some t =>
        simp only [e2, ret_ex]
        obtain ⟨e3, es, g, qe⟩ := st r1 s1 e2
        exact ⟨h1, es, rfl, pn s1, g, qe⟩
    | bk v2 => intro _; trivial
    | ct v2 => intro _; trivial
    | stuck => intro _; trivial
  · rw [if_neg hl]; trivial

/-! ### what is done with values -/
def gSub : D → D → Option D := fun x y => match x, y with | .int i, .int j => some (.int (i - j)) | _, _ => none
def gDiv : D → D → Option D := fun x y => match x, y with | .int i, .int j => if j ≠ 0 ∧ j.natAbs < 1073741824 then some (.int (i.fdiv j)) else none | _, _ => none
def gMod : D → D → Option D := fun x y => match x, y with | .int i, .int j => if j ≠ 0 then some (.int (i.fmod j)) else none | _, _ => none
def gPow : D → D → Option D := fun x y => match x, y with | .int i, .int j => if 0 ≤ j ∧ j ≤ 1000000 ∧ i.natAbs < 2 ^ 64 then some (.int (i ^ j.toNat)) else none | _, _ => none
def gCmp (c : Int → Int → Bool) : D → D → Option D := fun x y => match x, y with | .int i, .int j => some (.bl (c i j)) | _, _ => none
abbrev gLt := gCmp fun i j => decide (i < j)
abbrev gLe := gCmp fun i j => decide (i ≤ j)
abbrev gGt := gCmp fun i j => decide (j < i)
abbrev gGe := gCmp fun i j => decide (j ≤ i)
def gIs (k : Bool → Bool) : D → D → Option D := fun x y => match y with
  | .non => some (.bl (k (decide (x = .non))))
  | .bl b => match x with
    | .bl a => some (.bl (k (decide (a = b))))
    | _ => none
  | _ => none
def gNeg : D → Option D := fun x => match x with | .int i => some (.int (-i)) | _ => none
theorem g_sub : MB fSub gSub := by
  intro L h u w d e z q r g
  unfold gSub at g
  split at g
  · cases g; rw [Den] at q r; subst q; subst r; exact ⟨rfl, rfl⟩
  · cases g
theorem g_div : MB fDiv gDiv := by
  intro L h u w d e z q r g
  unfold gDiv at g
  split at g
  · rw [Den] at q r; subst q; subst r
    split at g
    · rename_i c; cases g; rw [f_div, if_pos c]; exact ⟨rfl, rfl⟩
    · cases g
  · cases g
theorem g_mod : MB fMod gMod := by
  intro L h u w d e z q r g
  unfold gMod at g
  split at g
  · rw [Den] at q r; subst q; subst r
    split at g
    · rename_i c; cases g; rw [f_mod, if_pos c]; exact ⟨rfl, rfl⟩
    · cases g
  · cases g
theorem g_pow : MB fPow gPow := by
  intro L h u w d e z q r g
  unfold gPow at g
  split at g
  · rw [Den] at q r; subst q; subst r
    split at g
    · rename_i c; cases g; rw [f_pow, if_pos c]; exact ⟨rfl, rfl⟩
    · cases g
  · cases g
theorem g_cmp {c : Int → Int → Bool} : MB (fCmpI c) (gCmp c) := by
  intro L h u w d e z q r g
  unfold gCmp at g
  split at g
  · rw [Den] at q r; subst q; subst r; cases g; exact ⟨rfl, rfl⟩
  · cases g
theorem den_non {L : Nat → Prop} {h : PHeap} {u d : D} (q : Den L h u d) : decide (d = .non) = decide (u = .non) := by
  cases u with
  | non => rw [Den] at q; rw [q]
  | bl b => rw [Den] at q; rw [q]
  | int b => rw [Den] at q; rw [q]
  | str b => rw [Den] at q; rw [q]
  | tup us => rw [Den] at q; obtain ⟨ds, e, q⟩ := q; subst e; rfl
  | lst us =>
    rw [Den] at q
    obtain ⟨n, ds, e, q⟩ := q
    subst e; rfl
  | fro us =>
    rw [Den] at q
    obtain ⟨ds, e, q⟩ := q
    subst e; rfl
  | dct _ _ => rw [Den] at q; subst q; rfl
  | map us =>
    rw [Den] at q
    obtain ⟨ds, e, q⟩ := q
    subst e; rfl
  | ref n => rw [Den] at q; exact q.elim
theorem g_is : MB fIs (gIs id) := by
  intro L h u w d e z q r g
  unfold gIs at g
  split at g
  · rw [Den] at r; subst r; cases g
    exact ⟨by rw [f_isN, den_non q]; rfl, rfl⟩
  · split at g
    · rw [Den] at q r; subst q; subst r; cases g; exact ⟨rfl, rfl⟩
    · cases g
  · cases g
theorem g_isnot : MB fIsNot (gIs not) := by
  intro L h u w d e z q r g
  unfold gIs at g
  split at g
  · rw [Den] at r; subst r; cases g
    exact ⟨by rw [f_isNN, den_non q], rfl⟩
  · split at g
    · rw [Den] at q r; subst q; subst r; cases g; exact ⟨rfl, rfl⟩
    · cases g
  · cases g
theorem g_neg : MU fNeg gNeg := by
  intro L h u d z q g
  unfold gNeg at g
  split at g
  · rw [Den] at q; subst q; cases g; exact ⟨rfl, rfl⟩
  · cases g

/-! operands -/
theorem seqW {L : Nat → Prop} {h : PHeap} {u : D} {x : LV} {us : List D} (q : DenW L h u x) (e : gSeq u = some us) : ∃ ds, x.seq h = some ds ∧ DenL L h us ds := by
  rcases q with q | ⟨n, us', ds, rfl, rfl, g, q⟩
  · cases x with
    | val d =>
      replace q : Den L h u d := q
      cases u with
      | tup us' => cases e; rw [Den] at q; obtain ⟨ds, rfl, q⟩ := q; exact ⟨ds, rfl, q⟩
      | lst us' =>
        cases e
        rw [Den] at q
        obtain ⟨n, ds, rfl, l, g, q⟩ := q
        exact ⟨ds, sq_ref g, q⟩
      | fro us' =>
        cases e
        rw [Den] at q
        obtain ⟨ds, rfl, q⟩ := q
        exact ⟨ds, rfl, q⟩
      | _ => cases e
    | new ds => obtain ⟨us', rfl, q⟩ := q; cases e; exact ⟨ds, rfl, q⟩
  · cases e; exact ⟨ds, sq_ref g, q⟩
def gItems : D → Option (List D) := fun u => match u with | .lst xs => some xs | _ => none
theorem itemsW {L : Nat → Prop} {h : PHeap} {u : D} {x : LV} {us : List D} (q : DenW L h u x) (e : gItems u = some us) : ∃ ds, x.items h = some ds ∧ DenL L h us ds := by
  cases u with
  | lst us' =>
    cases e
    rcases q with q | ⟨n, us', ds, rfl, e, g, q⟩
    · cases x with
      | val d =>
        replace q : Den L h (.lst us) d := q
        rw [Den] at q
        obtain ⟨n, ds, rfl, l, g, q⟩ := q
        exact ⟨ds, it_ref g, q⟩
      | new ds => obtain ⟨us', e, q⟩ := q; cases e; exact ⟨ds, rfl, q⟩
    · cases e; exact ⟨ds, it_ref g, q⟩
  | _ => cases e
/-- an int, a text, a truth, None: as it stands -/
theorem atomW {L : Nat → Prop} {h : PHeap} {u : D} {x : LV} (q : DenW L h u x) (hu : u.gnd = true) : x = .val u := by
  rcases q with q | ⟨n, us', ds, rfl, rfl, g, q⟩
  · cases x with
    | val d => rw [den_gnd u d hu q]
    | new ds => obtain ⟨us', rfl, q⟩ := q; cases hu
  · cases hu
def gLen : D → Option D := fun u => match u with
  | .str z => if z.length ≤ 16777216 then some (.int z.length) else none
  | .tup xs => some (.int xs.length)
  | .lst xs => some (.int xs.length)
  | .fro xs => some (.int xs.length)
  | _ => none
theorem g_len : Mo1 RD fLen gLen := by
  intro B ow h u x z q g
  cases u with
  | str s =>
    rw [atomW q rfl]
    simp only [gLen] at g
    split at g
    · rename_i c; cases g; exact ⟨_, by simp only [fLen]; rw [if_pos c], gnd_den _ rfl⟩
    · cases g
  | tup us =>
    cases g
    obtain ⟨ds, e, q2⟩ := seqW q rfl
    have : fLen x h = .ok (.int ds.length) h := by
      unfold fLen
      split
      · simp [LV.seq, LV.items] at e
      · simp only [e]
    exact ⟨_, this, by rw [← q2.len]; exact gnd_den _ rfl⟩
  | lst us =>
    cases g
    obtain ⟨ds, e, q2⟩ := seqW q rfl
    have : fLen x h = .ok (.int ds.length) h := by
      unfold fLen
      split
      · simp [LV.seq, LV.items] at e
      · simp only [e]
    exact ⟨_, this, by rw [← q2.len]; exact gnd_den _ rfl⟩
  | fro us =>
    cases g
    obtain ⟨ds, e, q2⟩ := seqW q rfl
    have : fLen x h = .ok (.int ds.length) h := by
      unfold fLen
      split
      · simp [LV.seq, LV.items] at e
      · simp only [e]
    exact ⟨_, this, by rw [← q2.len]; exact gnd_den _ rfl⟩
  | _ => cases g
def gTuple : D → Option D := fun u => (gSeq u).map D.tup
theorem g_tuple : Mo1 RD fTuple gTuple := by
  intro B ow h u x z q g
  unfold gTuple at g
  cases e : gSeq u with
  | none => rw [e] at g; cases g
  | some us =>
    rw [e] at g
    cases g
    obtain ⟨ds, e, q2⟩ := seqW q e
    exact ⟨.tup ds, by simp only [fTuple, e], by show Den _ _ _ _; rw [Den]; exact ⟨ds, rfl, q2⟩⟩
theorem g_list : Mo1 RL fList gSeq := by
  intro B ow h u x z q g
  obtain ⟨ds, e, q2⟩ := seqW q g
  exact ⟨ds, by simp only [fList, e], q2⟩
theorem bools_den {L : Nat → Prop} {h : PHeap} : ∀ {us ds : List D} {bs : List Bool}, DenL L h us ds → bools us = some bs → bools ds = some bs
  | [], ds, bs, q, e => by rw [DenL] at q; rw [q]; exact e
  | u :: us, ds, bs, q, e => by
    rw [DenL] at q
    obtain ⟨d, ds', rfl, q1, q2⟩ := q
    cases u with
    | bl b =>
      rw [Den] at q1
      subst q1
      simp only [bools] at e ⊢
      cases e1 : bools us with
      | none => rw [e1] at e; cases e
      | some bs' => rw [e1] at e; rw [bools_den q2 e1]; exact e
    | _ => simp [bools] at e
def gAll : D → Option D := fun u => ((gItems u).bind bools).map fun bs => .bl (bs.all id)
def gAny : D → Option D := fun u => ((gItems u).bind bools).map fun bs => .bl (bs.any id)
theorem g_all : Mo1 RD fAll gAll := by
  intro B ow h u x z q g
  unfold gAll at g
  cases e : gItems u with
  | none => rw [e] at g; cases g
  | some us =>
    cases e2 : bools us with
    | none => rw [e, Option.bind_some, e2] at g; cases g
    | some bs =>
      rw [e, Option.bind_some, e2] at g
      cases g
      obtain ⟨ds, e3, q2⟩ := itemsW q e
      exact ⟨_, by simp only [fAll, e3, bools_den q2 e2], gnd_den _ rfl⟩
theorem g_any : Mo1 RD fAny gAny := by
  intro B ow h u x z q g
  unfold gAny at g
  cases e : gItems u with
  | none => rw [e] at g; cases g
  | some us =>
    cases e2 : bools us with
    | none => rw [e, Option.bind_some, e2] at g; cases g
    | some bs =>
      rw [e, Option.bind_some, e2] at g
      cases g
      obtain ⟨ds, e3, q2⟩ := itemsW q e
      exact ⟨_, by simp only [fAny, e3, bools_den q2 e2], gnd_den _ rfl⟩
def gInt : D → Option D := fun u => match u with | .int i => some (.int i) | .bl b => some (.int (if b then 1 else 0)) | _ => none
def gAbs : D → Option D := fun u => match u with | .int i => some (.int (if i < 0 then -i else i)) | _ => none
def gMax2 : D → D → Option D := fun u w => match u, w with | .int i, .int j => some (.int (if j > i then j else i)) | _, _ => none
def gMin2 : D → D → Option D := fun u w => match u, w with | .int i, .int j => some (.int (if j < i then j else i)) | _, _ => none
theorem g_int : Mo1 RD fInt gInt := by
  intro B ow h u x z q g
  unfold gInt at g
  split at g
  · cases g; rw [atomW q rfl]; exact ⟨_, rfl, gnd_den _ rfl⟩
  · cases g; rw [atomW q rfl]; exact ⟨_, rfl, gnd_den _ rfl⟩
  · cases g
theorem g_abs : Mo1 RD fAbs gAbs := by
  intro B ow h u x z q g
  unfold gAbs at g
  split at g
  · cases g; rw [atomW q rfl]; exact ⟨_, rfl, gnd_den _ rfl⟩
  · cases g
theorem g_max2 : Mo2 RD fMax2 gMax2 := by
  intro B ow h u x w y z q r g
  unfold gMax2 at g
  split at g
  · cases g; rw [atomW q rfl, atomW r rfl]; exact ⟨_, rfl, gnd_den _ rfl⟩
  · cases g
theorem g_min2 : Mo2 RD fMin2 gMin2 := by
  intro B ow h u x w y z q r g
  unfold gMin2 at g
  split at g
  · cases g; rw [atomW q rfl, atomW r rfl]; exact ⟨_, rfl, gnd_den _ rfl⟩
  · cases g
def gIx : D → D → Option D := fun u w => match w with
  | .int i => match u with
    | .tup xs => atI xs i
    | .lst xs => atI xs i
    | .fro xs => atI xs i
    | .str z => if z.length ≤ 16777216 then (match atI z.cps.toList i with
      | some c => some (.str ⟨#[c]⟩)
      | none => none) else none
    | _ => none
  | _ => none
theorem atI_den {L : Nat → Prop} {h : PHeap} {us ds : List D} {i : Int} {u : D} (q : DenL L h us ds) (e : atI us i = some u) : ∃ d, atI ds i = some d ∧ Den L h u d := by
  unfold atI at e ⊢
  rw [q.len] at e
  cases e1 : ixN ds.length i with
  | none => rw [e1] at e; cases e
  | some j => rw [e1] at e; exact q.get e
theorem g_ix : Mo2 RD fIx gIx := by
  intro B ow h u x w y z q r g
  unfold gIx at g
  cases w with
  | int i =>
    rw [atomW r rfl]
    simp only at g
    cases u with
    | tup us =>
      obtain ⟨ds, e, q2⟩ := seqW q rfl
      obtain ⟨d, e2, q3⟩ := atI_den q2 g
      exact ⟨d, by simp only [fIx, e, e2], q3⟩
    | lst us =>
      obtain ⟨ds, e, q2⟩ := seqW q rfl
      obtain ⟨d, e2, q3⟩ := atI_den q2 g
      exact ⟨d, by simp only [fIx, e, e2], q3⟩
    | fro us =>
      obtain ⟨ds, e, q2⟩ := seqW q rfl
      obtain ⟨d, e2, q3⟩ := atI_den q2 g
      exact ⟨d, by simp only [fIx, e, e2], q3⟩
    | str s =>
      rw [atomW q rfl]
      simp only at g
      split at g
      · rename_i c
        cases e : atI s.cps.toList i with
        | none => rw [e] at g; cases g
        | some cc => rw [e] at g; cases g; exact ⟨_, by simp only [fIx, sq_str, e]; rw [if_pos c], gnd_den _ rfl⟩
      · cases g
    | _ => cases g
  | _ => cases g
end Gb

/-! GuH: more of what is done with values -/
namespace Gb
open PySem L2
/-! sums, products -/
theorem ownW {L : Nat → Prop} {h : PHeap} {x : LV} {us : List D} (q : DenW L h (.lst us) x) : ∃ ds, x.own h = some ds ∧ DenL L h us ds := by
  rcases q with q | ⟨n, us', ds, rfl, e, g, q⟩
  · cases x with
    | val d =>
      replace q : Den L h (.lst us) d := q
      rw [Den] at q
      obtain ⟨n, ds, rfl, l, g, q⟩ := q
      exact ⟨ds, ow_ref g, q⟩
    | new ds => obtain ⟨us', e, q⟩ := q; cases e; exact ⟨ds, rfl, q⟩
  · cases e; exact ⟨ds, ow_ref g, q⟩
theorem tupW {L : Nat → Prop} {h : PHeap} {x : LV} {us : List D} (q : DenW L h (.tup us) x) : ∃ ds, x = .val (.tup ds) ∧ DenL L h us ds := by
  rcases q with q | ⟨n, us', ds, rfl, e, g, q⟩
  · cases x with
    | val d =>
      replace q : Den L h (.tup us) d := q
      rw [Den] at q
      obtain ⟨ds, rfl, q⟩ := q
      exact ⟨ds, rfl, q⟩
    | new ds => obtain ⟨us', e, q⟩ := q; cases e
  · cases e
theorem den_tup {L : Nat → Prop} {h : PHeap} {us ds : List D} (q : DenL L h us ds) : Den L h (.tup us) (.tup ds) := by rw [Den]; exact ⟨ds, rfl, q⟩
def gCat : D → D → Option D := fun u w => match u, w with
  | .lst xs, .lst ys => if xs.length + ys.length ≤ 16777216 then some (.lst (xs ++ ys)) else none
  | _, _ => none
def gAdd : D → D → Option D := fun u w => match u, w with
  | .int i, .int j => some (.int (i + j))
  | .tup xs, .tup ys => if xs.length + ys.length ≤ 16777216 then some (.tup (xs ++ ys)) else none
  | .str a, .str b => if a.length + b.length ≤ 16777216 then some (.str (a ++ b)) else none
  | .lst xs, .lst ys => if xs.length + ys.length ≤ 16777216 then some (.lst (xs ++ ys)) else none
  | _, _ => none
theorem n_cat : Mo2 RN fAddO gCat := by
  intro B ow h u x w y z q r g
  unfold gCat at g
  split at g
  · obtain ⟨ds, e1, q1⟩ := ownW q
    obtain ⟨es, e2, q2⟩ := ownW r
    split at g
    · rename_i c
      cases g
      exact ⟨_, f_addL e1 e2 (by rw [← q1.len, ← q2.len]; exact c), _, _, rfl, rfl, q1.app q2⟩
    · cases g
  · cases g
theorem g_add : Mo2 RV fAddO gAdd := by
  intro B ow h u x w y z q r g
  unfold gAdd at g
  split at g
  · cases g
    rw [atomW q rfl, atomW r rfl]
    exact ⟨_, f_add, gnd_den _ rfl⟩
  · obtain ⟨ds, rfl, q1⟩ := tupW q
    obtain ⟨es, rfl, q2⟩ := tupW r
    split at g
    · rename_i c
      cases g
      rw [f_addT, if_pos (by rw [← q1.len, ← q2.len]; exact c)]
      exact ⟨_, rfl, den_tup (q1.app q2)⟩
    · cases g
  · rw [atomW q rfl, atomW r rfl]
    split at g
    · rename_i c
      cases g
      refine ⟨.val (.str _), ?_, gnd_den (L := lk B ow) (h := h) _ rfl⟩
      simp only [fAddO, ow_str, fAdd, Res.val]
      rw [if_pos c]
      rfl
    · cases g
  · obtain ⟨ds, e1, q1⟩ := ownW q
    obtain ⟨es, e2, q2⟩ := ownW r
    split at g
    · rename_i c
      cases g
      exact ⟨_, f_addL e1 e2 (by rw [← q1.len, ← q2.len]; exact c), _, rfl, q1.app q2⟩
    · cases g
  · cases g
def gRep : D → D → Option D := fun u w => match u, w with
  | .lst xs, .int k => if -1000000 ≤ k ∧ k ≤ 1000000 ∧ xs.length * k.toNat ≤ 16777216 then some (.lst (List.replicate k.toNat xs).flatten) else none
  | _, _ => none
def gMul : D → D → Option D := fun u w => match u, w with
  | .int i, .int j => if small64 i || small64 j then some (.int (i * j)) else none
  | .tup xs, .int k => if -1000 ≤ k ∧ k ≤ 1000 ∧ xs.length ≤ 1000 then some (.tup (List.replicate k.toNat xs).flatten) else none
  | .lst xs, .int k => if -1000000 ≤ k ∧ k ≤ 1000000 ∧ xs.length * k.toNat ≤ 16777216 then some (.lst (List.replicate k.toNat xs).flatten) else none
  | _, _ => none
theorem n_rep : Mo2 RN fMulO gRep := by
  intro B ow h u x w y z q r g
  unfold gRep at g
  split at g
  · obtain ⟨ds, e1, q1⟩ := ownW q
    rw [atomW r rfl]
    split at g
    · rename_i c
      cases g
      refine ⟨_, ?_, _, _, rfl, rfl, q1.rep _⟩
      simp only [fMulO, e1]
      rw [if_pos (by rw [← q1.len]; exact c)]
    · cases g
  · cases g
theorem g_mul : Mo2 RV fMulO gMul := by
  intro B ow h u x w y z q r g
  unfold gMul at g
  split at g
  · rw [atomW q rfl, atomW r rfl]
    split at g
    · rename_i c
      cases g
      rw [f_mul, if_pos c]
      exact ⟨_, rfl, gnd_den _ rfl⟩
    · cases g
  · obtain ⟨ds, rfl, q1⟩ := tupW q
    rw [atomW r rfl]
    split at g
    · rename_i c
      cases g
      rw [f_mulT, if_pos (by rw [← q1.len]; exact c)]
      exact ⟨_, rfl, den_tup (q1.rep _)⟩
    · cases g
  · obtain ⟨ds, e1, q1⟩ := ownW q
    rw [atomW r rfl]
    split at g
    · rename_i c
      cases g
      refine ⟨.new _, ?_, _, rfl, q1.rep _⟩
      simp only [fMulO, e1]
      rw [if_pos (by rw [← q1.len]; exact c)]
    · cases g
  · cases g
/-! slices -/
abbrev UP := PEnv → UR (Option Int)
def upNone : UP := fun v => .ok none v
def upSome (a : UE) : UP := fun v => (a v).bind fun d v1 => match d with
  | .int i => .ok (some i) v1
  | _ => .stuck
def gSl (u : D) (l h : Option Int) : Option D := match u with
  | .tup xs => some (.tup (cutD xs l h))
  | .lst xs => some (.lst (cutD xs l h))
  | .fro xs => some (.lst (cutD xs l h))
  | _ => none
def gSlL (u : D) (l h : Option Int) : Option D := match u with
  | .lst xs => some (.lst (cutD xs l h))
  | _ => none
def uSl (g : D → Option Int → Option Int → Option D) (a : UE) (lo hi : UP) : UE := fun v => (a v).bind fun x v1 => (lo v1).bind fun l v2 => (hi v2).bind fun u v3 => .of (g x l u) v3
def uSlo (g : D → Option Int → Option Int → Option D) (i : Nat) (lo hi : UP) : UE := fun v => (uVar i v).bind fun _ v1 => (lo v1).bind fun l v2 => (hi v2).bind fun u v3 => (uVar i v3).bind fun x v4 => .of (g x l u) v4
section
variable {S : Sx} {a b c : ME} {va vb vc : UE} {m : MA} {w : UA} {mo mp : MO} {i : Nat} {lo hi : MP} {vlo vhi : UP}
theorem cut_den {L : Nat → Prop} {h : PHeap} {us ds : List D} {l u : Option Int} (q : DenL L h us ds) : DenL L h (cutD us l u) (cutD ds l u) := by
  unfold cutD
  rw [q.len]
  exact q.drop.take
theorem up_none : JU S RB pNone upNone := fun k B ow h env ven r => .ok r rfl
theorem up_some (ha : JU S RD a va) : JU S RB (pSome a) (upSome va) := fun k B ow h env ven r =>
  (ha k B ow h env ven r).bind fun d h1 ow1 v1 u r1 s1 q1 => by
    cases u with
    | int i => rw [RD, Den] at q1; subst q1; exact .ok r1 rfl
    | _ => trivial
def Mo1S (R : Re D LV) (g : D → Option Int → Option Int → Option D) : Prop := ∀ B ow h u x l t z, DenW (lk B ow) h u x → g u l t = some z → ∃ a, fSl x l t h = .ok a h ∧ R B ow h z a
theorem n_sl : Mo1S RN gSlL := by
  intro B ow h u x l t z q g
  unfold gSlL at g
  split at g
  · cases g
    obtain ⟨ds, e1, q1⟩ := itemsW q rfl
    refine ⟨.new _, ?_, _, _, rfl, rfl, cut_den q1⟩
    unfold fSl
    split
    · simp [LV.items] at e1
    · simp only [e1]
  · cases g
theorem g_sl : Mo1S RV gSl := by
  intro B ow h u x l t z q g
  unfold gSl at g
  split at g
  · cases g
    obtain ⟨ds, rfl, q1⟩ := tupW q
    exact ⟨_, f_slT, den_tup (cut_den q1)⟩
  · cases g
    obtain ⟨ds, e1, q1⟩ := itemsW q rfl
    refine ⟨.new _, ?_, _, rfl, cut_den q1⟩
    unfold fSl
    split
    · simp [LV.items] at e1
    · simp only [e1]
  · rename_i xs
    cases g
    rcases q with q | ⟨n, us', ds, rfl, e, _⟩
    · cases x with
      | val d =>
        replace q : Den (lk B ow) h (.fro xs) d := q
        rw [Den] at q
        obtain ⟨ds, rfl, q1⟩ := q
        exact ⟨.new _, rfl, _, rfl, cut_den q1⟩
      | new ds => obtain ⟨us', e, q⟩ := q; cases e
    · cases e
  · cases g
theorem uo_sl {R : Re D LV} {g : D → Option Int → Option Int → Option D} (hf : Mo1S R g) (ho : JU S RV mo va) (hl : JU S RB lo vlo) (hh : JU S RB hi vhi) : JU S R (mSl mo lo hi) (uSl g va vlo vhi) := fun k B ow h env ven r =>
  (ho k B ow h env ven r).bind fun x h1 ow1 v1 u r1 s1 q1 => (hl k B ow1 h1 env v1 r1).bind fun l h2 ow2 v2 l' r2 s2 q2 => (hh k B ow2 h2 env v2 r2).bind fun t h3 ow3 v3 t' r3 s3 q3 => by
    cases q2; cases q3
    exact .of r3 fun z ez => hf B ow3 h3 u x _ _ z (.inl (Sta.sta s3 (Sta.sta s2 q1))) ez
theorem uo_slo {R : Re D LV} {g : D → Option Int → Option Int → Option D} (hf : Mo1S R g) (hi' : i ∈ S.O) (hl : JU S RB lo vlo) (hh : JU S RB hi vhi) (hq : i ∉ S.Q := by decide) : JU S R (mSl (mVal (mVar i)) lo hi) (uSlo g i vlo vhi) := by
  intro k B ow h env ven r
  unfold uSlo
  rcases uVar_cases i ven with e | ⟨u, e, e1⟩
  · rw [e]; trivial
  · obtain ⟨n, _, e2, q⟩ := own_W r hi' e hq
    rw [s_sl, s_val, mVar_at e2, e1]
    exact (hl k B ow h env ven r).bind fun l h2 ow2 v2 l' r2 s2 q2 => (hh k B ow2 h2 env v2 r2).bind fun t h3 ow3 v3 t' r3 s3 q3 => by
      cases q2; cases q3
      rcases uVar_cases i v3 with e' | ⟨u', e', e1'⟩
      · rw [e']; trivial
      · obtain ⟨n', e3, q3⟩ := own_stays r r3 hi' e e' hq
        rw [e2] at e3
        cases e3
        rw [e1']
        exact .of r3 fun z ez => hf B ow3 h3 u' (.val (.ref n)) _ _ z q3 ez
end
/-! kinds -/
def gKind : D → Option Kd := fun u => match u with
  | .non => some .non
  | .bl _ => some .bl
  | .int _ => some .int
  | .str _ => some .str
  | .tup _ => some .tup
  | .lst _ => some .lst
  | .dct _ _ => some .dct
  | _ => none
def gIsi (t : Kd) : D → Option D := fun u => (gKind u).map fun k => .bl (k.isi t)
theorem g_isi {t : Kd} : Mo1 RD (fIsi t) (gIsi t) := by
  intro B ow h u x z q g
  unfold gIsi at g
  cases e : gKind u with
  | none => rw [e] at g; cases g
  | some k =>
    rw [e] at g
    cases g
    refine ⟨_, ?_, gnd_den (L := lk B ow) (h := h) _ rfl⟩
    rcases q with q | ⟨n, us, ds, rfl, rfl, g, q⟩
    · cases x with
      | val d =>
        replace q : Den (lk B ow) h u d := q
        have : kindD h d = some k := by
          cases u with
          | non => rw [Den] at q; subst q; exact e
          | bl b => rw [Den] at q; subst q; exact e
          | int b => rw [Den] at q; subst q; exact e
          | str b => rw [Den] at q; subst q; exact e
          | tup us => rw [Den] at q; obtain ⟨ds, rfl, q⟩ := q; exact e
          | lst us => rw [Den] at q; obtain ⟨n, ds, rfl, _, g, q⟩ := q; simp only [kindD, g]; exact e
          | dct ks ws => rw [Den] at q; subst q; exact e
          | _ => cases e
        simp only [fIsi, this]
      | new ds => obtain ⟨us, rfl, q⟩ := q; cases e; rfl
    · cases e
      simp only [fIsi, kindD, g]
/-! as data -/
mutual
def pyU : D → PyData
  | .bl b => .bool b
  | .int i => .int i
  | .str x => .str x
  | .tup xs => .tuple (pyL xs)
  | .lst xs => .list (pyL xs)
  | _ => .none
def pyL : List D → List PyData
  | [] => []
  | x :: xs => pyU x :: pyL xs
end
mutual
/-- how deep; what is no data is deeper than all -/
def D.dep : D → Nat
  | .tup xs => D.depL xs + 1
  | .lst xs => D.depL xs + 1
  | .fro _ => 1000
  | .dct _ _ => 1000
  | .map _ => 1000
  | .ref _ => 1000
  | _ => 1
def D.depL : List D → Nat
  | [] => 0
  | x :: xs => max x.dep (D.depL xs)
end
mutual
theorem py_den {L : Nat → Prop} {h : PHeap} : ∀ (u d : D) (n : Nat), Den L h u d → u.dep ≤ n → n < 1000 → toPy h n d = some (pyU u)
  | u, d, 0, q, hn, _ => by
    have : 0 < u.dep := by cases u <;> simp [D.dep]
    omega
  | .non, d, n + 1, q, hn, _ => by rw [Den] at q; subst q; rfl
  | .bl b, d, n + 1, q, hn, _ => by rw [Den] at q; subst q; rfl
  | .int b, d, n + 1, q, hn, _ => by rw [Den] at q; subst q; rfl
  | .str b, d, n + 1, q, hn, _ => by rw [Den] at q; subst q; rfl
  | .ref _, d, n + 1, q, hn, _ => by rw [Den] at q; exact q.elim
  | .dct _ _, d, n + 1, q, hn, hl => by simp only [D.dep] at hn; omega
  | .map _, d, n + 1, q, hn, hl => by simp only [D.dep] at hn; omega
  | .fro _, d, n + 1, q, hn, hl => by simp only [D.dep] at hn; omega
  | .tup us, d, n + 1, q, hn, hl => by
    rw [Den] at q
    obtain ⟨ds, rfl, q⟩ := q
    simp only [D.dep] at hn
    rw [toPy, pyL_den us ds n q (by omega) (by omega)]
    simp only [Option.map_some, pyU]
  | .lst us, d, n + 1, q, hn, hl => by
    rw [Den] at q
    obtain ⟨m, ds, rfl, _, g, q⟩ := q
    simp only [D.dep] at hn
    rw [toPy]
    simp only [g]
    rw [pyL_den us ds n q (by omega) (by omega)]
    simp only [Option.map_some, pyU]
theorem pyL_den {L : Nat → Prop} {h : PHeap} : ∀ (us ds : List D) (n : Nat), DenL L h us ds → D.depL us ≤ n → n < 1000 → travO (toPy h n) ds = some (pyL us)
  | [], ds, n, q, hn, _ => by rw [DenL] at q; subst q; rfl
  | u :: us, ds, n, q, hn, hl => by
    rw [DenL] at q
    obtain ⟨d, r, rfl, q1, q2⟩ := q
    simp only [D.depL] at hn
    rw [travO, py_den u d n q1 (by omega) hl, pyL_den us r n q2 (by omega) hl]
    simp only [pyL]
end
theorem pyW {L : Nat → Prop} {h : PHeap} {u : D} {x : LV} (q : DenW L h u x) (hd : u.dep ≤ 60) : x.py h = some (pyU u) := by
  rcases q with q | ⟨n, us, ds, rfl, rfl, g, q⟩
  · cases x with
    | val d => exact py_den u d 60 q hd (by decide)
    | new ds =>
      obtain ⟨us, rfl, q⟩ := q
      simp only [D.dep] at hd
      show (travO (toPy h 60) ds).map PyData.list = _
      rw [pyL_den us ds 60 q (by omega) (by decide)]
      simp only [Option.map_some, pyU]
  · simp only [D.dep] at hd
    show toPy h (59 + 1) (.ref n) = _
    rw [toPy]
    simp only [g]
    rw [pyL_den us ds 59 q (by omega) (by decide)]
    simp only [Option.map_some, pyU]
def gEq (k : Bool → Bool) : D → D → Option D := fun u w => if u.dep ≤ 60 ∧ w.dep ≤ 60 then some (.bl (k (PyData.eqv (pyU u) (pyU w)))) else none
theorem g_eq {k : Bool → Bool} : Mo2 RD (fEqO k) (gEq k) := by
  intro B ow h u x w y z q r g
  unfold gEq at g
  split at g
  · rename_i c
    cases g
    exact ⟨_, by simp only [fEqO, pyW q c.1, pyW r c.2], gnd_den _ rfl⟩
  · cases g
def gIn (k : Bool → Bool) : D → D → Option D := fun u w => if u.dep ≤ 60 ∧ w.dep ≤ 60 then (match itemsP (pyU w) with
  | some ds => some (.bl (k (ds.any fun z => PyData.eqv z (pyU u))))
  | none => none) else none
theorem g_in {k : Bool → Bool} : Mo2 RD (fInO k) (gIn k) := by
  intro B ow h u x w y z q r g
  unfold gIn at g
  split at g
  · rename_i c
    split at g
    · rename_i ds e
      cases g
      exact ⟨_, by simp only [fInO, pyW q c.1, pyW r c.2, e], gnd_den _ rfl⟩
    · cases g
  · cases g
def gRepr : D → Option D := fun u => if (gSeq u).isSome = true ∧ u.dep ≤ 60 ∧ ((pyU u).showable && !(pyU u).hasDict) = true ∧ (pyU u).shown.length ≤ 16777216 then some (.str (pyU u).shown) else none
theorem g_repr : Mo1 RD fRepr gRepr := by
  intro B ow h u x z q g
  unfold gRepr at g
  split at g
  · rename_i c
    obtain ⟨c1, c2, c3, c4⟩ := c
    cases g
    obtain ⟨us, e⟩ := Option.isSome_iff_exists.mp c1
    obtain ⟨ds, e1, q1⟩ := seqW q e
    exact ⟨_, by simp only [fRepr, e1, pyW q c2]; rw [if_pos ⟨c3, c4⟩], gnd_den _ rfl⟩
  · cases g
theorem ints_den {L : Nat → Prop} {h : PHeap} : ∀ {us ds : List D} {ns : List Int}, DenL L h us ds → intsOf us = some ns → intsOf ds = some ns
  | [], ds, bs, q, e => by rw [DenL] at q; rw [q]; exact e
  | u :: us, ds, bs, q, e => by
    rw [DenL] at q
    obtain ⟨d, ds', rfl, q1, q2⟩ := q
    cases u with
    | int b =>
      rw [Den] at q1
      subst q1
      simp only [intsOf] at e ⊢
      cases e1 : intsOf us with
      | none => rw [e1] at e; cases e
      | some bs' => rw [e1] at e; rw [ints_den q2 e1]; exact e
    | _ => simp [intsOf] at e
def gSortI : D → Option (List D) := fun u => ((gItems u).bind intsOf).map fun ns => (sortI ns).map D.int
theorem g_sortI : Mo1 RL fSortI gSortI := by
  intro B ow h u x z q g
  unfold gSortI at g
  cases e : gItems u with
  | none => rw [e] at g; cases g
  | some us =>
    cases e2 : intsOf us with
    | none => rw [e, Option.bind_some, e2] at g; cases g
    | some bs =>
      rw [e, Option.bind_some, e2] at g
      cases g
      obtain ⟨ds, e3, q2⟩ := itemsW q e
      exact ⟨_, by simp only [fSortI, e3, ints_den q2 e2], DenL.ints _⟩
/-! count -/
def gCnt (u : D) (y : D) : Option D := if u.dep ≤ 60 ∧ y.dep ≤ 60 then (match itemsP (pyU u) with
  | some ds => some (.int (ds.countP fun z => PyData.eqv z (pyU y) : Nat))
  | none => none) else none
def uCnt (a : UE) (w : UA) : UE := fun v => (a v).bind fun u v1 => match gSeq u with
  | some _ => (w v1).bind fun ys v2 => match ys with
    | [y] => .of (gCnt u y) v2
    | _ => .stuck
  | none => .stuck
def uCnto (i : Nat) (w : UA) : UE := fun v => (uVar i v).bind fun _ v1 => (w v1).bind fun ys v2 => (uVar i v2).bind fun u v3 => match ys with
  | [y] => .of (gCnt u y) v3
  | _ => .stuck
theorem itemsP_seq {u : D} {ds : List PyData} (e : itemsP (pyU u) = some ds) : ∃ us, gSeq u = some us ∧ (pyU u = .tuple ds ∨ pyU u = .list ds) := by
  cases u with
  | tup us => simp only [pyU, itemsP] at e; cases e; exact ⟨us, rfl, .inl (by simp only [pyU])⟩
  | lst us => simp only [pyU, itemsP] at e; cases e; exact ⟨us, rfl, .inr (by simp only [pyU])⟩
  | _ => simp [pyU, itemsP] at e
section
variable {S : Sx} {m : MA} {w : UA} {mo : MO} {va : UE} {i : Nat}
theorem cnt_den {L : Nat → Prop} {h : PHeap} {u y z d : D} {x : LV} (q : DenW L h u x) (r : Den L h y d) (g : gCnt u y = some z) : ∃ n : Nat, cntOf x d h = some n ∧ z = .int n := by
  unfold gCnt at g
  split at g
  · rename_i c
    split at g
    · rename_i ds e
      cases g
      refine ⟨_, ?_, rfl⟩
      obtain ⟨us, e1, e2⟩ := itemsP_seq e
      unfold cntOf
      rw [py_den y d 60 r c.2 (by decide), pyW q c.1]
      rcases e2 with e2 | e2 <;> rw [e2]
    · cases g
  · cases g
theorem ue_cnt (ho : JU S RV mo va) (hm : JU S RL m w) : JU S RD (mCnt mo m) (uCnt va w) := fun k B ow h env ven r =>
  (ho k B ow h env ven r).bind fun x h1 ow1 v1 u r1 s1 q1 => by
    cases e : gSeq u with
    | none => trivial
    | some us =>
      obtain ⟨ds, e1, q2⟩ := seqW (.inl q1) e
      simp only [e1]
      exact (hm k B ow1 h1 env v1 r1).bind fun es h2 ow2 v2 ys r2 s2 q3 => by
        cases ys with
        | nil => trivial
        | cons y ys =>
          cases ys with
          | cons _ _ => trivial
          | nil =>
            rw [RL, DenL] at q3
            obtain ⟨d, r', rfl, q4, q5⟩ := q3
            rw [DenL] at q5
            subst q5
            exact .of r2 fun z ez => by
              obtain ⟨n, e5, rfl⟩ := cnt_den (.inl (Sta.sta s2 q1)) q4 ez
              exact ⟨.int n, by simp only [e5], gnd_den _ rfl⟩
theorem ue_cnto (hi : i ∈ S.O) (hm : JU S RL m w) (hq : i ∉ S.Q := by decide) : JU S RD (mCnt (mVal (mVar i)) m) (uCnto i w) := by
  intro k B ow h env ven r
  unfold uCnto
  rcases uVar_cases i ven with e | ⟨u, e, e1⟩
  · rw [e]; trivial
  · obtain ⟨n, eo⟩ := r.all i u hi e
    obtain ⟨_, e2, us, ds, e3, e4, q⟩ := r.ownL hq eo
    rw [s_cnt, s_val, mVar_at e2, e1]
    simp only [Res.bind_ok, UR.bind_ok, cntD, sq_ref e4]
    exact (hm k B ow h env ven r).bind fun es h2 ow2 v2 ys r2 s2 q3 => by
      rcases uVar_cases i v2 with e' | ⟨u', e', e1'⟩
      · rw [e']; trivial
      · obtain ⟨n', e3, q3'⟩ := own_stays r r2 hi e e' hq
        rw [e2] at e3
        cases e3
        rw [e1']
        simp only [UR.bind_ok]
        cases ys with
        | nil => trivial
        | cons y ys =>
          cases ys with
          | cons _ _ => trivial
          | nil =>
            rw [RL, DenL] at q3
            obtain ⟨d, r', rfl, q4, q5⟩ := q3
            rw [DenL] at q5
            subst q5
            exact .of r2 fun z ez => by
              obtain ⟨n, e5, rfl⟩ := cnt_den q3' q4 ez
              exact ⟨.int n, by simp only [e5], gnd_den _ rfl⟩
end
/-! methods -/
theorem m_append : MtU fAppend fAppend := by
  intro L h us ds ws es z us' q r e
  unfold fAppend at e ⊢
  cases ws with
  | nil => cases e
  | cons w ws =>
    cases ws with
    | cons _ _ => cases e
    | nil =>
      rw [DenL] at r
      obtain ⟨d, r', rfl, r1, r2⟩ := r
      rw [DenL] at r2
      subst r2
      simp only at e ⊢
      rw [← q.len]
      split at e
      · rename_i c
        cases e
        exact ⟨.non, _, by rw [if_pos c], by rw [Den], q.app (.one r1)⟩
      · cases e
theorem m_pop : MtU fPop fPop := by
  intro L h us ds ws es z us' q r e
  unfold fPop at e ⊢
  cases ws with
  | cons _ _ => cases e
  | nil =>
    rw [DenL] at r
    subst r
    simp only at e ⊢
    split at e
    · rename_i u e1
      cases e
      obtain ⟨d, e2, q2⟩ := q.get e1
      rw [q.len] at e2
      refine ⟨d, ds.dropLast, by rw [e2], q2, ?_⟩
      rw [List.dropLast_eq_take, List.dropLast_eq_take, q.len]
      exact q.take
    · cases e
end Gb

/-! GuS: the words without a heap told by equations -/
namespace Gb
open PySem L2
/-- an equation that is no rfl to simp: the kernel is not to look into its test -/
theorem noRfl {α : Type} {a b : α} (h : a = b) (t : True) : a = b := h
section
variable {α β : Type} {v w : PEnv} {a b c : UE} {t t2 : UT} {r : UA} {s s2 : US} {d x y z : D} {i j : Nat} {m n : Int} {p q : Bool}
@[simp] theorem u_var : uVar i v = (match v[i]? with | some (some d) => .ok d v | _ => .stuck) := rfl
@[simp] theorem u_move : uMove i v = (match v[i]? with | some (some d) => .ok d (v.set i none) | _ => .stuck) := rfl
@[simp] theorem u_own : uOwn i v = (match v[i]? with | some (some (.lst xs)) => .ok xs v | _ => .stuck) := rfl
@[simp] theorem u_c : uC d v = .ok d v := rfl
@[simp] theorem u_bin {g : D → D → Option D} : uBin g a b v = (a v).bind fun x v1 => (b v1).bind fun y v2 => .of (g x y) v2 := rfl
@[simp] theorem u_un {g : D → Option D} : uUn g a v = (a v).bind fun x v1 => .of (g x) v1 := rfl
@[simp] theorem u_if : uIf t a b v = (t v).bind fun k v1 => pick k (a v1) (b v1) := rfl
@[simp] theorem u_nil : uNil v = .ok [] v := rfl
@[simp] theorem u_cons : uCons a r v = (a v).bind fun x v1 => (r v1).bind fun xs v2 => .ok (x :: xs) v2 := rfl
@[simp] theorem u_tup : uTup r v = (r v).bind fun xs v1 => if xs.length ≤ 16777216 then .ok (.tup xs) v1 else .stuck := noRfl rfl trivial
@[simp] theorem u_new : uNew r v = (r v).bind fun xs v1 => .ok (.lst xs) v1 := rfl
@[simp] theorem u_disp : uDisp r v = (r v).bind fun xs v1 => if xs.length ≤ 16777216 then .ok xs v1 else .stuck := noRfl rfl trivial
@[simp] theorem u_tst {g : D → Option Bool} : uTst a g v = (a v).bind fun x v1 => .of (g x) v1 := rfl
def tbU (d : D) (v : PEnv) : UR Bool := match d with
  | .bl b => .ok b v
  | _ => .stuck
@[simp] theorem tbU_bl : tbU (.bl p) v = .ok p v := rfl
@[simp] theorem u_tb : uTB a v = (a v).bind tbU := rfl
@[simp] theorem u_tnot : uTNot t v = (t v).bind fun k v1 => .ok (!k) v1 := rfl
@[simp] theorem u_tand : uTAnd t t2 v = (t v).bind fun k v1 => pick k (t2 v1) (.ok false v1) := rfl
@[simp] theorem u_tor : uTOr t t2 v = (t v).bind fun k v1 => pick k (.ok true v1) (t2 v1) := rfl
@[simp] theorem u_yes : uTYes v = .ok true v := rfl
@[simp] theorem gt_bl : gTruth (.bl p) = some p := rfl
@[simp] theorem gt_int : gTruth (.int m) = some (m != 0) := rfl
@[simp] theorem gt_non : gTruth .non = some false := rfl
@[simp] theorem gt_tup {xs : List D} : gTruth (.tup xs) = some (!xs.isEmpty) := rfl
@[simp] theorem gt_lst {xs : List D} : gTruth (.lst xs) = some (!xs.isEmpty) := rfl
@[simp] theorem u_and : uAnd a b v = (a v).bind fun d v1 => (UR.of (gTruth d) v1).bind fun k v2 => pick k (b v2) (.ok d v2) := rfl
@[simp] theorem u_or : uOr a b v = (a v).bind fun d v1 => (UR.of (gTruth d) v1).bind fun k v2 => pick k (.ok d v2) (b v2) := rfl
@[simp] theorem u_not : uNot a v = (a v).bind fun d v1 => (UR.of (gTruth d) v1).bind fun k v2 => .ok (.bl (!k)) v2 := rfl
def chainU (o : Option D) (x y : PEnv → UR D) (v : PEnv) : UR D := match o with
  | some (.bl true) => x v
  | some (.bl false) => y v
  | _ => .stuck
@[simp] theorem chainU_b {x y : PEnv → UR D} : chainU (some (.bl p)) x y v = pick p (x v) (y v) := by cases p <;> rfl
@[simp] theorem u_chain {f g : D → D → Option D} : uChain f g a b c v = (a v).bind fun x v1 => (b v1).bind fun y v2 => chainU (f x y) (fun v2 => (c v2).bind fun w v4 => .of (g y w) v4) (fun v2 => .ok (.bl false) v2) v2 := by
  rfl
@[simp] theorem u_1 {g : D → Option β} : u1 g a v = (a v).bind fun x v1 => .of (g x) v1 := rfl
@[simp] theorem u_2 {g : D → D → Option β} : u2 g a b v = (a v).bind fun x v1 => (b v1).bind fun y v2 => .of (g x y) v2 := rfl
@[simp] theorem u_2o {g : D → D → Option β} : u2o g i b v = (uVar i v).bind fun _ v1 => (b v1).bind fun y v2 => (uVar i v2).bind fun x v3 => .of (g x y) v3 := rfl
@[simp] theorem x_ok : (UX.ok d).res v = .ok d v := rfl
@[simp] theorem x_exc : (UX.exc d).res v = .exc d v := rfl
@[simp] theorem x_stuck : UX.stuck.res v = .stuck := rfl
@[simp] theorem x_gok : (UX.ok d).gnd = if d.gnd = true then .ok d else .stuck := rfl
@[simp] theorem y_ok {xs : List D} : (UM.ok d xs).res i v = .ok d (v.set i (some (.lst xs))) := rfl
@[simp] theorem y_exc {xs : List D} : (UM.exc d xs).res i v = .exc d (v.set i (some (.lst xs))) := rfl
@[simp] theorem y_stuck : UM.stuck.res i v = .stuck := rfl
@[simp] theorem u_call {F : UF} : uCall F r v = (r v).bind fun ds v1 => (F ds).res v1 := rfl
@[simp] theorem u_callM {F : UG} : uCallM F i r v = (uOwn i v).bind fun _ v0 => (r v0).bind fun ds v1 => (uOwn i v1).bind fun s v2 => (F s ds).res i v2 := rfl
@[simp] theorem u_callB {F : UF} : uCallB F r v = (r v).bind fun ds v1 => (F ds).gnd.res v1 := rfl
def mtU (g : List D → List D → Option (D × List D)) (i : Nat) (us ws : List D) (v : PEnv) : UR D := match g us ws with
  | some (z, us') => .ok z (v.set i (some (.lst us')))
  | none => .stuck
@[simp] theorem u_mt {g : List D → List D → Option (D × List D)} : uMt g i r v = (uOwn i v).bind fun _ v0 => (r v0).bind fun ws v1 => (uOwn i v1).bind fun us v2 => mtU g i us ws v2 := rfl
@[simp] theorem mt_app {us : List D} : mtU fAppend i us [x] v = if us.length < 16777216 then .ok .non (v.set i (some (.lst (us ++ [x])))) else .stuck := by
  unfold mtU fAppend
  by_cases h : us.length < 16777216 <;> simp [h]
@[simp] theorem g_sub' : gSub (.int m) (.int n) = some (.int (m - n)) := rfl
@[simp] theorem g_div' : gDiv (.int m) (.int n) = if n ≠ 0 ∧ n.natAbs < 1073741824 then some (.int (m.fdiv n)) else none := noRfl rfl trivial
@[simp] theorem g_mod' : gMod (.int m) (.int n) = if n ≠ 0 then some (.int (m.fmod n)) else none := noRfl rfl trivial
@[simp] theorem g_pow' : gPow (.int m) (.int n) = if 0 ≤ n ∧ n ≤ 1000000 ∧ m.natAbs < 2 ^ 64 then some (.int (m ^ n.toNat)) else none := noRfl rfl trivial
@[simp] theorem g_cmp' {f : Int → Int → Bool} : gCmp f (.int m) (.int n) = some (.bl (f m n)) := rfl
@[simp] theorem g_isN {k : Bool → Bool} : gIs k d .non = some (.bl (k (decide (d = .non)))) := rfl
@[simp] theorem g_isB {k : Bool → Bool} : gIs k (.bl p) (.bl q) = some (.bl (k (decide (p = q)))) := rfl
@[simp] theorem g_neg' : gNeg (.int m) = some (.int (-m)) := rfl
@[simp] theorem gs_tup {xs : List D} : gSeq (.tup xs) = some xs := rfl
@[simp] theorem gs_lst {xs : List D} : gSeq (.lst xs) = some xs := rfl
@[simp] theorem gs_fro {xs : List D} : gSeq (.fro xs) = some xs := rfl
@[simp] theorem gi_lst {xs : List D} : gItems (.lst xs) = some xs := rfl
@[simp] theorem gl_tup {xs : List D} : gLen (.tup xs) = some (.int xs.length) := rfl
@[simp] theorem gl_lst {xs : List D} : gLen (.lst xs) = some (.int xs.length) := rfl
@[simp] theorem gl_fro {xs : List D} : gLen (.fro xs) = some (.int xs.length) := rfl
@[simp] theorem gtu_tup {xs : List D} : gTuple (.tup xs) = some (.tup xs) := rfl
@[simp] theorem gtu_lst {xs : List D} : gTuple (.lst xs) = some (.tup xs) := rfl
theorem bools_mapU : ∀ (bs : List Bool), bools (bs.map D.bl) = some bs
  | [] => rfl
  | b :: bs => by simp [bools, bools_mapU bs]
@[simp] theorem ga_map {bs : List Bool} : gAll (.lst (bs.map D.bl)) = some (.bl (bs.all id)) := by simp [gAll, bools_mapU]
@[simp] theorem gan_map {bs : List Bool} : gAny (.lst (bs.map D.bl)) = some (.bl (bs.any id)) := by simp [gAny, bools_mapU]
@[simp] theorem gint_i : gInt (.int m) = some (.int m) := rfl
@[simp] theorem gint_b : gInt (.bl p) = some (.int (if p then 1 else 0)) := rfl
@[simp] theorem gabs_i : gAbs (.int m) = some (.int (if m < 0 then -m else m)) := rfl
@[simp] theorem gmax_i : gMax2 (.int m) (.int n) = some (.int (if n > m then n else m)) := rfl
@[simp] theorem gmin_i : gMin2 (.int m) (.int n) = some (.int (if n < m then n else m)) := rfl
@[simp] theorem gix_t {xs : List D} : gIx (.tup xs) (.int m) = atI xs m := rfl
@[simp] theorem gix_l {xs : List D} : gIx (.lst xs) (.int m) = atI xs m := rfl
@[simp] theorem gix_f {xs : List D} : gIx (.fro xs) (.int m) = atI xs m := rfl
@[simp] theorem at0 {x : α} {xs : List α} : atI (x :: xs) 0 = some x := atI_nat (xs := x :: xs) 0 (by simp)
@[simp] theorem at1 {x y : α} {xs : List α} : atI (x :: y :: xs) 1 = some y := (atI_nat (xs := x :: y :: xs) 1 (by simp)).trans rfl
@[simp] theorem at2 {x y z : α} {xs : List α} : atI (x :: y :: z :: xs) 2 = some z := (atI_nat (xs := x :: y :: z :: xs) 2 (by simp)).trans rfl
@[simp] theorem at3 {x y z a : α} {xs : List α} : atI (x :: y :: z :: a :: xs) 3 = some a := (atI_nat (xs := x :: y :: z :: a :: xs) 3 (by simp)).trans rfl
@[simp] theorem at4 {x y z a b : α} {xs : List α} : atI (x :: y :: z :: a :: b :: xs) 4 = some b := (atI_nat (xs := x :: y :: z :: a :: b :: xs) 4 (by simp)).trans rfl
@[simp] theorem at5 {x y z a b c : α} {xs : List α} : atI (x :: y :: z :: a :: b :: c :: xs) 5 = some c := (atI_nat (xs := x :: y :: z :: a :: b :: c :: xs) 5 (by simp)).trans rfl
@[simp] theorem at6 {x y z a b c d : α} {xs : List α} : atI (x :: y :: z :: a :: b :: c :: d :: xs) 6 = some d := (atI_nat (xs := x :: y :: z :: a :: b :: c :: d :: xs) 6 (by simp)).trans rfl
@[simp] theorem at7 {x y z a b c d e : α} {xs : List α} : atI (x :: y :: z :: a :: b :: c :: d :: e :: xs) 7 = some e := (atI_nat (xs := x :: y :: z :: a :: b :: c :: d :: e :: xs) 7 (by simp)).trans rfl
theorem at_some {xs : List α} {k : Int} (h0 : 0 ≤ k) (h1 : k < xs.length) : ∃ d, xs[k.toNat]? = some d ∧ atI xs k = some d := by
  have hi : k.toNat < xs.length := by omega
  have := atI_nat (xs := xs) k.toNat hi
  rw [Int.toNat_of_nonneg h0] at this
  exact ⟨xs[k.toNat], List.getElem?_eq_getElem hi, by simp [this, List.getElem?_eq_getElem hi]⟩
@[simp] theorem gcat_l {xs ys : List D} : gCat (.lst xs) (.lst ys) = if xs.length + ys.length ≤ 16777216 then some (.lst (xs ++ ys)) else none := noRfl rfl trivial
@[simp] theorem gadd_i : gAdd (.int m) (.int n) = some (.int (m + n)) := rfl
@[simp] theorem gadd_t {xs ys : List D} : gAdd (.tup xs) (.tup ys) = if xs.length + ys.length ≤ 16777216 then some (.tup (xs ++ ys)) else none := noRfl rfl trivial
@[simp] theorem gadd_l {xs ys : List D} : gAdd (.lst xs) (.lst ys) = if xs.length + ys.length ≤ 16777216 then some (.lst (xs ++ ys)) else none := noRfl rfl trivial
@[simp] theorem gmul_i : gMul (.int m) (.int n) = if small64 m || small64 n then some (.int (m * n)) else none := noRfl rfl trivial
@[simp] theorem gmul_t {xs : List D} : gMul (.tup xs) (.int n) = if -1000 ≤ n ∧ n ≤ 1000 ∧ xs.length ≤ 1000 then some (.tup (List.replicate n.toNat xs).flatten) else none := noRfl rfl trivial
@[simp] theorem gmul_l {xs : List D} : gMul (.lst xs) (.int n) = if -1000000 ≤ n ∧ n ≤ 1000000 ∧ xs.length * n.toNat ≤ 16777216 then some (.lst (List.replicate n.toNat xs).flatten) else none := noRfl rfl trivial
@[simp] theorem gsl_t {xs : List D} {l h : Option Int} : gSl (.tup xs) l h = some (.tup (cutD xs l h)) := rfl
@[simp] theorem gsl_l {xs : List D} {l h : Option Int} : gSl (.lst xs) l h = some (.lst (cutD xs l h)) := rfl
@[simp] theorem gsl_f {xs : List D} {l h : Option Int} : gSl (.fro xs) l h = some (.lst (cutD xs l h)) := rfl
@[simp] theorem gsll_l {xs : List D} {l h : Option Int} : gSlL (.lst xs) l h = some (.lst (cutD xs l h)) := rfl
@[simp] theorem u_pn : upNone v = .ok none v := rfl
def partU (d : D) (v : PEnv) : UR (Option Int) := match d with
  | .int i => .ok (some i) v
  | _ => .stuck
@[simp] theorem partU_i : partU (.int m) v = .ok (some m) v := rfl
@[simp] theorem u_ps : upSome a v = (a v).bind partU := rfl
@[simp] theorem u_sl {g : D → Option Int → Option Int → Option D} {lo hi : UP} : uSl g a lo hi v = (a v).bind fun x v1 => (lo v1).bind fun l v2 => (hi v2).bind fun u v3 => .of (g x l u) v3 := rfl
@[simp] theorem u_slo {g : D → Option Int → Option Int → Option D} {lo hi : UP} : uSlo g i lo hi v = (uVar i v).bind fun _ v1 => (lo v1).bind fun l v2 => (hi v2).bind fun u v3 => (uVar i v3).bind fun x v4 => .of (g x l u) v4 := rfl
@[simp] theorem gk_i {t : Kd} : gIsi t (.int m) = some (.bl (Kd.int.isi t)) := rfl
@[simp] theorem gk_b {t : Kd} : gIsi t (.bl p) = some (.bl (Kd.bl.isi t)) := rfl
@[simp] theorem gk_s {t : Kd} {z : Str} : gIsi t (.str z) = some (.bl (Kd.str.isi t)) := rfl
@[simp] theorem gk_t {t : Kd} {xs : List D} : gIsi t (.tup xs) = some (.bl (Kd.tup.isi t)) := rfl
@[simp] theorem gk_l {t : Kd} {xs : List D} : gIsi t (.lst xs) = some (.bl (Kd.lst.isi t)) := rfl
@[simp] theorem gk_n {t : Kd} : gIsi t .non = some (.bl (Kd.non.isi t)) := rfl
def cntU (u : D) (r : UA) (v1 : PEnv) : UR D := match gSeq u with
  | some _ => (r v1).bind fun ys v2 => match ys with
    | [y] => .of (gCnt u y) v2
    | _ => .stuck
  | none => .stuck
@[simp] theorem u_cnt : uCnt a r v = (a v).bind fun u v1 => cntU u r v1 := rfl
/-! statements -/
@[simp] theorem uo_nx : (UO.nx v).thn s = s v := rfl
@[simp] theorem uo_rt : (UO.rt d v).thn s = .rt d v := rfl
@[simp] theorem uo_bk : (UO.bk v).thn s = .bk v := rfl
@[simp] theorem uo_ct : (UO.ct v).thn s = .ct v := rfl
@[simp] theorem uo_ex : (UO.exc d v).thn s = .exc d v := rfl
@[simp] theorem uo_st : UO.stuck.thn s = .stuck := rfl
@[simp] theorem u_seq : uSeq s s2 v = (s v).thn s2 := rfl
@[simp] theorem u_next : uNext v = .nx v := rfl
@[simp] theorem u_brk : uBreak v = .bk v := rfl
@[simp] theorem u_cont : uCont v = .ct v := rfl
@[simp] theorem u_stk : uStuck v = .stuck := rfl
def setU (o : Option PEnv) : UO := match o with
  | some v => .nx v
  | none => .stuck
@[simp] theorem setU_s : setU (some v) = .nx v := rfl
@[simp] theorem setU_n : setU none = .stuck := rfl
@[simp] theorem u_asg {g : TgM} : uAsg a g v = (a v).out fun d v1 => setU (g.set d v1) := rfl
@[simp] theorem u_par {is : List Nat} : uPar is r v = (r v).out fun xs v1 => if xs.length = is.length then .nx (setS v1 (is.zip xs)) else .stuck := rfl
@[simp] theorem set_nil : setS v [] = v := rfl
@[simp] theorem set_cons {e : Nat × D} {ps : List (Nat × D)} : setS v (e :: ps) = setS (v.set e.1 (some e.2)) ps := rfl
@[simp] theorem u_drop : uDrop a v = (a v).out fun _ v1 => .nx v1 := rfl
@[simp] theorem u_ret : uRet a v = (a v).out fun d v1 => .rt d v1 := rfl
@[simp] theorem u_retN : uRetN v = .rt .non v := rfl
@[simp] theorem u_sif : uSIf t s s2 v = (t v).out fun k v1 => pick k (s v1) (s2 v1) := rfl
@[simp] theorem u_for {g : TgM} {kill : List Nat} {ui : UI} : uFor ui g s kill v = (ui v).out fun ds v1 => uforL g s kill ds v1 := rfl
@[simp] theorem u_while {kill : List Nat} : uWhile t s kill v = uwhileL t s kill 1000000000000 v := rfl
def subU (i : Nat) (d y : D) (v3 : PEnv) : UO := (uOwn i v3).out fun xs v4 => match y with
  | .int k => match ixN xs.length k with
    | some j => .nx (v4.set i (some (.lst (xs.set j d))))
    | none => .stuck
  | _ => .stuck
@[simp] theorem u_sub : uSub a i b v = (a v).out fun d v1 => (uOwn i v1).out fun _ v2 => (b v2).out fun y v3 => subU i d y v3 := rfl
@[simp] theorem subU_i : subU i d (.int m) v = (uOwn i v).out fun xs v4 => match ixN xs.length m with
    | some j => .nx (v4.set i (some (.lst (xs.set j d))))
    | none => .stuck := rfl
@[simp] theorem u_src : uSrc a v = (a v).bind fun u v1 => .of (gSeq u) v1 := rfl
def r1U (y : D) (v1 : PEnv) : UR (List D) := match y with
  | .int hi => if -(2 ^ 60) ≤ hi ∧ hi ≤ 2 ^ 60 then .ok (rngD 0 hi) v1 else .stuck
  | _ => .stuck
@[simp] theorem u_r1 : uR1 a v = (a v).bind r1U := rfl
@[simp] theorem r1U_i : r1U (.int m) v = if -(2 ^ 60) ≤ m ∧ m ≤ 2 ^ 60 then .ok (rngD 0 m) v else .stuck := noRfl rfl trivial
def r2U (x y : D) (v2 : PEnv) : UR (List D) := match x, y with
  | .int lo, .int hi => if (-(2 ^ 60) ≤ lo ∧ lo ≤ 2 ^ 60) ∧ -(2 ^ 60) ≤ hi ∧ hi ≤ 2 ^ 60 then .ok (rngD lo hi) v2 else .stuck
  | _, _ => .stuck
@[simp] theorem u_r2 : uR2 a b v = (a v).bind fun x v1 => (b v1).bind fun y v2 => r2U x y v2 := rfl
@[simp] theorem r2U_i : r2U (.int m) (.int n) v = if (-(2 ^ 60) ≤ m ∧ m ≤ 2 ^ 60) ∧ -(2 ^ 60) ≤ n ∧ n ≤ 2 ^ 60 then .ok (rngD m n) v else .stuck := noRfl rfl trivial
@[simp] theorem u_enu : uEnu a v = (a v).bind fun u v1 => .of ((gSeq u).map enuD) v1 := rfl
def zip2U (x y : D) (v : PEnv) : UR (List D) := match gSeq x, gSeq y with
  | some xs, some ys => .ok (zip2D xs ys) v
  | _, _ => .stuck
def zip3U (x y z : D) (v : PEnv) : UR (List D) := match gSeq x, gSeq y, gSeq z with
  | some xs, some ys, some zs => .ok (zip3D xs ys zs) v
  | _, _, _ => .stuck
theorem zip2U_ok {xs ys : List D} (e1 : gSeq x = some xs) (e2 : gSeq y = some ys) : zip2U x y v = .ok (zip2D xs ys) v := by unfold zip2U; rw [e1, e2]
theorem zip3U_ok {xs ys zs : List D} (e1 : gSeq x = some xs) (e2 : gSeq y = some ys) (e3 : gSeq z = some zs) : zip3U x y z v = .ok (zip3D xs ys zs) v := by unfold zip3U; rw [e1, e2, e3]
@[simp] theorem z2_tt {xs ys : List D} : zip2U (.tup xs) (.tup ys) v = .ok (zip2D xs ys) v := rfl
@[simp] theorem z2_tl {xs ys : List D} : zip2U (.tup xs) (.lst ys) v = .ok (zip2D xs ys) v := rfl
@[simp] theorem z2_lt {xs ys : List D} : zip2U (.lst xs) (.tup ys) v = .ok (zip2D xs ys) v := rfl
@[simp] theorem z2_ll {xs ys : List D} : zip2U (.lst xs) (.lst ys) v = .ok (zip2D xs ys) v := rfl
@[simp] theorem z3_ttt {xs ys zs : List D} : zip3U (.tup xs) (.tup ys) (.tup zs) v = .ok (zip3D xs ys zs) v := rfl
@[simp] theorem u_z2 : uZip2 a b v = (a v).bind fun x v1 => (b v1).bind fun y v2 => zip2U x y v2 := rfl
@[simp] theorem u_z3 : uZip3 a b c v = (a v).bind fun x v1 => (b v1).bind fun y v2 => (c v2).bind fun z v3 => zip3U x y z v3 := rfl
@[simp] theorem u_lc {ui : UI} {g : TgM} {own : List Nat} : uLc ui g t a own v = (ui v).bind fun ds v1 => ulcL g t a own ds [] (wipeE v1 own) := rfl
@[simp] theorem u_lc2 {ui u1 : UI} {g g1 : TgM} {own own1 : List Nat} : uLc2 ui g t u1 g1 t2 a own own1 v = (ui v).bind fun ds v1 => ulc2L g t u1 g1 t2 a own own1 ds [] (wipeE v1 own) := rfl
/-! defs -/
def retP (fr : Bool) (o : UO) : UX := match o with
  | .nx _ => match fr with
    | true => .stuck
    | false => .ok .non
  | .rt d _ => .ok d
  | .exc e _ => .exc e
  | _ => .stuck
@[simp] theorem retP_rt {fr : Bool} : retP fr (.rt d v) = .ok d := rfl
@[simp] theorem retP_nx : retP false (.nx v) = .ok .non := rfl
@[simp] theorem retP_ex {fr : Bool} : retP fr (.exc d v) = .exc d := rfl
@[simp] theorem run_p {fr : Bool} {np ns : Nat} {as : List D} : uRunP fr np ns s as = if as.length = np then retP fr (s (as.map some ++ List.replicate (ns - np) none)) else .stuck := by
  unfold uRunP
  split
  · cases s (as.map some ++ List.replicate (ns - np) none) <;> rfl
  · rfl
def retM (fr : Bool) (o : UO) : UM := match o with
  | .nx v => match stateOf v with
    | some t => match fr with
      | true => .stuck
      | false => .ok .non t
    | none => .stuck
  | .rt d v => match stateOf v with
    | some t => .ok d t
    | none => .stuck
  | .exc e v => match stateOf v with
    | some t => .exc e t
    | none => .stuck
  | _ => .stuck
@[simp] theorem retM_rt {fr : Bool} {xs : List D} : retM fr (.rt d (some (.lst xs) :: v)) = .ok d xs := rfl
@[simp] theorem retM_nx {xs : List D} : retM false (.nx (some (.lst xs) :: v)) = .ok .non xs := rfl
@[simp] theorem retM_ex {fr : Bool} {xs : List D} : retM fr (.exc d (some (.lst xs) :: v)) = .exc d xs := rfl
@[simp] theorem run_m {fr : Bool} {np ns : Nat} {as st : List D} : uRunM fr np ns s st as = if as.length + 1 = np then retM fr (s (some (.lst st) :: as.map some ++ List.replicate (ns - np) none)) else .stuck := by
  unfold uRunM
  split
  · cases s (some (.lst st) :: as.map some ++ List.replicate (ns - np) none) <;> rfl
  · rfl
/-! loops -/
/-- a for whose body goes on at each turn -/
theorem ufor_inv {g : TgM} {kill : List Nat} {us : List D} (I : Nat → PEnv → Prop) (h0 : I 0 v)
    (hs : ∀ (i : Nat) d v, us[i]? = some d → I i v → ∃ v1, g.set d (wipeE v kill) = some v1 ∧ ∃ v2, (s v1 = .nx v2 ∨ s v1 = .ct v2) ∧ I (i + 1) v2) :
    ∃ v2, uforL g s kill us v = .nx (wipeE v2 kill) ∧ I us.length v2 := by
  have key : ∀ (ds : List D) (i : Nat) (v : PEnv), us.drop i = ds → i + ds.length = us.length → I i v → ∃ v2, uforL g s kill ds v = .nx (wipeE v2 kill) ∧ I us.length v2 := by
    intro ds
    induction ds with
    | nil =>
      intro i v _ el q
      have ei : i = us.length := by simpa using el
      subst ei
      exact ⟨v, by rw [uforL], q⟩
    | cons d ds ih =>
      intro i v e0 el q
      have hi : i < us.length := by rw [List.length_cons] at el; omega
      rw [List.drop_eq_getElem_cons hi] at e0
      injection e0 with e1 e2
      obtain ⟨v1, g1, v2, g2, q4⟩ := hs i d v (by rw [List.getElem?_eq_getElem hi, e1]) q
      obtain ⟨v3, g5, q5⟩ := ih (i + 1) v2 e2 (by rw [List.length_cons] at el; omega) q4
      refine ⟨v3, ?_, q5⟩
      rw [uforL, g1]
      rcases g2 with g2 | g2 <;> simp only [g2] <;> exact g5
  exact key us 0 v rfl (by omega) h0
/-- a for whose env, less what is killed, is told by a fold -/
theorem ufor_fold {γ : Type} {g : TgM} {kill : List Nat} {us : List D} {f : γ → D → γ} {E : γ → PEnv} {a : γ}
    (hs : ∀ a d, d ∈ us → ∃ v1, g.set d (E a) = some v1 ∧ ∃ v2, (s v1 = .nx v2 ∨ s v1 = .ct v2) ∧ wipeE v2 kill = E (f a d)) (hv : wipeE v kill = E a) :
    uforL g s kill us v = .nx (E (us.foldl f a)) := by
  induction us generalizing v a with
  | nil => rw [uforL, hv]; rfl
  | cons d ds ih =>
    obtain ⟨v1, g1, v2, g2, q⟩ := hs a d (List.mem_cons_self ..)
    rw [uforL, hv, g1]
    have := ih (fun a d m => hs a d (List.mem_cons_of_mem _ m)) q
    rcases g2 with g2 | g2 <;> simp only [g2] <;> exact this
@[simp] theorem ulc_nil {g : TgM} {own : List Nat} {acc : List D} : ulcL g t a own [] acc v = .ok acc v := by rw [ulcL]
@[simp] theorem ulc2_nil {g g1 : TgM} {own own1 : List Nat} {acc : List D} {u1 : UI} : ulc2L g t u1 g1 t2 a own own1 [] acc v = .ok acc v := by rw [ulc2L]
theorem ulc_cons {g : TgM} {own : List Nat} {acc ds : List D} : ulcL g t a own (d :: ds) acc v = match g.set d v with
    | none => .stuck
    | some v1 => (t v1).calm.bind fun k v2 => pick k ((a v2).calm.bind fun y v3 => if acc.length < 16777216 then ulcL g t a own ds (acc ++ [y]) (wipeE v3 own) else .stuck) (ulcL g t a own ds acc (wipeE v2 own)) := by
  rw [ulcL]
  cases g.set d v with
  | none => rfl
  | some v1 =>
    simp only
    congr 1
    funext k v2
    cases k <;> rfl
@[simp] theorem calm_ok {e : α} : (UR.ok e v).calm = .ok e v := rfl
@[simp] theorem calm_st : (UR.stuck : UR α).calm = .stuck := rfl
/-- a comprehension that writes nothing: a map with a filter -/
theorem ulc_pure {g : TgM} {own : List Nat} (p : D → Bool) (f : D → D) : ∀ {us acc : List D}, (acc.length + us.length ≤ 16777216) → (∀ d ∈ us, ∃ v1, g.set d v = some v1 ∧ t v1 = .ok (p d) v1 ∧ (p d = true → a v1 = .ok (f d) v1) ∧ wipeE v1 own = v) → ulcL g t a own us acc v = .ok (acc ++ (us.filter p).map f) v
  | [], acc, hn, hs => by rw [ulc_nil]; simp
  | d :: us, acc, hn, hs => by
    obtain ⟨v1, e1, e2, e3, e4⟩ := hs d (List.mem_cons_self ..)
    rw [List.length_cons] at hn
    rw [ulc_cons, e1]
    simp only [e2, calm_ok, UR.bind_ok]
    cases hp : p d with
    | false =>
      rw [pick_f, e4, ulc_pure p f (by omega) fun d m => hs d (List.mem_cons_of_mem _ m), List.filter_cons_of_neg (by simp [hp])]
    | true =>
      rw [pick_t, e3 hp]
      simp only [calm_ok, UR.bind_ok]
      rw [if_pos (by omega), e4, ulc_pure p f (by simp; omega) fun d m => hs d (List.mem_cons_of_mem _ m), List.filter_cons_of_pos hp]
      simp
theorem ulc_map {g : TgM} {own : List Nat} (f : D → D) {us : List D} (hn : us.length ≤ 16777216) (hs : ∀ d ∈ us, ∃ v1, g.set d v = some v1 ∧ a v1 = .ok (f d) v1 ∧ wipeE v1 own = v) : ulcL g uTYes a own us [] v = .ok (us.map f) v := by
  rw [ulc_pure (fun _ => true) f (by simpa using hn) fun d m => by obtain ⟨v1, e1, e2, e3⟩ := hs d m; exact ⟨v1, e1, rfl, fun _ => e2, e3⟩]
  rw [List.filter_eq_self.mpr (fun _ _ => rfl), List.nil_append]
/-- .. that writes: item by item -/
theorem ulc_inv {g : TgM} {own : List Nat} {us : List D} (I : Nat → List D → PEnv → Prop) (h0 : I 0 [] v) (hn : us.length ≤ 16777216)
    (hs : ∀ (i : Nat) acc d v, us[i]? = some d → I i acc v → ∃ v1, g.set d v = some v1 ∧ ∃ k v2, t v1 = .ok k v2 ∧ ((k = false ∧ I (i + 1) acc (wipeE v2 own)) ∨ (k = true ∧ ∃ y v3, a v2 = .ok y v3 ∧ I (i + 1) (acc ++ [y]) (wipeE v3 own)))) :
    ∃ acc v', ulcL g t a own us [] v = .ok acc v' ∧ I us.length acc v' := by
  have key : ∀ (ds : List D) (i : Nat) (acc : List D) (v : PEnv), us.drop i = ds → i + ds.length = us.length → acc.length ≤ i → I i acc v → ∃ acc' v', ulcL g t a own ds acc v = .ok acc' v' ∧ I us.length acc' v' := by
    intro ds
    induction ds with
    | nil =>
      intro i acc v _ el _ q
      have ei : i = us.length := by simpa using el
      subst ei
      exact ⟨acc, v, ulc_nil, q⟩
    | cons d ds ih =>
      intro i acc v e0 el ea q
      have hi : i < us.length := by rw [List.length_cons] at el; omega
      rw [List.drop_eq_getElem_cons hi] at e0
      injection e0 with e1 e2
      obtain ⟨v1, g1, k, v2, g2, g3⟩ := hs i acc d v (by rw [List.getElem?_eq_getElem hi, e1]) q
      rw [ulc_cons, g1]
      simp only [g2, calm_ok, UR.bind_ok]
      rcases g3 with ⟨rfl, q3⟩ | ⟨rfl, y, v3, g4, q3⟩
      · exact ih (i + 1) acc _ e2 (by rw [List.length_cons] at el; omega) (by omega) q3
      · simp only [pick_t, g4, calm_ok, UR.bind_ok]
        rw [if_pos (by omega)]
        exact ih (i + 1) (acc ++ [y]) _ e2 (by rw [List.length_cons] at el; omega) (by simp; omega) q3
  exact key us 0 [] v rfl (by omega) (Nat.zero_le _) h0
theorem ulc2_cons {g g1 : TgM} {own own1 : List Nat} {acc ds : List D} {u1 : UI} : ulc2L g t u1 g1 t2 a own own1 (d :: ds) acc v = match g.set d v with
    | none => .stuck
    | some v1 => (t v1).calm.bind fun k v2 => pick k ((u1 v2).calm.bind fun us v3 => (ulcL g1 t2 a own1 us acc (wipeE v3 own1)).calm.bind fun acc' v4 => ulc2L g t u1 g1 t2 a own own1 ds acc' (wipeE v4 own)) (ulc2L g t u1 g1 t2 a own own1 ds acc (wipeE v2 own)) := by
  rw [ulc2L]
  cases g.set d v with
  | none => rfl
  | some v1 =>
    simp only
    congr 1
    funext k v2
    cases k <;> rfl
/-- two generators, nothing written: flatMap -/
theorem ulc2_pure {g g1 : TgM} {own own1 : List Nat} {u1 : UI} (its : D → List D) (f : D → D → D) (p : D → D → Bool) : ∀ {us acc : List D}, acc.length + (us.map fun d => (its d).length).sum ≤ 16777216 →
    (∀ d ∈ us, ∃ v1, g.set d v = some v1 ∧ u1 v1 = .ok (its d) v1 ∧ wipeE (wipeE v1 own1) own = v ∧ ∀ o ∈ its d, ∃ v3, g1.set o (wipeE v1 own1) = some v3 ∧ t2 v3 = .ok (p d o) v3 ∧ (p d o = true → a v3 = .ok (f d o) v3) ∧ wipeE v3 own1 = wipeE v1 own1) →
    ulc2L g uTYes u1 g1 t2 a own own1 us acc v = .ok (acc ++ us.flatMap fun d => ((its d).filter (p d)).map (f d)) v
  | [], acc, hn, hs => by simp
  | d :: us, acc, hn, hs => by
    obtain ⟨v1, e1, e2, e3, e4⟩ := hs d (List.mem_cons_self ..)
    simp only [List.map_cons, List.sum_cons] at hn
    rw [ulc2_cons, e1]
    simp only [u_yes, calm_ok, UR.bind_ok, pick_t, e2]
    rw [ulc_pure (p d) (f d) (by omega) e4]
    simp only [calm_ok, UR.bind_ok, e3]
    have hl : (((its d).filter (p d)).map (f d)).length ≤ (its d).length := by rw [List.length_map]; exact List.length_filter_le ..
    rw [ulc2_pure its f p (by rw [List.length_append]; omega) fun d m => hs d (List.mem_cons_of_mem _ m)]
    simp
end
end Gb

/-! GuV: loops that draw -/
namespace Gb
open PySem L2
/-- item by item -/
def All2 (P : D → D → Prop) : List D → List D → Prop
  | [], ys => ys = []
  | x :: xs, ys => ∃ y r, ys = y :: r ∧ P x y ∧ All2 P xs r
theorem All2.len {P : D → D → Prop} : ∀ {xs ys : List D}, All2 P xs ys → ys.length = xs.length
  | [], ys, q => by rw [All2] at q; rw [q]
  | x :: xs, ys, q => by
    rw [All2] at q
    obtain ⟨y, r, rfl, _, q⟩ := q
    simp [q.len]
theorem All2.mem {P : D → D → Prop} {Q : D → Prop} (h : ∀ x y, P x y → Q y) : ∀ {xs ys : List D}, All2 P xs ys → ∀ y ∈ ys, Q y
  | [], ys, q, y, m => by rw [All2] at q; subst q; cases m
  | x :: xs, ys, q, y, m => by
    rw [All2] at q
    obtain ⟨y', r, rfl, p, q⟩ := q
    rcases List.mem_cons.mp m with rfl | m
    · exact h _ _ p
    · exact q.mem h y m
section
variable {σ : Type} {v : PEnv} {t : UT} {a : UE} {s : US}
theorem ulc_draw {g : TgM} {own : List Nat} {E : σ → PEnv} (P : D → D → Prop) {k : σ} : ∀ {us acc : List D}, acc.length + us.length ≤ 16777216 →
    (∀ k d, d ∈ us → ∃ v1, g.set d (E k) = some v1 ∧ ∃ y v2 l, a v1 = .ok y v2 ∧ wipeE v2 own = E l ∧ P d y) →
    ∃ ys l, ulcL g uTYes a own us acc (E k) = .ok (acc ++ ys) (E l) ∧ All2 P us ys
  | [], acc, hn, hs => ⟨[], k, by rw [ulc_nil]; simp, rfl⟩
  | d :: us, acc, hn, hs => by
    obtain ⟨v1, e1, y, v2, l, e2, e3, p⟩ := hs k d (List.mem_cons_self ..)
    rw [List.length_cons] at hn
    obtain ⟨ys, l', e4, q⟩ := ulc_draw (k := l) (acc := acc ++ [y]) P (by simp; omega) fun k d m => hs k d (List.mem_cons_of_mem _ m)
    refine ⟨y :: ys, l', ?_, y, ys, rfl, p, q⟩
    rw [ulc_cons, e1]
    simp only [u_yes, calm_ok, UR.bind_ok, pick_t, e2]
    rw [if_pos (by omega), e3, e4]
    simp
/-- a for that makes a list -/
theorem ufor_draw {g : TgM} {kill : List Nat} {E : σ → List D → PEnv} (P : D → D → Prop) : ∀ {us acc : List D} {k : σ} {v : PEnv}, wipeE v kill = E k acc →
    (∀ k acc' d, d ∈ us → acc'.length < acc.length + us.length → ∃ v1, g.set d (E k acc') = some v1 ∧ ∃ y v2 l, (s v1 = .nx v2 ∨ s v1 = .ct v2) ∧ wipeE v2 kill = E l (acc' ++ [y]) ∧ P d y) →
    ∃ ys l, uforL g s kill us v = .nx (E l (acc ++ ys)) ∧ All2 P us ys
  | [], acc, k, v, hv, hs => ⟨[], k, by rw [uforL, hv]; simp, rfl⟩
  | d :: us, acc, k, v, hv, hs => by
    obtain ⟨v1, e1, y, v2, l, e2, e3, p⟩ := hs k acc d (List.mem_cons_self ..) (by simp)
    obtain ⟨ys, l', e4, q⟩ := ufor_draw (k := l) (acc := acc ++ [y]) P e3 fun k acc' d m h => hs k acc' d (List.mem_cons_of_mem _ m) (by simp at h ⊢; omega)
    refine ⟨y :: ys, l', ?_, y, ys, rfl, p, q⟩
    rw [uforL, hv, e1]
    rcases e2 with e2 | e2 <;> simp only [e2] <;> rw [e4] <;> simp
/-- a for that goes on, whatever is drawn -/
theorem ufor_go {g : TgM} {kill : List Nat} {E : σ → PEnv} : ∀ {us : List D} {k : σ} {v : PEnv}, wipeE v kill = E k →
    (∀ k d, d ∈ us → ∃ v1, g.set d (E k) = some v1 ∧ ∃ v2 l, (s v1 = .nx v2 ∨ s v1 = .ct v2) ∧ wipeE v2 kill = E l) →
    ∃ l, uforL g s kill us v = .nx (E l)
  | [], k, v, hv, hs => ⟨k, by rw [uforL, hv]⟩
  | d :: us, k, v, hv, hs => by
    obtain ⟨v1, e1, v2, l, e2, e3⟩ := hs k d (List.mem_cons_self ..)
    obtain ⟨l', e4⟩ := ufor_go e3 fun k d m => hs k d (List.mem_cons_of_mem _ m)
    refine ⟨l', ?_⟩
    rw [uforL, hv, e1]
    rcases e2 with e2 | e2 <;> simp only [e2] <;> exact e4
end
theorem rngD_len {lo hi : Int} : (rngD lo hi).length = (hi - lo).toNat := by simp [rngD]
theorem rngD_mem {lo hi : Int} {d : D} (m : d ∈ rngD lo hi) : ∃ i, d = .int i ∧ lo ≤ i ∧ i < hi := by
  obtain ⟨j, hj, rfl⟩ := List.mem_map.mp m
  have := List.mem_range.mp hj
  exact ⟨_, rfl, by omega, by omega⟩
@[simp] theorem kd_non_int : Kd.isi .non .int = false := rfl
@[simp] theorem kd_non_bl : Kd.isi .non .bl = false := rfl
@[simp] theorem kd_non_str : Kd.isi .non .str = false := rfl
@[simp] theorem kd_non_tup : Kd.isi .non .tup = false := rfl
@[simp] theorem kd_non_lst : Kd.isi .non .lst = false := rfl
@[simp] theorem kd_non_dct : Kd.isi .non .dct = false := rfl
@[simp] theorem kd_bl_int : Kd.isi .bl .int = true := rfl
@[simp] theorem kd_bl_bl : Kd.isi .bl .bl = true := rfl
@[simp] theorem kd_bl_str : Kd.isi .bl .str = false := rfl
@[simp] theorem kd_bl_tup : Kd.isi .bl .tup = false := rfl
@[simp] theorem kd_bl_lst : Kd.isi .bl .lst = false := rfl
@[simp] theorem kd_bl_dct : Kd.isi .bl .dct = false := rfl
@[simp] theorem kd_int_int : Kd.isi .int .int = true := rfl
@[simp] theorem kd_int_bl : Kd.isi .int .bl = false := rfl
@[simp] theorem kd_int_str : Kd.isi .int .str = false := rfl
@[simp] theorem kd_int_tup : Kd.isi .int .tup = false := rfl
@[simp] theorem kd_int_lst : Kd.isi .int .lst = false := rfl
@[simp] theorem kd_int_dct : Kd.isi .int .dct = false := rfl
@[simp] theorem kd_str_int : Kd.isi .str .int = false := rfl
@[simp] theorem kd_str_bl : Kd.isi .str .bl = false := rfl
@[simp] theorem kd_str_str : Kd.isi .str .str = true := rfl
@[simp] theorem kd_str_tup : Kd.isi .str .tup = false := rfl
@[simp] theorem kd_str_lst : Kd.isi .str .lst = false := rfl
@[simp] theorem kd_str_dct : Kd.isi .str .dct = false := rfl
@[simp] theorem kd_tup_int : Kd.isi .tup .int = false := rfl
@[simp] theorem kd_tup_bl : Kd.isi .tup .bl = false := rfl
@[simp] theorem kd_tup_str : Kd.isi .tup .str = false := rfl
@[simp] theorem kd_tup_tup : Kd.isi .tup .tup = true := rfl
@[simp] theorem kd_tup_lst : Kd.isi .tup .lst = false := rfl
@[simp] theorem kd_tup_dct : Kd.isi .tup .dct = false := rfl
@[simp] theorem kd_lst_int : Kd.isi .lst .int = false := rfl
@[simp] theorem kd_lst_bl : Kd.isi .lst .bl = false := rfl
@[simp] theorem kd_lst_str : Kd.isi .lst .str = false := rfl
@[simp] theorem kd_lst_tup : Kd.isi .lst .tup = false := rfl
@[simp] theorem kd_lst_lst : Kd.isi .lst .lst = true := rfl
@[simp] theorem kd_lst_dct : Kd.isi .lst .dct = false := rfl
@[simp] theorem ga_mapf {α : Type} {xs : List α} {f : α → Bool} : gAll (.lst (xs.map fun d => D.bl (f d))) = some (.bl (xs.all f)) := by
  rw [show (xs.map fun d => D.bl (f d)) = (xs.map f).map D.bl by rw [List.map_map]; rfl, ga_map]
  simp [Function.comp_def]
@[simp] theorem gany_mapf {α : Type} {xs : List α} {f : α → Bool} : gAny (.lst (xs.map fun d => D.bl (f d))) = some (.bl (xs.any f)) := by
  rw [show (xs.map fun d => D.bl (f d)) = (xs.map f).map D.bl by rw [List.map_map]; rfl, gan_map]
  simp [Function.comp_def]
@[simp] theorem geq_i {k : Bool → Bool} {i j : Int} : gEq k (.int i) (.int j) = some (.bl (k (decide (i = j)))) := by
  unfold gEq
  simp only [D.dep, pyU, PyData.eqv]
  rw [if_pos (by decide)]
  rfl
theorem mem_zipWith {α β γ : Type} {f : α → β → γ} : ∀ {xs : List α} {ys : List β} {z : γ}, z ∈ List.zipWith f xs ys → ∃ x y, x ∈ xs ∧ y ∈ ys ∧ z = f x y
  | [], _, z, m => by simp at m
  | x :: xs, [], z, m => by simp at m
  | x :: xs, y :: ys, z, m => by
    rw [List.zipWith_cons_cons] at m
    rcases List.mem_cons.mp m with rfl | m
    · exact ⟨x, y, by simp, by simp, rfl⟩
    · obtain ⟨x', y', a, b, c⟩ := mem_zipWith m
      exact ⟨x', y', by simp [a], by simp [b], c⟩
end Gb

/-! GuR: repr, and == of what it tells -/
namespace Gb
open PySem L2 PyProof.Rows
mutual
/-- no long numbers, no dicts -/
def D.tiny : D → Bool
  | .non => true
  | .bl _ => true
  | .int i => decide (-1000000000000 < i) && decide (i < 1000000000000)
  | .str x => x.cps.toList.all fun c => decide (c < 16 ^ 8)
  | .tup xs => D.tinyL xs
  | .lst xs => D.tinyL xs
  | _ => false
def D.tinyL : List D → Bool
  | [] => true
  | x :: xs => x.tiny && D.tinyL xs
end
mutual
def D.blk : D → Nat
  | .str x => x.cps.size
  | .tup xs => D.blkL xs
  | .lst xs => D.blkL xs
  | _ => 0
def D.blkL : List D → Nat
  | [] => 0
  | x :: xs => x.blk + 1 + D.blkL xs
end
theorem int_len {i : Int} (h0 : -1000000000000 < i) (h1 : i < 1000000000000) : (PyData.shown (.int i)).length ≤ 13 := by
  exact PyData.shown_int_le2 (by omega) (by omega)
mutual
theorem tiny_short : ∀ u : D, u.tiny = true → (pyU u).leavesShort 13 = true ∧ (pyU u).showable = true ∧ (pyU u).hasDict = false ∧ (pyU u).bulk = u.blk
  | .non, _ => ⟨rfl, rfl, rfl, rfl⟩
  | .bl b, _ => ⟨rfl, rfl, rfl, rfl⟩
  | .int i, h => by
    simp only [D.tiny, Bool.and_eq_true, decide_eq_true_eq] at h
    refine ⟨decide_eq_true (int_len h.1 h.2), decide_eq_true ?_, rfl, rfl⟩
    have : i.natAbs < 2 ^ 40 := by omega
    by_cases hz : i.natAbs = 0
    · rw [hz]; decide
    · have := (Nat.log2_lt hz).mpr this
      omega
  | .str x, h => ⟨h, rfl, rfl, rfl⟩
  | .tup xs, h => by
    obtain ⟨a, b, c, d⟩ := tiny_shortL xs h
    exact ⟨a, b, c, d⟩
  | .lst xs, h => by
    obtain ⟨a, b, c, d⟩ := tiny_shortL xs h
    exact ⟨a, b, c, d⟩
  | .ref _, h => by cases h
  | .fro _, h => by cases h
  | .dct _ _, h => by cases h
  | .map _, h => by cases h
theorem tiny_shortL : ∀ us : List D, D.tinyL us = true → PyData.leavesShortAll 13 (pyL us) = true ∧ PyData.showableAll (pyL us) = true ∧ PyData.hasDictAll (pyL us) = false ∧ PyData.bulkAll (pyL us) = D.blkL us
  | [], _ => ⟨rfl, rfl, rfl, rfl⟩
  | u :: us, h => by
    rw [D.tinyL, Bool.and_eq_true] at h
    obtain ⟨a, b, c, d⟩ := tiny_short u h.1
    obtain ⟨a', b', c', d'⟩ := tiny_shortL us h.2
    simp only [pyL, PyData.leavesShortAll, PyData.showableAll, PyData.hasDictAll, PyData.bulkAll, D.blkL, a, b, c, d, a', b', c', d', Bool.and_self, Bool.or_self, and_self]
end
/-- small: so deep at most, so many parts at most -/
structure Sm (k n : Nat) (u : D) : Prop where
  t : u.tiny = true
  d : u.dep ≤ k
  b : u.blk ≤ n
structure SmL (k n : Nat) (us : List D) : Prop where
  t : D.tinyL us = true
  d : D.depL us ≤ k
  b : D.blkL us ≤ n
section
variable {k n m : Nat} {u : D} {us : List D}
theorem Sm.tup (h : SmL k n us) : Sm (k + 1) n (.tup us) := ⟨h.t, by simp only [D.dep]; have := h.d; omega, h.b⟩
theorem Sm.lst (h : SmL k n us) : Sm (k + 1) n (.lst us) := ⟨h.t, by simp only [D.dep]; have := h.d; omega, h.b⟩
theorem Sm.int {i : Int} (h0 : -1000000000000 < i) (h1 : i < 1000000000000) : Sm 1 0 (.int i) := ⟨by simp [D.tiny, h0, h1], by simp [D.dep], by simp [D.blk]⟩
theorem Sm.bl {b : Bool} : Sm 1 0 (.bl b) := ⟨rfl, by simp [D.dep], by simp [D.blk]⟩
theorem Sm.non : Sm 1 0 .non := ⟨rfl, by simp [D.dep], by simp [D.blk]⟩
theorem Sm.le {k' n' : Nat} (h : Sm k n u) (hk : k ≤ k') (hn : n ≤ n') : Sm k' n' u := ⟨h.t, Nat.le_trans h.d hk, Nat.le_trans h.b hn⟩
theorem SmL.le {k' n' : Nat} (h : SmL k n us) (hk : k ≤ k') (hn : n ≤ n') : SmL k' n' us := ⟨h.t, Nat.le_trans h.d hk, Nat.le_trans h.b hn⟩
theorem SmL.nil : SmL k 0 [] := ⟨rfl, by simp [D.depL], by simp [D.blkL]⟩
theorem SmL.cons (h : Sm k n u) (hs : SmL k m us) : SmL k (n + 1 + m) (u :: us) := by
  refine ⟨by rw [D.tinyL, h.t, hs.t]; rfl, ?_, ?_⟩
  · have := h.d; have := hs.d; simp only [D.depL]; omega
  · have := h.b; have := hs.b; simp only [D.blkL]; omega
theorem SmL.all : ∀ {us : List D}, (∀ u ∈ us, Sm k n u) → SmL k (us.length * (n + 1)) us
  | [], _ => SmL.nil.le (Nat.le_refl _) (by simp)
  | u :: us, h => (SmL.cons (h u (List.mem_cons_self ..)) (SmL.all fun v m => h v (List.mem_cons_of_mem _ m))).le (Nat.le_refl _) (by rw [List.length_cons, Nat.succ_mul]; omega)
theorem SmL.ints {ns : List Int} (h : ∀ i ∈ ns, -1000000000000 < i ∧ i < 1000000000000) : SmL 1 ns.length (ns.map D.int) :=
  (SmL.all (k := 1) (n := 0) fun u m => by obtain ⟨i, mi, rfl⟩ := List.mem_map.mp m; exact .int (h i mi).1 (h i mi).2).le (Nat.le_refl _) (by simp)
theorem e_repr (h : Sm 60 n u) (hn : n ≤ 1000000) (hs : (gSeq u).isSome = true) : gRepr u = some (.str (pyU u).shown) := by
  obtain ⟨a, b, c, d⟩ := tiny_short u h.t
  have l := PyData.shown_le_bulk 13 (by decide) (pyU u) a
  have := h.b
  unfold gRepr
  rw [if_pos ⟨hs, h.d, by rw [b, c]; rfl, by omega⟩]
theorem e_reprT (h : SmL 59 n us) (hn : n ≤ 1000000) : gRepr (.tup us) = some (.str (pyU (.tup us)).shown) := e_repr (Sm.tup h) hn rfl
theorem e_reprL (h : SmL 59 n us) (hn : n ≤ 1000000) : gRepr (.lst us) = some (.str (pyU (.lst us)).shown) := e_repr (Sm.lst h) hn rfl
end
theorem geq_s {k : Bool → Bool} {a b : Str} : gEq k (.str a) (.str b) = some (.bl (k (PyData.eqv (.str a) (.str b)))) := by
  unfold gEq
  rw [if_pos ⟨by simp [D.dep], by simp [D.dep]⟩]
  simp only [pyU]
@[simp] theorem eqv_same {a : Str} : PyData.eqv (.str a) (.str a) = true := by
  simp [PyData.eqv]
@[simp] theorem geq_ss {k : Bool → Bool} {a : Str} : gEq k (.str a) (.str a) = some (.bl (k true)) := by
  rw [geq_s, eqv_same]
end Gb

/-! GuP: sum, max, min of ints; extend; range with a step -/
namespace Gb
open PySem L2
section
variable {S : Sx} {X : List Nat} {a b c : ME} {va vb vc : UE} {m : MA} {w : UA} {mo mp : MO} {i : Nat}
def gInts1 (f : List Int → Option Int) : D → Option D := fun u => ((gItems u).bind intsOf).bind fun ns => (f ns).map D.int
def sumO : List Int → Option Int := fun ns => some ns.sum
def maxO : List Int → Option Int := fun ns => match ns with | [] => none | n :: ns => some (maxI (n :: ns))
def minO : List Int → Option Int := fun ns => match ns with | [] => none | n :: ns => some (minI (n :: ns))
theorem ints1_den {L : Nat → Prop} {h : PHeap} {u z : D} {x : LV} {f : List Int → Option Int} (q : DenW L h u x) (e : gInts1 f u = some z) : ∃ xs ns k, x.items h = some xs ∧ intsOf xs = some ns ∧ f ns = some k ∧ z = .int k := by
  unfold gInts1 at e
  cases e1 : gItems u with
  | none => rw [e1] at e; cases e
  | some us =>
    cases e2 : intsOf us with
    | none => rw [e1, Option.bind_some, e2] at e; cases e
    | some ns =>
      rw [e1, Option.bind_some, e2, Option.bind_some] at e
      cases e3 : f ns with
      | none => rw [e3] at e; cases e
      | some k =>
        rw [e3] at e
        cases e
        obtain ⟨ds, e4, q2⟩ := itemsW q e1
        exact ⟨ds, ns, k, e4, ints_den q2 e2, e3, rfl⟩
theorem g_sum : Mo1 RD fSum (gInts1 sumO) := by
  intro B ow h u x z q g
  obtain ⟨xs, ns, k, e1, e2, e3, rfl⟩ := ints1_den q g
  cases e3
  exact ⟨_, by simp only [fSum, e1, e2], gnd_den _ rfl⟩
theorem g_maxL : Mo1 RD fMaxL (gInts1 maxO) := by
  intro B ow h u x z q g
  obtain ⟨xs, ns, k, e1, e2, e3, rfl⟩ := ints1_den q g
  cases ns with
  | nil => cases e3
  | cons n ns => cases e3; exact ⟨_, by simp only [fMaxL, e1, e2], gnd_den _ rfl⟩
theorem g_minL : Mo1 RD fMinL (gInts1 minO) := by
  intro B ow h u x z q g
  obtain ⟨xs, ns, k, e1, e2, e3, rfl⟩ := ints1_den q g
  cases ns with
  | nil => cases e3
  | cons n ns => cases e3; exact ⟨_, by simp only [fMinL, e1, e2], gnd_den _ rfl⟩
/-- a tuple of the module -/
theorem ue_ct {d : D} (hd : d.gnd = true := by rfl) : JU S RD (mC d) (uC d) := ue_c hd
def uExt (i : Nat) (w : UA) : UE := fun v => (uOwn i v).bind fun _ v0 => (w v0).bind fun ws v1 => (uOwn i v1).bind fun us v2 => match ws with
  | [.lst zs] => if us.length + zs.length ≤ 16777216 then .ok .non (v2.set i (some (.lst (us ++ zs)))) else .stuck
  | [.tup zs] => if us.length + zs.length ≤ 16777216 then .ok .non (v2.set i (some (.lst (us ++ zs)))) else .stuck
  | _ => .stuck
theorem ue_ext (hi : i ∈ S.O) (hM : i ∈ S.M) (hm : JU S RL m w) (hq : i ∉ S.Q := by decide) : JU S RD (mExt (mVar i) m) (uExt i w) := by
  intro k B ow h env ven r
  unfold uExt
  rcases uOwn_cases i ven with e | ⟨u, e, e1⟩
  · rw [e]; trivial
  · obtain ⟨n, eo⟩ := r.all i _ hi e
    obtain ⟨_, e2, us, ds, e3, e4, q⟩ := r.ownL hq eo
    unfold mExt
    rw [e1, mVar_at e2]
    simp only [Res.bind_ok, UR.bind_ok, e4]
    exact (hm k B ow h env ven r).bind fun es h1 ow1 v1 ws r1 s1 q1 => by
      rcases uOwn_cases i v1 with e' | ⟨us1, e', e1'⟩
      · rw [e']; trivial
      · rw [e1']
        obtain ⟨n', eo'⟩ := r1.all i _ hi e'
        obtain ⟨_, e2', us', ds', e3', e4', q'⟩ := r1.ownL hq eo'
        rw [e2] at e2'
        cases e2'
        rw [e'] at e3'
        cases e3'
        simp only [UR.bind_ok]
        cases ws with
        | nil => trivial
        | cons w0 ws =>
          cases ws with
          | cons _ _ => cases w0 <;> trivial
          | nil =>
            cases w0 with
            | lst zs =>
              rw [RL, DenL] at q1
              obtain ⟨d, r', rfl, q4, q5⟩ := q1
              rw [DenL] at q5
              subst q5
              rw [Den] at q4
              obtain ⟨mm, cs, rfl, hl, hg, q6⟩ := q4
              simp only [e4', hg]
              rw [← q'.len, ← q6.len]
              split
              · exact ⟨.non, _, ow1, rfl, r1.write eo' (q'.app q6) hq, .write eo' hM, gnd_den _ rfl⟩
              · trivial
            | tup zs =>
              rw [RL, DenL] at q1
              obtain ⟨d, r', rfl, q4, q5⟩ := q1
              rw [DenL] at q5
              subst q5
              rw [Den] at q4
              obtain ⟨cs, rfl, q6⟩ := q4
              simp only [e4']
              rw [← q'.len, ← q6.len]
              split
              · exact ⟨.non, _, ow1, rfl, r1.write eo' (q'.app q6) hq, .write eo' hM, gnd_den _ rfl⟩
              · trivial
            | _ => trivial
def uR3 (a b c : UE) : UI := fun v => (a v).bind fun x v1 => (b v1).bind fun y v2 => (c v2).bind fun z v3 => match x, y, z with
  | .int lo, .int hi, .int k => if k = -1 ∧ (-(2 ^ 60) ≤ lo ∧ lo ≤ 2 ^ 60) ∧ -(2 ^ 60) ≤ hi ∧ hi ≤ 2 ^ 60 then .ok (rngN lo hi) v3 else .stuck
  | _, _, _ => .stuck
theorem ui_r3 (ha : JU S RD a va) (hb : JU S RD b vb) (hc : JU S RD c vc) : JU S (RI X) (iR3 a b c) (uR3 va vb vc) := fun k B ow h env ven r =>
  (ha k B ow h env ven r).bind fun x h1 ow1 v1 u r1 s1 q1 => (hb k B ow1 h1 env v1 r1).bind fun y h2 ow2 v2 w r2 s2 q2 => (hc k B ow2 h2 env v2 r2).bind fun z h3 ow3 v3 t r3 s3 q3 => by
    cases u with
    | int lo =>
      cases w with
      | int hi =>
        cases t with
        | int kk =>
          rw [RD, Den] at q1 q2 q3
          subst q1
          subst q2
          subst q3
          by_cases c0 : kk = -1 ∧ (-(2 ^ 60) ≤ lo ∧ lo ≤ 2 ^ 60) ∧ -(2 ^ 60) ≤ hi ∧ hi ≤ 2 ^ 60
          · simp only
            rw [if_pos c0]
            obtain ⟨rfl, c1⟩ := c0
            simp only
            rw [if_pos c1]
            exact .ok r3 ⟨by show DenL _ _ (rngN lo hi) (rngN lo hi); unfold rngN; rw [← Function.comp_def D.int, ← List.map_map]; exact DenL.ints _, fun p m => by cases m⟩
          · have : (match D.int lo, D.int hi, D.int kk with
              | .int lo, .int hi, .int k => if k = -1 ∧ (-(2 ^ 60) ≤ lo ∧ lo ≤ 2 ^ 60) ∧ -(2 ^ 60) ≤ hi ∧ hi ≤ 2 ^ 60 then (.ok (rngN lo hi) v3 : UR (List D)) else .stuck
              | _, _, _ => .stuck) = .stuck := if_neg c0
            rw [this]
            trivial
        | _ => trivial
      | _ => trivial
    | _ => trivial
end
section
variable {v : PEnv} {a b c : UE} {r : UA} {i : Nat} {lo hi : Int}
def extU (i : Nat) (us : List D) (ws : List D) (v2 : PEnv) : UR D := match ws with
  | [.lst zs] => if us.length + zs.length ≤ 16777216 then .ok .non (v2.set i (some (.lst (us ++ zs)))) else .stuck
  | [.tup zs] => if us.length + zs.length ≤ 16777216 then .ok .non (v2.set i (some (.lst (us ++ zs)))) else .stuck
  | _ => .stuck
@[simp] theorem u_ext : uExt i r v = (uOwn i v).bind fun _ v0 => (r v0).bind fun ws v1 => (uOwn i v1).bind fun us v2 => extU i us ws v2 := rfl
@[simp] theorem extU_t {us zs : List D} : extU i us [.tup zs] v = if us.length + zs.length ≤ 16777216 then .ok .non (v.set i (some (.lst (us ++ zs)))) else .stuck := rfl
@[simp] theorem extU_l {us zs : List D} : extU i us [.lst zs] v = if us.length + zs.length ≤ 16777216 then .ok .non (v.set i (some (.lst (us ++ zs)))) else .stuck := rfl
def r3U (x y z : D) (v3 : PEnv) : UR (List D) := match x, y, z with
  | .int lo, .int hi, .int k => if k = -1 ∧ (-(2 ^ 60) ≤ lo ∧ lo ≤ 2 ^ 60) ∧ -(2 ^ 60) ≤ hi ∧ hi ≤ 2 ^ 60 then .ok (rngN lo hi) v3 else .stuck
  | _, _, _ => .stuck
@[simp] theorem u_r3 : uR3 a b c v = (a v).bind fun x v1 => (b v1).bind fun y v2 => (c v2).bind fun z v3 => r3U x y z v3 := rfl
@[simp] theorem r3U_i {k : Int} : r3U (.int lo) (.int hi) (.int k) v = if k = -1 ∧ (-(2 ^ 60) ≤ lo ∧ lo ≤ 2 ^ 60) ∧ -(2 ^ 60) ≤ hi ∧ hi ≤ 2 ^ 60 then .ok (rngN lo hi) v else .stuck := rfl
theorem ints_ofG : ∀ ns : List Int, intsOf (ns.map D.int) = some ns
  | [] => rfl
  | n :: ns => by simp [intsOf, ints_ofG ns]
@[simp] theorem gsum_m {ns : List Int} : gInts1 sumO (.lst (ns.map D.int)) = some (.int ns.sum) := by simp [gInts1, ints_ofG, sumO]
@[simp] theorem gsum_f {α : Type} {xs : List α} {f : α → Int} : gInts1 sumO (.lst (xs.map fun x => D.int (f x))) = some (.int (xs.map f).sum) := by
  rw [show (xs.map fun x => D.int (f x)) = (xs.map f).map D.int by rw [List.map_map]; rfl, gsum_m]
end
end Gb

/-! GuT: == and in, of data; slices -/
namespace Gb
open PySem L2
mutual
theorem eqv_pyU : ∀ u : D, PyData.eqv (pyU u) (pyU u) = true
  | .tup xs => by simp only [pyU, PyData.eqv]; exact eqv_pyL xs
  | .lst xs => by simp only [pyU, PyData.eqv]; exact eqv_pyL xs
  | .non => rfl
  | .bl b => by simp [pyU, PyData.eqv]
  | .int b => by simp [pyU, PyData.eqv]
  | .str b => by simp [pyU, PyData.eqv]
  | .ref _ => rfl
  | .fro _ => rfl
  | .dct _ _ => rfl
  | .map _ => rfl
theorem eqv_pyL : ∀ us : List D, PyData.eqvAll (pyL us) (pyL us) = true
  | [] => rfl
  | u :: us => by simp only [pyL, PyData.eqvAll, eqv_pyU u, eqv_pyL us, Bool.and_self]
end
theorem geq_self {k : Bool → Bool} {u : D} (h : u.dep ≤ 60) : gEq k u u = some (.bl (k true)) := by
  unfold gEq
  rw [if_pos ⟨h, h⟩, eqv_pyU]
theorem pyL_intsT : ∀ ns : List Int, pyL (ns.map D.int) = ns.map PyData.int
  | [] => rfl
  | n :: ns => by simp only [List.map_cons, pyL, pyU, pyL_intsT ns]
theorem depL_intsT : ∀ ns : List Int, D.depL (ns.map D.int) ≤ 1
  | [] => by simp [D.depL]
  | n :: ns => by
    have := depL_intsT ns
    simp only [List.map_cons, D.depL, D.dep]
    omega
theorem pyL_map {α : Type} {f : α → D} : ∀ xs : List α, pyL (xs.map f) = xs.map fun x => pyU (f x)
  | [] => rfl
  | x :: xs => by simp only [List.map_cons, pyL, pyL_map xs]
theorem depL_map {α : Type} {f : α → D} {k : Nat} : ∀ {xs : List α}, (∀ x ∈ xs, (f x).dep ≤ k) → D.depL (xs.map f) ≤ k
  | [], _ => by simp [D.depL]
  | x :: xs, h => by
    have h1 := h x (List.mem_cons_self ..)
    have h2 := depL_map (xs := xs) fun y m => h y (List.mem_cons_of_mem _ m)
    simp only [List.map_cons, D.depL]
    omega
/-- rows of ints: x in (..), with f the row -/
theorem gin_rows {k : Bool → Bool} {x : List Int} {L : List (List Int)} : gIn k (.tup (x.map D.int)) (.tup (L.map fun a => D.tup (a.map D.int))) = some (.bl (k (decide (x ∈ L)))) := by
  unfold gIn
  have h1 := depL_intsT x
  have h2 : D.depL (L.map fun a => D.tup (a.map D.int)) ≤ 2 := depL_map fun a _ => by have := depL_intsT a; simp only [D.dep]; omega
  rw [if_pos ⟨by simp only [D.dep]; omega, by simp only [D.dep]; omega⟩]
  simp only [pyU, itemsP, pyL_map, pyL_intsT, List.any_map]
  congr 3
  rw [Bool.eq_iff_iff]
  simp only [List.any_eq_true, Function.comp, PyData.eqv, decide_eq_true_eq]
  constructor
  · rintro ⟨a, m, e⟩
    rw [eqv_ints, decide_eq_true_eq] at e
    exact e ▸ m
  · intro m
    exact ⟨x, m, by rw [eqv_ints, decide_eq_true_eq]⟩
/-- [..] == [] -/
theorem geq_nilR {k : Bool → Bool} {xs : List D} (h : D.depL xs ≤ 59) : gEq k (.lst xs) (.lst []) = some (.bl (k xs.isEmpty)) := by
  unfold gEq
  rw [if_pos ⟨by simp only [D.dep]; omega, by simp [D.dep, D.depL]⟩]
  cases xs with
  | nil => rfl
  | cons x xs => rfl
theorem cut_take {xs : List D} {j : Nat} (h : j ≤ xs.length) : cutD xs none (some (j : Int)) = xs.take j := by
  unfold cutD
  rw [HT.sIx_none, HT.sIx_nat, List.drop_zero, Nat.sub_zero, Nat.min_eq_left h]
theorem cut_drop {xs : List D} {j : Nat} (h : j ≤ xs.length) : cutD xs (some (j : Int)) none = xs.drop j := by
  unfold cutD
  rw [HT.sIx_none, HT.sIx_nat, Nat.min_eq_left h, List.take_of_length_le (by simp)]
theorem take_set_drop {α : Type} {xs : List α} {j : Nat} {x : α} (h : j < xs.length) : xs.take j ++ [x] ++ xs.drop (j + 1) = xs.set j x := by
  rw [List.set_eq_take_append_cons_drop, if_pos h]
  simp
end Gb

/-! GuQ: rows turned round, repr of any data, defs that call themselves: without a heap -/
namespace Gb
open PySem L2 PyProof.Rows
section
variable {L : Nat → Prop} {h : PHeap}
theorem DenL.rev : ∀ {us ds : List D}, DenL L h us ds → DenL L h us.reverse ds.reverse
  | [], ds, q => by rw [DenL] at q; subst q; rw [List.reverse_nil, DenL]
  | u :: us, ds, q => by
    rw [DenL] at q
    obtain ⟨d, r, rfl, q1, q2⟩ := q
    rw [List.reverse_cons, List.reverse_cons]
    exact DenL.app (DenL.rev q2) (DenL.one q1)
mutual
theorem okT_den : ∀ u d, Den L h u d → d.okT = u.okT
  | .lst us, d, q => by rw [Den] at q; obtain ⟨n, ds, rfl, _⟩ := q; rfl
  | .fro us, d, q => by rw [Den] at q; obtain ⟨ds, rfl, _⟩ := q; rfl
  | .dct _ _, d, q => by rw [Den] at q; subst q; rfl
  | .map us, d, q => by rw [Den] at q; obtain ⟨ds, rfl, _⟩ := q; rfl
  | .tup us, d, q => by
    rw [Den] at q
    obtain ⟨ds, rfl, q⟩ := q
    simp only [D.okT]
    exact okTL_den us ds q
  | .ref _, d, q => by rw [Den] at q; exact q.elim
  | .non, d, q => by rw [Den] at q; subst q; rfl
  | .bl _, d, q => by rw [Den] at q; subst q; rfl
  | .int _, d, q => by rw [Den] at q; subst q; rfl
  | .str _, d, q => by rw [Den] at q; subst q; rfl
theorem okTL_den : ∀ us ds, DenL L h us ds → D.okTL ds = D.okTL us
  | [], ds, q => by rw [DenL] at q; subst q; rfl
  | u :: us, ds, q => by
    rw [DenL] at q
    obtain ⟨d, r, rfl, q1, q2⟩ := q
    simp only [D.okTL, okT_den u d q1, okTL_den us r q2]
end
mutual
theorem okT_gnd : ∀ u : D, u.okT = true → u.gnd = true
  | .lst us, q => by simp [D.okT] at q
  | .fro us, q => by simp [D.okT] at q
  | .dct _ _, q => rfl
  | .map _, q => by simp [D.okT] at q
  | .tup us, q => by simp only [D.okT] at q; simp only [D.gnd]; exact okTL_gnd us q
  | .ref _, q => by simp [D.okT] at q
  | .non, _ => rfl
  | .bl _, _ => rfl
  | .int _, _ => rfl
  | .str _, _ => rfl
theorem okTL_gnd : ∀ us : List D, D.okTL us = true → D.gndL us = true
  | [], _ => rfl
  | u :: us, q => by
    simp only [D.okTL, Bool.and_eq_true] at q
    simp only [D.gndL, okT_gnd u q.1, okTL_gnd us q.2, Bool.and_self]
end
end
def gRev : D → Option D := fun u => match u with
  | .tup us => some (.tup us.reverse)
  | .lst us => some (.lst us.reverse)
  | _ => none
theorem g_rev : Mo1 RV fRev gRev := by
  intro B ow h u x z q g
  unfold gRev at g
  split at g
  · cases g
    obtain ⟨ds, rfl, q1⟩ := tupW q
    exact ⟨_, rfl, den_tup q1.rev⟩
  · cases g
    obtain ⟨ds, e1, q1⟩ := itemsW q rfl
    refine ⟨.new _, ?_, _, rfl, q1.rev⟩
    unfold fRev
    split
    · simp [LV.items] at e1
    · simp only [e1]
  · cases g
def gReprX : D → Option D := fun u => match u.okT with
  | true => if (pyX u).showable = true ∧ (pyX u).depth ≤ 61 ∧ (pyX u).shown.length ≤ 16777216 then some (.str (pyX u).shown) else none
  | false => gRepr u
theorem g_reprX : Mo1 RD fReprX gReprX := by
  intro B ow h u x z q g
  unfold gReprX at g
  split at g
  · rename_i e
    split at g
    · rename_i c
      cases g
      rcases q with q | ⟨n, us, ds, rfl, rfl, _⟩
      · cases x with
        | val d =>
          replace q : Den (lk B ow) h u d := q
          have := den_gnd u d (okT_gnd u e) q
          subst this
          exact ⟨_, by simp only [fReprX, e]; rw [if_pos c], gnd_den _ rfl⟩
        | new ds => obtain ⟨us, rfl, _⟩ := q; simp [D.okT] at e
      · simp [D.okT] at e
    · cases g
  · rename_i e
    obtain ⟨a, e1, q1⟩ := g_repr B ow h u x z q g
    refine ⟨a, ?_, q1⟩
    cases x with
    | new ds => exact e1
    | val d =>
      have : d.okT = false := by
        rcases q with q | ⟨n, us, ds, e2, rfl, _⟩
        · rw [okT_den u d q, e]
        · cases e2; rfl
      simp only [fReprX, this]
      exact e1
/-! small data, dicts among them -/
mutual
def D.tinyX : D → Bool
  | .non => true
  | .bl _ => true
  | .int i => decide (-1000000000000 < i) && decide (i < 1000000000000)
  | .str x => x.cps.toList.all fun c => decide (c < 16 ^ 8)
  | .tup xs => D.tinyXL xs
  | .dct ks vs => D.tinyXL ks && D.tinyXL vs
  | .lst _ => false
  | .fro _ => false
  | .map _ => false
  | .ref _ => false
def D.tinyXL : List D → Bool
  | [] => true
  | x :: xs => x.tinyX && D.tinyXL xs
end
mutual
def D.blkX : D → Nat
  | .str x => x.cps.size
  | .tup xs => D.blkXL xs
  | .dct ks vs => D.blkXL ks + D.blkXL vs
  | .non => 0
  | .bl _ => 0
  | .int _ => 0
  | .lst _ => 0
  | .fro _ => 0
  | .map _ => 0
  | .ref _ => 0
def D.blkXL : List D → Nat
  | [] => 0
  | x :: xs => x.blkX + 1 + D.blkXL xs
end
mutual
def D.depX : D → Nat
  | .tup xs => D.depXL xs + 1
  | .dct ks vs => max (D.depXL ks) (D.depXL vs) + 1
  | .str _ => 0
  | .non => 0
  | .bl _ => 0
  | .int _ => 0
  | .lst _ => 0
  | .fro _ => 0
  | .map _ => 0
  | .ref _ => 0
def D.depXL : List D → Nat
  | [] => 0
  | x :: xs => max x.depX (D.depXL xs)
end
theorem zipX : ∀ as bs : List PyData, (PyData.leavesShortAll 13 as = true → PyData.leavesShortAll 13 bs = true → PyData.leavesShortKv 13 (as.zip bs) = true) ∧
    (PyData.showableAll as = true → PyData.showableAll bs = true → PyData.showableKv (as.zip bs) = true) ∧ PyData.bulkKv (as.zip bs) ≤ PyData.bulkAll as + PyData.bulkAll bs ∧ PyData.depthKv (as.zip bs) ≤ max (PyData.depthAll as) (PyData.depthAll bs)
  | [], bs => by simp [PyData.leavesShortKv, PyData.showableKv, PyData.bulkKv, PyData.depthKv]
  | a :: as, [] => by simp [PyData.leavesShortKv, PyData.showableKv, PyData.bulkKv, PyData.depthKv]
  | a :: as, b :: bs => by
    obtain ⟨h1, h2, h3, h4⟩ := zipX as bs
    simp only [List.zip_cons_cons, PyData.leavesShortKv, PyData.leavesShortAll, PyData.showableKv, PyData.showableAll, PyData.bulkKv, PyData.bulkAll, PyData.depthKv, PyData.depthAll, Bool.and_eq_true]
    refine ⟨fun x y => ⟨⟨x.1, y.1⟩, h1 x.2 y.2⟩, fun x y => ⟨⟨x.1, y.1⟩, h2 x.2 y.2⟩, by omega, by omega⟩
mutual
theorem tinyX_ok : ∀ u : D, u.tinyX = true → u.okT = true ∧ (pyX u).leavesShort 13 = true ∧ (pyX u).showable = true ∧ (pyX u).bulk ≤ u.blkX ∧ (pyX u).depth ≤ u.depX
  | .non, _ => ⟨rfl, rfl, rfl, Nat.le_refl _, Nat.le_refl _⟩
  | .bl b, _ => ⟨rfl, rfl, rfl, Nat.le_refl _, Nat.le_refl _⟩
  | .int i, h => by
    have t := tiny_short (.int i) h
    exact ⟨rfl, t.1, t.2.1, Nat.le_refl _, Nat.le_refl _⟩
  | .str x, h => ⟨rfl, h, rfl, Nat.le_refl _, Nat.le_refl _⟩
  | .tup xs, h => by
    simp only [D.tinyX] at h
    obtain ⟨a, b, c, d, e⟩ := tinyXL_ok xs h
    refine ⟨by simp only [D.okT, a], by simp only [pyX, PyData.leavesShort, b], by simp only [pyX, PyData.showable, c], by simp only [pyX, PyData.bulk, D.blkX, d], ?_⟩
    simp only [pyX, PyData.depth, D.depX]; omega
  | .dct ks vs, h => by
    simp only [D.tinyX, Bool.and_eq_true] at h
    obtain ⟨a, b, c, d, e⟩ := tinyXL_ok ks h.1
    obtain ⟨a', b', c', d', e'⟩ := tinyXL_ok vs h.2
    obtain ⟨z1, z2, z3, z4⟩ := zipX (pyXL ks) (pyXL vs)
    refine ⟨rfl, by simp only [pyX, PyData.leavesShort, z1 b b'], by simp only [pyX, PyData.showable, z2 c c'], ?_, ?_⟩
    · simp only [pyX, PyData.bulk, D.blkX]; omega
    · simp only [pyX, PyData.depth, D.depX]; omega
  | .lst _, h => by simp [D.tinyX] at h
  | .fro _, h => by simp [D.tinyX] at h
  | .map _, h => by simp [D.tinyX] at h
  | .ref _, h => by simp [D.tinyX] at h
theorem tinyXL_ok : ∀ us : List D, D.tinyXL us = true → D.okTL us = true ∧ PyData.leavesShortAll 13 (pyXL us) = true ∧ PyData.showableAll (pyXL us) = true ∧ PyData.bulkAll (pyXL us) ≤ D.blkXL us ∧ PyData.depthAll (pyXL us) ≤ D.depXL us
  | [], _ => ⟨rfl, rfl, rfl, Nat.le_refl _, Nat.le_refl _⟩
  | u :: us, h => by
    simp only [D.tinyXL, Bool.and_eq_true] at h
    obtain ⟨a, b, c, d, e⟩ := tinyX_ok u h.1
    obtain ⟨a', b', c', d', e'⟩ := tinyXL_ok us h.2
    refine ⟨by simp only [D.okTL, a, a', Bool.and_self], by simp only [pyXL, PyData.leavesShortAll, b, b', Bool.and_self], by simp only [pyXL, PyData.showableAll, c, c', Bool.and_self], ?_, ?_⟩
    · simp only [pyXL, PyData.bulkAll, D.blkXL]; omega
    · simp only [pyXL, PyData.depthAll, D.depXL]; omega
end
structure SmX (k n : Nat) (u : D) : Prop where
  t : u.tinyX = true
  d : u.depX ≤ k
  b : u.blkX ≤ n
structure SmXL (k n : Nat) (us : List D) : Prop where
  t : D.tinyXL us = true
  d : D.depXL us ≤ k
  b : D.blkXL us ≤ n
section
variable {k n m : Nat} {u : D} {us : List D}
theorem SmX.tup (h : SmXL k n us) : SmX (k + 1) n (.tup us) := ⟨h.t, by simp only [D.depX]; have := h.d; omega, h.b⟩
theorem SmX.int {i : Int} (h0 : -1000000000000 < i) (h1 : i < 1000000000000) : SmX 0 0 (.int i) := ⟨by simp [D.tinyX, h0, h1], by simp [D.depX], by simp [D.blkX]⟩
theorem SmX.bl {b : Bool} : SmX 0 0 (.bl b) := ⟨rfl, by simp [D.depX], by simp [D.blkX]⟩
theorem SmX.le {k' n' : Nat} (h : SmX k n u) (hk : k ≤ k') (hn : n ≤ n') : SmX k' n' u := ⟨h.t, Nat.le_trans h.d hk, Nat.le_trans h.b hn⟩
theorem SmXL.le {k' n' : Nat} (h : SmXL k n us) (hk : k ≤ k') (hn : n ≤ n') : SmXL k' n' us := ⟨h.t, Nat.le_trans h.d hk, Nat.le_trans h.b hn⟩
theorem SmXL.nil : SmXL k 0 [] := ⟨rfl, by simp [D.depXL], by simp [D.blkXL]⟩
theorem SmXL.cons (h : SmX k n u) (hs : SmXL k m us) : SmXL k (n + 1 + m) (u :: us) := by
  refine ⟨by rw [D.tinyXL, h.t, hs.t]; rfl, ?_, ?_⟩
  · have := h.d; have := hs.d; simp only [D.depXL]; omega
  · have := h.b; have := hs.b; simp only [D.blkXL]; omega
theorem e_reprX (h : SmX 60 n u) (hn : n ≤ 1000000) : gReprX u = some (.str (pyX u).shown) := by
  obtain ⟨a, b, c, d, e⟩ := tinyX_ok u h.t
  have l := PyData.shown_le_bulk 13 (by decide) (pyX u) b
  have := h.b
  have := h.d
  unfold gReprX
  simp only [a]
  rw [if_pos ⟨c, by omega, by omega⟩]
theorem e_reprY (h : Sm 60 n u) (hn : n ≤ 1000000) (hs : (gSeq u).isSome = true) (ho : u.okT = false) : gReprX u = some (.str (pyU u).shown) := by
  unfold gReprX
  simp only [ho]
  exact e_repr h hn hs
end
@[simp] theorem gisi_dct {t : Kd} {a b : List D} : gIsi t (.dct a b) = some (.bl (Kd.isi .dct t)) := rfl
@[simp] theorem kd_dct_non : Kd.isi .dct .non = false := rfl
@[simp] theorem kd_dct_bl : Kd.isi .dct .bl = false := rfl
@[simp] theorem kd_dct_int : Kd.isi .dct .int = false := rfl
@[simp] theorem kd_dct_str : Kd.isi .dct .str = false := rfl
@[simp] theorem kd_dct_tup : Kd.isi .dct .tup = false := rfl
@[simp] theorem kd_dct_lst : Kd.isi .dct .lst = false := rfl
@[simp] theorem kd_dct_dct : Kd.isi .dct .dct = true := rfl
/-! defs that call themselves -/
def uStuckF : UF := fun _ => .stuck
def uStuckM : UG := fun _ _ => .stuck
theorem fp_stuck {fr : Bool} {p : List D → PHeap → Res D} : FP fr p uStuckF := fun _ _ _ _ _ _ => True.intro
theorem fm_stuck {fr : Bool} {p : List D → PHeap → Res D} : FM fr p uStuckM := fun _ _ _ _ _ _ _ _ _ _ _ _ => True.intro
end Gb

/-! GuX: a number in a range, without a heap -/
namespace Gb
open PySem L2 PyProof.Rows
def gRng (k : Bool → Bool) (x a b : D) : Option D := match x, a, b with
  | .int i, .int lo, .int hi => some (.bl (k (decide (lo ≤ i ∧ i < hi))))
  | _, _, _ => none
def uRng (k : Bool → Bool) (x a b : UE) : UE := fun v => (x v).bind fun x v1 => (a v1).bind fun a v2 => (b v2).bind fun b v3 => .of (gRng k x a b) v3
@[simp] theorem u_rng {k : Bool → Bool} {x a b : UE} {v : PEnv} : uRng k x a b v = (x v).bind fun x v1 => (a v1).bind fun a v2 => (b v2).bind fun b v3 => .of (gRng k x a b) v3 := rfl
@[simp] theorem g_rng {k : Bool → Bool} {i lo hi : Int} : gRng k (.int i) (.int lo) (.int hi) = some (.bl (k (decide (lo ≤ i ∧ i < hi)))) := rfl
theorem ue_rng {S : Sx} {n : Bool → Bool} {x a b : ME} {ux ua ub : UE} (hx : JU S RD x ux) (ha : JU S RD a ua) (hb : JU S RD b ub) : JU S RD (mRng n x a b) (uRng n ux ua ub) := fun k B ow h env ven r =>
  (hx k B ow h env ven r).bind fun d h1 ow1 v1 u r1 s1 q1 => (ha k B ow1 h1 env v1 r1).bind fun e h2 ow2 v2 w r2 s2 q2 => (hb k B ow2 h2 env v2 r2).bind fun c h3 ow3 v3 t r3 s3 q3 => .of r3 fun z ez => by
    unfold gRng at ez
    split at ez
    · cases ez
      rw [RD, Den] at q1 q2 q3
      subst q1 q2 q3
      exact ⟨_, rfl, gnd_den _ rfl⟩
    · cases ez
end Gb

/-! GbY: x == [], whatever is in x -/
namespace Gb
open PySem L2 PySem.Spec PyProof.Rows
section
variable {X : Cx} {cl : Nat → Addr} {W : WX} {a b : Expr} {mo mp : MO} {pos : Pos}
def rEqN (K : PySem.W.Frag) (k : Bool → Bool) : R2 := fun x y H Q => ∃ a b xs, x = .ref a ∧ y = .ref b ∧ SqL K H a xs ∧ SqL K H b [] ∧ Q (.bl (k xs.isEmpty)) H
theorem eqN_dp {K : PySem.W.Frag} {H : Hp} {k : Bool → Bool} {a b : Addr} {Q : VK} (h1 : SqL K H a []) (h2 : SqL K H b []) (q : Q (.bl (k true)) H) : rEqP K k (.ref a) (.ref b) H Q :=
  ⟨.list [], .list [], .lst h1 .nil, .lst h2 .nil, rfl, rfl, by decide, q⟩
theorem op_eqN (hu : X.A.units + 65 < cLine) : OpR X (compareOp .Eq) (rEqN X.K id) := by
  intro pins s σ H x y v u Q I rx ry h
  obtain ⟨a, b, xs, rfl, rfl, h1, h2, q⟩ := h
  cases xs with
  | nil => exact op_eqP hu pins s σ H _ _ v u Q I rx ry (eqN_dp h1 h2 q)
  | cons z zs =>
    cases rx; cases ry
    obtain ⟨its, r1, p1, _⟩ := I.list h1
    obtain ⟨jts, r2, p2, _⟩ := I.list h2
    cases r2
    cases r1
    exact SeqAt.RcAt.lists_lengths p1.isList p2.isList (by simp) (by omega) _ _ _ _ ⟨.bl _, H, I, rfl, q⟩
theorem op_neN (hu : X.A.units + 65 < cLine) : OpR X (compareOp .NotEq) (rEqN X.K not) := by
  intro pins s σ H x y v u Q I rx ry h
  obtain ⟨a, b, xs, rfl, rfl, h1, h2, q⟩ := h
  cases xs with
  | nil => exact op_neP hu pins s σ H _ _ v u Q I rx ry (eqN_dp h1 h2 q)
  | cons z zs =>
    cases rx; cases ry
    obtain ⟨its, r1, p1, _⟩ := I.list h1
    obtain ⟨jts, r2, p2, _⟩ := I.list h2
    cases r2
    cases r1
    exact SeqAt.RcNeAt.lists_lengths p1.isList p2.isList (by simp) (by omega) _ _ _ _ ⟨.bl _, H, I, rfl, q⟩
def fEqN (k : Bool → Bool) : LV → LV → PHeap → Res D := fun x y h => match x.items h, y.items h with
  | some xs, some [] => .ok (.bl (k xs.isEmpty)) h
  | _, _ => fEqO k x y h
theorem ov_eqN {k : Bool → Bool} : OpV (RRep X.K) X.K cl (fun x y H Q => rEqN X.K k x y H Q ∨ rEqP X.K k x y H Q) (fEqN k) := by
  intro W io sg H h x y v u Q hr rx ry p
  unfold fEqN at p
  split at p
  · rename_i xs e1 e2
    obtain ⟨a, vs, rfl, s1, q1⟩ := rx.items hr e1
    obtain ⟨b, ws, rfl, s2, q2⟩ := ry.items hr e2
    replace q2 : ws = [] := q2
    subst q2
    refine .inl ⟨a, b, vs, rfl, rfl, s1, s2, p.here hr ?_⟩
    have := q1.nil_iff
    simp only [Bool.not_eq_not, Bool.not_inj_iff] at this
    show V.bl (k vs.isEmpty) = V.bl (k xs.isEmpty)
    rw [this]
  · exact .inr (ov_eq W io sg H h x y v u Q hr rx ry p)
theorem sd_eqN (hu : X.A.units + 65 < cLine) (ha : SO X cl W a mo) (hb : SO X cl W b mp) : SE X cl W (.Compare a [.Eq] [b] pos) (m2 (fEqN id) mo mp) := so_cmp ((op_eqN hu).or (op_eqP hu)) ov_eqN ha hb (nomark _)
theorem sd_neN (hu : X.A.units + 65 < cLine) (ha : SO X cl W a mo) (hb : SO X cl W b mp) : SE X cl W (.Compare a [.NotEq] [b] pos) (m2 (fEqN not) mo mp) := so_cmp ((op_neN hu).or (op_neP hu)) ov_eqN ha hb (nomark _)
theorem st_eqN (hu : X.A.units + 65 < cLine) (ha : SO X cl W a mo) (hb : SO X cl W b mp) : ST X cl W (.Compare a [.Eq] [b] pos) (mTB (m2 (fEqN id) mo mp)) := st_cmpO ((op_eqN hu).or (op_eqP hu)) ov_eqN ha hb (nomark _)
theorem st_neN (hu : X.A.units + 65 < cLine) (ha : SO X cl W a mo) (hb : SO X cl W b mp) : ST X cl W (.Compare a [.NotEq] [b] pos) (mTB (m2 (fEqN not) mo mp)) := st_cmpO ((op_neN hu).or (op_neP hu)) ov_eqN ha hb (nomark _)
end
end Gb

/-! GuY: x == [], without a heap -/
namespace Gb
open PySem L2 PyProof.Rows
def gEqN (k : Bool → Bool) : D → D → Option D := fun u w => match u, w with
  | .lst xs, .lst [] => some (.bl (k xs.isEmpty))
  | .lst _, _ => none
  | u, w => gEq k u w
@[simp] theorem geq_N {k : Bool → Bool} {xs : List D} : gEqN k (.lst xs) (.lst []) = some (.bl (k xs.isEmpty)) := rfl
theorem no_items {L : Nat → Prop} {h : PHeap} {u : D} {x : LV} (q : DenW L h u x) (hd : u.dep ≤ 60) (hn : ∀ us, u ≠ .lst us) : x.items h = none := by
  rcases q with q | ⟨n, us, ds, rfl, rfl, g, q⟩
  · cases x with
    | val d =>
      replace q : Den L h u d := q
      cases u with
      | lst us => exact absurd rfl (hn us)
      | fro us => simp [D.dep] at hd
      | map us => simp [D.dep] at hd
      | tup us => rw [Den] at q; obtain ⟨ds, rfl, q⟩ := q; rfl
      | ref n => rw [Den] at q; exact q.elim
      | _ => rw [Den] at q; subst q; rfl
    | new ds => obtain ⟨us, rfl, _⟩ := q; exact absurd rfl (hn us)
  · exact absurd rfl (hn us)
theorem g_eqN {k : Bool → Bool} : Mo2 RD (fEqN k) (gEqN k) := by
  intro B ow h u x w y z q r g
  unfold gEqN at g
  split at g
  · cases g
    obtain ⟨ds, e1, q1⟩ := itemsW q rfl
    obtain ⟨es, e2, q2⟩ := itemsW r rfl
    rw [denL_nil] at q2
    subst q2
    refine ⟨_, ?_, gnd_den (L := lk B ow) (h := h) _ rfl⟩
    unfold fEqN
    simp only [e1, e2, isEmpty_len q1.len]
  · cases g
  · rename_i h1 h2
    unfold gEq at g
    split at g
    · rename_i c
      cases g
      have e : fEqO k x y h = .ok (.bl (k (PyData.eqv (pyU u) (pyU w)))) h := by simp only [fEqO, pyW q c.1, pyW r c.2]
      refine ⟨_, ?_, gnd_den (L := lk B ow) (h := h) _ rfl⟩
      unfold fEqN
      rw [no_items q c.1 fun us e => h1 us e]
      exact e
    · cases g
end Gb

/-! GcE: numbers and tuples of such: the least, sorted, compared -/
namespace Gb
open PySem L2 PySem.Spec PyProof.Rows PySem.W
mutual
def D.okS : D → Bool
  | .int _ => true
  | .tup xs => D.okSL xs
  | .non => false
  | .bl _ => false
  | .str _ => false
  | .ref _ => false
  | .fro _ => false
  | .lst _ => false
  | .dct _ _ => false
  | .map _ => false
def D.okSL : List D → Bool
  | [] => true
  | x :: xs => x.okS && D.okSL xs
end
mutual
def pyS : D → PyData
  | .int i => .int i
  | .tup xs => .tuple (pySL xs)
  | .non => .none
  | .bl _ => .none
  | .str _ => .none
  | .ref _ => .none
  | .fro _ => .none
  | .lst _ => .none
  | .dct _ _ => .none
  | .map _ => .none
def pySL : List D → List PyData
  | [] => []
  | x :: xs => pyS x :: pySL xs
end
theorem pySL_map : ∀ xs : List D, pySL xs = xs.map pyS
  | [] => rfl
  | x :: xs => by rw [pySL, List.map_cons, pySL_map xs]
theorem okSL_all : ∀ {xs : List D}, D.okSL xs = true ↔ ∀ x ∈ xs, x.okS = true
  | [] => by simp [D.okSL]
  | x :: xs => by simp [D.okSL, okSL_all (xs := xs)]
mutual
theorem pyS_inj : ∀ a b : D, a.okS = true → b.okS = true → pyS a = pyS b → a = b
  | .int i, b, _, hb, e => by
    cases b with
    | int j => simp only [pyS, PyData.int.injEq] at e; rw [e]
    | tup ys => simp [pyS] at e
    | _ => simp [D.okS] at hb
  | .tup xs, b, ha, hb, e => by
    cases b with
    | tup ys =>
      simp only [pyS, PyData.tuple.injEq] at e
      simp only [D.okS] at ha hb
      rw [pySL_inj xs ys ha hb e]
    | int j => simp [pyS] at e
    | _ => simp [D.okS] at hb
  | .non, _, h, _, _ => by simp [D.okS] at h
  | .bl _, _, h, _, _ => by simp [D.okS] at h
  | .str _, _, h, _, _ => by simp [D.okS] at h
  | .ref _, _, h, _, _ => by simp [D.okS] at h
  | .fro _, _, h, _, _ => by simp [D.okS] at h
  | .lst _, _, h, _, _ => by simp [D.okS] at h
  | .dct _ _, _, h, _, _ => by simp [D.okS] at h
  | .map _, _, h, _, _ => by simp [D.okS] at h
theorem pySL_inj : ∀ a b : List D, D.okSL a = true → D.okSL b = true → pySL a = pySL b → a = b
  | [], [], _, _, _ => rfl
  | [], _ :: _, _, _, e => by simp [pySL] at e
  | _ :: _, [], _, _, e => by simp [pySL] at e
  | x :: xs, y :: ys, ha, hb, e => by
    simp only [D.okSL, Bool.and_eq_true] at ha hb
    simp only [pySL, List.cons.injEq] at e
    rw [pyS_inj x y ha.1 hb.1 e.1, pySL_inj xs ys ha.2 hb.2 e.2]
end
section
variable {K : PySem.W.Frag} {io : List Addr} {H : Hp}
mutual
theorem dpS_of : ∀ (d : D) (v : V), d.okS = true → Rep K io H d v → Dp K H v (pyS d)
  | .int i, _, _, r => by cases r; exact .int i
  | .tup xs, _, e, ⟨a, vs, e2, s, r⟩ => by
    subst e2
    rw [pyS]
    exact .tup s.sq (dpSL_of xs vs (by simpa only [D.okS] using e) r)
  | .non, _, h, _ => by simp [D.okS] at h
  | .bl _, _, h, _ => by simp [D.okS] at h
  | .str _, _, h, _ => by simp [D.okS] at h
  | .ref _, _, h, _ => by simp [D.okS] at h
  | .fro _, _, h, _ => by simp [D.okS] at h
  | .lst _, _, h, _ => by simp [D.okS] at h
  | .dct _ _, _, h, _ => by simp [D.okS] at h
  | .map _, _, h, _ => by simp [D.okS] at h
theorem dpSL_of : ∀ (ds : List D) (vs : List V), D.okSL ds = true → RepL K io H ds vs → DpAll K H vs (pySL ds)
  | [], _, _, r => by
    have r' : _ = _ := r
    subst r'
    exact .nil
  | d :: ds, _, e, ⟨v, t, e2, r1, r2⟩ => by
    subst e2
    simp only [D.okSL, Bool.and_eq_true] at e
    exact .cons (dpS_of d v e.1 r1) (dpSL_of ds t e.2 r2)
end
end
def ltD (a b : D) : Bool := dataLt (pyS a) (pyS b)
def leD (a b : D) : Bool := !ltD b a
def sortDs (xs : List D) : List D := xs.mergeSort leD
def minDs (x : D) (xs : List D) : D := xs.foldl (fun a y => if ltD y a then y else a) x
def maxDs (x : D) (xs : List D) : D := xs.foldl (fun a y => if ltD a y then y else a) x
/-- tuples that can be compared with one another -/
def cmpB (xs : List D) : Bool := xs.all fun x => (match x with | .tup _ => x.okS | _ => false) && decide ((pyS x).depth ≤ 60) && xs.all fun y => alike (pyS x) (pyS y)
def fullB (xs : List D) : Bool := xs.all fun x => match x with | .tup (_ :: _) => true | _ => false
theorem cmpB_ok {xs : List D} (h : cmpB xs = true) : (∀ x ∈ xs, x.okS = true) ∧ (∀ x ∈ xs, (pyS x).depth ≤ 60) ∧ (∀ x ∈ xs, ∀ y ∈ xs, alike (pyS x) (pyS y) = true) ∧ ∀ x ∈ xs, pyS x ≠ .none := by
  unfold cmpB at h
  rw [List.all_eq_true] at h
  refine ⟨fun x m => ?_, fun x m => ?_, fun x m y my => ?_, fun x m => ?_⟩
  all_goals
    have q := h x m
    simp only [Bool.and_eq_true, decide_eq_true_eq] at q
    obtain ⟨⟨q1, q2⟩, q3⟩ := q
  · cases x <;> first | exact q1 | (exfalso; simp at q1; done)
  · exact q2
  · exact List.all_eq_true.mp q3 y my
  · cases x <;> first | (exfalso; simp at q1; done) | (simp [pyS]; done)
theorem minD_map (x : D) : ∀ xs : List D, pyS (minDs x xs) = minD (pyS x) (xs.map pyS)
  | [] => rfl
  | y :: xs => by
    unfold minDs minD
    rw [List.foldl_cons, List.map_cons, List.foldl_cons]
    have := minD_map (if ltD y x then y else x) xs
    unfold minDs minD at this
    rw [this]
    congr 1
    unfold ltD
    split <;> rfl
theorem minDs_mem : ∀ (xs : List D) (x : D), minDs x xs ∈ x :: xs
  | [], x => List.mem_cons_self ..
  | y :: xs, x => by
    unfold minDs
    rw [List.foldl_cons]
    have := minDs_mem xs (if ltD y x then y else x)
    unfold minDs at this
    rcases List.mem_cons.mp this with e | m
    · rw [e]
      split
      · exact List.mem_cons_of_mem _ (List.mem_cons_self ..)
      · exact List.mem_cons_self ..
    · exact List.mem_cons_of_mem _ (List.mem_cons_of_mem _ m)
section
variable {K : PySem.W.Frag} {cl : Nat → Addr} {io : List Addr} {H : Hp} {h : PHeap}
/-- the values with their data -/
def withS (xs : List D) (vs : List V) : List (V × PyData) := (vs.zip xs).map fun p => (p.1, pyS p.2)
theorem withS_fst : ∀ {xs : List D} {vs : List V}, RepL K io H xs vs → (withS xs vs).map (·.1) = vs
  | [], vs, r => by have r' : vs = [] := r; subst r'; rfl
  | x :: xs, vs, ⟨v, t, e, r1, r2⟩ => by
    subst e
    have := withS_fst r2
    unfold withS at this ⊢
    rw [List.zip_cons_cons, List.map_cons, List.map_cons, this]
theorem withS_snd : ∀ {xs : List D} {vs : List V}, RepL K io H xs vs → (withS xs vs).map (·.2) = xs.map pyS
  | [], vs, r => by have r' : vs = [] := r; subst r'; rfl
  | x :: xs, vs, ⟨v, t, e, r1, r2⟩ => by
    subst e
    have := withS_snd r2
    unfold withS at this ⊢
    rw [List.zip_cons_cons, List.map_cons, List.map_cons, this, List.map_cons]
theorem zip_rep : ∀ {xs : List D} {vs : List V}, RepL K io H xs vs → ∀ p ∈ vs.zip xs, Rep K io H p.2 p.1 ∧ p.2 ∈ xs
  | [], vs, r, p, m => by have r' : vs = [] := r; subst r'; cases m
  | x :: xs, vs, ⟨v, t, e, r1, r2⟩, p, m => by
    subst e
    rw [List.zip_cons_cons] at m
    rcases List.mem_cons.mp m with rfl | m
    · exact ⟨r1, List.mem_cons_self ..⟩
    · obtain ⟨a, b⟩ := zip_rep r2 p m
      exact ⟨a, List.mem_cons_of_mem _ b⟩
theorem withS_dp {xs : List D} {vs : List V} (r : RepL K io H xs vs) (ok : ∀ x ∈ xs, x.okS = true) : ∀ b ∈ withS xs vs, Dp K H b.1 b.2 := by
  intro b m
  obtain ⟨p, mp, rfl⟩ := List.mem_map.mp m
  obtain ⟨q1, q2⟩ := zip_rep r p mp
  exact dpS_of p.2 p.1 (ok _ q2) q1
theorem depthAll_le : ∀ {xs : List PyData} {k : Nat}, (∀ x ∈ xs, x.depth ≤ k) → PyData.depthAll xs ≤ k
  | [], k, _ => by simp [PyData.depthAll]
  | x :: xs, k, h => by
    have h1 := h x (List.mem_cons_self ..)
    have h2 := depthAll_le (xs := xs) fun y m => h y (List.mem_cons_of_mem _ m)
    simp only [PyData.depthAll]
    omega
theorem mn_of {a : Addr} {xs : List D} {vs : List V} (s : SqL K H a vs) (r : RepL K io H xs vs) (c : cmpB xs = true) : Mn K H a (withS xs vs) := by
  obtain ⟨c1, c2, c3, c4⟩ := cmpB_ok c
  refine ⟨by rw [withS_fst r]; exact s, withS_dp r c1, ?_, ?_⟩
  · rw [withS_snd r]
    refine ⟨fun x m y my => ?_, fun x m => ?_⟩
    · obtain ⟨x', mx, rfl⟩ := List.mem_map.mp m
      obtain ⟨y', my', rfl⟩ := List.mem_map.mp my
      exact c3 _ mx _ my'
    · obtain ⟨x', mx, rfl⟩ := List.mem_map.mp m
      exact c4 _ mx
  · rw [withS_snd r]
    exact depthAll_le fun x m => by obtain ⟨x', mx, rfl⟩ := List.mem_map.mp m; exact c2 _ mx
/-- whichever of the items has the least's data stands for it -/
theorem mn_rep {x : D} {xs : List D} {vs : List V} (r : RepL K io H (x :: xs) vs) (c : cmpB (x :: xs) = true) {b : V × PyData} (m : b ∈ withS (x :: xs) vs) (e : b.2 = minD (pyS x) (xs.map pyS)) : Rep K io H (minDs x xs) b.1 := by
  obtain ⟨c1, _⟩ := cmpB_ok c
  obtain ⟨p, mp, rfl⟩ := List.mem_map.mp m
  obtain ⟨q1, q2⟩ := zip_rep r p mp
  have e' : pyS p.2 = pyS (minDs x xs) := by rw [minD_map]; exact e
  rw [← pyS_inj _ _ (c1 _ q2) (c1 _ (minDs_mem xs x)) e']
  exact q1
theorem srt_of {xs : List D} {vs : List V} (r : RepL K io H xs vs) (c : cmpB xs = true) (f : fullB xs = true) (hl : xs.length ≤ sizeLine) : Srt K H (withS xs vs) := by
  obtain ⟨c1, c2, c3, c4⟩ := cmpB_ok c
  refine ⟨withS_dp r c1, ?_, ?_, fun b m => ?_, ?_⟩
  · rw [withS_snd r]
    intro x m y my
    obtain ⟨x', mx, rfl⟩ := List.mem_map.mp m
    obtain ⟨y', my', rfl⟩ := List.mem_map.mp my
    exact c3 _ mx _ my'
  · rw [withS_snd r]
    refine .inl fun d m => ?_
    obtain ⟨x', mx, rfl⟩ := List.mem_map.mp m
    have := List.all_eq_true.mp f x' mx
    cases x' with
    | tup zs =>
      cases zs with
      | nil => simp at this
      | cons z zs => exact ⟨pyS z, pySL zs, by rw [pyS, pySL]⟩
    | _ => simp at this
  · obtain ⟨p, mp, rfl⟩ := List.mem_map.mp m
    exact c2 _ (zip_rep r p mp).2
  · unfold withS
    rw [List.length_map, List.length_zip]
    omega
theorem repL_map {α : Type} {f : α → D} {g : α → V} : ∀ {l : List α}, (∀ p ∈ l, Rep K io H (f p) (g p)) → RepL K io H (l.map f) (l.map g)
  | [], _ => rfl
  | p :: l, h => ⟨g p, _, rfl, h p (List.mem_cons_self ..), repL_map fun q m => h q (List.mem_cons_of_mem _ m)⟩
theorem zip_snd : ∀ {xs : List D} {vs : List V}, RepL K io H xs vs → (vs.zip xs).map (·.2) = xs
  | [], vs, r => by have r' : vs = [] := r; subst r'; rfl
  | x :: xs, vs, ⟨v, t, e, r1, r2⟩ => by
    subst e
    rw [List.zip_cons_cons, List.map_cons, zip_snd r2]
/-- sorted on both sides -/
theorem sort_rep {xs : List D} {vs : List V} (r : RepL K io H xs vs) : RepL K io H (sortDs xs) ((sortB (withS xs vs)).map (·.1)) := by
  have e1 : sortB (withS xs vs) = ((vs.zip xs).mergeSort fun p q => leD p.2 q.2).map fun p => (p.1, pyS p.2) := by
    unfold sortB withS
    rw [List.map_mergeSort (s := dataLe false (·.2))]
    intro p _ q _
    rw [dataLe_eq]
    rfl
  have e2 : sortDs xs = ((vs.zip xs).mergeSort fun p q => leD p.2 q.2).map (·.2) := by
    unfold sortDs
    rw [List.map_mergeSort (s := leD) (fun p _ q _ => rfl), zip_snd r]
  rw [e1, e2, List.map_map]
  refine repL_map fun p m => ?_
  have := (List.mergeSort_perm (vs.zip xs) fun p q => leD p.2 q.2).mem_iff.mp m
  exact (zip_rep r p this).1
end
/-! words -/
def fMinLX : LV → PHeap → Res D := fun x h => match x.items h with
  | some xs => match intsOf xs with
    | some ns => match ns with
      | [] => .stuck
      | n :: ns => .ok (.int (minI (n :: ns))) h
    | none => match xs with
      | [] => .stuck
      | y :: ys => if cmpB (y :: ys) then .ok (minDs y ys) h else .stuck
  | none => .stuck
def fMin2X : LV → LV → PHeap → Res D := fun x y h => match x, y with
  | .val (.int i), .val (.int j) => .ok (.int (if j < i then j else i)) h
  | .val x, .val y => if cmpB [x, y] then .ok (if ltD y x then y else x) h else .stuck
  | _, _ => .stuck
def fSortL : LV → PHeap → Res (List D) := fun x h => match x.items h with
  | some xs => match intsOf xs with
    | some ns => .ok ((sortI ns).map D.int) h
    | none => if cmpB xs && fullB xs && decide (xs.length ≤ 16777216) then .ok (sortDs xs) h else .stuck
  | none => .stuck
section
variable {X : Cx} {cl : Nat → Addr} {W : WX} {a b c e : Expr} {ma mb mc : ME} {ml : MA} {mo mp : MO} {pos p : Pos}
theorem con_minLX : Con1 (β := V) (RRep X.K) X.K cl (fun xs H Q => rMin X.K xs H Q ∨ rMinD X.K xs H Q) fMinLX := by
  intro W io sg H h x v Q hr r p
  unfold fMinLX at p
  split at p
  · rename_i xs e
    split at p
    · rename_i ns e2
      split at p
      · exact p.elim
      · rename_i n ns
        refine .inl (con_minL W io sg H h x v Q hr r ?_)
        unfold fMinL
        rw [e]
        simp only [e2]
        exact p
    · split at p
      · exact p.elim
      · rename_i y ys _
        split at p
        · rename_i c
          obtain ⟨a, vs, rfl, s, r2⟩ := r.items hr e
          have M := mn_of s r2 c
          obtain ⟨v0, t, rfl, r3, r4⟩ := id r2
          refine .inr ⟨a, (v0, pyS y), withS ys t, rfl, M, fun cc mc ec => p.here hr ?_⟩
          rw [withS_snd r4] at ec
          exact mn_rep r2 c mc ec
        · exact p.elim
  · exact p.elim
theorem sd_minLX (hu : X.A.units + 65 < cLine) (he : SO X cl W e mo) (hm : X.mg "min" = none) (hc : X.calm = true := by rfl) (hg : Gl X "min" := by rfl) (hs : starEach [e] X.env = (false, eval e X.env) :: starEach [] X.env := by rfl) : SE X cl W (.Call (.Name "min" p) [e] [] pos) (m1 fMinLX mo) :=
  sc_b1 ((cr_min hc).or (call_minD hc hu)) con_minLX he hg hm (by decide +kernel) (by decide) (by decide) hs
theorem con_min2X : Con2 (RRep X.K) X.K cl (fun xs H Q => (∃ i j, xs = [.int i, .int j] ∧ Q (.int (if j < i then j else i)) H) ∨ rMin2D X.K xs H Q) fMin2X := by
  intro W io sg H h x y v u Q hr r q p
  unfold fMin2X at p
  split at p
  · cases r; cases q; exact .inl ⟨_, _, rfl, p.here hr rfl⟩
  · rename_i x y _
    split at p
    · rename_i c
      obtain ⟨c1, c2, c3, c4⟩ := cmpB_ok c
      have mx : x ∈ [x, y] := by simp
      have my : y ∈ [x, y] := by simp
      refine .inr ⟨v, u, pyS x, pyS y, rfl, dpS_of x v (c1 x mx) r, dpS_of y u (c1 y my) q, ⟨?_, ?_⟩, c2 x mx, c2 y my, p.here hr ?_⟩
      · intro d m d' m'
        simp only [List.mem_cons, List.not_mem_nil, or_false] at m m'
        rcases m with rfl | rfl <;> rcases m' with rfl | rfl
        · exact c3 x mx x mx
        · exact c3 x mx y my
        · exact c3 y my x mx
        · exact c3 y my y my
      · intro d m
        simp only [List.mem_cons, List.not_mem_nil, or_false] at m
        rcases m with rfl | rfl
        · exact c4 x mx
        · exact c4 y my
      · unfold ltD
        by_cases c : dataLt (pyS y) (pyS x) = true
        · rw [if_pos c, if_pos c]; exact q
        · rw [if_neg c, if_neg c]; exact r
    · exact p.elim
  · exact p.elim
theorem sd_min2X (hu : X.A.units + 65 < cLine) (ha : SO X cl W a mo) (hb : SO X cl W b mp) (hm : X.mg "min" = none) (hc : X.calm = true := by rfl) (hg : Gl X "min" := by rfl)
    (hs : starEach [a, b] X.env = (false, eval a X.env) :: starEach [b] X.env := by rfl) (hs2 : starEach [b] X.env = (false, eval b X.env) :: starEach [] X.env := by rfl) (hpl : (backTo pos (starEach [b] X.env)).any (·.1) = false := by rfl) : SE X cl W (.Call (.Name "min" p) [a, b] [] pos) (m2 fMin2X mo mp) :=
  sc_b2 ((call_min2 hc).or (call_min2D hc hu)) con_min2X ha hb hg hm (by decide +kernel) (by decide) (by decide) hs hs2 hpl
theorem con_sortL : Con1 (β := V) (RNew X.K) X.K cl (fun xs H Q => rSortedI X.K xs H Q ∨ rSortD X.K xs H Q) fSortL := by
  intro W io sg H h x v Q hr r p
  unfold fSortL at p
  split at p
  · rename_i xs e
    split at p
    · rename_i ns e2
      refine .inl (con_sortI W io sg H h x v Q hr r ?_)
      unfold fSortI
      rw [e]
      simp only [e2]
      exact p
    · split at p
      · rename_i c
        simp only [Bool.and_eq_true, decide_eq_true_eq] at c
        obtain ⟨a, vs, rfl, s, r2⟩ := r.items hr e
        refine .inr ⟨a, withS xs vs, rfl, by rw [withS_fst r2]; exact s, srt_of r2 c.1.1 c.1.2 (by rw [sizeLine_eq]; exact c.2), fun q hq => ?_⟩
        exact p _ io _ (Step.laid hq) (hr.laid hq) ⟨q, _, rfl, hq, hr.out hq, upd_same, (sort_rep r2).step (Step.laid hq) _ _⟩
      · exact p.elim
  · exact p.elim
end
end Gb

/-! GcF: dicts, in plain words -/
namespace Gb
open PySem L2 PySem.Spec PyProof.Rows PySem.W
mutual
theorem nk_inj : ∀ (a b : D) (k : NestedKey), nk a = some k → nk b = some k → a = b
  | .non, b, k, ha, hb => by
    cases b with
    | non => rfl
    | int j => simp only [nk, Option.some.injEq] at ha hb; subst ha; cases hb
    | tup ys => simp only [nk] at ha hb; cases ha; cases q : nkL ys <;> rw [q] at hb <;> simp at hb
    | _ => simp [nk] at hb
  | .int i, b, k, ha, hb => by
    cases b with
    | int j => simp only [nk, Option.some.injEq] at ha hb; subst ha; cases hb; rfl
    | non => simp only [nk, Option.some.injEq] at ha hb; subst ha; cases hb
    | tup ys => simp only [nk] at ha hb; cases ha; cases q : nkL ys <;> rw [q] at hb <;> simp at hb
    | _ => simp [nk] at hb
  | .tup xs, b, k, ha, hb => by
    cases b with
    | tup ys =>
      simp only [nk] at ha hb
      cases q : nkL xs with
      | none => rw [q] at ha; cases ha
      | some ks =>
        rw [q] at ha
        cases ha
        cases q2 : nkL ys with
        | none => rw [q2] at hb; cases hb
        | some ks2 =>
          rw [q2] at hb
          simp only [Option.map_some, Option.some.injEq, NestedKey.tup.injEq] at hb
          subst hb
          rw [nkL_inj xs ys _ q q2]
    | non => simp only [nk, Option.some.injEq] at ha hb; cases hb; cases q : nkL xs <;> rw [q] at ha <;> simp at ha
    | int j => simp only [nk, Option.some.injEq] at ha hb; cases hb; cases q : nkL xs <;> rw [q] at ha <;> simp at ha
    | _ => simp [nk] at hb
  | .bl _, _, _, h, _ => by simp [nk] at h
  | .str _, _, _, h, _ => by simp [nk] at h
  | .ref _, _, _, h, _ => by simp [nk] at h
  | .fro _, _, _, h, _ => by simp [nk] at h
  | .lst _, _, _, h, _ => by simp [nk] at h
  | .dct _ _, _, _, h, _ => by simp [nk] at h
  | .map _, _, _, h, _ => by simp [nk] at h
theorem nkL_inj : ∀ (a b : List D) (k : List NestedKey), nkL a = some k → nkL b = some k → a = b
  | [], [], _, _, _ => rfl
  | [], y :: ys, k, ha, hb => by
    simp only [nkL, Option.some.injEq] at ha
    subst ha
    simp only [nkL] at hb
    split at hb <;> simp at hb
  | x :: xs, [], k, ha, hb => by
    simp only [nkL, Option.some.injEq] at hb
    subst hb
    simp only [nkL] at ha
    split at ha <;> simp at ha
  | x :: xs, y :: ys, k, ha, hb => by
    simp only [nkL] at ha hb
    split at ha
    · rename_i k1 ks1 e1 e2
      split at hb
      · rename_i k2 ks2 e3 e4
        cases ha
        simp only [Option.some.injEq, List.cons.injEq] at hb
        obtain ⟨rfl, rfl⟩ := hb
        rw [nk_inj x y _ e1 e3, nkL_inj xs ys _ e2 e4]
      · simp at hb
    · simp at ha
end
mutual
theorem nk_noText : ∀ (a : D) (k : NestedKey), nk a = some k → nkB k = true
  | .non, k, h => by simp only [nk, Option.some.injEq] at h; subst h; rfl
  | .int i, k, h => by simp only [nk, Option.some.injEq] at h; subst h; rfl
  | .tup xs, k, h => by
    simp only [nk] at h
    cases q : nkL xs with
    | none => rw [q] at h; cases h
    | some ks => rw [q] at h; cases h; rw [nkB]; exact nkL_noText xs ks q
  | .bl _, _, h => by simp [nk] at h
  | .str _, _, h => by simp [nk] at h
  | .ref _, _, h => by simp [nk] at h
  | .fro _, _, h => by simp [nk] at h
  | .lst _, _, h => by simp [nk] at h
  | .dct _ _, _, h => by simp [nk] at h
  | .map _, _, h => by simp [nk] at h
theorem nkL_noText : ∀ (a : List D) (k : List NestedKey), nkL a = some k → nkBL k = true
  | [], k, h => by simp only [nkL, Option.some.injEq] at h; subst h; rfl
  | x :: xs, k, h => by
    simp only [nkL] at h
    split at h
    · rename_i k1 ks1 e1 e2
      cases h
      simp only [nkBL, nk_noText x _ e1, nkL_noText xs _ e2, Bool.and_self]
    · simp at h
end
section
variable {K : PySem.W.Frag} {cl : Nat → Addr} {io : List Addr} {H : Hp} {h : PHeap}
mutual
theorem nkV_of : ∀ (d : D) (v : V) (k : NestedKey), nk d = some k → Rep K io H d v → NkV K H k v
  | .non, _, k, e, r => by cases r; simp only [nk, Option.some.injEq] at e; subst e; exact .none
  | .int i, _, k, e, r => by cases r; simp only [nk, Option.some.injEq] at e; subst e; exact .int i
  | .tup xs, _, k, e, ⟨a, vs, e2, s, r⟩ => by
    subst e2
    simp only [nk] at e
    cases q : nkL xs with
    | none => rw [q] at e; cases e
    | some ks =>
      rw [q] at e
      cases e
      obtain ⟨h1, h2⟩ := nkLV_of xs vs ks q r
      exact .tup s.sq (fun i => by
        by_cases c : i < ks.length
        · rw [List.getElem?_eq_getElem c, List.getElem?_eq_getElem (by omega)]; rfl
        · rw [List.getElem?_eq_none (by omega), List.getElem?_eq_none (by omega)]; rfl) h2
  | .bl _, _, _, e, _ => by simp [nk] at e
  | .str _, _, _, e, _ => by simp [nk] at e
  | .ref _, _, _, e, _ => by simp [nk] at e
  | .fro _, _, _, e, _ => by simp [nk] at e
  | .lst _, _, _, e, _ => by simp [nk] at e
  | .dct _ _, _, _, e, _ => by simp [nk] at e
  | .map _, _, _, e, _ => by simp [nk] at e
theorem nkLV_of : ∀ (ds : List D) (vs : List V) (ks : List NestedKey), nkL ds = some ks → RepL K io H ds vs → ks.length = vs.length ∧ ∀ (i : Nat) k x, ks[i]? = some k → vs[i]? = some x → NkV K H k x
  | [], vs, ks, e, r => by
    have r' : vs = [] := r
    subst r'
    simp only [nkL, Option.some.injEq] at e
    subst e
    exact ⟨rfl, fun i k x h => by simp at h⟩
  | d :: ds, _, ks, e, ⟨v, t, e2, r1, r2⟩ => by
    subst e2
    simp only [nkL] at e
    split at e
    · rename_i k1 ks1 e3 e4
      cases e
      have a := nkV_of d v _ e3 r1
      obtain ⟨b, c⟩ := nkLV_of ds t _ e4 r2
      refine ⟨by simp [b], fun i k x h1 h2 => ?_⟩
      cases i with
      | zero => simp at h1 h2; subst h1 h2; exact a
      | succ i => exact c i k x (by simpa using h1) (by simpa using h2)
    · simp at e
end
/-- a dict's items, one with its entry -/
def ItemR (K : PySem.W.Frag) (io : List Addr) (H : Hp) (x : D) (y : DY) : Prop := ∃ k v, x = .tup [k, v] ∧ nk k = some y.1 ∧ Rep K io H k (.ref y.2.1) ∧ Rep K io H v y.2.2
theorem pair_rep {ds : List D} {a b : V} (r : RepL K io H ds [a, b]) : ∃ k v, ds = [k, v] ∧ Rep K io H k a ∧ Rep K io H v b := by
  cases ds with
  | nil => have r' : [a, b] = [] := r; cases r'
  | cons k ds =>
    obtain ⟨v, t, e, r1, r2⟩ := r
    cases e
    cases ds with
    | nil => have r' : [b] = [] := r2; cases r'
    | cons v ds =>
      obtain ⟨v', t', e, r3, r4⟩ := r2
      cases e
      cases ds with
      | nil => exact ⟨k, v, rfl, r1, r3⟩
      | cons x ds => obtain ⟨_, _, e, _⟩ := r4; cases e
def ItemL (K : PySem.W.Frag) (io : List Addr) (H : Hp) (x : D) (vs : List V) : Prop := match x with
  | .tup ds => RepL K io H ds vs
  | _ => False
theorem repI_cons {x : D} {xs : List D} {vss : List (List V)} : RepI K io H (x :: xs) vss ↔ ∃ vs r, vss = vs :: r ∧ ItemL K io H x vs ∧ RepI K io H xs r := by
  cases x <;> exact Iff.rfl
/-- the relation of items and entries, one by one -/
theorem items_iff {xs : List D} : ∀ {ys : List DY}, (KeyL xs ys ∧ RepI K io H xs (ys.map pairV)) ↔ (xs.length = ys.length ∧ (∀ y ∈ ys, y.1.depth ≤ 8) ∧ ∀ (i : Nat) x y, xs[i]? = some x → ys[i]? = some y → ItemR K io H x y) := by
  induction xs with
  | nil =>
    intro ys
    cases ys with
    | nil => exact ⟨fun _ => ⟨rfl, (fun _ m => by cases m), fun _ _ _ h => by simp at h⟩, fun _ => ⟨⟨rfl, (fun _ m => by cases m), fun _ m => by cases m⟩, rfl⟩⟩
    | cons y ys => exact ⟨fun h => by have := h.1.k; simp at this, fun h => by have := h.1; simp at this⟩
  | cons x xs ih' =>
    intro ys
    cases ys with
    | nil => exact ⟨fun h => by have := h.1.k; simp at this, fun h => by have := h.1; simp at this⟩
    | cons y ys =>
      have ih := ih' (ys := ys)
      constructor
      · rintro ⟨⟨k1, k2, k3⟩, h0⟩
        obtain ⟨vs, r, e, h1, h2⟩ := repI_cons.mp h0
        simp only [List.map_cons, List.cons.injEq] at k1 e
        obtain ⟨rfl, rfl⟩ := e
        obtain ⟨l, dd, q⟩ := ih.mp ⟨⟨k1.2, fun z m => k2 z (List.mem_cons_of_mem _ m), fun z m => k3 z (List.mem_cons_of_mem _ m)⟩, h2⟩
        refine ⟨by simp [l], k2, fun i x' y' hx hy => ?_⟩
        cases i with
        | zero =>
          simp at hx hy
          subst hx hy
          cases x with
          | tup ds =>
            obtain ⟨k, v, rfl, r1, r2⟩ := pair_rep h1
            exact ⟨k, v, rfl, k1.1, r1, r2⟩
          | _ => exact h1.elim
        | succ i => exact q i x' y' (by simpa using hx) (by simpa using hy)
      · rintro ⟨l, dd, q⟩
        obtain ⟨⟨k1, k2, k3⟩, h2⟩ := ih.mpr ⟨by simpa using l, fun z m => dd z (List.mem_cons_of_mem _ m), fun i x' y' hx hy => q (i + 1) x' y' (by simpa using hx) (by simpa using hy)⟩
        obtain ⟨k, v, rfl, e1, r1, r2⟩ := q 0 x y rfl rfl
        refine ⟨⟨?_, dd, fun z m => ?_⟩, repI_cons.mpr ⟨_, _, rfl, (show RepL K io H [k, v] _ from ⟨_, _, rfl, r1, _, _, rfl, r2, rfl⟩), h2⟩⟩
        · rw [List.map_cons, List.map_cons, k1]
          show nk k :: _ = _
          rw [e1]
        · rcases List.mem_cons.mp m with rfl | m
          · exact nk_noText _ _ e1
          · exact k3 z m
structure Its (K : PySem.W.Frag) (io : List Addr) (H : Hp) (xs : List D) (ys : List DY) : Prop where
  k : KeyL xs ys
  r : RepI K io H xs (ys.map pairV)
variable {xs : List D} {ys : List DY}
theorem Its.len (I : Its K io H xs ys) : xs.length = ys.length := (items_iff.mp ⟨I.k, I.r⟩).1
theorem Its.dep (I : Its K io H xs ys) : ∀ y ∈ ys, y.1.depth ≤ 8 := (items_iff.mp ⟨I.k, I.r⟩).2.1
theorem Its.at (I : Its K io H xs ys) {i : Nat} {x : D} {y : DY} (h1 : xs[i]? = some x) (h2 : ys[i]? = some y) : ItemR K io H x y := (items_iff.mp ⟨I.k, I.r⟩).2.2 i x y h1 h2
theorem Its.mk' (h1 : xs.length = ys.length) (h2 : ∀ y ∈ ys, y.1.depth ≤ 8) (h3 : ∀ (i : Nat) x y, xs[i]? = some x → ys[i]? = some y → ItemR K io H x y) : Its K io H xs ys := by
  obtain ⟨a, b⟩ := items_iff.mpr ⟨h1, h2, h3⟩
  exact ⟨a, b⟩
theorem Its.step {io' : List Addr} {H' : Hp} (I : Its K io H xs ys) (s : Step K io H io' H') : Its K io' H' xs ys := ⟨I.k, I.r.step s _ _⟩
theorem Its.keys (I : Its K io H xs ys) : KeysAt K H ys := fun y m => by
  obtain ⟨i, hi⟩ := List.mem_iff_getElem?.mp m
  have hl := (List.getElem?_eq_some_iff.mp hi).1
  have e := List.getElem?_eq_getElem (show i < xs.length by rw [I.len]; exact hl)
  obtain ⟨k, v, _, e1, r1, _⟩ := I.at e hi
  exact ⟨nkV_of k _ _ e1 r1, I.dep y m⟩
def keyIs (k : D) : D → Bool
  | .tup [k', _] => decide (k' = k)
  | _ => false
def valD : D → D
  | .tup [_, v] => v
  | _ => .non
def lookD (xs : List D) (k : D) : Option D := (xs.find? (keyIs k)).map valD
def putD (xs : List D) (k v : D) : List D := if xs.any (keyIs k) then xs.map (fun x => if keyIs k x then .tup [k, v] else x) else xs ++ [.tup [k, v]]
theorem item_is {x : D} {y : DY} {k : D} {kk : NestedKey} (q : ItemR K io H x y) (e : nk k = some kk) : keyIs k x = decide (y.1 = kk) := by
  obtain ⟨k', v, rfl, e1, _, _⟩ := q
  show decide (k' = k) = decide (y.1 = kk)
  rw [decide_eq_decide]
  constructor
  · rintro rfl; rw [e1] at e; exact Option.some.inj e
  · intro e2; subst e2; exact nk_inj _ _ _ e1 e
theorem Its.look : ∀ {xs : List D} {ys : List DY}, Its K io H xs ys → ∀ {k : D} {kk : NestedKey}, nk k = some kk → match atY ys kk with
    | some y => ∃ v, lookD xs k = some v ∧ Rep K io H v y.2.2
    | none => lookD xs k = none
  | [], [], _, k, kk, _ => rfl
  | [], y :: ys, I, _, _, _ => by have := I.len; simp at this
  | x :: xs, [], I, _, _, _ => by have := I.len; simp at this
  | x :: xs, y :: ys, I, k, kk, e => by
    have I' : Its K io H xs ys := Its.mk' (by have := I.len; simpa using this) (fun z m => I.dep z (List.mem_cons_of_mem _ m)) fun i x' y' h1 h2 => I.at (i := i + 1) (by simpa using h1) (by simpa using h2)
    have ih := I'.look e
    have q := I.at (i := 0) (x := x) (y := y) rfl rfl
    have qi := item_is q e
    unfold atY lookD at ih ⊢
    rw [List.find?_cons, List.find?_cons, qi]
    by_cases c : y.1 = kk
    · simp only [c, decide_true]
      obtain ⟨k', v, rfl, _, _, r2⟩ := q
      exact ⟨v, rfl, r2⟩
    · simp only [c, decide_false]
      exact ih
theorem Its.any (I : Its K io H xs ys) {k : D} {kk : NestedKey} (e : nk k = some kk) : xs.any (keyIs k) = (atY ys kk).isSome := by
  have := I.look e
  have h2 : (lookD xs k).isSome = xs.any (keyIs k) := by
    unfold lookD
    rw [Option.isSome_map, Bool.eq_iff_iff, List.find?_isSome, List.any_eq_true]
  rw [← h2]
  cases h : atY ys kk with
  | some y => rw [h] at this; obtain ⟨v, e, _⟩ := this; rw [e]; rfl
  | none => rw [h] at this; rw [this]; rfl
theorem Its.put (I : Its K io H xs ys) {k v : D} {kk : NestedKey} {b : Addr} {u : V} (e : nk k = some kk) (hd : kk.depth ≤ 8) (rk : Rep K io H k (.ref b)) (rv : Rep K io H v u) : Its K io H (putD xs k v) (stY ys kk b u) := by
  unfold putD stY
  rw [I.any e]
  split
  · refine Its.mk' (by simp [I.len]) (fun y m => ?_) fun i x y h1 h2 => ?_
    · obtain ⟨y', my, rfl⟩ := List.mem_map.mp m
      split
      · exact I.dep y' my
      · exact I.dep y' my
    · rw [List.getElem?_map] at h1 h2
      cases e1 : xs[i]? with
      | none => rw [e1] at h1; cases h1
      | some x' =>
        cases e2 : ys[i]? with
        | none => rw [e2] at h2; cases h2
        | some y' =>
          rw [e1] at h1
          rw [e2] at h2
          cases h1
          cases h2
          have q := I.at e1 e2
          dsimp only
          rw [item_is q e]
          by_cases c : y'.1 = kk
          · simp only [c, decide_true, if_true]
            obtain ⟨k', v', rfl, e3, r1, r2⟩ := q
            have : k' = k := nk_inj _ _ _ e3 (by rw [c]; exact e)
            subst this
            exact ⟨k', v, rfl, e, r1, rv⟩
          · simp only [c, decide_false, if_false, Bool.false_eq_true]
            exact q
  · refine Its.mk' (by simp [I.len]) (fun y m => ?_) fun i x y h1 h2 => ?_
    · rcases List.mem_append.mp m with m | m
      · exact I.dep y m
      · rw [List.mem_singleton.mp m]; exact hd
    · by_cases hl : i < xs.length
      · rw [List.getElem?_append_left hl] at h1
        rw [List.getElem?_append_left (by rw [← I.len]; exact hl)] at h2
        exact I.at h1 h2
      · rw [List.getElem?_append_right (by omega)] at h1
        rw [List.getElem?_append_right (by rw [← I.len]; omega)] at h2
        have z : i - xs.length = 0 := by
          cases q : i - xs.length with
          | zero => rfl
          | succ n => rw [q] at h1; simp at h1
        rw [z] at h1
        rw [← I.len, z] at h2
        simp at h1 h2
        subst h1 h2
        exact ⟨k, v, rfl, e, rk, rv⟩
end
/-- a key: a tuple, not too deep -/
def keyOk (k : D) : Bool := match k with
  | .tup _ => match nk k with
    | some kk => decide (kk.depth ≤ 8)
    | none => false
  | _ => false
theorem keyOk_spec {k : D} (h : keyOk k = true) : ∃ zs kk, k = .tup zs ∧ nk k = some kk ∧ kk.depth ≤ 8 := by
  unfold keyOk at h
  split at h
  · rename_i zs
    split at h
    · rename_i kk e
      exact ⟨zs, kk, rfl, e, of_decide_eq_true h⟩
    · cases h
  · cases h
/-- a dict's items, whether it is written still or not -/
def LV.dict (h : PHeap) : LV → Option (List D)
  | .val (.map xs) => some xs
  | .val (.ref n) => match h[n]? with
    | some (.map xs) => some xs
    | _ => none
  | _ => none
section
variable {K : PySem.W.Frag} {cl : Nat → Addr} {io : List Addr} {H : Hp} {h : PHeap}
theorem OV.dict {lv : LV} {v : V} {xs : List D} (hr : HRel K cl io H h) (r : OV K io H lv v) (e : lv.dict h = some xs) : ∃ a o ys, v = .ref a ∧ Rd H a (dctO a o ys) ∧ Its K io H xs ys := by
  cases lv with
  | new ys => cases e
  | val d =>
    cases d with
    | map xs' =>
      cases e
      obtain ⟨a, o, ys, rfl, s, k, q⟩ := r
      exact ⟨a, o, ys, rfl, .inr ⟨o, s⟩, k, q⟩
    | ref n =>
      obtain ⟨a, ha, rfl⟩ := r
      simp only [LV.dict] at e
      split at e
      · rename_i xs' q
        cases e
        obtain ⟨o, ys, h1, k, q⟩ := hr.cell n a _ ha q
        exact ⟨a, o, ys, rfl, .inl h1, k, q⟩
      · cases e
    | _ => cases e
end
end Gb

/-! GcG: dicts: made, asked, written, walked -/
namespace Gb
open PySem L2 PySem.Spec PyProof.Rows PySem.W
section
variable {K : PySem.W.Frag} {cl : Nat → Addr} {io : List Addr} {H : Hp} {h : PHeap} {a : Addr} {u ob : HO}
/-- a cell's object is replaced -/
theorem Step.writeX (m : a ∈ io) (e : H a = some u) (nf : ∀ o w, u ≠ .frz o w) : Step K io H io (upd H a ob) := by
  have k : ∀ b o w, H b = some (.frz o w) → upd H a ob b = some (.frz o w) := fun b o w q => by
    rw [upd_ne (fun z => by rw [z, e] at q; exact nf o w (Option.some.inj q))]; exact q
  refine ⟨⟨[], by simp⟩, fun _ m n => absurd m n, fun b u q n => ?_, fun _ _ s => sqT_keep k s, fun _ _ s => fro_keep k s⟩
  rw [upd_ne (fun z : b = a => n (by rw [z]; exact m))]; exact q
theorem HRel.writeX {n : Nat} {c : Cell} (r : HRel K cl io H h) (hn : io[n]? = some a) (e : H a = some u) (nf : ∀ o w, u ≠ .frz o w) (q : CellRep K cl io (upd H a ob) a c) : HRel K cl io (upd H a ob) (h.set n c) := by
  have m := List.mem_of_getElem? hn
  have s : Step K io H io (upd H a ob) := Step.writeX m e nf
  refine ⟨by simp [r.len], r.nd, fun i b c' h1 h2 => ?_⟩
  by_cases hi : n = i
  · subst hi
    rw [hn] at h1; cases h1
    have hl : n < h.length := by rw [← r.len]; exact (List.getElem?_eq_some_iff.mp hn).1
    rw [List.getElem?_set_self hl] at h2; cases h2
    exact q
  · rw [List.getElem?_set_ne hi] at h2
    refine (r.cell i b c' h1 h2).step s (upd_ne fun z => hi ?_)
    subst z
    have l1 := (List.getElem?_eq_some_iff.mp hn).1
    have l2 := (List.getElem?_eq_some_iff.mp h1).1
    exact (List.getElem?_inj l1 r.nd).mp (hn.trans h1.symm)
theorem dct_nf {a : Addr} {o : Obj} {ys : List DY} : ∀ o' w, dctO a o ys ≠ .frz o' w := fun _ _ e => by cases e
theorem its_nil : Its K io H [] [] := Its.mk' rfl (fun _ m => by cases m) fun _ _ _ h => by simp at h
end
/-! words -/
/-- {} : a dict that will be written -/
def mMap0 : ME := fun _ h => .ok (.ref h.length) (h ++ [.map []])
/-- {k: v} : a dict that nobody writes -/
def mMap1 (mk mv : ME) : ME := fun env h => (mk env h).bind fun k h1 => (mv env h1).bind fun v h2 => if keyOk k then .ok (.map [.tup [k, v]]) h2 else .stuck
/-- a variable's dict becomes a value -/
def mPub (i : Nat) : ME := fun env h => match env[i]? with
  | some (some (.ref n)) => match h[n]? with
    | some (.map xs) => .ok (.map xs) (h.set n .dead)
    | _ => .stuck
  | _ => .stuck
/-- o.get(k, x) -/
def fGetD (o k x : D) (h : PHeap) : Res D := match LV.dict h (.val o) with
  | some xs => if keyOk k then .ok ((lookD xs k).getD x) h else .stuck
  | none => .stuck
def mGet (o : ME) (as : MA) : ME := fun env h => (o env h).bind fun d h1 => match LV.dict h1 (.val d) with
  | some _ => (as env h1).bind fun ws h2 => match ws with
    | [k, x] => fGetD d k x h2
    | _ => .stuck
  | none => .stuck
/-- o[k] = v -/
def sPut (v o k : ME) : MS := fun env h => (v env h).out env fun d h1 => (o env h1).out env fun x h2 => (k env h2).out env fun y h3 => match x with
  | .ref n => match h3[n]? with
    | some (.map xs) => if keyOk y && decide (xs.length < 16777216) then .nx env (h3.set n (.map (putD xs y d))) else .stuck
    | _ => .stuck
  | _ => .stuck
def fInX (k : Bool → Bool) : LV → LV → PHeap → Res D := fun x y h => match y.dict h with
  | some xs => match x with
    | .val d => if keyOk d then .ok (.bl (k (lookD xs d).isSome)) h else .stuck
    | _ => .stuck
  | none => fInO k x y h
def fIxX : LV → LV → PHeap → Res D := fun x y h => match x.dict h with
  | some xs => match y with
    | .val d => if keyOk d then (match lookD xs d with
      | some v => .ok v h
      | none => .stuck) else .stuck
    | _ => .stuck
  | none => fIx x y h
def keyOf : D → D
  | .tup [k, _] => k
  | _ => .non
def keysD (xs : List D) : List D := xs.map keyOf
def fListX : LV → PHeap → Res (List D) := fun x h => match x.dict h with
  | some xs => .ok (keysD xs) h
  | none => fList x h
def fSortX : LV → PHeap → Res (List D) := fun x h => match x.dict h with
  | some xs => if cmpB (keysD xs) && fullB (keysD xs) && decide (xs.length ≤ 16777216) then .ok (sortDs (keysD xs)) h else .stuck
  | none => fSortL x h
/-- for k, v in d.items() -/
def iItems (o : ME) : MI := fun env h => (o env h).bind fun d h1 => match d with
  | .map xs => .ok ⟨xs, []⟩ h1
  | _ => .stuck
section
variable {X : Cx} {cl : Nat → Addr} {W : WX} {a b c e o k v : Expr} {es : List Expr} {ma mb mc mk mv : ME} {ml : MA} {mo mp : MO} {pos p : Pos}
theorem sd_map0 : SE X cl W (.Dict [] [] pos) mMap0 :=
  pe_dctNew.imp fun sg H Q ⟨env, h, io, E, hr, p⟩ q o hq => p (.ref q) (io ++ [q]) _ ((Step.laid hq).cell (hr.out hq) hq) ((hr.laid hq).cell1 (hr.out hq) (show CellRep X.K cl io _ q (.map []) from ⟨o, [], upd_same, (its_nil (K := X.K) (io := io) (H := upd H q (dctO q o []))).k, (its_nil (K := X.K) (io := io) (H := upd H q (dctO q o []))).r⟩))
    ⟨q, by rw [List.getElem?_append_right (by rw [hr.len]; exact Nat.le_refl _), hr.len]; simp, rfl⟩
/-- a dict's description is frozen -/
theorem pe_pub {t : TE} (h : PE X e t) : PE X e (fun σ H Q => t σ H fun v H1 => ∃ a o ys, v = .ref a ∧ H1 a = some (dctO a o ys) ∧ Q v (upd H1 a (.frz o (dctO a o ys)))) := ⟨fun pins s σ H Q I q => by
  refine thn (h.run pins s σ H _ I q) fun u s1 ⟨v, H1, I1, r, a, o, ys, ev, ha, q1⟩ => ?_
  obtain ⟨od, I2⟩ := I1.lock ha True.intro
  have e1 : od = o := by
    have x := I2.hok a _ upd_same
    have x1 : s1.heap.get? a = some od := x.1
    have x2 := (dct_rd I1.hok (.inl ha)).1
    rw [x1] at x2
    exact Option.some.inj x2
  subst e1
  exact ⟨v, _, I2, r, q1⟩⟩
theorem sd_pub (i : Nat) {x : Str} (hN : X.N[i]? = some x := by rfl) (hv : Vis X.env.scope x := by first | exact Or.inl rfl | exact Or.inr (Or.inl rfl) | exact Or.inr (Or.inr rfl)) (hd : (x == ("__debug__" : Str)) = false := by decide)
    (hcd : (x == ("__classdict__" : Str)) = false := by decide) : SE X cl W (.Name x pos) (mPub i) :=
  (pe_pub (pe_var hN hv hd hcd)).imp fun sg H Q ⟨env, h, io, E, hr, p⟩ => by
    unfold mPub at p
    split at p
    · rename_i n e
      split at p
      · rename_i xs e2
        obtain ⟨v, hv, r⟩ := E.get i _ e
        obtain ⟨a, ha, rfl⟩ := r
        obtain ⟨o, ys, h1, kk, q⟩ := hr.cell n a _ ha e2
        have m := List.mem_of_getElem? ha
        have s : Step X.K io H io (upd H a (.frz o (dctO a o ys))) := Step.writeX m h1 dct_nf
        refine ⟨_, hv, a, o, ys, rfl, h1, p _ io _ s (hr.writeX ha h1 dct_nf (show CellRep X.K cl io _ a .dead from ⟨_, upd_same⟩)) ?_⟩
        exact ⟨a, o, ys, rfl, upd_same, kk, q.step s _ _⟩
      · exact p.elim
    · exact p.elim
/-! {k: v} -/
theorem carriesH_one {h : Heap} {P : Program} {w : World} {a : Addr} {u : Value} {kk : NestedKey} (hk : (nestedKind P w).is h kk a) : CarriesH (nestedKind P w) h [(.ref a, u)] [(kk, a, u)] := ⟨rfl, rfl, hk, True.intro⟩
def tMap1 (K : PySem.W.Frag) (tk tv : TE) : TE := fun σ H Q => ∀ p o, H p = none → tk σ (upd H p (dctO p o [])) fun x H1 => tv σ H1 fun y H2 => ∃ b kk o', x = .ref b ∧ NkV K H2 kk x ∧ nkB kk = true ∧ kk.depth ≤ 8 ∧ H2 p = some (dctO p o' []) ∧ ∀ o2, Q (.ref p) (upd H2 p (.frz o2 (dctO p o2 [(kk, b, y)])))
theorem pe_map1 (hu : X.A.units + 65 < cLine) {tk tv : TE} (hk : PE X k tk) (hv : PE X v tv) : PE X (.Dict [some k] [v] pos) (tMap1 X.K tk tv) := by
  refine ⟨fun pins s σ H Q I q => ?_⟩
  have hn := I.hok.fresh (Nat.le_refl s.heap.objs.size)
  have I1 := I.laid (a := s.heap.objs.size) (o := dctO s.heap.objs.size { cls := .type "dict", data := .dict #[] } []) (h' := s.heap.push { cls := .type "dict", data := .dict #[] }) (t' := s.toks) (fun _ _ q => Heap.get?_push_of_some _ q) (Nat.le_refl _)
    (dct_mk (Heap.get?_push_size _ rfl) (beq_eq_false_iff_ne.mpr (Ne.symm (Nat.ne_of_lt I.big))) (Nat.zero_le _) raw_nil)
  have hp := (pps_cons hk hv (pps_nil (pos := pos))).run pins _ σ _ (fun ps H2 => match ps with
    | [(x, y)] => ∃ b kk o', x = .ref b ∧ NkV X.K H2 kk x ∧ nkB kk = true ∧ kk.depth ≤ 8 ∧ H2 s.heap.objs.size = some (dctO s.heap.objs.size o' []) ∧ ∀ o2, Q (.ref s.heap.objs.size) (upd H2 s.heap.objs.size (.frz o2 (dctO s.heap.objs.size o2 [(kk, b, y)])))
    | _ => False) I1 (q _ _ hn)
  have hl := pairTrees_length [some k] [v] X.env pos rfl rfl
  rw [arm_eval_Dict, zip_pairTrees [some k] [v] X.env pos rfl rfl, dictDisplay_pairs _ (by
    intro he
    rw [he] at hl
    cases hl) (by rw [hl]; show 1 < 17; decide)]
  refine wpAny_bind (wpAny_standAt (wpAny_bind (wpAny_subDictH (knd := nestedKind X.prog X.w) (Q := fun d s' => wpAny (model X.prog X.w) X.A (pure (Value.ref d)) (EP X pins σ Q) X.xe s') (show X.A.units + 8 < cLine by omega) (by rw [hl]; show 1 ≤ 15; decide) (wpAny_mono hp (fun vs s1 h1 => ?_) fun _ _ e => e))))
  obtain ⟨ps, H2, I2, rel, q2⟩ := h1
  match ps, rel, q2 with
  | [(x, y)], rel, q2 =>
    obtain ⟨b, kk, o', ex, hkk, hb, hd, he, q3⟩ := q2
    cases rel with
    | cons r t =>
      cases t
      rename_i uv
      obtain ⟨u1, u2⟩ := uv
      obtain ⟨r1, r2⟩ := r
      dsimp only at r1 r2
      rw [ex] at r1 hkk
      have r1 : u1 = .ref b := r1
      subst r1
      obtain ⟨zs, ev, hm⟩ := dct_of I2 (.inl he) (fun y m => by cases m)
      cases ev
      obtain ⟨e0, hs0, _⟩ := dct_rd I2.hok (.inl he)
      refine ⟨[(kk, b, u2)], carriesH_one (key_is I2 hkk hd), hm, fun h' tk hm' sb => wpAny_pure ?_⟩
      obtain ⟨o2, e2, raw⟩ := raw_of (ys := [(kk, b, y)]) hm' (.cons ⟨rfl, rfl, r2⟩ .nil) (by simp) (fun y' m => by rw [List.mem_singleton.mp m]; exact hb)
      have fin : ObjOk X.prog X.w (upd H2 s.heap.objs.size (.frz o2 (dctO s.heap.objs.size o2 [(kk, b, y)]))) h' s.heap.objs.size (.frz o2 (dctO s.heap.objs.size o2 [(kk, b, y)])) := by
        exact ⟨e2, dct_mk e2 hs0 (by show 1 ≤ sizeLine; decide) raw⟩
      exact ⟨.ref s.heap.objs.size, _, d_write (t' := tk) I2 (by rw [he]; exact True.intro) sb ⟨o2, e2⟩ fin, rfl, q3 o2⟩
  | [], _, q2 => exact q2.elim
  | _ :: _ :: _, _, q2 => exact q2.elim
end
end Gb

/-! GcH: dicts: the rules of their words; a comprehension within one -/
namespace Gb
open PySem L2 PySem.Spec PyProof.Rows PySem.W
theorem blk_in {N : List Str} {sc : Scope} {env : Env} {scope1 scope2 : Scope} {cl' : List (Str × Addr)} {C : Addr} {own : List (Str × Nat)} (e : env.scope = sc) (h1 : scope2.kind = .function) (h2 : ∀ y ∈ scope2.names, scope2.names.lookup y.1 = some y.2)
    (h3 : ∀ p ∈ own, N[p.2]? = some p.1) (h4 : ∀ y ∈ scope2.names, y.2 = .free → (relS scope1 sc).names.lookup y.1 = some .cell ∨ (relS scope1 sc).names.lookup y.1 = some .free)
    (h5 : ∀ y ∈ scope2.names, y.2 = .local ∨ y.2 = .cell → y.1 ∈ own.map (·.1) ∨ y.1 ∉ N) : BlkOk N (compEnvC scope1 cl' C env).scope scope2 own := by
  subst e
  exact ⟨h1, h2, h3, h4, h5⟩
section
variable {X : Cx} {o e : Expr} {es : List Expr}
def tyDct : V → Hp → Prop := fun x H => ∃ a o ys, x = .ref a ∧ Rd H a (dctO a o ys)
theorem ty_dct : TyOk X "dict" tyDct := by
  intro pins σ H s x v I r ty
  obtain ⟨a, o, ys, rfl, h⟩ := ty
  cases r
  obtain ⟨e, hs, hz, hx, _⟩ := dct_rd I.hok h
  exact ⟨⟨o, e, hx.1⟩, fun b e' => by cases e'; exact ⟨o, e, hx.2.1⟩⟩
theorem pe_mT {to : TE} {t : TA} {name : Str} {apos cpos : Pos} {T id : String} {r : V → List V → Hp → VK → Prop} {ty : V → Hp → Prop} (ht : TyOk X T ty) (pa : PlainAttrs T) (slot : Slot T name id)
    (hty : typeOf (.builtin id) = pure (.type "method_descriptor")) (hm : MtR X id r) (ho : PE X o to) (ha : PA X (e :: es) t)
    (hbase : attributeBase o name X.env (eval o X.env) = eval o X.env)
    (hfew : ((backTo cpos (starEach (e :: es) X.env)).all (fun x => !x.1) && (backToKw cpos (keywordEach [] X.env)).all (fun x => x.1.isSome)
      && decide ((e :: es).length + ([] : List Keyword).length + (if ([] : List Keyword).isEmpty then 0 else 1) < 30)) = true)
    (hline : (apos.endLine == cpos.line) = true) (hs : starEach (e :: es) X.env = (false, eval e X.env) :: starEach es X.env) (hplain : (backTo cpos (starEach es X.env)).any (·.1) = false) :
    PE X (.Call (.Attribute o name apos) (e :: es) [] cpos) (fun σ H Q => to σ H fun x H1 => ty x H1 ∧ t σ H1 fun xs H2 => r x xs H2 Q) := by
  refine ⟨fun pins s σ H Q I h => ?_⟩
  refine PySem.wpAny_Call_method_late hbase hfew hline rfl (thn (ho.run pins s σ H _ I h) fun v s1 ⟨x, H1, I1, r1, ty1, q1⟩ => ?_)
  obtain ⟨h1, h2⟩ := ht _ _ _ _ _ _ I1 r1 ty1
  refine ⟨T, id, pa, slot, hty, h1, h2, ?_⟩
  have hA := ha.run cpos pins s1 σ H1 _ I1 q1
  rw [hs] at hA ⊢
  refine Calls.callWith_builtin (by show (false || (backTo cpos (starEach es X.env)).any (·.1)) = false; rw [hplain] <;> rfl) (Calls.evalArgs_plain ?_)
  exact thn hA fun us s2 ⟨vs, H2, I2, r2, q2⟩ => hm pins s2 σ H2 x vs v us Q I2 r1 r2 q2
/-- d.get(k, x) -/
def rGet (K : PySem.W.Frag) : V → List V → Hp → VK → Prop := fun x xs H Q => ∃ a o ys b k v, x = .ref a ∧ xs = [.ref b, v] ∧ Rd H a (dctO a o ys) ∧ KeysAt K H ys ∧ NkV K H k (.ref b) ∧ k.depth ≤ 8 ∧ Q (((atY ys k).map (·.2.2)).getD v) H
theorem mt_get (hu : X.A.units + 65 < cLine) : MtR X "dict.get" (rGet X.K) := by
  intro pins s σ H x xs v us Q I rx rxs h
  obtain ⟨a, o, ys, b, k, w, rfl, rfl, r, ks, hk, hd, q⟩ := h
  cases rx
  cases rxs with
  | cons r1 t =>
    cases t with
    | cons r2 t2 =>
      cases t2
      cases r1
      exact dct_getOr hu I r ks hk hd r2 q
/-- d[k] = v -/
def rSetD (K : PySem.W.Frag) : V → V → V → Hp → (Hp → Prop) → Prop := fun o i v H Q => ∃ a ob ys b k, o = .ref a ∧ i = .ref b ∧ H a = some (dctO a ob ys) ∧ KeysAt K H ys ∧ NkV K H k (.ref b) ∧ nkB k = true ∧ k.depth ≤ 8 ∧ ys.length < sizeLine ∧ ∀ o', Q (upd H a (dctO a o' (stY ys k b v)))
theorem set_dct (hu : X.A.units + 65 < cLine) : PSet X (rSetD X.K) := by
  intro pins s σ H o i v ov iv u Q I ro ri rv h
  obtain ⟨a, ob, ys, b, k, rfl, rfl, hH, ks, hk, hb, hd, hz, q⟩ := h
  cases ro
  cases ri
  exact dct_setItem hu I hH ks hk hb hd hz rv fun s' o' I' => ⟨_, I', q o'⟩
/-- k in d -/
def rInN (K : PySem.W.Frag) (f : Bool → Bool) : R2 := fun x y H Q => ∃ a o ys b k, y = .ref a ∧ x = .ref b ∧ Rd H a (dctO a o ys) ∧ KeysAt K H ys ∧ NkV K H k (.ref b) ∧ k.depth ≤ 8 ∧ Q (.bl (f (atY ys k).isSome)) H
theorem op_inN (hu : X.A.units + 65 < cLine) : OpR X (compareOp .In) (rInN X.K id) := by
  intro pins s σ H x y v u Q I rx ry h
  obtain ⟨a, o, ys, b, k, rfl, rfl, r, ks, hk, hd, q⟩ := h
  cases rx
  cases ry
  exact dct_in hu I r ks hk hd q
theorem op_notinN (hu : X.A.units + 65 < cLine) : OpR X (compareOp .NotIn) (rInN X.K not) := by
  intro pins s σ H x y v u Q I rx ry h
  obtain ⟨a, o, ys, b, k, rfl, rfl, r, ks, hk, hd, q⟩ := h
  cases rx
  cases ry
  exact dct_notIn hu I r ks hk hd q
/-- d[k] -/
def rIxN (K : PySem.W.Frag) : R2 := fun x y H Q => ∃ a o ys b k z, x = .ref a ∧ y = .ref b ∧ Rd H a (dctO a o ys) ∧ KeysAt K H ys ∧ NkV K H k (.ref b) ∧ k.depth ≤ 8 ∧ atY ys k = some z ∧ Q z.2.2 H
theorem ix_dct (hu : X.A.units + 65 < cLine) : IxR X (rIxN X.K) := by
  intro value slice pins s σ H x y v u Q I rx ry h hs
  obtain ⟨a, o, ys, b, k, z, rfl, rfl, r, ks, hk, hd, hz, q⟩ := h
  cases rx
  cases ry
  obtain ⟨e, hss, _, hx, _⟩ := dct_rd I.hok r
  exact tail_any (show s.TypeIs (.ref a) "dict" from ⟨o, e, hx.1⟩) slot_dict_getitem.lookup (dct_getItem hu I r ks hk hd hz q) hs
end
section
variable {K : PySem.W.Frag} {cl : Nat → Addr} {io : List Addr} {H : Hp} {h : PHeap}
theorem Its.krep : ∀ {xs : List D} {ys : List DY}, Its K io H xs ys → RepL K io H (keysD xs) (ys.map fun y => V.ref y.2.1)
  | [], [], _ => rfl
  | [], y :: ys, I => by have := I.len; simp at this
  | x :: xs, [], I => by have := I.len; simp at this
  | x :: xs, y :: ys, I => by
    have I' : Its K io H xs ys := Its.mk' (by have := I.len; simpa using this) (fun z m => I.dep z (List.mem_cons_of_mem _ m)) fun i x' y' h1 h2 => I.at (i := i + 1) (by simpa using h1) (by simpa using h2)
    obtain ⟨k, v, rfl, e1, r1, r2⟩ := I.at (i := 0) (x := x) (y := y) rfl rfl
    exact ⟨_, _, rfl, r1, I'.krep⟩
theorem Its.keep {xs : List D} {ys : List DY} {as io' : List Addr} {H' : Hp} (I : Its K io H xs ys) (k : Keeps K as io H io' H') : Its K io' H' xs ys := ⟨I.k, I.r.mono (fun _ _ h => k.get h) k.tup k.fro⟩
end
section
variable {K : PySem.W.Frag} {cl : Nat → Addr} {io io1 : List Addr} {H H1 : Hp} {h : PHeap} {q : Addr} {u ob : HO}
/-- what stands apart is written anew -/
theorem keepX (e : H q = some u) (nf : ∀ o w, u ≠ .frz o w) : ∀ b o w, H b = some (.frz o w) → upd H q ob b = some (.frz o w) := fun b o w z => by
  rw [upd_ne (fun y => by rw [y, e] at z; exact nf o w (Option.some.inj z))]; exact z
theorem tup_overX (e : H q = some u) (nf : ∀ o w, u ≠ .frz o w) {a : Addr} {vs : List V} (s : TupA K H a vs) : TupA K (upd H q ob) a vs := sqT_keep (keepX e nf) s
theorem fro_overX (e : H q = some u) (nf : ∀ o w, u ≠ .frz o w) {a : Addr} {vs : FX} (s : FroL K H a vs) : FroL K (upd H q ob) a vs := fro_keep (keepX e nf) s
theorem Rep.overX (e : H q = some u) (nf : ∀ o w, u ≠ .frz o w) {d : D} {v : V} (r : Rep K io H d v) : Rep K io (upd H q ob) d v := r.mono (fun _ _ h => h) (fun _ _ => tup_overX e nf) fun _ _ => fro_overX e nf
theorem RepL.overX (e : H q = some u) (nf : ∀ o w, u ≠ .frz o w) {d : List D} {v : List V} (r : RepL K io H d v) : RepL K io (upd H q ob) d v := r.mono (fun _ _ h => h) (fun _ _ => tup_overX e nf) fun _ _ => fro_overX e nf
theorem HRel.overX (e : H q = some u) (nf : ∀ o w, u ≠ .frz o w) (n : q ∉ io) (r : HRel K cl io H h) : HRel K cl io (upd H q ob) h := by
  refine ⟨r.len, r.nd, fun i a c h1 h2 => ?_⟩
  have na : a ≠ q := fun z => n (by rw [← z]; exact List.mem_of_getElem? h1)
  have q := r.cell i a c h1 h2
  cases c with
  | lst xs => obtain ⟨vs, g1, g2⟩ := q; exact ⟨vs, by rw [upd_ne na]; exact g1, g2.overX e nf⟩
  | map xs => obtain ⟨o, ys, g1, g2, g3⟩ := q; exact ⟨o, ys, by rw [upd_ne na]; exact g1, g2, g3.mono (fun _ _ h => h) (fun _ _ => tup_overX e nf) fun _ _ => fro_overX e nf⟩
  | dead => obtain ⟨o, g1⟩ := q; exact ⟨o, by rw [upd_ne na]; exact g1⟩
  | kst ks => exact (upd_ne na).trans q
  | ins c fs => obtain ⟨dx, vs, g1, g2⟩ := q; exact ⟨dx, vs, by rw [upd_ne na]; exact g1, g2.1, g2.2.overX e nf⟩
theorem Step.overX (s : Step K io1 H1 io H) (n1 : H1 q = none) (e : H q = some u) (nf : ∀ o w, u ≠ .frz o w) : Step K io1 H1 io (upd H q ob) :=
  ⟨s.pre, s.new, fun b o h m => by rw [upd_ne (fun z => by rw [z, n1] at h; cases h)]; exact s.keep b o h m, fun a vs h => tup_overX e nf (s.tup a vs h), fun a vs h => fro_overX e nf (s.fro a vs h)⟩
end
section
variable {X : Cx} {cl : Nat → Addr} {W : WX} {a b c e o k v : Expr} {es : List Expr} {ma mb mc mk mv : ME} {ml : MA} {mo mp : MO} {pos p : Pos}
theorem sd_map1 (hu : X.A.units + 65 < cLine) (ha : SE X cl W k ma) (hb : SE X cl W v mb) : SE X cl W (.Dict [some k] [v] pos) (mMap1 ma mb) :=
  (pe_map1 hu ha hb).imp fun sg H Q ⟨env, h, io, E, hr, p⟩ => by
    intro q o hq
    have s0 : Step X.K io H io (upd H q (dctO q o [])) := Step.laid hq
    have r0 := hr.laid (o := dctO q o []) hq
    have nq := hr.out hq
    have p' : postR (RRep X.K) X.K cl W io sg H (mMap1 ma mb env h) Q := p
    unfold mMap1 at p'
    refine rd_mk (E.step s0) r0 (p'.bindAt s0 fun d h1 x io1 H1 s1 r1 q1 p1 => ?_)
    refine rd_mk ((E.step s0).step s1) r1 (p1.bindAt (s0.trans s1) fun d2 h2 y io2 H2 s2 r2 q2 p2 => ?_)
    have eH1 := s1.keep q _ upd_same nq
    have n1 := s1.out upd_same nq
    have eH2 := s2.keep q _ eH1 n1
    have n2 := s2.out eH1 n1
    split at p2
    · rename_i ok
      obtain ⟨zs, kk, rfl, ek, hd⟩ := keyOk_spec ok
      have rk := Rep.step s2 _ _ q1
      obtain ⟨b, vs, rfl, hb, rb⟩ := id rk
      refine ⟨b, kk, o, rfl, nkV_of _ _ _ ek rk, nk_noText _ _ ek, hd, eH2, fun o2 => ?_⟩
      refine p2 _ io2 _ (((s0.trans s1).trans s2).overX hq eH2 dct_nf) (r2.overX eH2 dct_nf n2) ?_
      have J : Its X.K io2 (upd H2 q (.frz o2 (dctO q o2 [(kk, b, y)]))) [.tup [.tup zs, d2]] [(kk, b, y)] := by
        refine Its.mk' rfl (fun z m => by rw [List.mem_singleton.mp m]; exact hd) fun i x' y' h1 h2 => ?_
        cases i with
        | zero =>
          simp at h1 h2
          subst h1 h2
          exact ⟨_, _, rfl, ek, rk.overX eH2 dct_nf, q2.overX eH2 dct_nf⟩
        | succ i => simp at h1
      exact ⟨q, o2, _, rfl, upd_same, J.k, J.r⟩
    · exact p2.elim
theorem sd_get {apos cpos : Pos} (hu : X.A.units + 65 < cLine) (ho : SE X cl W o ma) (ha : SA X cl W [a, b] ml) (hbase : attributeBase o "get" X.env (eval o X.env) = eval o X.env := by rfl)
    (hfew : ((backTo cpos (starEach [a, b] X.env)).all (fun x => !x.1) && (backToKw cpos (keywordEach [] X.env)).all (fun x => x.1.isSome)
      && decide ([a, b].length + ([] : List Keyword).length + (if ([] : List Keyword).isEmpty then 0 else 1) < 30)) = true := by rfl)
    (hline : (apos.endLine == cpos.line) = true := by rfl) (hs : starEach [a, b] X.env = (false, eval a X.env) :: starEach [b] X.env := by rfl) (hplain : (backTo cpos (starEach [b] X.env)).any (·.1) = false := by rfl) :
    SE X cl W (.Call (.Attribute o "get" apos) [a, b] [] cpos) (mGet ma ml) :=
  (pe_mT ty_dct F.plainAttrs_dict F.slot_dict_get F.type_dict_get (mt_get hu) ho ha hbase hfew hline hs hplain).imp fun sg H Q ⟨env, h, io, E, hr, p⟩ => rd_mk E hr (p.bind fun d h1 v io1 H1 e1 s1 r1 q1 p1 => by
    split at p1
    · rename_i xs0 e0
      obtain ⟨a, o, ys, rfl, h2, I⟩ := OV.dict r1 (show OV X.K io1 H1 (.val d) v from q1) e0
      refine ⟨⟨a, o, ys, rfl, h2⟩, rd_mk (E.step s1) r1 (p1.bind fun ws h2 us io2 H2 e2 s2 r2 q2 p2 => ?_)⟩
      split at p2
      · rename_i k x
        unfold fGetD at p2
        split at p2
        · rename_i xs e3
          split at p2
          · rename_i ok
            obtain ⟨zs, kk, rfl, ek, hd⟩ := keyOk_spec ok
            obtain ⟨a', o', ys', ea, hr', J⟩ := OV.dict r2 (show OV X.K io2 H2 (.val d) _ from q1.step s2 _ _) e3
            cases ea
            obtain ⟨vk, t, rfl, rk, rt⟩ := q2
            obtain ⟨vx, t', rfl, rx, rt'⟩ := rt
            have e4 : t' = [] := rt'
            subst e4
            obtain ⟨b, vs, rfl, hb, rb⟩ := id rk
            refine ⟨a, o', ys', b, kk, vx, rfl, rfl, hr', J.keys, nkV_of _ _ _ ek rk, hd, p2.here r2 ?_⟩
            have := J.look ek
            cases hY : atY ys' kk with
            | some y => rw [hY] at this; obtain ⟨v, e, r⟩ := this; rw [e]; exact r
            | none => rw [hY] at this; rw [this]; exact rx
          · exact p2.elim
        · exact p2.elim
      · exact p2.elim
    · exact p1.elim)
theorem ss_put {i : Expr} {tp : Pos} (hu : X.A.units + 65 < cLine) (he : SE X cl W e ma) (ho : SE X cl W o mb) (hi : SE X cl W i mc)
    (ha : ∀ v, assign (.Subscript o i tp) X.env v = (do
      let ov ← holding [v] (eval o X.env)
      let iv ← holding [v, ov] (eval i X.env)
      standAt tp
      holding [v, ov, iv] (setItem ov iv v)
      release [v, ov, iv] []) := by intro _; rfl)
    (hs : swapsWithSole [.Subscript o i tp] e pos.line X.env = pure false := by rfl) (hw : swappedStores [.Subscript o i tp] e X.env = pure none := by rfl)
    (h1 : (assignEach [.Subscript o i tp] X.env).map (·.2) = [assign (.Subscript o i tp) X.env] := by rfl) : SS X cl W (.Assign [.Subscript o i tp] e pos) (sPut ma mb mc) :=
  (ps_asg he (pg_sub ho hi (set_dct hu) ha) hs hw h1).imp fun D sg H ⟨env, h, io, E, hr, p⟩ => rd_mk E hr (p.out E fun d h1 v io1 H1 e1 s1 r1 q1 p1 => by
    refine rd_mk (E.step s1) r1 (p1.out (E.step s1) fun x h2 xv io2 H2 e2 s2 r2 q2 p2 => ?_)
    refine rd_mk ((E.step s1).step s2) r2 (p2.out ((E.step s1).step s2) fun y h3 yv io3 H3 e3 s3 r3 q3 p3 => ?_)
    split at p3
    · rename_i n
      obtain ⟨ad, ha, rfl⟩ := q2.step s3 _ _
      split at p3
      · rename_i xs e4
        obtain ⟨ob, ys, hv, kk0, rv0⟩ := r3.cell n ad _ ha e4
        have J : Its X.K io3 H3 xs ys := ⟨kk0, rv0⟩
        split at p3
        · rename_i c
          simp only [Bool.and_eq_true, decide_eq_true_eq] at c
          obtain ⟨zs, kk, rfl, ek, hd⟩ := keyOk_spec c.1
          obtain ⟨b, vs, rfl, hb, rb⟩ := id q3
          have E3 := ((E.step s1).step s2).step s3
          refine ⟨ad, ob, ys, b, kk, rfl, rfl, hv, J.keys, nkV_of _ _ _ ek q3, nk_noText _ _ ek, hd, by rw [← J.len, sizeLine_eq]; exact c.2, fun o' => ?_⟩
          have st : Step X.K io3 H3 io3 (upd H3 ad (dctO ad o' (stY ys kk b v))) := Step.writeX (List.mem_of_getElem? ha) hv dct_nf
          have J' := (J.put ek hd q3 ((q1.step s2 _ _).step s3 _ _)).step st
          exact p3 io3 sg _ st (E3.step st) (r3.writeX ha hv dct_nf (show CellRep X.K cl io3 _ ad (.map _) from ⟨o', _, upd_same, J'.k, J'.r⟩))
        · exact p3.elim
      · exact p3.elim
    · exact p3.elim)
theorem ov_inX {f : Bool → Bool} : OpV (RRep X.K) X.K cl (fun x y H Q => rInP X.K f x y H Q ∨ rInN X.K f x y H Q) (fInX f) := by
  intro W io sg H h x y v u Q hr r q p
  unfold fInX at p
  split at p
  · rename_i xs e
    obtain ⟨a, o, ys, rfl, h2, J⟩ := OV.dict hr q e
    split at p
    · rename_i d
      split at p
      · rename_i ok
        obtain ⟨zs, kk, rfl, ek, hd⟩ := keyOk_spec ok
        obtain ⟨b, vs, rfl, hb, rb⟩ := id r
        refine .inr ⟨a, o, ys, b, kk, rfl, rfl, h2, J.keys, nkV_of _ _ _ ek r, hd, p.here hr ?_⟩
        have := J.look ek
        cases hY : atY ys kk with
        | some y => rw [hY] at this; obtain ⟨v, e, r⟩ := this; rw [e]; rfl
        | none => rw [hY] at this; rw [this]; rfl
      · exact p.elim
    · exact p.elim
  · exact .inl (ov_in W io sg H h x y v u Q hr r q p)
theorem sd_inX (hu : X.A.units + 65 < cLine) (ha : SO X cl W a mo) (hb : SO X cl W b mp) (hm : behindInMarks .In b = false := by rfl) : SE X cl W (.Compare a [.In] [b] pos) (m2 (fInX id) mo mp) := so_cmp ((op_inP hu).or (op_inN hu)) ov_inX ha hb hm
theorem sd_notinX (hu : X.A.units + 65 < cLine) (ha : SO X cl W a mo) (hb : SO X cl W b mp) (hm : behindInMarks .NotIn b = false := by rfl) : SE X cl W (.Compare a [.NotIn] [b] pos) (m2 (fInX not) mo mp) := so_cmp ((op_notinP hu).or (op_notinN hu)) ov_inX ha hb hm
theorem st_inX (hu : X.A.units + 65 < cLine) (ha : SO X cl W a mo) (hb : SO X cl W b mp) (hm : behindInMarks .In b = false := by rfl) : ST X cl W (.Compare a [.In] [b] pos) (mTB (m2 (fInX id) mo mp)) := st_cmpO ((op_inP hu).or (op_inN hu)) ov_inX ha hb hm
theorem st_notinX (hu : X.A.units + 65 < cLine) (ha : SO X cl W a mo) (hb : SO X cl W b mp) (hm : behindInMarks .NotIn b = false := by rfl) : ST X cl W (.Compare a [.NotIn] [b] pos) (mTB (m2 (fInX not) mo mp)) := st_cmpO ((op_notinP hu).or (op_notinN hu)) ov_inX ha hb hm
theorem ov_ixX : OpV (RRep X.K) X.K cl (fun x y H Q => rIx X.K x y H Q ∨ rIxN X.K x y H Q) fIxX := by
  intro W io sg H h x y v u Q hr r q p
  unfold fIxX at p
  split at p
  · rename_i xs e
    obtain ⟨a, o, ys, rfl, h2, J⟩ := OV.dict hr r e
    split at p
    · rename_i d
      split at p
      · rename_i ok
        obtain ⟨zs, kk, rfl, ek, hd⟩ := keyOk_spec ok
        obtain ⟨b, vs, rfl, hb, rb⟩ := id q
        split at p
        · rename_i w e2
          have := J.look ek
          cases hY : atY ys kk with
          | some y =>
            rw [hY] at this
            obtain ⟨v, e, r⟩ := this
            rw [e2] at e
            cases e
            exact .inr ⟨a, o, ys, b, kk, y, rfl, rfl, h2, J.keys, nkV_of _ _ _ ek q, hd, hY, p.here hr r⟩
          | none => rw [hY] at this; rw [this] at e2; cases e2
        · exact p.elim
      · exact p.elim
    · exact p.elim
  · exact .inl (ov_ix W io sg H h x y v u Q hr r q p)
theorem sd_ixX (hu : X.A.units + 65 < cLine) (ha : SO X cl W a mo) (hb : SO X cl W b mp) (hs : PlainIx b) : SE X cl W (.Subscript a b pos) (m2 fIxX mo mp) :=
  (pe_ix (ix_seq.or (ix_dct hu)) ha hb hs).imp fun sg H Q q => rd_op2 ov_ixX q
theorem con_listX : Con1 (β := V) (RNew X.K) X.K cl (fun xs H Q => (∃ p ys, xs = [.ref p] ∧ (SqL X.K H p ys ∨ SqT X.K H p ys) ∧ ∀ l, H l = none → Q (.ref l) (upd H l (.lst ys))) ∨ rListN xs H Q) fListX := by
  intro W io sg H h x v Q hr r p
  unfold fListX at p
  split at p
  · rename_i xs e
    obtain ⟨a, o, ys, rfl, h2, J⟩ := OV.dict hr r e
    exact .inr ⟨a, o, ys, rfl, h2, fun l hl => p _ io _ (Step.laid hl) (hr.laid hl) ⟨l, _, rfl, hl, hr.out hl, upd_same, J.krep.step (Step.laid hl) _ _⟩⟩
  · exact .inl (con_list W io sg H h x v Q hr r p)
theorem sn_listX (he : SO X cl W e mo) (hm : X.mg "list" = none) (hc : X.calm = true := by rfl) (hg : Gl X "list" := by rfl) (hs : starEach [e] X.env = (false, eval e X.env) :: starEach [] X.env := by rfl) : SN X cl W (.Call (.Name "list" p) [e] [] pos) (m1 fListX mo) :=
  sc_t1 (call_list_of.or (call_listN hc)) con_listX he hg hm (by decide +kernel) (by decide) (by decide) hs
theorem con_sortX : Con1 (β := V) (RNew X.K) X.K cl (fun xs H Q => (rSortedI X.K xs H Q ∨ rSortD X.K xs H Q) ∨ rSortN X.K xs H Q) fSortX := by
  intro W io sg H h x v Q hr r p
  unfold fSortX at p
  split at p
  · rename_i xs e
    obtain ⟨a, o, ys, rfl, h2, J⟩ := OV.dict hr r e
    split at p
    · rename_i c
      simp only [Bool.and_eq_true, decide_eq_true_eq] at c
      have r2 := J.krep
      refine .inr ⟨a, o, ys, withS (keysD xs) (ys.map fun y => V.ref y.2.1), rfl, h2, withS_fst r2, srt_of r2 c.1.1 c.1.2 (by rw [sizeLine_eq]; unfold keysD; rw [List.length_map]; exact c.2), fun l hl => ?_⟩
      exact p _ io _ (Step.laid hl) (hr.laid hl) ⟨l, _, rfl, hl, hr.out hl, upd_same, (sort_rep r2).step (Step.laid hl) _ _⟩
    · exact p.elim
  · exact .inl (con_sortL W io sg H h x v Q hr r p)
theorem sn_sortX (hu : X.A.units + 65 < cLine) (he : SO X cl W e mo) (hm : X.mg "sorted" = none) (hc : X.calm = true := by rfl) (hg : Gl X "sorted" := by rfl) (hs : starEach [e] X.env = (false, eval e X.env) :: starEach [] X.env := by rfl) : SN X cl W (.Call (.Name "sorted" p) [e] [] pos) (m1 fSortX mo) :=
  sc_b1 ((cr_sortedI.or (call_sortD hu)).or (call_sortN hc hu)) con_sortX he hg hm (by decide +kernel) (by decide) (by decide) hs
theorem si_items {elts : List Expr} {kk : Nat} {tpos apos cpos : Pos} (ho : SE X cl W e ma) (hbase : attributeBase e "items" X.env (eval e X.env) = eval e X.env := by rfl) (hline : (apos.endLine == cpos.line) = true := by rfl) :
    SI X cl W (.Tuple elts kk tpos) (.Call (.Attribute e "items" apos) [] [] cpos) (iItems ma) :=
  (pi_nitems ho hbase hline).imp fun sg H R ⟨env, h, io, E, hr, p⟩ => rd_mk E hr (p.bindAt .refl fun d h1 v io1 H1 s1 r1 q1 p1 => by
    cases d with
    | map xs =>
      obtain ⟨a, o, ys, rfl, hs, kk, q⟩ := q1
      have J : Its X.K io1 H1 xs ys := ⟨kk, q⟩
      refine ⟨a, o, ys, rfl, hs, p1 _ io1 H1 s1 r1 ⟨[], fun G => G a = some (.frz o (dctO a o ys)), fun i G x G' => ∃ T k b v ob, ys[i]? = some (k, b, v) ∧ x = .ref T ∧ G T = none ∧ Obj.dict ob = none ∧ G' = upd G T (.frz ob (.tup [.ref b, v])), fun _ m => by simp at m, ⟨fun i G hi g => ⟨g, by rw [← J.len]; exact hi⟩, fun G g => ⟨g, Nat.le_of_eq J.len.symm⟩, fun i G x G' hi g y => y⟩, fun io2 H2 h2 s2 r2 l2 => s2.fro a (.m o ys) hs, fun i io2 H2 h2 x H' d s2 r2 l2 hd y => ?_⟩⟩
      obtain ⟨T, k, b, v, ob, hy, rfl, hT, ho, rfl⟩ := y
      obtain ⟨k', v', rfl, e1, rk, rv⟩ := (J.keep s2).at hd hy
      exact ⟨Step.laid hT, r2.laid hT, rep_pair hT ho ⟨_, _, rfl, rk, _, _, rfl, rv, rfl⟩⟩
    | _ => exact p1.elim)
end
end Gb

/-! GuZ: dicts, without a heap -/
namespace Gb
open PySem L2
mutual
theorem nk_gnd : ∀ (d : D) (k : NestedKey), nk d = some k → d.gnd = true
  | .non, _, _ => rfl
  | .int _, _, _ => rfl
  | .tup xs, k, h => by
    simp only [nk] at h
    cases q : nkL xs with
    | none => rw [q] at h; cases h
    | some ks => rw [D.gnd]; exact nkL_gnd xs ks q
  | .bl _, _, _ => rfl
  | .str _, _, _ => rfl
  | .ref _, _, h => by simp [nk] at h
  | .fro _, _, h => by simp [nk] at h
  | .lst _, _, h => by simp [nk] at h
  | .dct _ _, _, h => rfl
  | .map _, _, h => by simp [nk] at h
theorem nkL_gnd : ∀ (ds : List D) (ks : List NestedKey), nkL ds = some ks → D.gndL ds = true
  | [], _, _ => rfl
  | x :: xs, ks, h => by
    simp only [nkL] at h
    split at h
    · rename_i k1 ks1 e1 e2
      rw [D.gndL, nk_gnd x _ e1, nkL_gnd xs _ e2]; rfl
    · simp at h
end
mutual
theorem den_nk {L : Nat → Prop} {h : PHeap} : ∀ (u d : D) (k : NestedKey), nk d = some k → Den L h u d → u = d
  | .lst us, d, k, e, q => by rw [Den] at q; obtain ⟨n, ds, rfl, _⟩ := q; simp [nk] at e
  | .fro us, d, k, e, q => by rw [Den] at q; obtain ⟨ds, rfl, _⟩ := q; simp [nk] at e
  | .map us, d, k, e, q => by rw [Den] at q; obtain ⟨ds, rfl, _⟩ := q; simp [nk] at e
  | .tup us, d, k, e, q => by
    rw [Den] at q
    obtain ⟨ds, rfl, q⟩ := q
    simp only [nk] at e
    cases z : nkL ds with
    | none => rw [z] at e; cases e
    | some ks => rw [denL_nk us ds ks z q]
  | .dct _ _, d, k, e, q => by rw [Den] at q; exact q.symm
  | .ref _, d, k, e, q => by rw [Den] at q; exact q.elim
  | .non, d, k, e, q => by rw [Den] at q; exact q.symm
  | .bl _, d, k, e, q => by rw [Den] at q; exact q.symm
  | .int _, d, k, e, q => by rw [Den] at q; exact q.symm
  | .str _, d, k, e, q => by rw [Den] at q; exact q.symm
theorem denL_nk {L : Nat → Prop} {h : PHeap} : ∀ (us ds : List D) (k : List NestedKey), nkL ds = some k → DenL L h us ds → us = ds
  | [], ds, k, e, q => by rw [DenL] at q; exact q.symm
  | u :: us, ds, k, e, q => by
    rw [DenL] at q
    obtain ⟨d, r, rfl, q1, q2⟩ := q
    simp only [nkL] at e
    split at e
    · rename_i k1 ks1 e1 e2
      rw [den_nk u d _ e1 q1, denL_nk us r _ e2 q2]
    · simp at e
end
mutual
theorem okS_gnd : ∀ u : D, u.okS = true → u.gnd = true
  | .int _, _ => rfl
  | .tup xs, h => by rw [D.gnd]; exact okSL_gnd xs (by simpa only [D.okS] using h)
  | .non, h => by simp [D.okS] at h
  | .bl _, h => by simp [D.okS] at h
  | .str _, h => by simp [D.okS] at h
  | .ref _, h => by simp [D.okS] at h
  | .fro _, h => by simp [D.okS] at h
  | .lst _, h => by simp [D.okS] at h
  | .dct _ _, h => by simp [D.okS] at h
  | .map _, h => by simp [D.okS] at h
theorem okSL_gnd : ∀ us : List D, D.okSL us = true → D.gndL us = true
  | [], _ => rfl
  | u :: us, h => by
    rw [D.okSL, Bool.and_eq_true] at h
    rw [D.gndL, okS_gnd u h.1, okSL_gnd us h.2]; rfl
end
theorem cmpB_gnd {xs : List D} (h : cmpB xs = true) : D.gndL xs = true := okSL_gnd xs (okSL_all.mpr (cmpB_ok h).1)
theorem cmpB_at {xs : List D} (h : cmpB xs = true) {x : D} (m : x ∈ xs) : x.gnd = true := okS_gnd x ((cmpB_ok h).1 x m)
theorem keyOk_gnd {k : D} (h : keyOk k = true) : k.gnd = true := by
  obtain ⟨zs, kk, rfl, e, _⟩ := keyOk_spec h
  exact nk_gnd _ _ e
section
variable {L : Nat → Prop} {h : PHeap}
theorem key_same {k a b : D} (hk : keyOk k = true) (q : Den L h a b) : decide (b = k) = decide (a = k) := by
  obtain ⟨zs, kk, ek, e, _⟩ := keyOk_spec hk
  rw [decide_eq_decide]
  constructor
  · intro z; subst z; exact den_nk a b kk e q
  · intro z; subst z; exact den_gnd a b (keyOk_gnd hk) q
theorem keyIs_den {k : D} (hk : keyOk k = true) : ∀ {u d : D}, Den L h u d → keyIs k d = keyIs k u := by
  intro u d q
  cases u with
  | tup us =>
    rw [Den] at q
    obtain ⟨ds, rfl, q⟩ := q
    cases us with
    | nil => rw [DenL] at q; subst q; rfl
    | cons a us =>
      rw [DenL] at q
      obtain ⟨a', ds, rfl, q1, q⟩ := q
      cases us with
      | nil => rw [DenL] at q; subst q; rfl
      | cons b us =>
        rw [DenL] at q
        obtain ⟨b', ds, rfl, q2, q⟩ := q
        cases us with
        | nil => rw [DenL] at q; subst q; exact key_same hk q1
        | cons c us => rw [DenL] at q; obtain ⟨c', ds, rfl, q3, q⟩ := q; rfl
  | lst us => rw [Den] at q; obtain ⟨n, ds, rfl, _⟩ := q; rfl
  | fro us => rw [Den] at q; obtain ⟨ds, rfl, _⟩ := q; rfl
  | map us => rw [Den] at q; obtain ⟨ds, rfl, _⟩ := q; rfl
  | ref _ => rw [Den] at q; exact q.elim
  | _ => rw [Den] at q; subst q; rfl
theorem keyIs_shape {k u : D} (e : keyIs k u = true) : ∃ v, u = .tup [k, v] := by
  unfold keyIs at e
  split at e
  · rename_i k' v
    rw [decide_eq_true_eq] at e
    exact ⟨v, by rw [e]⟩
  · cases e
theorem look_den {k : D} (hk : keyOk k = true) : ∀ {us ds : List D}, DenL L h us ds → match lookD us k with
    | some v => ∃ v', lookD ds k = some v' ∧ Den L h v v'
    | none => lookD ds k = none
  | [], ds, q => by rw [DenL] at q; subst q; rfl
  | u :: us, ds, q => by
    rw [DenL] at q
    obtain ⟨d, r, rfl, q1, q2⟩ := q
    have ih := look_den hk q2
    unfold lookD at ih ⊢
    rw [List.find?_cons, List.find?_cons, keyIs_den hk q1]
    cases c : keyIs k u with
    | true =>
      simp only
      obtain ⟨v, rfl⟩ := keyIs_shape c
      rw [Den] at q1
      obtain ⟨ds, rfl, q1⟩ := q1
      rw [DenL] at q1
      obtain ⟨a, ds, rfl, _, q1⟩ := q1
      rw [DenL] at q1
      obtain ⟨b, ds, rfl, q3, q1⟩ := q1
      rw [DenL] at q1
      subst q1
      exact ⟨b, rfl, q3⟩
    | false => simp only; exact ih
theorem any_den {k : D} (hk : keyOk k = true) : ∀ {us ds : List D}, DenL L h us ds → ds.any (keyIs k) = us.any (keyIs k)
  | [], ds, q => by rw [DenL] at q; subst q; rfl
  | u :: us, ds, q => by
    rw [DenL] at q
    obtain ⟨d, r, rfl, q1, q2⟩ := q
    rw [List.any_cons, List.any_cons, keyIs_den hk q1, any_den hk q2]
theorem put_den {k v v' : D} (hk : keyOk k = true) (rv : Den L h v v') {us ds : List D} (q : DenL L h us ds) : DenL L h (putD us k v) (putD ds k v') := by
  have pr : Den L h (.tup [k, v]) (.tup [k, v']) := by rw [Den]; exact ⟨_, rfl, DenL.mk (gnd_den k (keyOk_gnd hk)) (.one rv)⟩
  unfold putD
  rw [any_den hk q]
  split
  · rename_i c0
    clear c0
    have go : ∀ {us ds : List D}, DenL L h us ds → DenL L h (us.map fun x => if keyIs k x then .tup [k, v] else x) (ds.map fun x => if keyIs k x then .tup [k, v'] else x) := by
      intro us
      induction us with
      | nil => intro ds q; rw [DenL] at q; subst q; simp; rw [DenL]
      | cons u us ih =>
        intro ds q
        rw [DenL] at q
        obtain ⟨d, r, rfl, q1, q2⟩ := q
        rw [List.map_cons, List.map_cons]
        refine DenL.mk ?_ (ih q2)
        rw [keyIs_den hk q1]
        split
        · exact pr
        · exact q1
    exact go q
  · exact q.app (.one pr)
theorem keyOf_den : ∀ {u d : D}, Den L h u d → Den L h (keyOf u) (keyOf d) := by
  intro u d q
  have nn : Den L h .non .non := by rw [Den]
  cases u with
  | tup us =>
    rw [Den] at q
    obtain ⟨ds, rfl, q⟩ := q
    cases us with
    | nil => rw [DenL] at q; subst q; exact nn
    | cons a us =>
      rw [DenL] at q
      obtain ⟨a', ds, rfl, q1, q⟩ := q
      cases us with
      | nil => rw [DenL] at q; subst q; exact nn
      | cons b us =>
        rw [DenL] at q
        obtain ⟨b', ds, rfl, q2, q⟩ := q
        cases us with
        | nil => rw [DenL] at q; subst q; exact q1
        | cons c us => rw [DenL] at q; obtain ⟨c', ds, rfl, q3, q⟩ := q; exact nn
  | lst us => rw [Den] at q; obtain ⟨n, ds, rfl, _⟩ := q; exact nn
  | fro us => rw [Den] at q; obtain ⟨ds, rfl, _⟩ := q; exact nn
  | map us => rw [Den] at q; obtain ⟨ds, rfl, _⟩ := q; exact nn
  | ref _ => rw [Den] at q; exact q.elim
  | _ => rw [Den] at q; subst q; exact nn
theorem keys_den : ∀ {us ds : List D}, DenL L h us ds → DenL L h (keysD us) (keysD ds)
  | [], ds, q => by rw [DenL] at q; subst q; exact denL_nil.mpr rfl
  | u :: us, ds, q => by
    rw [DenL] at q
    obtain ⟨d, r, rfl, q1, q2⟩ := q
    exact DenL.mk (keyOf_den q1) (keys_den q2)
end
/-! slots of dicts -/
section
variable {S : Sx} {k : Nat} {B : Nat → Prop} {ow : Ow} {h : PHeap} {env ven : PEnv}
/-- a dict's cell that nobody has is written -/
theorem Rl.setM (r : Rl S k B ow h env ven) {n : Nat} {ds : List D} {c : Cell} (nl : ¬ lk B ow n) (g : h[n]? = some (.map ds)) : Rl S k B ow (h.set n c) env ven := by
  have kp : Kp (lk B ow) h (lk B ow) (h.set n c) := fun m es l g2 => ⟨l, by
    rw [List.getElem?_set_ne (fun e => by subst e; rw [g] at g2; cases g2)]; exact g2⟩
  refine ⟨by simpa using r.kl, fun m q => by simpa using r.lt m q, r.inj, r.dis, r.frs, fun j m e => ?_, r.all, r.len, fun j u m e => ?_⟩
  · obtain ⟨x1, x2, vs, cs, x3, x4, x5⟩ := r.own j m e
    exact ⟨x1, x2, vs, cs, x3, by rw [List.getElem?_set_ne (fun z : n = m => nl (.inr ⟨j, by rw [z]; exact e⟩))]; exact x4, DenL.kp kp vs cs x5⟩
  · obtain ⟨d, y1, y2⟩ := r.oth j u m e
    exact ⟨d, y1, Den.kp kp u d y2⟩
end
/-- {} for a slot of its own -/
def uMap0 (i : Nat) : US := fun v => .nx (v.set i (some (.map [])))
/-- an owned dict is given away -/
def uPub (i : Nat) : UE := fun v => match v[i]? with
  | some (some (.map us)) => .ok (.map us) (v.set i none)
  | _ => .stuck
/-- an owned dict's items -/
def uOwnM (i : Nat) : UA := fun v => match v[i]? with
  | some (some (.map xs)) => .ok xs v
  | _ => .stuck
def gGetD (us : List D) (k x : D) : Option D := if keyOk k = true then some ((lookD us k).getD x) else none
def getU (us ws : List D) (v : PEnv) : UR D := match ws with
  | [k, x] => .of (gGetD us k x) v
  | _ => .stuck
def uGeto (i : Nat) (w : UA) : UE := fun v => (uOwnM i v).bind fun _ v0 => (w v0).bind fun ws v1 => (uOwnM i v1).bind fun us v2 => getU us ws v2
def uGet (a : UE) (w : UA) : UE := fun v => (a v).bind fun u v1 => match u with
  | .map us => (w v1).bind fun ws v2 => getU us ws v2
  | _ => .stuck
def uPut (a : UE) (i : Nat) (b : UE) : US := fun v => (a v).out fun d v1 => (uOwnM i v1).out fun _ v2 => (b v2).out fun y v3 => (uOwnM i v3).out fun us v4 => if (keyOk y && decide (us.length < 16777216)) = true then .nx (v4.set i (some (.map (putD us y d)))) else .stuck
def uItems (a : UE) : UI := fun v => (a v).bind fun u v1 => match u with
  | .map us => .ok us v1
  | _ => .stuck
def uMap1 (a b : UE) : UE := fun v => (a v).bind fun y v1 => (b v1).bind fun x v2 => if keyOk y = true then .ok (.map [.tup [y, x]]) v2 else .stuck
section
variable {S : Sx} {a b c : ME} {va vb vc : UE} {m : MA} {w : UA} {mo mp : MO} {i : Nat} {X : List Nat}
theorem uOwnM_cases (i : Nat) (v : PEnv) : uOwnM i v = .stuck ∨ ∃ us, v[i]? = some (some (.map us)) ∧ uOwnM i v = .ok us v := by
  unfold uOwnM
  split
  · rename_i u e; exact .inr ⟨u, e, rfl⟩
  · exact .inl rfl
theorem us_map0 (hi : i ∈ S.O) (hp : i ∉ S.P) (hq : i ∈ S.Q) : SU S (sAsg mMap0 (.name i)) (uMap0 i) := by
  intro k B ow h env ven r
  unfold uMap0
  rw [s_asg]
  simp only [mMap0, Res.out_ok, set_name, tg_name]
  by_cases hl : i < ven.length
  · exact ⟨_, _, setOw ow i h.length, rfl, r.setOb (bb := true) (us := []) (ds := []) (decide_eq_true hq) hi (by simp) (fun n c e => get_app e) (Nat.le_refl _) (by simp [bxC]) (denL_nil.mpr rfl) hl, .setO hp (by simp) (fun n c e => get_app e) (Nat.le_refl _)⟩
  · exact ⟨_, _, ow, rfl, (r.app _).setOut hl, .app _⟩
theorem ue_pub (hi : i ∈ S.O) (hp : i ∉ S.P) (hM : i ∈ S.M) (hq : i ∈ S.Q) : JU S RD (mPub i) (uPub i) := by
  intro k B ow h env ven r
  have : uPub i ven = .stuck ∨ ∃ us, ven[i]? = some (some (.map us)) ∧ uPub i ven = .ok (.map us) (ven.set i none) := by
    unfold uPub
    split
    · rename_i u e; exact .inr ⟨u, e, rfl⟩
    · exact .inl rfl
  rcases this with e | ⟨us, e, e1⟩
  · rw [e]; trivial
  · obtain ⟨n, e0⟩ := r.all i _ hi e
    obtain ⟨_, e2, us', ds, e3, e4, q⟩ := r.ownM hq e0
    rw [e] at e3
    cases e3
    have hl := (List.getElem?_eq_some_iff.mp e).1
    have em : mPub i env h = .ok (.map ds) (h.set n .dead) := by
      unfold mPub
      rw [e2]
      simp only [e4]
    rw [e1, em]
    have r1 : Rl S k B (dropO ow [i]) h env (ven.set i none) := by
      refine r.forget (by simp) rfl (fun j u q => ?_) (fun j u q g => ?_) (fun _ _ => rfl)
      · by_cases hj : i = j
        · subst hj; rw [List.getElem?_set_self hl] at q; cases q
        · rw [List.getElem?_set_ne hj] at q
          exact ⟨q, fun m => hj (List.mem_singleton.mp m).symm⟩
      · rw [List.getElem?_set_ne (fun e => q (by rw [e]; exact List.mem_singleton.mpr rfl))]; exact g
    have nl : ¬ lk B (dropO ow [i]) n := by
      rintro (l | ⟨j, l⟩)
      · exact r.dis i n e0 l
      · obtain ⟨l1, l2⟩ := dropO_some l
        exact l2 (by rw [r.inj j i n l1 e0]; exact List.mem_singleton.mpr rfl)
    have st : Stp S ow h (dropO ow [i]) (h.set n .dead) := (Stp.write e0 hM).trans (.drop fun j m q => hp (by rw [← List.mem_singleton.mp q]; exact m))
    refine ⟨_, _, _, rfl, r1.setM nl e4, st, ?_⟩
    show Den _ _ _ _
    rw [Den]
    exact ⟨ds, rfl, DenL.kp st.kp us ds q⟩
theorem get_den {L : Nat → Prop} {h : PHeap} {us ds : List D} {y y' x x' z : D} (q : DenL L h us ds) (qy : Den L h y y') (qx : Den L h x x') (e : gGetD us y x = some z) : keyOk y' = true ∧ Den L h z ((lookD ds y').getD x') := by
  unfold gGetD at e
  split at e
  · rename_i c
    cases e
    have := den_gnd y y' (keyOk_gnd c) qy
    subst this
    refine ⟨c, ?_⟩
    have l := look_den c q
    cases z : lookD us y' with
    | some v => rw [z] at l; obtain ⟨v', e1, e2⟩ := l; rw [e1]; exact e2
    | none => rw [z] at l; rw [l]; exact qx
  · cases e
theorem ue_geto (hi : i ∈ S.O) (hm : JU S RL m w) (hq : i ∈ S.Q) : JU S RD (mGet (mVar i) m) (uGeto i w) := by
  intro k B ow h env ven r
  unfold uGeto
  rcases uOwnM_cases i ven with e | ⟨u, e, e1⟩
  · rw [e]; trivial
  · obtain ⟨n, eo⟩ := r.all i _ hi e
    obtain ⟨_, e2, us, ds, e3, e4, q⟩ := r.ownM hq eo
    unfold mGet
    rw [e1, mVar_at e2]
    simp only [Res.bind_ok, UR.bind_ok, LV.dict, e4]
    exact (hm k B ow h env ven r).bind fun es h1 ow1 v1 ws r1 s1 q1 => by
      rcases uOwnM_cases i v1 with e' | ⟨us1, e', e1'⟩
      · rw [e']; trivial
      · rw [e1']
        obtain ⟨n', eo'⟩ := r1.all i _ hi e'
        obtain ⟨_, e2', us', ds', e3', e4', q'⟩ := r1.ownM hq eo'
        rw [e2] at e2'
        cases e2'
        rw [e'] at e3'
        cases e3'
        simp only [UR.bind_ok]
        match ws, q1 with
        | [], _ => trivial
        | [_], _ => trivial
        | _ :: _ :: _ :: _, _ => trivial
        | [y, x], q1 =>
          rw [RL, DenL] at q1
          obtain ⟨y', r', rfl, q2, q1⟩ := q1
          rw [DenL] at q1
          obtain ⟨x', r', rfl, q3, q1⟩ := q1
          rw [DenL] at q1
          subst q1
          exact .of r1 fun z ez => by
            obtain ⟨c, q5⟩ := get_den q' q2 q3 ez
            exact ⟨_, by simp only [fGetD, LV.dict, e4', c]; rfl, q5⟩
theorem ue_get (ha : JU S RD a va) (hm : JU S RL m w) : JU S RD (mGet a m) (uGet va w) := fun k B ow h env ven r =>
  (ha k B ow h env ven r).bind fun d h1 ow1 v1 u r1 s1 q1 => by
    cases u with
    | map us =>
      rw [RD, Den] at q1
      obtain ⟨ds, rfl, q1⟩ := q1
      simp only [LV.dict]
      exact (hm k B ow1 h1 env v1 r1).bind fun es h2 ow2 v2 ws r2 s2 q2 => by
        match ws, q2 with
        | [], _ => trivial
        | [_], _ => trivial
        | _ :: _ :: _ :: _, _ => trivial
        | [y, x], q2 =>
          rw [RL, DenL] at q2
          obtain ⟨y', r', rfl, q3, q2⟩ := q2
          rw [DenL] at q2
          obtain ⟨x', r', rfl, q4, q2⟩ := q2
          rw [DenL] at q2
          subst q2
          exact .of r2 fun z ez => by
            obtain ⟨c, q5⟩ := get_den (DenL.kp s2.kp _ _ q1) q3 q4 ez
            exact ⟨_, by simp only [fGetD, LV.dict, c]; rfl, q5⟩
    | _ => trivial
theorem us_put (ha : JU S RD a va) (hi : i ∈ S.O) (hM : i ∈ S.M) (hb : JU S RD b vb) (hq : i ∈ S.Q) : SU S (sPut a (mVar i) b) (uPut va i vb) := fun k B ow h env ven r =>
  (ha k B ow h env ven r).out fun d h1 ow1 v1 z r1 s1 q1 => by
    rcases uOwnM_cases i v1 with e | ⟨us, e, e1⟩
    · rw [e]; trivial
    · obtain ⟨n, eo⟩ := r1.all i _ hi e
      obtain ⟨_, e2, us1, ds1, e3, e4, q⟩ := r1.ownM hq eo
      rw [e1, mVar_at e2]
      simp only [Res.out_ok, UR.out_ok]
      exact (hb k B ow1 h1 env v1 r1).out fun y h2 ow2 v2 w r2 s2 q2 => by
        rcases uOwnM_cases i v2 with e' | ⟨us', e', e1'⟩
        · rw [e']; trivial
        · rw [e1']
          obtain ⟨n', eo'⟩ := r2.all i _ hi e'
          obtain ⟨_, e2', us2, ds2, e3', e4', q'⟩ := r2.ownM hq eo'
          rw [e2] at e2'
          cases e2'
          rw [e'] at e3'
          cases e3'
          simp only [UR.out_ok]
          by_cases c : (keyOk w && decide (us'.length < 16777216)) = true
          · rw [if_pos c]
            rw [Bool.and_eq_true] at c
            have := den_gnd w y (keyOk_gnd c.1) q2
            subst this
            simp only [e4']
            rw [if_pos (by rw [Bool.and_eq_true, ← q'.len]; exact c)]
            exact ⟨env, _, ow2, rfl, r2.writeB (bb := true) (decide_eq_true hq) eo' (put_den c.1 (Sta.sta (R := RD) s2 q1) q'), .write eo' hM⟩
          · rw [if_neg c]; trivial
theorem ui_items (ha : JU S RD a va) : JU S (RI X) (iItems a) (uItems va) := fun k B ow h env ven r =>
  (ha k B ow h env ven r).bind fun d h1 ow1 v1 u r1 s1 q1 => by
    cases u with
    | map us =>
      rw [RD, Den] at q1
      obtain ⟨ds, rfl, q1⟩ := q1
      exact .ok r1 ⟨q1, fun p m => by cases m⟩
    | _ => trivial
theorem ue_map1 (ha : JU S RD a va) (hb : JU S RD b vb) : JU S RD (mMap1 a b) (uMap1 va vb) := fun k B ow h env ven r =>
  (ha k B ow h env ven r).bind fun d h1 ow1 v1 u r1 s1 q1 => (hb k B ow1 h1 env v1 r1).bind fun e h2 ow2 v2 w r2 s2 q2 => by
    by_cases c : keyOk u = true
    · rw [if_pos c]
      have q1' : Den (lk B ow2) h2 u d := Sta.sta (R := RD) s2 q1
      have := den_gnd u d (keyOk_gnd c) q1'
      subst this
      rw [if_pos c]
      refine .ok r2 ?_
      show Den _ _ _ _
      rw [Den]
      refine ⟨_, rfl, .one ?_⟩
      rw [Den]
      exact ⟨_, rfl, DenL.mk q1' (.one q2)⟩
    · rw [if_neg c]; trivial
end
/-! the least, sorted -/
def gMinLX : D → Option D := fun u => match gItems u with
  | some us => match intsOf us with
    | some ns => (minO ns).map D.int
    | none => match us with
      | [] => none
      | y :: ys => if cmpB (y :: ys) = true then some (minDs y ys) else none
  | none => none
theorem g_minLX : Mo1 RD fMinLX gMinLX := by
  intro B ow h u x z q g
  unfold gMinLX at g
  split at g
  · rename_i us e
    obtain ⟨ds, e1, q1⟩ := itemsW q e
    split at g
    · rename_i ns e2
      have e3 := ints_den q1 e2
      cases ns with
      | nil => cases g
      | cons n ns => cases g; exact ⟨_, by simp only [fMinLX, e1, e3], gnd_den _ rfl⟩
    · rename_i e2
      split at g
      · cases g
      · rename_i y ys
        split at g
        · rename_i c
          cases g
          have := denL_gnd _ _ (cmpB_gnd c) q1
          subst this
          exact ⟨_, by simp only [fMinLX, e1, e2]; rw [if_pos c], gnd_den _ (cmpB_at c (minDs_mem ys y))⟩
        · cases g
  · cases g
def gMin2X : D → D → Option D := fun u w => match u, w with
  | .int i, .int j => some (.int (if j < i then j else i))
  | u, w => if cmpB [u, w] = true then some (if ltD w u then w else u) else none
theorem g_min2X : Mo2 RD fMin2X gMin2X := by
  intro B ow h u x w y z q r g
  unfold gMin2X at g
  split at g
  · cases g; rw [atomW q rfl, atomW r rfl]; exact ⟨_, rfl, gnd_den _ rfl⟩
  · rename_i h1
    split at g
    · rename_i c
      cases g
      have gu := cmpB_at c (x := u) (by simp)
      have gw := cmpB_at c (x := w) (by simp)
      rw [atomW q gu, atomW r gw]
      refine ⟨_, ?_, gnd_den (L := lk B ow) (h := h) _ (by split <;> assumption)⟩
      unfold fMin2X
      split
      · rename_i i j e1 e2
        cases e1; cases e2
        exact (h1 i j rfl rfl).elim
      · rename_i e1 e2
        cases e1; cases e2
        rw [if_pos c]
      · rename_i e1 e2
        exact (e2 u w rfl rfl).elim
    · cases g
/-- sorted, in words that run: where it is so already, nothing is to do -/
def pairB : List D → Bool
  | [] => true
  | x :: xs => xs.all (leD x) && pairB xs
theorem pairB_of : ∀ {xs : List D}, pairB xs = true → xs.Pairwise fun a b => leD a b = true
  | [], _ => .nil
  | x :: xs, h => by
    rw [pairB, Bool.and_eq_true] at h
    exact .cons (List.all_eq_true.mp h.1) (pairB_of h.2)
def sortF (xs : List D) : List D := match pairB xs with
  | true => xs
  | false => sortDs xs
theorem sortF_eq {xs : List D} : sortF xs = sortDs xs := by
  unfold sortF
  split
  · rename_i h; exact (List.mergeSort_of_pairwise (pairB_of h)).symm
  · rfl
def gSortX : D → Option (List D) := fun u => match u with
  | .map us => if (cmpB (keysD us) && fullB (keysD us) && decide (us.length ≤ 16777216)) = true then some (sortF (keysD us)) else none
  | .lst us => match intsOf us with
    | some ns => some ((sortI ns).map D.int)
    | none => if (cmpB us && fullB us && decide (us.length ≤ 16777216)) = true then some (sortF us) else none
  | _ => none
theorem dict_none {x : LV} {h : PHeap} {ds : List D} (e : x.items h = some ds) : x.dict h = none := by
  cases x with
  | new _ => rfl
  | val d =>
    cases d with
    | ref n =>
      simp only [LV.items] at e
      split at e
      · rename_i q; simp only [LV.dict, q]
      · cases e
    | map _ => cases e
    | _ => rfl
theorem sorted_gnd {L : Nat → Prop} {h : PHeap} {us : List D} (c : cmpB us = true) : DenL L h (sortDs us) (sortDs us) := by
  refine gndL_den _ (okSL_gnd _ (okSL_all.mpr fun x m => (cmpB_ok c).1 x ?_))
  exact (List.mergeSort_perm us leD).mem_iff.mp m
theorem g_sortX : Mo1 RL fSortX gSortX := by
  intro B ow h u x z q g
  unfold gSortX at g
  simp only [sortF_eq] at g
  split at g
  · rename_i us
    split at g
    · rename_i c
      cases g
      rcases q with q | ⟨n, us', ds, rfl, e, _⟩
      · cases x with
        | val d =>
          replace q : Den (lk B ow) h (.map us) d := q
          rw [Den] at q
          obtain ⟨ds, rfl, q⟩ := q
          simp only [Bool.and_eq_true, decide_eq_true_eq] at c
          have e := denL_gnd _ _ (cmpB_gnd c.1.1) (keys_den q)
          refine ⟨sortDs (keysD ds), ?_, ?_⟩
          · simp only [fSortX, LV.dict, e, c.1.1, c.1.2, ← q.len, c.2, decide_true, Bool.and_self]
            rfl
          · show DenL _ _ _ _
            rw [e]
            exact sorted_gnd c.1.1
        | new ds => obtain ⟨us', e, _⟩ := q; cases e
      · cases e
    · cases g
  · rename_i us
    obtain ⟨ds, e1, q1⟩ := itemsW q rfl
    have e0 := dict_none e1
    split at g
    · rename_i ns e2
      cases g
      exact ⟨_, by simp only [fSortX, e0, fSortL, e1, ints_den q1 e2], DenL.ints _⟩
    · rename_i e2
      split at g
      · rename_i c
        cases g
        simp only [Bool.and_eq_true, decide_eq_true_eq] at c
        have := denL_gnd _ _ (cmpB_gnd c.1.1) q1
        subst this
        exact ⟨_, by simp only [fSortX, e0, fSortL, e1, e2, c.1.1, c.1.2, c.2, decide_true, Bool.and_self]; rfl, sorted_gnd c.1.1⟩
      · cases g
  · cases g
/-! at what stands there -/
section
variable {v : PEnv} {a b c : UE} {r : UA} {i : Nat}
@[simp] theorem u_map0 : uMap0 i v = .nx (v.set i (some (.map []))) := rfl
@[simp] theorem u_pub : uPub i v = (match v[i]? with | some (some (.map us)) => .ok (.map us) (v.set i none) | _ => .stuck) := rfl
@[simp] theorem u_ownM : uOwnM i v = (match v[i]? with | some (some (.map xs)) => .ok xs v | _ => .stuck) := rfl
@[simp] theorem u_geto : uGeto i r v = (uOwnM i v).bind fun _ v0 => (r v0).bind fun ws v1 => (uOwnM i v1).bind fun us v2 => getU us ws v2 := rfl
@[simp] theorem getU_2 {us : List D} {k x : D} : getU us [k, x] v = .of (gGetD us k x) v := rfl
def putU (i : Nat) (us : List D) (y d : D) (v : PEnv) : UO := if (keyOk y && decide (us.length < 16777216)) = true then .nx (v.set i (some (.map (putD us y d)))) else .stuck
@[simp] theorem u_put : uPut a i b v = (a v).out fun d v1 => (uOwnM i v1).out fun _ v2 => (b v2).out fun y v3 => (uOwnM i v3).out fun us v4 => putU i us y d v4 := rfl
def itemsU (u : D) (v1 : PEnv) : UR (List D) := match u with
  | .map us => .ok us v1
  | _ => .stuck
@[simp] theorem u_items : uItems a v = (a v).bind fun u v1 => itemsU u v1 := rfl
@[simp] theorem itemsU_m {us : List D} : itemsU (.map us) v = .ok us v := rfl
@[simp] theorem u_map1 : uMap1 a b v = (a v).bind fun y v1 => (b v1).bind fun x v2 => if keyOk y = true then .ok (.map [.tup [y, x]]) v2 else .stuck := rfl
@[simp] theorem gmin2X_i {i j : Int} : gMin2X (.int i) (.int j) = some (.int (if j < i then j else i)) := rfl
@[simp] theorem gsortX3 {a b x : Int} : gSortX (.lst [.int a, .int x, .int b]) = some ((sortI [a, x, b]).map D.int) := rfl
end
end Gb

/-! GcI: a < b, of data -/
namespace Gb
open PySem L2 PySem.Spec PyProof.Rows PySem.W
def fLtX : D → D → PHeap → Res D := fun x y h => match x, y with
  | .int i, .int j => .ok (.bl (decide (i < j))) h
  | x, y => if cmpB [x, y] = true then .ok (.bl (ltD x y)) h else .stuck
section
variable {X : Cx} {cl : Nat → Addr} {W : WX} {a b : Expr} {ma mb : ME} {pos : Pos}
theorem o2_ltX : Op2 X.K cl (fun x y H Q => (∃ i j, x = .int i ∧ y = .int j ∧ Q (.bl (decide (i < j))) H) ∨ rCmpD X.K dataLt x y H Q) fLtX := by
  intro W io sg H h x y v u Q hr r q p
  unfold fLtX at p
  split at p
  · cases r; cases q; exact .inl ⟨_, _, rfl, rfl, p.here hr rfl⟩
  · split at p
    · rename_i c
      obtain ⟨c1, c2, c3, c4⟩ := cmpB_ok c
      have mx : x ∈ [x, y] := by simp
      have my : y ∈ [x, y] := by simp
      exact .inr ⟨pyS x, pyS y, dpS_of x v (c1 x mx) r, dpS_of y u (c1 y my) q, c3 x mx y my, c4 x mx, c2 x mx, p.here hr rfl⟩
    · exact p.elim
theorem sd_ltX (hu : X.A.units + 65 < cLine) (ha : SE X cl W a ma) (hb : SE X cl W b mb) : SE X cl W (.Compare a [.Lt] [b] pos) (mBin fLtX ma mb) := sd_cmp (op_lt.or (op_ltD hu)) o2_ltX ha hb (nomark _)
theorem st_ltX (hu : X.A.units + 65 < cLine) (ha : SE X cl W a ma) (hb : SE X cl W b mb) : ST X cl W (.Compare a [.Lt] [b] pos) (mTB (mBin fLtX ma mb)) := st_cmp (op_lt.or (op_ltD hu)) o2_ltX ha hb (nomark _)
end
end Gb

/-! GuW: a < b, of data, without a heap -/
namespace Gb
open PySem L2
def gLtX : D → D → Option D := fun u w => match u, w with
  | .int i, .int j => some (.bl (decide (i < j)))
  | u, w => if cmpB [u, w] = true then some (.bl (ltD u w)) else none
theorem g_ltX : MB fLtX gLtX := by
  intro L h u w d e z q r g
  unfold gLtX at g
  split at g
  · cases g
    rw [Den] at q r
    subst q r
    exact ⟨rfl, rfl⟩
  · rename_i h1
    split at g
    · rename_i c
      cases g
      have e1 := den_gnd u d (cmpB_at c (x := u) (by simp)) q
      have e2 := den_gnd w e (cmpB_at c (x := w) (by simp)) r
      subst e1 e2
      refine ⟨?_, rfl⟩
      unfold fLtX
      split
      · exact (h1 _ _ rfl rfl).elim
      · rw [if_pos c]
    · cases g
end Gb

/-! GdA: sorted(set(xs)) -/
namespace Gb
open PySem L2 PySem.Spec PyProof.Rows PySem.W
section
variable {P : Program} {w : World} {A : Around} {E : Value → Shared → Prop} {s : Shared}
/-- the object of set() -/
abbrev set0 (w : World) : Obj := { cls := .type "set", dict := none, data := .set #[] 0 (.fresh 0 0 (!w.params.followText "set-order")) }
/-- set(xs), xs a list: what its loop does -/
theorem set_of_list {l : Addr} {items : Array Value} {Q : Value → Shared → Prop} {Fin : Heap → Prop} (hh : A.handled = none) (hl : s.heap.IsList l items)
    (loop : ∀ (s1 : Shared) (I : Addr) (G : Array GenState → Array GenState → Prop) (St : Nat → Shared → Prop) (R : Result → Shared → Prop),
      WalksS P w A.in1.in1.in1 I [I, l] [I] G items.size (fun i v => items[i]? = some v) St → St 0 s1 → s.heap.objs.size < I → s1.heap.get? s.heap.objs.size = some (set0 w) → (∀ b o, s.heap.get? b = some o → s1.heap.get? b = some o) →
      (∀ s', Moved [s.heap.objs.size, I] G s1 s' → Fin s'.heap → R (.ok (.ret .none)) s') → codeAny (model P w) A.in1.in1 (.builtin "set.update.loop" ⟨[.ref s.heap.objs.size, .ref I], []⟩) R s1)
    (h : ∀ (h' : Heap) (tk : Nat), Fin h' → (∀ b o, s.heap.get? b = some o → h'.get? b = some o) → Q (.ref s.heap.objs.size) { s with heap := h', toks := tk }) :
    wpAny (model P w) A (call (.type "set") [.ref l]) Q E s := by
  obtain ⟨mc, mt, mro_⟩ := F.called_set.mro
  have made_ := F.called_set.made
  have subs_ := F.called_set.sub
  refine wpAny_call (codeAny_of_tree ?_)
  show wpAny _ _ (callAny (.type "set") _) _ _ _
  refine wpAny_pure ⟨Code.quiet_builtin _ (by decide +kernel), codeAny_builtin F.entry_type_call ?_⟩
  rw [Around.under_plain (weight_type_call_type "set" [.ref l] []) rfl]
  have noT := F.called_set.notType
  have canC := F.called_set.canCreate
  have tcall := F.typeCall_set_1 (.ref l)
  repeat (any_goals (first | assumption | wp_step))
  refine codeAny_mono (code_set_led1 (.ref l) (E := E) (Q₁ := fun ob s2 => ob = .ref s.heap.objs.size ∧ s2 = { s with heap := s.heap.push (set0 w) }) ⟨rfl, rfl⟩) fun r s2 hr => ?_
  cases r with
  | error e => exact hr
  | ok fl =>
    cases fl with
    | ret ob =>
      obtain ⟨rfl, rfl⟩ := hr
      have atS : (s.heap.push (set0 w)).get? s.heap.objs.size = some (set0 w) := Heap.get?_push_size _ rfl
      have isS : Shared.TypeIs { s with heap := s.heap.push (set0 w) } (.ref s.heap.objs.size) "set" := ⟨_, atS, rfl⟩
      have lk := F.called_set.init.lookup
      have bd := F.called_set.init.bind (.ref s.heap.objs.size)
      repeat (any_goals (first | assumption | wp_step))
      refine codeAny_mono (codeAny_call_builtin (R := wants (fun r s3 => r = .none ∧ ∃ h' tk, s3 = { s with heap := h', toks := tk } ∧ Fin h' ∧ (∀ b o, s.heap.get? b = some o → h'.get? b = some o)) E) F.called_set.init.plain F.entry_set_init (check_set_init_1 isS ?_)) fun r3 s3 hr3 => ?_
      · obtain ⟨ol, atl, cl_, nl, dl⟩ := hl
        obtain ⟨ocls, odict, odata, oslots⟩ := ol
        simp only at cl_ dl
        subst cl_
        subst dl
        have atl' : (s.heap.push (set0 w)).get? l = some { cls := .type "list", dict := odict, data := .seq items nl, slots := oslots } := Heap.get?_push_of_some _ atl
        have sub1 := F.sub_list_set
        have sub2 := F.sub_list_frozenset
        have ne_ : (Value.type "list" == Value.type "dict") = false := by decide
        have il : (s.heap.push (set0 w)).IsList l items := ⟨_, atl', rfl, nl, rfl⟩
        unfold Builtin.«set.__init__» noKeywords Builtin.Frozenset.updateFrom
        generalize hPI : pyIter = PI
        wp_walk
        subst hPI
        refine wpAny_pyIter_list il ?_
        refine wpAny_bind (wpAny_runValue ?_)
        have ltl : l < s.heap.objs.size := Heap.lt_size atl
        have hh3 : A.in1.in1.in1.handled = none := by simp [hh]
        have sz : (s.heap.push (set0 w)).objs.size = s.heap.objs.size + 1 := Heap.size_push ..
        have neI : l ≠ (s.heap.push (set0 w)).objs.size := by rw [sz]; exact Nat.ne_of_lt (Nat.lt_succ_of_lt ltl)
        refine loop _ _ _ _ _ (Walks.list hh3 _ l neI items).toS ⟨⟨_, Heap.get?_push_size _ rfl, rfl, rfl⟩, il.push _⟩ (by rw [sz]; exact Nat.lt_succ_self _) (Heap.get?_push_of_some _ atS) (fun b o e => Heap.get?_push_of_some _ (Heap.get?_push_of_some _ e)) fun s' hm fin => ?_
        obtain ⟨h', g2, d', tk', os'⟩ := s'
        have eg : g2 = s.gens := hm.gens
        have ed : d' = s.drawn := hm.drawn
        have eo : os' = s.os := hm.os
        subst eg
        subst ed
        subst eo
        show wpAny _ _ _ _ _ _
        refine wpAny_pure ?_
        show wpAny _ _ (ret Value.none) _ _ _
        refine wpAny_pure ⟨rfl, h', tk', rfl, fin, fun b o e => ?_⟩
        have lt := Heap.lt_size e
        refine hm.heap b o (fun m => ?_) (Heap.get?_push_of_some _ (Heap.get?_push_of_some _ e))
        simp only [List.mem_cons, List.not_mem_nil, or_false] at m
        rw [sz] at m
        rcases m with rfl | rfl
        · exact Nat.lt_irrefl _ lt
        · exact Nat.not_lt_of_le (Nat.le_succ _) lt
      · cases r3 with
        | error e => exact hr3
        | ok fl2 =>
          cases fl2 with
          | ret r =>
            obtain ⟨rfl, h', tk, rfl, fin, kp⟩ := hr3
            repeat (any_goals (first | assumption | wp_step))
            exact h _ _ fin kp
          | _ => exact hr3.elim
    | _ => exact hr.elim
/-- set(xs), xs a tuple: what its loop does -/
theorem set_of_tuple {l : Addr} {items : Array Value} {Q : Value → Shared → Prop} {Fin : Heap → Prop} (hh : A.handled = none) (hl : s.heap.IsTuple l items)
    (loop : ∀ (s1 : Shared) (I : Addr) (G : Array GenState → Array GenState → Prop) (St : Nat → Shared → Prop) (R : Result → Shared → Prop),
      WalksS P w A.in1.in1.in1 I [I, l] [I] G items.size (fun i v => items[i]? = some v) St → St 0 s1 → s.heap.objs.size < I → s1.heap.get? s.heap.objs.size = some (set0 w) → (∀ b o, s.heap.get? b = some o → s1.heap.get? b = some o) →
      (∀ s', Moved [s.heap.objs.size, I] G s1 s' → Fin s'.heap → R (.ok (.ret .none)) s') → codeAny (model P w) A.in1.in1 (.builtin "set.update.loop" ⟨[.ref s.heap.objs.size, .ref I], []⟩) R s1)
    (h : ∀ (h' : Heap) (tk : Nat), Fin h' → (∀ b o, s.heap.get? b = some o → h'.get? b = some o) → Q (.ref s.heap.objs.size) { s with heap := h', toks := tk }) :
    wpAny (model P w) A (call (.type "set") [.ref l]) Q E s := by
  obtain ⟨mc, mt, mro_⟩ := F.called_set.mro
  have made_ := F.called_set.made
  have subs_ := F.called_set.sub
  refine wpAny_call (codeAny_of_tree ?_)
  show wpAny _ _ (callAny (.type "set") _) _ _ _
  refine wpAny_pure ⟨Code.quiet_builtin _ (by decide +kernel), codeAny_builtin F.entry_type_call ?_⟩
  rw [Around.under_plain (weight_type_call_type "set" [.ref l] []) rfl]
  have noT := F.called_set.notType
  have canC := F.called_set.canCreate
  have tcall := F.typeCall_set_1 (.ref l)
  repeat (any_goals (first | assumption | wp_step))
  refine codeAny_mono (code_set_led1 (.ref l) (E := E) (Q₁ := fun ob s2 => ob = .ref s.heap.objs.size ∧ s2 = { s with heap := s.heap.push (set0 w) }) ⟨rfl, rfl⟩) fun r s2 hr => ?_
  cases r with
  | error e => exact hr
  | ok fl =>
    cases fl with
    | ret ob =>
      obtain ⟨rfl, rfl⟩ := hr
      have atS : (s.heap.push (set0 w)).get? s.heap.objs.size = some (set0 w) := Heap.get?_push_size _ rfl
      have isS : Shared.TypeIs { s with heap := s.heap.push (set0 w) } (.ref s.heap.objs.size) "set" := ⟨_, atS, rfl⟩
      have lk := F.called_set.init.lookup
      have bd := F.called_set.init.bind (.ref s.heap.objs.size)
      repeat (any_goals (first | assumption | wp_step))
      refine codeAny_mono (codeAny_call_builtin (R := wants (fun r s3 => r = .none ∧ ∃ h' tk, s3 = { s with heap := h', toks := tk } ∧ Fin h' ∧ (∀ b o, s.heap.get? b = some o → h'.get? b = some o)) E) F.called_set.init.plain F.entry_set_init (check_set_init_1 isS ?_)) fun r3 s3 hr3 => ?_
      · obtain ⟨ol, atl, cl_, nl, dl⟩ := hl
        obtain ⟨ocls, odict, odata, oslots⟩ := ol
        simp only at cl_ dl
        subst cl_
        subst dl
        have atl' : (s.heap.push (set0 w)).get? l = some { cls := .type "tuple", dict := odict, data := .seq items nl, slots := oslots } := Heap.get?_push_of_some _ atl
        have sub1 := F.sub_tuple_set
        have sub2 := F.sub_tuple_frozenset
        have ne_ : (Value.type "tuple" == Value.type "dict") = false := by decide
        have il : (s.heap.push (set0 w)).IsTuple l items := ⟨_, atl', rfl, nl, rfl⟩
        unfold Builtin.«set.__init__» noKeywords Builtin.Frozenset.updateFrom
        generalize hPI : pyIter = PI
        wp_walk
        subst hPI
        refine wpAny_pyIter_tuple il ?_
        refine wpAny_bind (wpAny_runValue ?_)
        have ltl : l < s.heap.objs.size := Heap.lt_size atl
        have hh3 : A.in1.in1.in1.handled = none := by simp [hh]
        have sz : (s.heap.push (set0 w)).objs.size = s.heap.objs.size + 1 := Heap.size_push ..
        have neI : l ≠ (s.heap.push (set0 w)).objs.size := by rw [sz]; exact Nat.ne_of_lt (Nat.lt_succ_of_lt ltl)
        refine loop _ _ _ _ _ (Walks.tuple hh3 _ l neI items).toS ⟨⟨_, Heap.get?_push_size _ rfl, rfl, rfl⟩, il.push _⟩ (by rw [sz]; exact Nat.lt_succ_self _) (Heap.get?_push_of_some _ atS) (fun b o e => Heap.get?_push_of_some _ (Heap.get?_push_of_some _ e)) fun s' hm fin => ?_
        obtain ⟨h', g2, d', tk', os'⟩ := s'
        have eg : g2 = s.gens := hm.gens
        have ed : d' = s.drawn := hm.drawn
        have eo : os' = s.os := hm.os
        subst eg
        subst ed
        subst eo
        show wpAny _ _ _ _ _ _
        refine wpAny_pure ?_
        show wpAny _ _ (ret Value.none) _ _ _
        refine wpAny_pure ⟨rfl, h', tk', rfl, fin, fun b o e => ?_⟩
        have lt := Heap.lt_size e
        refine hm.heap b o (fun m => ?_) (Heap.get?_push_of_some _ (Heap.get?_push_of_some _ e))
        simp only [List.mem_cons, List.not_mem_nil, or_false] at m
        rw [sz] at m
        rcases m with rfl | rfl
        · exact Nat.lt_irrefl _ lt
        · exact Nat.not_lt_of_le (Nat.le_succ _) lt
      · cases r3 with
        | error e => exact hr3
        | ok fl2 =>
          cases fl2 with
          | ret r =>
            obtain ⟨rfl, h', tk, rfl, fin, kp⟩ := hr3
            repeat (any_goals (first | assumption | wp_step))
            exact h _ _ fin kp
          | _ => exact hr3.elim
    | _ => exact hr.elim
/-- set(xs) of a list, of a tuple of ints -/
theorem set_of_ints {l : Addr} {items : Array Value} {ns : List Int} {Q : Value → Shared → Prop} (hh : A.handled = none) (hl : s.heap.IsList l items ∨ s.heap.IsTuple l items) (hi : IntsAre items.toList ns) (hb : ns.length + 1 < scanBound)
    (h : ∀ (h' : Heap) (tk c : Nat), SetR w h' s.heap.objs.size (fun j => decide (j ∈ ns)) c → (∀ b o, s.heap.get? b = some o → h'.get? b = some o) → Q (.ref s.heap.objs.size) { s with heap := h', toks := tk }) :
    wpAny (model P w) A (call (.type "set") [.ref l]) Q E s := by
  have hn : items.size = ns.length := by
    have q := IntsAre.length hi
    rw [Array.length_toList] at q
    exact q
  have hlt : l < s.heap.objs.size := by
    rcases hl with ⟨o, e, _⟩ | ⟨o, e, _⟩ <;> exact Heap.lt_size e
  have key : ∀ (s1 : Shared) (I : Addr) (G : Array GenState → Array GenState → Prop) (St : Nat → Shared → Prop) (R : Result → Shared → Prop),
      WalksS P w A.in1.in1.in1 I [I, l] [I] G items.size (fun i v => items[i]? = some v) St → St 0 s1 → s.heap.objs.size < I → s1.heap.get? s.heap.objs.size = some (set0 w) → (∀ b o, s.heap.get? b = some o → s1.heap.get? b = some o) →
      (∀ s', Moved [s.heap.objs.size, I] G s1 s' → (∃ c, SetR w s'.heap s.heap.objs.size (fun j => decide (j ∈ ns)) c) → R (.ok (.ret .none)) s') → codeAny (model P w) A.in1.in1 (.builtin "set.update.loop" ⟨[.ref s.heap.objs.size, .ref I], []⟩) R s1 := by
    intro s1 I G St R W st hI at0 kp fin
    refine set_update_ints W s.heap.objs.size (fun m => ?_) ns hn hb (fun i v hv => ?_) (items.size - 0) 0 s1 (by omega) (Nat.zero_le _) st ⟨0, Nat.le_refl 0, setR_new_at at0⟩ fun s' c m _ R' => fin s' m ⟨c, R'⟩
    · simp only [List.mem_cons, List.not_mem_nil, or_false] at m
      rcases m with e | e
      · rw [← e] at hI
        exact Nat.lt_irrefl _ hI
      · rw [← e] at hlt
        exact Nat.lt_irrefl _ hlt
    · have lt : i < ns.length := by
        rw [← hn]
        exact (Array.getElem?_eq_some_iff.mp hv).1
      obtain ⟨t, e⟩ := PyProof.Rows.IntsAre.int_at hi i v (by rw [Array.getElem?_toList]; exact hv)
      refine ⟨ns[i], t, List.getElem?_eq_getElem lt, ?_⟩
      rw [e, List.getD_eq_getElem?_getD, List.getElem?_eq_getElem lt]
      rfl
  rcases hl with hl | hl
  · exact set_of_list (Fin := fun h' => ∃ c, SetR w h' s.heap.objs.size (fun j => decide (j ∈ ns)) c) hh hl key fun h' tk ⟨c, R⟩ kp => h h' tk c R kp
  · exact set_of_tuple (Fin := fun h' => ∃ c, SetR w h' s.heap.objs.size (fun j => decide (j ∈ ns)) c) hh hl key fun h' tk ⟨c, R⟩ kp => h h' tk c R kp
theorem each_ints : ∀ {vs : List Value} {ns : List Int}, IntsAre vs ns → EachIs (fun v k => ∃ t, v = Value.int k t) vs ns
  | _, _, .nil => .nil
  | _, _, .cons n t r => .cons ⟨t, rfl⟩ (each_ints r)
theorem ints_each : ∀ {vs : List Value} {ns : List Int}, EachIs (fun v k => ∃ t, v = Value.int k t) vs ns → IntsAre vs ns
  | _, _, .nil => .nil
  | _, _, .cons ⟨t, e⟩ r => by subst e; exact .cons _ t (ints_each r)
theorem each_reads {h : Heap} {a : Addr} : ∀ {vs : List Value} {ns : List Int}, IntsAre vs ns → EachIs (fun v (k : Int) => ∃ as, Reads h v (PyData.int k) as ∧ a ∉ as) vs ns
  | _, _, .nil => .nil
  | _, _, .cons n t r => .cons ⟨[], .int n t, by simp⟩ (each_reads r)
/-- sorted of a set of ints, however many -/
theorem sorted_setI {a : Addr} {S : Int → Bool} {n : Nat} {Q : Value → Shared → Prop} (R : SetR w s.heap a S n) (hh : A.handled = none) (hu : A.units + 65 < cLine)
    (hQ : ∀ s' p (out : Array Value) (c : Nat) (ns : List Int), (∀ b o, s.heap.get? b = some o → s'.heap.get? b = some o) → s'.gens = s.gens → s'.os = s.os → s.heap.objs.size ≤ p →
      s'.heap.get? p = some (seqObj "list" out c) → IntsAre out.toList ns → ns.Pairwise (· < ·) → (∀ k, k ∈ ns ↔ S k = true) → ns.length < scanBound → Q (.ref p) s') :
    wpAny (model P w) A (call (.builtin "sorted") [.ref a]) Q E s := by
  obtain ⟨o, es, ep, t, ho, hex, hd, g, nd, hm, hb, hf, hn, hr, hl⟩ := R
  refine Calls.call_function_entry kind_sorted plain_sorted entry_sorted (args_sorted1 _) ?_
  unfold Builtin.«sorted»
  refine wpAny_bind (m := checkCount "sorted" 1 1 _) (wpAny_pure ?_)
  refine wpAny_bind (collect_set (A := A.in1) hh ⟨o, ho, hex.1, hd⟩ hf hb hr hl fun s1 vs k1 hz g1 o1 pm => ?_)
  have hvl : vs.length < scanBound := by rw [pm.length_eq, List.length_map, Array.length_toList]; exact hb
  have hv0 : scanBound = 4096 := rfl
  have hI : IntsAre vs (vs.map Builtin.Re.reRawOf) := ints_of vs fun v hv => by
    obtain ⟨e, he, q⟩ := List.mem_map.mp (pm.mem_iff.mp hv)
    obtain ⟨k, tk, h1, _⟩ := g e he
    exact ⟨k, tk, q.symm.trans h1⟩
  have pk : (vs.map Builtin.Re.reRawOf).Perm (es.toList.map L2.keyOf) := by
    have q := pm.map Builtin.Re.reRawOf
    rwa [List.map_map] at q
  refine wpAny_bind (wpAny_newList ?_ (by rw [sizeLine_eq]; omega))
  have hoL : (s1.heap.push (seqObj "list" vs.toArray 0)).get? s1.heap.objs.size = some (seqObj "list" vs.toArray 0) := Heap.get?_push_size _ rfl
  refine wpAny_bind (wpAny_holding (list_sort_data (bs := vs.map Builtin.Re.reRawOf) (enc := PyData.int) (s := { s1 with heap := s1.heap.push (seqObj "list" vs.toArray 0) }) hoL (each_ints hI) (each_reads hI) ?_ ?_ (by rw [List.length_map, sizeLine_eq]; omega) (fun b _ => ?_) fun out hlo ho2 => ?_))
  · intro x mx y my
    obtain ⟨x', _, rfl⟩ := List.mem_map.mp mx
    obtain ⟨y', _, rfl⟩ := List.mem_map.mp my
    rfl
  · refine .inr fun d m => ?_
    obtain ⟨x', _, rfl⟩ := List.mem_map.mp m
    exact ⟨(fun e => by cases e), (fun _ e => by cases e)⟩
  · show A.units + 1 + 1 + PyData.depth (.int b) < cLine
    have : PyData.depth (.int b) ≤ 1 := by simp [PyData.depth]
    omega
  · have ho3 := ints_each ho2
    have hd0 : dataLe false PyData.int = fun a b : Int => decide (a ≤ b) := dataLe_int fun b => b
    rw [hd0] at ho3
    replace ho3 : IntsAre out (sortI (vs.map Builtin.Re.reRawOf)) := ho3
    have pn := (sortI_perm (vs.map Builtin.Re.reRawOf)).trans pk
    obtain ⟨c, hc⟩ := PyProof.Rows.sortedHeap_at (vs := vs) (out := out.toArray) hoL
    refine wpAny_pure ⟨_, rfl, hQ _ s1.heap.objs.size out.toArray c (sortI (vs.map Builtin.Re.reRawOf)) (fun b u e => ?_) g1 o1 hz hc (by simpa using ho3) (lt_of_le_nodup _ (sortI_sorted _) (pn.nodup_iff.mpr nd)) (fun k => by rw [pn.mem_iff, ← hm k]) ?_⟩
    · have q := k1 b u e
      have hlt := Heap.lt_size q
      show (PyProof.Rows.sortedHeap (s1.heap.push (seqObj "list" vs.toArray 0)) s1.heap.objs.size vs out.toArray).get? b = some u
      rw [PyProof.Rows.sortedHeap_old (Nat.ne_of_lt hlt) (by rw [size_push']; exact Nat.lt_succ_of_lt hlt)]
      exact Heap.get?_push_of_some _ q
    · rw [pn.length_eq, List.length_map, Array.length_toList]
      exact hb
end
/-! in plain words: the members, rising, each once -/
def insI (x : Int) : List Int → List Int
  | [] => [x]
  | y :: ys => if x < y then x :: y :: ys else if x = y then y :: ys else y :: insI x ys
def setI (ns : List Int) : List Int := ns.foldr insI []
theorem insI_mem {x z : Int} : ∀ {ys : List Int}, z ∈ insI x ys ↔ z = x ∨ z ∈ ys
  | [] => by simp [insI]
  | y :: ys => by
    unfold insI
    split
    · simp
    · split
      · rename_i h
        subst h
        simp
      · simp only [List.mem_cons, insI_mem (ys := ys)]
        constructor
        · rintro (h | h | h)
          · exact .inr (.inl h)
          · exact .inl h
          · exact .inr (.inr h)
        · rintro (h | h | h)
          · exact .inr (.inl h)
          · exact .inl h
          · exact .inr (.inr h)
theorem insI_up {x : Int} : ∀ {ys : List Int}, ys.Pairwise (· < ·) → (insI x ys).Pairwise (· < ·)
  | [], _ => by simp [insI]
  | y :: ys, h => by
    obtain ⟨h1, h2⟩ := List.pairwise_cons.mp h
    unfold insI
    split
    · rename_i c
      refine List.pairwise_cons.mpr ⟨fun z m => ?_, h⟩
      rcases List.mem_cons.mp m with rfl | m
      · exact c
      · exact Int.lt_trans c (h1 z m)
    · split
      · exact h
      · refine List.pairwise_cons.mpr ⟨fun z m => ?_, insI_up h2⟩
        rcases insI_mem.mp m with rfl | m
        · omega
        · exact h1 z m
theorem setI_mem {z : Int} : ∀ {ns : List Int}, z ∈ setI ns ↔ z ∈ ns
  | [] => by simp [setI]
  | n :: ns => by
    have := setI_mem (z := z) (ns := ns)
    unfold setI at this ⊢
    rw [List.foldr_cons, insI_mem, this, List.mem_cons]
theorem setI_up : ∀ ns : List Int, (setI ns).Pairwise (· < ·)
  | [] => by simp [setI]
  | n :: ns => by
    have := setI_up ns
    unfold setI at this ⊢
    exact insI_up this
theorem up_one : ∀ {xs ys : List Int}, xs.Pairwise (· < ·) → ys.Pairwise (· < ·) → (∀ k, k ∈ xs ↔ k ∈ ys) → xs = ys := by
  intro xs ys hx hy h
  have nx : xs.Nodup := hx.imp fun h => Int.ne_of_lt h
  have ny : ys.Nodup := hy.imp fun h => Int.ne_of_lt h
  exact List.Perm.eq_of_pairwise (le := fun a b : Int => a < b) (fun a b _ _ h1 h2 => by omega) hx hy ((List.perm_ext_iff_of_nodup nx ny).mpr h)
theorem setI_len {ns : List Int} : (setI ns).length ≤ ns.length := by
  have : ∀ {x : Int} {ys : List Int}, (insI x ys).length ≤ ys.length + 1 := by
    intro x ys
    induction ys with
    | nil => simp [insI]
    | cons y ys ih =>
      unfold insI
      split
      · simp
      · split
        · simp
        · simpa using ih
  induction ns with
  | nil => simp [setI]
  | cons n ns ih =>
    unfold setI at ih ⊢
    rw [List.foldr_cons, List.length_cons]
    exact Nat.le_trans this (by omega)
def tSortSetI (K : PySem.W.Frag) (ta : TE) : TE := fun σ H Q => ta σ H fun x H1 => ∃ (l : Addr) (ns : List Int), x = .ref l ∧ (SqL K H1 l (ns.map V.int) ∨ TupA K H1 l (ns.map V.int)) ∧ ns.length ≤ 4000 ∧ ∀ p, H1 p = none → Q (.ref p) (upd H1 p (.lst ((setI ns).map V.int)))
theorem run_sortSetI {X : Cx} {pins : List (Addr × Obj)} {σ : L2.St} {H : Hp} {s : Shared} {a : Addr} {ns : List Int} {c : Nat} {Q : VK} (I : L2.Inv X pins σ H s) (hc : X.calm = true) (hu : X.A.units + 65 < cLine) (hl : ns.length ≤ 4000)
    (R : SetR X.w s.heap a (fun j => decide (j ∈ ns)) c) (q : ∀ p, H p = none → Q (.ref p) (upd H p (.lst ((setI ns).map V.int)))) : wpAny (model X.prog X.w) X.A (call (.builtin "sorted") [.ref a]) (EP X pins σ Q) X.xe s := by
  refine sorted_setI R (I.ok.hd hc) hu fun s' pp out cc ns' k g o hp hg hi hs hmm hl2 => ?_
  have es : ns' = setI ns := up_one hs (setI_up ns) fun j => by rw [hmm j, setI_mem, decide_eq_true_eq]
  subst es
  have hn : H pp = none := I.hok.fresh hp
  have hlen : ((setI ns).map V.int).length ≤ sizeLine := by
    have : scanBound = 4096 := rfl
    rw [List.length_map, sizeLine_eq]
    omega
  have J : L2.Inv X pins σ (upd H pp (.lst ((setI ns).map V.int))) { s with heap := s'.heap, gens := s'.gens, drawn := s'.drawn, toks := s'.toks } :=
    I.call (ch := []) (Un.laid k hp hn) (I.hok.laid k hp ⟨hlen, out.toList, cc, vals_of_ints hi, hg⟩) (by rw [g]; exact I.bare) (fun _ z => nomatch z)
  have e : s' = { s with heap := s'.heap, gens := s'.gens, drawn := s'.drawn, toks := s'.toks } := by
    cases s'
    cases s
    cases o
    rfl
  rw [e]
  exact ⟨.ref pp, _, J, rfl, q pp hn⟩
theorem pe_sortSetI {X : Cx} {a : Expr} {ta : TE} {p p2 q pos : Pos} (hu : X.A.units + 65 < cLine) (hg : Gl X "sorted") (hm : X.mg "sorted" = none) (hg2 : Gl X "set") (hm2 : X.mg "set" = none) (ha : PE X a ta) (hc : X.calm = true)
    (na : starEach [a] X.env = (false, eval a X.env) :: starEach [] X.env) : PE X (.Call (.Name "sorted" p) [.Call (.Name "set" p2) [a] [] q] [] pos) (tSortSetI X.K ta) := by
  refine ⟨fun pins s σ H Q I h => ?_⟩
  refine Call_ (ld_blt I hg hm (show bootBuiltins ("sorted" : Str) = some (.builtin "sorted") by decide +kernel) ?_)
  refine PyProof.Rows.callWith_builtin1 (PyProof.Rows.args_cons ?_ rfl) rfl rfl
  refine Call_ (ld_blt I hg2 hm2 (show bootBuiltins ("set" : Str) = some (.type "set") by decide +kernel) ?_)
  refine PyProof.Rows.callWith_type1 (PyProof.Rows.args_cons (thn (ha.run pins s σ H _ I h) fun v s1 ⟨x, H1, I1, r1, q1⟩ => PyProof.Rows.args_nil ?_) na) na rfl
  obtain ⟨l, ns, rfl, hq, hl, q1⟩ := q1
  cases r1
  obtain ⟨its, r, pl⟩ : ∃ its : List Value, Vals (ns.map V.int) its ∧ (s1.heap.IsList l its.toArray ∨ s1.heap.IsTuple l its.toArray) := by
    rcases hq with hq | hq
    · obtain ⟨its, r, pl, hz⟩ := I1.list hq
      exact ⟨its, r, .inl pl.isList⟩
    · obtain ⟨its, r, pl, hz⟩ := I1.tuple hq.sq
      exact ⟨its, r, .inr pl⟩
  have hI : IntsAre its.toArray.toList ns := by simpa using ints_of_vals r
  refine set_of_ints (ns := ns) (I1.ok.hd hc) pl hI (by unfold scanBound; omega) fun h' tk c R kp => ?_
  refine PyProof.Rows.args_nil ?_
  have I2 : L2.Inv X pins σ H1 { s1 with heap := h', toks := tk } := I1.kept kp
  exact run_sortSetI I2 hc hu hl R q1
/-! the word -/
def fSortSet : LV → PHeap → Res (List D) := fun x h => match x.seq h with
  | some xs => match intsOf xs with
    | some ns => if ns.length ≤ 4000 then .ok ((setI ns).map D.int) h else .stuck
    | none => .stuck
  | none => .stuck
section
variable {X : Cx} {cl : Nat → Addr} {W : WX} {e : Expr} {mo : MO} {pos p p2 q : Pos}
theorem sn_sortSet (hu : X.A.units + 65 < cLine) (he : SO X cl W e mo) (hm : X.mg "sorted" = none) (hm2 : X.mg "set" = none) (hc : X.calm = true := by rfl) (hg : Gl X "sorted" := by rfl) (hg2 : Gl X "set" := by rfl) (hs : starEach [e] X.env = (false, eval e X.env) :: starEach [] X.env := by rfl) :
    SN X cl W (.Call (.Name "sorted" p) [.Call (.Name "set" p2) [e] [] q] [] pos) (m1 fSortSet mo) :=
  (pe_sortSetI hu hg hm hg2 hm2 he hc hs).imp fun sg H Q ⟨env, h, io, E, hr, pp⟩ => rd_mk E hr (pp.bind fun d h1 v io1 H1 e1 s1 r1 q1 p1 => by
    unfold fSortSet at p1
    split at p1
    · rename_i xs ex
      split at p1
      · rename_i ns en
        split at p1
        · rename_i c
          obtain ⟨a, vs, rfl, sq, rl⟩ := q1.ov.seq r1 ex
          have en' := intsOf_eq en
          subst en'
          have ev := rep_ints rl
          subst ev
          exact ⟨a, ns, rfl, sq, c, fun l hl => p1 _ io1 _ (Step.laid hl) (r1.laid hl) ⟨l, _, rfl, hl, r1.out hl, upd_same, ints_rep _⟩⟩
        · exact p1.elim
      · exact p1.elim
    · exact p1.elim)
end
def gSortSet : D → Option (List D) := fun u => ((gSeq u).bind intsOf).bind fun ns => if ns.length ≤ 4000 then some ((setI ns).map D.int) else none
theorem g_sortSet : Mo1 RL fSortSet gSortSet := by
  intro B ow h u x z q g
  unfold gSortSet at g
  cases e : gSeq u with
  | none => rw [e] at g; cases g
  | some us =>
    cases e2 : intsOf us with
    | none => rw [e, Option.bind_some, e2] at g; cases g
    | some bs =>
      rw [e, Option.bind_some, e2, Option.bind_some] at g
      split at g
      · rename_i c
        cases g
        obtain ⟨ds, e3, q2⟩ := seqW q e
        exact ⟨_, by simp only [fSortSet, e3, ints_den q2 e2, c, if_true], DenL.ints _⟩
      · cases g
@[simp] theorem gsortset_i {ns : List Int} (h : ns.length ≤ 4000) : gSortSet (.lst (ns.map D.int)) = some ((setI ns).map D.int) := by
  have e : gSeq (.lst (ns.map D.int)) = some (ns.map D.int) := rfl
  have e2 : intsOf (ns.map D.int) = some ns := ints_ofG ns
  simp only [gSortSet, e, Option.bind_some, e2, h, if_true]
@[simp] theorem gsortset_t {ns : List Int} (h : ns.length ≤ 4000) : gSortSet (.tup (ns.map D.int)) = some ((setI ns).map D.int) := by
  have e : gSeq (.tup (ns.map D.int)) = some (ns.map D.int) := rfl
  have e2 : intsOf (ns.map D.int) = some ns := ints_ofG ns
  simp only [gSortSet, e, Option.bind_some, e2, h, if_true]
end Gb

/-! GdB: list(range(..)); min(xs, default=None) -/
namespace Gb
open PySem L2 PySem.Spec PyProof.Rows PySem.W
/-! list(range(..)) -/
def rgOk (lo hi : Int) : Bool := decide (-(2 ^ 60) ≤ lo) && decide (lo ≤ 2 ^ 60) && decide (-(2 ^ 60) ≤ hi) && decide (hi ≤ 2 ^ 60) && decide ((hi - lo).toNat ≤ 16777216)
def mRgL1 (a : ME) : MA := fun env h => (a env h).bind fun x h1 => match x with
  | .int n => if rgOk 0 n = true then .ok (rngD 0 n) h1 else .stuck
  | _ => .stuck
def mRgL2 (a b : ME) : MA := fun env h => (a env h).bind fun x h1 => (b env h1).bind fun y h2 => match x, y with
  | .int lo, .int hi => if rgOk lo hi = true then .ok (rngD lo hi) h2 else .stuck
  | _, _ => .stuck
def rngI (lo hi : Int) : List Int := (List.range (hi - lo).toNat).map fun i => lo + (i : Nat)
theorem rngD_ints (lo hi : Int) : rngD lo hi = (rngI lo hi).map D.int := by
  unfold rngD rngI
  rw [List.map_map]
  rfl
theorem rgV_ints (lo hi : Int) : rgV lo hi = (rngI lo hi).map V.int := by
  unfold rgV rngI
  rw [List.map_map]
  rfl
theorem rgOk_iff {lo hi : Int} : rgOk lo hi = true ↔ (-(2 ^ 60) ≤ lo ∧ lo ≤ 2 ^ 60 ∧ -(2 ^ 60) ≤ hi ∧ hi ≤ 2 ^ 60) ∧ (hi - lo).toNat ≤ 16777216 := by
  unfold rgOk
  simp only [Bool.and_eq_true, decide_eq_true_eq]
  constructor
  · rintro ⟨⟨⟨⟨a, b⟩, c⟩, d⟩, e⟩
    exact ⟨⟨a, b, c, d⟩, e⟩
  · rintro ⟨⟨a, b, c, d⟩, e⟩
    exact ⟨⟨⟨⟨a, b⟩, c⟩, d⟩, e⟩
theorem rgOk_ok {lo hi : Int} (h : rgOk lo hi = true) : RgOk lo hi := by
  obtain ⟨⟨a, b, c, d⟩, e⟩ := rgOk_iff.mp h
  exact ⟨by omega, by omega, by omega, by omega, by omega⟩
section
variable {X : Cx} {cl : Nat → Addr} {W : WX} {a b e : Expr} {ma mb : ME} {mo : MO} {pos p p2 q : Pos}
theorem rg_new {io1 : List Addr} {H1 : Hp} {h1 : PHeap} {lo hi : Int} (r1 : HRel X.K cl io1 H1 h1) {l : Addr} (hl : H1 l = none) : RNew X.K H1 io1 (upd H1 l (.lst (rgV lo hi))) (rngD lo hi) (.ref l) :=
  ⟨l, _, rfl, hl, r1.out hl, upd_same, by rw [rngD_ints, rgV_ints]; exact ints_rep _⟩
theorem sn_rgL1 (ha : SE X cl W a ma) (hm : X.mg "list" = none) (hm2 : X.mg "range" = none) (hc : X.calm = true := by rfl) (hg : Gl X "list" := by rfl) (hg2 : Gl X "range" := by rfl)
    (hs : starEach [a] X.env = (false, eval a X.env) :: starEach [] X.env := by rfl) (na : starEach [Expr.Call (.Name "range" p2) [a] [] q] X.env = (false, eval (Expr.Call (.Name "range" p2) [a] [] q) X.env) :: starEach [] X.env := by rfl) :
    SN X cl W (.Call (.Name "list" p) [.Call (.Name "range" p2) [a] [] q] [] pos) (mRgL1 ma) :=
  (pe_listRg hc hg hm (prg_1 hg2 hm2 ha hs) na).imp fun sg H Q ⟨env, h, io, E, hr, pp⟩ => rd_mk E hr (pp.bind fun d h1 v io1 H1 e1 s1 r1 q1 p1 => by
    cases d with
    | int n =>
      cases q1
      simp only at p1
      split at p1
      · rename_i c
        exact ⟨n, rfl, rgOk_ok c, fun l hl => p1 _ io1 _ (Step.laid hl) (r1.laid hl) (rg_new r1 hl)⟩
      · exact p1.elim
    | _ => exact p1.elim)
theorem sn_rgL2 (ha : SE X cl W a ma) (hb : SE X cl W b mb) (hm : X.mg "list" = none) (hm2 : X.mg "range" = none) (hc : X.calm = true := by rfl) (hg : Gl X "list" := by rfl) (hg2 : Gl X "range" := by rfl)
    (hs : starEach [a, b] X.env = (false, eval a X.env) :: starEach [b] X.env := by rfl) (hs2 : starEach [b] X.env = (false, eval b X.env) :: starEach [] X.env := by rfl) (hp : (backTo q (starEach [b] X.env)).any (·.1) = false := by rfl)
    (na : starEach [Expr.Call (.Name "range" p2) [a, b] [] q] X.env = (false, eval (Expr.Call (.Name "range" p2) [a, b] [] q) X.env) :: starEach [] X.env := by rfl) :
    SN X cl W (.Call (.Name "list" p) [.Call (.Name "range" p2) [a, b] [] q] [] pos) (mRgL2 ma mb) :=
  (pe_listRg hc hg hm (prg_2 hg2 hm2 ha hb hs hs2 hp) na).imp fun sg H Q ⟨env, h, io, E, hr, pp⟩ => rd_mk E hr (pp.bind fun d h1 v io1 H1 e1 s1 r1 q1 p1 => rd_mk (E.step s1) r1 (p1.bind fun d2 h2 u io2 H2 e2 s2 r2 q2 p2 => by
    cases d with
    | int lo =>
      cases q1
      cases d2 with
      | int hi =>
        cases q2
        simp only at p2
        split at p2
        · rename_i c
          exact ⟨lo, hi, rfl, rfl, rgOk_ok c, fun l hl => p2 _ io2 _ (Step.laid hl) (r2.laid hl) (rg_new r2 hl)⟩
        · exact p2.elim
      | _ => exact p2.elim
    | _ => exact p2.elim))
end
def rgU1 (x : D) (v : PEnv) : UR (List D) := match x with
  | .int n => if rgOk 0 n = true then .ok (rngD 0 n) v else .stuck
  | _ => .stuck
def rgU2 (x y : D) (v : PEnv) : UR (List D) := match x, y with
  | .int lo, .int hi => if rgOk lo hi = true then .ok (rngD lo hi) v else .stuck
  | _, _ => .stuck
def uRgL1 (a : UE) : UA := fun v => (a v).bind fun x v1 => rgU1 x v1
def uRgL2 (a b : UE) : UA := fun v => (a v).bind fun x v1 => (b v1).bind fun y v2 => rgU2 x y v2
section
variable {S : Sx} {a b : ME} {va vb : UE}
theorem ua_rgL1 (hm : JU S RD a va) : JU S RL (mRgL1 a) (uRgL1 va) := fun k B ow h env ven r =>
  (hm k B ow h env ven r).bind fun x h1 ow1 v1 u r1 s1 q1 => by
    cases u with
    | int n =>
      rw [RD, Den] at q1
      subst q1
      simp only [rgU1]
      split
      · exact .ok r1 (by show DenL _ _ (rngD 0 n) (rngD 0 n); rw [rngD_ints]; exact DenL.ints _)
      · trivial
    | _ => trivial
theorem ua_rgL2 (hm : JU S RD a va) (hb : JU S RD b vb) : JU S RL (mRgL2 a b) (uRgL2 va vb) := fun k B ow h env ven r =>
  (hm k B ow h env ven r).bind fun x h1 ow1 v1 u r1 s1 q1 => (hb k B ow1 h1 env v1 r1).bind fun y h2 ow2 v2 w r2 s2 q2 => by
    cases u with
    | int lo =>
      cases w with
      | int hi =>
        rw [RD, Den] at q1 q2
        subst q1
        subst q2
        simp only [rgU2]
        split
        · exact .ok r2 (by show DenL _ _ (rngD lo hi) (rngD lo hi); rw [rngD_ints]; exact DenL.ints _)
        · trivial
      | _ => trivial
    | _ => trivial
end
section
variable {v : PEnv} {a b : UE}
@[simp] theorem u_rgL1 : uRgL1 a v = (a v).bind fun x v1 => rgU1 x v1 := rfl
@[simp] theorem u_rgL2 : uRgL2 a b v = (a v).bind fun x v1 => (b v1).bind fun y v2 => rgU2 x y v2 := rfl
@[simp] theorem rgU1_i {n : Int} : rgU1 (.int n) v = if rgOk 0 n = true then .ok (rngD 0 n) v else .stuck := rfl
@[simp] theorem rgU2_i {lo hi : Int} : rgU2 (.int lo) (.int hi) v = if rgOk lo hi = true then .ok (rngD lo hi) v else .stuck := rfl
end
end Gb

/-! GdC: min(xs, default=None) of ints -/
namespace Gb
open PySem L2 PySem.Spec PyProof.Rows PySem.W
section
variable {K : PySem.W.Frag} {H : Hp}
theorem minD_ints : ∀ (ns : List Int) (n : Int), minD (.int n) (ns.map PyData.int) = .int (ns.foldl min n)
  | [], n => rfl
  | m :: ns, n => by
    have := minD_ints ns (min n m)
    unfold minD at this ⊢
    rw [List.map_cons, List.foldl_cons, List.foldl_cons, ← this]
    congr 1
    have e : dataLt (.int m) (.int n) = decide (m < n) := dataLt_int _ _
    rw [e]
    by_cases c : m < n
    · rw [decide_eq_true c, if_pos rfl, Int.min_eq_right (Int.le_of_lt c)]
    · rw [decide_eq_false c, if_neg (by decide), Int.min_eq_left (by omega)]
theorem mn_ints {a : Addr} {ns : List Int} (s : SqL K H a (ns.map V.int)) : Mn K H a (ns.map fun n => (V.int n, PyData.int n)) := by
  refine ⟨by rw [List.map_map]; exact s, fun b m => ?_, ⟨fun x m y my => ?_, fun x m => ?_⟩, ?_⟩
  · obtain ⟨n, _, rfl⟩ := List.mem_map.mp m
    exact .int n
  · rw [List.map_map] at m my
    obtain ⟨x', _, rfl⟩ := List.mem_map.mp m
    obtain ⟨y', _, rfl⟩ := List.mem_map.mp my
    rfl
  · rw [List.map_map] at m
    obtain ⟨x', _, rfl⟩ := List.mem_map.mp m
    exact fun e => by cases e
  · refine depthAll_le fun x m => ?_
    rw [List.map_map] at m
    obtain ⟨x', _, rfl⟩ := List.mem_map.mp m
    simp [PyData.depth]
end
def fMinN : LV → PHeap → Res D := fun x h => match x.items h with
  | some xs => match intsOf xs with
    | some ns => match ns with
      | [] => .ok .non h
      | n :: ns => .ok (.int (minI (n :: ns))) h
    | none => .stuck
  | none => .stuck
section
variable {X : Cx} {cl : Nat → Addr} {W : WX} {e : Expr} {mo : MO} {pos p kp2 kp : Pos}
theorem sd_minN (hu : X.A.units + 65 < cLine) (he : SO X cl W e mo) (hm : X.mg "min" = none) {j : Nat} (hc : X.calm = true := by rfl) (hg : Gl X "min" := by rfl) (hs : starEach [e] X.env = (false, eval e X.env) :: starEach [] X.env := by rfl)
    (hq : backTo pos (starEach [e] X.env) = (false, eval e X.env) :: backTo pos (starEach [] X.env) := by rfl) (hpl : (backTo pos (starEach [e] X.env)).any (·.1) = false := by rfl)
    (hall : (backToKw pos (keywordEach [⟨some "default", .Constant .none j kp2, kp⟩] X.env)).all (·.1.isSome) = true := by rfl) (hnone : (backToKw pos (keywordEach [⟨some "default", .Constant .none j kp2, kp⟩] X.env)).any (·.1.isNone) = false := by rfl)
    (hks : (backToKw pos (keywordEach [⟨some "default", .Constant .none j kp2, kp⟩] X.env)).filterMap (·.1) = [Str.ofString "default"] := by rfl) :
    SE X cl W (.Call (.Name "min" p) [e] [⟨some "default", .Constant .none j kp2, kp⟩] pos) (m1 fMinN mo) :=
  (pe_callBK (call_minN hc hu) hg hm (by decide +kernel) (pa_cons he pa_nil hs) (pk_cons pe_non pk_nil) (by decide) (by decide) hq hpl hall hnone hks).imp fun sg H Q ⟨env, h, io, E, hr, pp⟩ => rd_mk E hr (pp.bind fun d h1 v io1 H1 e1 s1 r1 q1 p1 => by
    unfold fMinN at p1
    split at p1
    · rename_i xs ex
      split at p1
      · rename_i ns en
        obtain ⟨a, vs, rfl, sq, rl⟩ := q1.ov.items r1 ex
        have en' := intsOf_eq en
        subst en'
        have ev := rep_ints rl
        subst ev
        have M := mn_ints sq
        cases ns with
        | nil => exact ⟨a, .non, [], rfl, rfl, M, p1.here r1 rfl⟩
        | cons n ns =>
          refine ⟨a, .non, _, rfl, rfl, M, fun c mc ec => ?_⟩
          rw [List.map_map] at ec
          replace mc : c ∈ (n :: ns).map fun n => (V.int n, PyData.int n) := mc
          obtain ⟨k, mk, rfl⟩ := List.mem_map.mp mc
          have e2 : PyData.int k = .int (minI (n :: ns)) := ec.trans (minD_ints ns n)
          cases e2
          exact p1.here r1 rfl
      · exact p1.elim
    · exact p1.elim)
end
def gMinN : D → Option D := fun u => match gItems u with
  | some us => match intsOf us with
    | some ns => match ns with
      | [] => some .non
      | n :: ns => some (.int (minI (n :: ns)))
    | none => none
  | none => none
theorem g_minN : Mo1 RD fMinN gMinN := by
  intro B ow h u x z q g
  unfold gMinN at g
  split at g
  · rename_i us e
    obtain ⟨ds, e1, q1⟩ := itemsW q e
    split at g
    · rename_i ns e2
      have e3 := ints_den q1 e2
      cases ns with
      | nil => cases g; exact ⟨_, by simp only [fMinN, e1, e3], gnd_den _ rfl⟩
      | cons n ns => cases g; exact ⟨_, by simp only [fMinN, e1, e3], gnd_den _ rfl⟩
    · cases g
  · cases g
end Gb

/-! GdD: in, of what may be a dict; d[k] of a dict that is a value -/
namespace Gb
open PySem L2 PySem.Spec PyProof.Rows PySem.W
theorem dict_noneS {x : LV} {h : PHeap} {ds : List D} (e : x.seq h = some ds) : x.dict h = none := by
  by_cases q : ∃ ys, x = .val (.tup ys)
  · obtain ⟨ys, rfl⟩ := q
    rfl
  · have e' : x.items h = some ds := by
      cases x with
      | new ys => exact e
      | val d => cases d with
        | tup ys => exact absurd ⟨ys, rfl⟩ q
        | _ => exact e
    exact dict_none e'
def gInX (k : Bool → Bool) : D → D → Option D := fun u w => match w with
  | .map us => if keyOk u = true then some (.bl (k (lookD us u).isSome)) else none
  | w => if (gSeq w).isSome = true then gIn k u w else none
def gIxX : D → D → Option D := fun u w => match u with
  | .map us => if keyOk w = true then lookD us w else none
  | u => if (gSeq u).isSome = true then gIx u w else none
theorem denMapW {L : Nat → Prop} {h : PHeap} {x : LV} {us : List D} (q : DenW L h (.map us) x) : ∃ ds, x = .val (.map ds) ∧ DenL L h us ds := by
  rcases q with q | ⟨n, us', ds, rfl, e, g, q⟩
  · cases x with
    | val d =>
      replace q : Den L h (.map us) d := q
      rw [Den] at q
      obtain ⟨ds, rfl, q⟩ := q
      exact ⟨ds, rfl, q⟩
    | new ds => obtain ⟨us', e, _⟩ := q; cases e
  · cases e
theorem look_some {L : Nat → Prop} {h : PHeap} {k : D} (hk : keyOk k = true) {us ds : List D} (q : DenL L h us ds) : (lookD ds k).isSome = (lookD us k).isSome := by
  have := look_den hk q
  cases e : lookD us k with
  | some v => rw [e] at this; obtain ⟨v', e', _⟩ := this; rw [e']; rfl
  | none => rw [e] at this; rw [this]
theorem g_inX {k : Bool → Bool} : Mo2 RD (fInX k) (gInX k) := by
  intro B ow h u x w y z q r g
  unfold gInX at g
  split at g
  · rename_i us
    split at g
    · rename_i c
      cases g
      obtain ⟨ds, rfl, qd⟩ := denMapW r
      rw [atomW q (keyOk_gnd c)]
      refine ⟨_, ?_, gnd_den _ rfl⟩
      simp only [fInX, LV.dict, c, if_true, look_some c qd]
    · cases g
  · split at g
    · rename_i c
      obtain ⟨us, e⟩ := Option.isSome_iff_exists.mp c
      obtain ⟨ds, e1, _⟩ := seqW r e
      obtain ⟨a, e2, e3⟩ := g_in B ow h u x w y z q r g
      exact ⟨a, by simp only [fInX, dict_noneS e1]; exact e2, e3⟩
    · cases g
theorem g_ixX : Mo2 RD fIxX gIxX := by
  intro B ow h u x w y z q r g
  unfold gIxX at g
  split at g
  · rename_i us
    split at g
    · rename_i c
      obtain ⟨ds, rfl, qd⟩ := denMapW q
      rw [atomW r (keyOk_gnd c)]
      have := look_den c qd
      rw [g] at this
      obtain ⟨v', e', dv⟩ := this
      exact ⟨v', by simp only [fIxX, LV.dict, c, if_true, e'], dv⟩
    · cases g
  · split at g
    · rename_i c
      obtain ⟨us, e⟩ := Option.isSome_iff_exists.mp c
      obtain ⟨ds, e1, _⟩ := seqW q e
      obtain ⟨a, e2, e3⟩ := g_ix B ow h u x w y z q r g
      exact ⟨a, by simp only [fIxX, dict_noneS e1]; exact e2, e3⟩
    · cases g
@[simp] theorem ginX_t {k : Bool → Bool} {u : D} {xs : List D} : gInX k u (.tup xs) = gIn k u (.tup xs) := rfl
@[simp] theorem ginX_l {k : Bool → Bool} {u : D} {xs : List D} : gInX k u (.lst xs) = gIn k u (.lst xs) := rfl
@[simp] theorem gixX_t {w : D} {xs : List D} : gIxX (.tup xs) w = gIx (.tup xs) w := rfl
@[simp] theorem gixX_l {w : D} {xs : List D} : gIxX (.lst xs) w = gIx (.lst xs) w := rfl
end Gb

/-! GdE: a, b = [..] -/
namespace Gb
open PySem L2 PySem.Spec PyProof.Rows PySem.W
def sAsgL (a : MA) (gs : List TgM) : MS := fun env h => (a env h).out env fun xs h1 => match TgM.sets gs xs env with
  | some e => .nx e h1
  | none => .stuck
theorem setsLen : ∀ {gs : List TgM} {xs : List D} {env e : PEnv}, TgM.sets gs xs env = some e → xs.length = gs.length
  | [], [], _, _, _ => rfl
  | [], _ :: _, _, _, h => by cases h
  | _ :: _, [], _, _, h => by cases h
  | g :: gs, x :: xs, env, e, h => by
    simp only [TgM.sets] at h
    cases q1 : g.set x env with
    | none => rw [q1] at h; cases h
    | some e1 =>
      rw [q1] at h
      rw [List.length_cons, List.length_cons, setsLen h]
section
variable {X : Cx} {cl : Nat → Addr} {W : WX} {e : Expr} {es : List Expr} {ml : MA} {pos p : Pos}
theorem ss_asgL {gs : List TgM} {k n : Nat} (hc : X.calm = true) (he : SN X cl W e ml) (hgs : SGs X es gs) (hn : (assignEach es X.env).length = n := by rfl) (hst : (assignEach es X.env).findIdx? (·.1) = none := by rfl) (hg : gs.length = n := by rfl)
    (hs : swapsWithSole [.Tuple es k p] e pos.line X.env = pure false := by rfl) (hw : swappedStores [.Tuple es k p] e X.env = pure none := by rfl) (h1 : (assignEach [.Tuple es k p] X.env).map (·.2) = [assign (.Tuple es k p) X.env] := by rfl) :
    SS X cl W (.Assign [.Tuple es k p] e pos) (sAsgL ml gs) :=
  (ps_asg he (pg_lst hc hgs hn hst) hs hw h1).imp fun D sg H ⟨env, h, io, E, hr, pp⟩ => rd_mk E hr (pp.out E fun ds h1 v io1 H1 e1 s1 r1 q1 p1 => by
    obtain ⟨a, vs, rfl, h0, hno, hv, rl⟩ := q1
    cases q2 : TgM.sets gs ds env with
    | none => rw [q2] at p1; exact p1.elim
    | some e2 =>
      rw [q2] at p1
      exact ⟨a, vs, rfl, .of hv, by rw [← rl.length, setsLen q2, hg], ds, io1, env, e2, rl, E.step s1, q2, fun sg' E' _ => p1 io1 sg' H1 .refl E' r1⟩)
end
def uAsgL (a : UA) (gs : List TgM) : US := fun v => (a v).out fun us v1 => match TgM.sets gs us v1 with
  | some v2 => .nx v2
  | none => .stuck
theorem us_asgL {S : Sx} {ml : MA} {va : UA} {gs : List TgM} (ha : JU S RL ml va) (hg : ∀ i, i ∈ TgM.slotsL gs → i ∉ S.O) : SU S (sAsgL ml gs) (uAsgL va gs) := fun k B ow h env ven r =>
  (ha k B ow h env ven r).out fun d h1 ow1 v1 z r1 s1 q1 => by
    cases e : TgM.sets gs z v1 with
    | none => simp only; trivial
    | some v2 =>
      obtain ⟨e2, e3, r2⟩ := sets_den gs hg r1 q1 e
      simp only [e3]
      exact ⟨e2, h1, ow1, rfl, r2, .refl⟩
@[simp] theorem u_asgL {va : UA} {gs : List TgM} {v : PEnv} : uAsgL va gs v = (va v).out fun us v1 => match TgM.sets gs us v1 with | some v2 => .nx v2 | none => .stuck := rfl
/-- judged with less that may be written -/
theorem ju_wide {α β : Type} {R : Re β α} {S : Sx} {M' : List Nat} {m : PEnv → PHeap → Res α} {w : PEnv → UR β} (hm : ∀ i, i ∈ M' → i ∈ S.M) (j : JU { S with M := M' } R m w) : JU S R m w := fun k B ow h env ven r => (j k B ow h env ven r.toM).wide hm
/-- a, b = x, y by way of a tuple -/
theorem sets_names : ∀ {is : List Nat} {xs : List D} {env : PEnv}, TgM.sets (is.map TgM.name) xs env = if xs.length = is.length then some ((is.zip xs).foldl (fun e p => e.set p.1 (some p.2)) env) else none
  | [], [], env => rfl
  | [], _ :: _, env => by
    rw [if_neg (by simp)]
    rfl
  | _ :: _, [], env => by
    rw [if_neg (by simp)]
    rfl
  | i :: is, x :: xs, env => by
    have := sets_names (is := is) (xs := xs) (env := env.set i (some x))
    have e : TgM.sets ((i :: is).map TgM.name) (x :: xs) env = TgM.sets (is.map TgM.name) xs (env.set i (some x)) := rfl
    rw [e, this]
    simp only [List.length_cons, Nat.add_right_cancel_iff, List.zip_cons_cons, List.foldl_cons]
theorem asg_par {is : List Nat} {ml : MA} (hl : is.length ≤ 1000) : sAsg (mTup ml) (.tup (is.map TgM.name)) = sPar is ml := by
  funext env h
  unfold sAsg sPar mTup
  cases e : ml env h with
  | ok xs h1 =>
    simp only [Res.bind_ok]
    have q : (TgM.tup (is.map TgM.name)).set (.tup xs) env = TgM.sets (is.map TgM.name) xs env := rfl
    by_cases c : xs.length = is.length
    · have c2 : is.length ≤ 16777216 := by omega
      simp only [c, c2, if_true, Res.out_ok, q, sets_names]
    · by_cases c2 : xs.length ≤ 16777216
      · simp only [c2, if_true, Res.out_ok, q, sets_names, c, if_false]
      · simp only [c2, if_false, Res.out_ok, c, Res.out_stuck]
  | exc x h1 => rfl
  | stuck => rfl
theorem us_parT {S : Sx} {is : List Nat} {ml : MA} {u : US} (hl : is.length ≤ 1000) (h : SU S (sPar is ml) u) : SU S (sAsg (mTup ml) (.tup (is.map TgM.name))) u := by
  rw [asg_par hl]
  exact h
/-! owned lists are lent, a new list comes back -/
def UX.gndF (r : UX) : UX := match r with
  | .ok d => match d with
    | .lst us => if D.gndL us = true then .ok (.lst us) else .stuck
    | _ => .stuck
  | r => r
def uCallBF (F : UF) (a : UA) : UE := fun v => (a v).bind fun ds v1 => (F ds).gndF.res v1
theorem ue_callBF {S : Sx} {m : MA} {w : UA} {p : List D → PHeap → Res D} {F : UF} (hf : FP true p F) (hm : JU { S with M := [] } RLB m w) : JU S RD (mCall p m) (uCallBF F w) := fun k B ow h env ven r =>
  ((hm k B ow h env ven r.toM).wide (S := S) (M' := []) fun i m => by cases m).bind fun ds h1 ow1 v1 us r1 s1 q1 => by
    have := hf B h1 us ds r1.lt q1
    revert this
    cases F us with
    | ok u =>
      intro ⟨d, h2, e1, ps, n, ws, es, e2, hn, e3, g, hB, q⟩
      subst e2
      subst e3
      by_cases gn : D.gndL ws = true
      · simp only [UX.gndF, if_pos gn]
        have e4 := denL_gnd ws es gn q
        subst e4
        have nl : ¬ lk B ow1 n := r1.fresh hn
        exact ⟨.ref n, h2, ow1, e1, r1.pass ps.1 ps.2, .pass ps.1 ps.2, by rw [RD, Den]; exact ⟨n, _, rfl, nl, g, gndL_den _ gn⟩⟩
      · simp only [UX.gndF, if_neg gn]; trivial
    | exc e2 => intro ⟨h2, e1, ps⟩; exact ⟨h2, ow1, e1, r1.pass ps.1 ps.2, .pass ps.1 ps.2⟩
    | stuck => intro _; trivial
section
variable {F : UF} {a : UA} {v : PEnv}
@[simp] theorem u_callBF : uCallBF F a v = (a v).bind fun ds v1 => (F ds).gndF.res v1 := rfl
@[simp] theorem gndF_ok {us : List D} : (UX.ok (.lst us)).gndF = if D.gndL us = true then .ok (.lst us) else .stuck := rfl
@[simp] theorem gndL_ints {ns : List Int} : D.gndL (ns.map D.int) = true := by
  induction ns with
  | nil => rfl
  | cons n ns ih =>
    rw [List.map_cons, D.gndL, ih]
    rfl
end
end Gb

/-! GdF: d.update(d2), dicts with ints for keys -/
namespace Gb
open PySem L2 PySem.Spec PyProof.Rows PySem.W
section
variable {X : Cx} {pins : List (Addr × Obj)} {σ : L2.St} {H : Hp} {s : Shared} {a b : Addr} {kvs more : List (Key × V)} {A : Around} {E : Value → Shared → Prop}
theorem d_update {Q : Value → Shared → Prop} (I : L2.Inv X pins σ H s) (ne : a ≠ b) (e : H a = some (.dK kvs)) (e2 : H b = some (.dK more)) (hl : kvs.length + more.length ≤ sizeLine) (h : ∀ s', L2.Inv X pins σ (upd H a (.dK (mergeK kvs more))) s' → Q .none s') :
    wpAny (model X.prog X.w) A (call (.builtin "dict.update") [.ref a, .ref b]) Q E s := by
  obtain ⟨z, hd, vs, rel, dd⟩ := dk_of I.hok e
  obtain ⟨z2, hd2, ws, rel2, dd2⟩ := dk_of I.hok e2
  refine call_meetsIn PySem.F.slot_dict_update dd.typeIs PySem.F.entry_dict_update (PySem.F.args_dict_update_2 _ _) (meets_dict_update (mixKind X.prog X.w) a b ne hd2)
    ⟨vs, ws, dd, dd2, by rw [← rel.length, ← rel2.length]; exact hl, fun h' d1 d2 hs => h _ ?_⟩
  have he : ∃ q, h'.get? a = some q := let ⟨q, _, _, hq, _⟩ := d1; ⟨q, hq⟩
  exact d_write (t' := s.toks) I (by rw [e]; exact True.intro) hs he (dk_new (Nat.le_trans (length_mergeK more kvs) hl) hd (KV.merge rel2 rel) d1)
def tDUpd (td ty : TE) : TE := fun σ H Q => td σ H fun x H1 => ∃ a, x = .ref a ∧ IsD H1 a ∧ ty σ H1 fun y H2 => ∃ b kvs more, y = .ref b ∧ a ≠ b ∧ H2 a = some (.dK kvs) ∧ H2 b = some (.dK more) ∧ kvs.length + more.length ≤ sizeLine ∧ Q .non (upd H2 a (.dK (mergeK kvs more)))
theorem pe_dupd {o e : Expr} {apos cpos : Pos} {td ty : TE} (ho : PE X o td) (he : PE X e ty) (m : M1 X o "update" apos e cpos) : PE X (.Call (.Attribute o "update" apos) [e] [] cpos) (tDUpd td ty) := by
  refine ⟨fun pins s σ H Q I h => ?_⟩
  refine wpAny_Call_method m.base m.few m.line PySem.F.plainAttrs_dict PySem.F.slot_dict_update PySem.F.type_dict_update (thn (ho.run pins s σ H _ I h) fun u s1 ⟨x, H1, I1, rx, a, ex, d, q1⟩ => ?_)
  subst ex
  obtain rfl : u = Value.ref a := rx
  obtain ⟨t1, t2, _⟩ := isD_at I1 d
  refine ⟨t1, t2, ?_⟩
  rw [m.trees]
  refine Calls.callWith_builtin rfl (Calls.evalArgs_plain (Calls.spliced_cons (thn (he.run pins s1 σ H1 _ I1 q1) fun iv s2 ⟨y, H2, I2, ry, b, kvs, more, ey, ne, e1, e2, hl, q2⟩ => Calls.spliced_nil ?_)))
  subst ey
  cases (show iv = Value.ref b from ry)
  exact d_update I2 ne e1 e2 hl fun s3 I3 => ⟨.non, _, I3, rfl, q2⟩
end
end Gb

/-! GdG: {k: True for ..} with ints for keys -/
namespace Gb
open PySem L2
/-- keys, each once, as they came first -/
def insK (ks : List Int) (n : Int) : List Int := if n ∈ ks then ks else ks ++ [n]
def kvT (ks : List Int) : List (Key × V) := ks.map fun n => (Sum.inl n, V.bl true)
theorem kvT_any {n : Int} : ∀ ks : List Int, ((kvT ks).any fun kv => decide (kv.1 = Sum.inl n)) = decide (n ∈ ks)
  | [] => by simp [kvT]
  | k :: ks => by
    have ih := kvT_any (n := n) ks
    unfold kvT at ih ⊢
    rw [List.map_cons, List.any_cons, ih]
    by_cases c : k = n
    · subst c; simp
    · have c' : ¬ n = k := fun e => c e.symm
      have c2 : ¬ (Sum.inl k : Key) = Sum.inl n := fun e => c (Sum.inl.inj e)
      simp [c', c2]
theorem kvT_put {ks : List Int} {n : Int} : putK (kvT ks) (Sum.inl n) (.bl true) = kvT (insK ks n) := by
  unfold putK insK
  rw [kvT_any]
  by_cases c : n ∈ ks
  · rw [if_pos (decide_eq_true c), if_pos c]
    unfold kvT
    rw [List.map_map]
    refine List.map_congr_left fun k _ => ?_
    simp only [Function.comp]
    split <;> rfl
  · rw [if_neg (by rw [decide_eq_true_eq]; exact c), if_neg c]
    unfold kvT
    rw [List.map_append]
    rfl
theorem kvT_len {ks : List Int} : (kvT ks).length = ks.length := List.length_map _
theorem kvT_merge : ∀ {ms ks : List Int}, mergeK (kvT ks) (kvT ms) = kvT (ms.foldl insK ks)
  | [], ks => rfl
  | m :: ms, ks => by
    show mergeK (putK (kvT ks) (Sum.inl m) (.bl true)) (kvT ms) = _
    rw [kvT_put, kvT_merge]
    rfl
/-- the loop of a dict comprehension whose values are all True -/
def dcL (g : TgM) (c : MT) (kk vv : ME) (t : Itr) (env : PEnv) : List D → List Int → PHeap → Res (List Int)
  | [], acc, h => if t.live h then .ok acc h else .stuck
  | d :: ds, acc, h => if t.live h then match g.set d env with
      | none => .stuck
      | some e1 => (c e1 h).calm.bind fun k h1 => match k with
        | false => dcL g c kk vv t env ds acc h1
        | true => (kk e1 h1).calm.bind fun y h2 => (vv e1 h2).calm.bind fun z h3 => match y, z with
          | .int n, .bl true => if acc.length < 16777216 then dcL g c kk vv t env ds (insK acc n) h3 else .stuck
          | _, _ => .stuck
    else .stuck
def mDc (i : MI) (g : TgM) (c : MT) (kk vv : ME) (own : List Nat) : PEnv → PHeap → Res (List Int) := fun env h => (i env h).bind fun t h1 => dcL g c kk vv t (wipeE env own) t.items [] h1
def RDk (K : PySem.W.Frag) : Hp → List Addr → Hp → List Int → V → Prop := fun H0 io H ks v => ∃ a, v = .ref a ∧ H0 a = none ∧ a ∉ io ∧ H a = some (.dK (kvT ks))
instance {K : PySem.W.Frag} : Back K (RDk K) := ⟨fun s hl ⟨a, e1, h0, h1, h2⟩ => ⟨a, e1, s.before hl h0 h1, h1, h2⟩⟩
section
variable {K : PySem.W.Frag} {cl : Nat → Addr} {W : WX} {io io1 : List Addr} {H H1 : Hp} {h : PHeap} {Dd : Addr} {u ob : HO}
theorem tup_ovr (e : H Dd = some u) (nf : ∀ o w, u ≠ .frz o w) {a : Addr} {vs : List V} (s : TupA K H a vs) : TupA K (upd H Dd ob) a vs :=
  sqT_keep (fun b o u' q => by rw [upd_ne (fun z => by rw [z, e] at q; exact nf o u' (Option.some.inj q))]; exact q) s
theorem fro_ovr (e : H Dd = some u) (nf : ∀ o w, u ≠ .frz o w) {a : Addr} {vs : FX} (s : FroL K H a vs) : FroL K (upd H Dd ob) a vs :=
  fro_keep (fun b o u' q => by rw [upd_ne (fun z => by rw [z, e] at q; exact nf o u' (Option.some.inj q))]; exact q) s
theorem HRel.ovr (e : H Dd = some u) (nf : ∀ o w, u ≠ .frz o w) (n : Dd ∉ io) (r : HRel K cl io H h) : HRel K cl io (upd H Dd ob) h := by
  refine ⟨r.len, r.nd, fun i a c h1 h2 => ?_⟩
  have na : a ≠ Dd := fun z => n (by rw [← z]; exact List.mem_of_getElem? h1)
  have q := r.cell i a c h1 h2
  cases c with
  | lst xs => obtain ⟨vs, g1, g2⟩ := q; exact ⟨vs, by rw [upd_ne na]; exact g1, g2.mono (fun _ _ h => h) (fun _ _ => tup_ovr e nf) fun _ _ => fro_ovr e nf⟩
  | map xs => obtain ⟨o, ys, g1, g2, g3⟩ := q; exact ⟨o, ys, by rw [upd_ne na]; exact g1, g2, g3.mono (fun _ _ h => h) (fun _ _ => tup_ovr e nf) fun _ _ => fro_ovr e nf⟩
  | dead => obtain ⟨o, g1⟩ := q; exact ⟨o, by rw [upd_ne na]; exact g1⟩
  | kst ks => exact (upd_ne na).trans q
  | ins c fs => obtain ⟨dx, vs, g1, g2⟩ := q; exact ⟨dx, vs, by rw [upd_ne na]; exact g1, g2.1, g2.2.mono (fun _ _ h => h) (fun _ _ => tup_ovr e nf) fun _ _ => fro_ovr e nf⟩
theorem Step.ovr (s : Step K io1 H1 io H) (n1 : H1 Dd = none) (e : H Dd = some u) (nf : ∀ o w, u ≠ .frz o w) : Step K io1 H1 io (upd H Dd ob) :=
  ⟨s.pre, s.new, fun b o h m => by rw [upd_ne (fun z => by rw [z, n1] at h; cases h)]; exact s.keep b o h m, fun a vs h => tup_ovr e nf (s.tup a vs h), fun a vs h => fro_ovr e nf (s.fro a vs h)⟩
theorem dk_nf {kvs : List (Key × V)} : ∀ o w, HO.dK kvs ≠ .frz o w := fun _ _ e => by cases e
end
section
variable {X : Cx} {cl : Nat → Addr} {W : WX} {tg iter kx vx : Expr} {ifs : List Expr} {mk mv : ME} {mt : MT} {mi : MI} {pos : Pos} {scope : Scope} {own : List (Str × Nat)} {g : TgM}
theorem dc_read {vs : List Nat} (hsl : ∀ i ∈ g.slots, i ∈ vs) {sg : L2.St} {H : Hp} {Q : VK} (q : rd (RDk X.K) X.K cl W (mDc mi g mt mk mv vs) sg H Q) :
    tDc (rdI X.K cl W mi) (rdG X.K g) (rd RBool X.K cl WF mt) (rd (RRep X.K) X.K cl WF mk) (rd (RRep X.K) X.K cl WF mv) vs sg H Q := by
  obtain ⟨env, h, io, E, hr, p⟩ := q
  exact rdI_mk E hr (p.bind fun t h1 J io1 H1 e1 s1 r1 q1 p1 => by
    obtain ⟨as, G, Y, ap, w, hG, hY⟩ := q1
    intro Dd hD
    have hz : sizeLine = 16777216 := sizeLine_eq
    have E1 := (E.step s1).wipe2 vs
    have alive : ∀ {i : Nat} {acc : List Int} {h : PHeap}, postR (RDk X.K) X.K cl W io1 sg H1 (dcL g mt mk mv t (wipeE env vs) (t.items.drop i) acc h) Q → t.live h = true := by
      intro i acc h p2
      cases q : t.items.drop i with
      | nil =>
        rw [q] at p2
        unfold dcL at p2
        split at p2
        · assumption
        · exact p2.elim
      | cons d ds =>
        rw [q] at p2
        unfold dcL at p2
        split at p2
        · assumption
        · exact p2.elim
    refine ⟨fun i m Hc => m = t.items.length - i ∧ i ≤ t.items.length ∧ ∃ h io acc, Step X.K io1 H1 io Hc ∧ HRel X.K cl io Hc h ∧ Hc Dd = some (.dK (kvT acc)) ∧ Dd ∉ io ∧
      postR (RDk X.K) X.K cl W io1 sg H1 (dcL g mt mk mv t (wipeE env vs) (t.items.drop i) acc h) Q, ⟨_, rfl, Nat.zero_le _, h1, io1, [], Step.laid hD, r1.laid hD, upd_same, r1.out hD, p1⟩, ?_⟩
    rintro i m Hc ⟨rfl, hile, h2, io2, acc, s2, r2, d2, n2, p2⟩
    have lv := alive p2
    have GG := hG io2 Hc h2 (s2.keeps ap) r2 lv
    rcases Nat.lt_or_ge i t.items.length with hi | hge
    · refine .inr ⟨w.goes i Hc hi GG, fun Hn => ∃ h io acc, Step X.K io1 H1 io Hn ∧ HRel X.K cl io Hn h ∧ Hn Dd = some (.dK (kvT acc)) ∧ Dd ∉ io ∧
        postR (RDk X.K) X.K cl W io1 sg H1 (dcL g mt mk mv t (wipeE env vs) (t.items.drop (i + 1)) acc h) Q, fun H' hh => ⟨t.items.length - (i + 1), by omega, rfl, hi, hh⟩, fun x H' y => ?_⟩
      have y := w.yields i Hc x H' hi GG y
      obtain ⟨d, hd⟩ : ∃ d, t.items[i]? = some d := ⟨t.items[i], List.getElem?_eq_getElem hi⟩
      have ed : t.items.drop i = d :: t.items.drop (i + 1) := by
        rw [List.drop_eq_getElem_cons hi]
        rw [List.getElem?_eq_getElem hi] at hd
        cases hd
        rfl
      rw [ed] at p2
      unfold dcL at p2
      rw [if_pos lv] at p2
      obtain ⟨s3, r3, rd'⟩ := hY i io2 Hc h2 x H' d (s2.keeps ap) r2 lv hd y
      have E3 := (E1.step s2).step s3
      have d3 := s3.keep Dd _ d2 n2
      cases q2 : g.set d (wipeE env vs) with
      | none => rw [q2] at p2; exact p2.elim
      | some e3 =>
        rw [q2] at p2
        simp only at p2
        refine ⟨d, io2, _, e3, rd', E3, q2, fun sg' E' hw => ⟨by rw [hw _ hsl, wipe_none fun i m => m], ⟨e3, h2, io2, E', r3, p2.calm fun k h4 b io4 H4 s4 r4 q4 p4 => ?_⟩⟩⟩
        cases q4
        have d4 := s4.keep Dd _ d3 n2
        have n4 := s4.out d3 n2
        have s14 := (s2.trans s3).trans s4
        cases k with
        | false => exact iteF ⟨h4, io4, acc, s14, r4, d4, n4, p4⟩
        | true =>
          refine iteT ⟨e3, h4, io4, E'.step s4, r4, p4.calm fun y h5 yv io5 H5 s5 r5 q5 p5 => ?_⟩
          have d5 := s5.keep Dd _ d4 n4
          have n5 := s5.out d4 n4
          refine ⟨e3, h5, io5, (E'.step s4).step s5, r5, p5.calm fun z h6 zv io6 H6 s6 r6 q6 p6 => ?_⟩
          have d6 := s6.keep Dd _ d5 n5
          have n6 := s6.out d5 n5
          have q5' := q5.step s6
          split at p6
          · rename_i n
            split at p6
            · rename_i hlt
              have ey : yv = .int n := q5
              have ez : zv = .bl true := q6
              subst ey
              subst ez
              refine ⟨kvT acc, Sum.inl n, rfl, d6, by rw [kvT_len]; omega, ?_⟩
              rw [kvT_put]
              exact ⟨h6, io6, insK acc n, ((s14.trans s5).trans s6).ovr hD d6 dk_nf, r6.ovr d6 dk_nf n6, upd_same, n6, p6⟩
            · exact p6.elim
          · exact p6.elim
    · have e : i = t.items.length := by omega
      subst e
      rw [List.drop_length] at p2
      unfold dcL at p2
      rw [if_pos lv] at p2
      exact .inl ⟨w.stops Hc GG, p2 _ io2 Hc s2 r2 ⟨Dd, rfl, hD, n2, d2⟩⟩)
end
end Gb

/-! GdH: a dict of ints to True: made, updated by a comprehension, sorted -/
namespace Gb
open PySem L2
def mKst0 : ME := fun _ h => .ok (.ref h.length) (h ++ [.kst []])
/-- found.update({..}) -/
def mKUpd (i : Nat) (dc : PEnv → PHeap → Res (List Int)) : ME := fun env h => match env[i]? with
  | some (some (.ref n)) => match h[n]? with
    | some (.kst _) => (dc env h).bind fun ms h1 => match h1[n]? with
      | some (.kst ks) => if ks.length + ms.length ≤ 16777216 then .ok .non (h1.set n (.kst (ms.foldl insK ks))) else .stuck
      | _ => .stuck
    | _ => .stuck
  | _ => .stuck
def fSortK : LV → PHeap → Res (List D) := fun x h => match x with
  | .val (.ref n) => match h[n]? with
    | some (.kst ks) => if ks.length < 64 then .ok ((sortI ks).map D.int) h else .stuck
    | _ => .stuck
  | _ => .stuck
section
variable {X : Cx} {cl : Nat → Addr} {W : WX} {tg iter kx vx e : Expr} {ifs : List Expr} {mk mv : ME} {mt : MT} {mi : MI} {mo : MO} {pos p : Pos} {scope : Scope} {own : List (Str × Nat)} {g : TgM}
theorem sd_kst0 : SE X cl W (.Dict [] [] pos) mKst0 :=
  pe_dnewK.imp fun sg H Q ⟨env, h, io, E, hr, p⟩ q hq => p (.ref q) (io ++ [q]) _ ((Step.laid hq).cell (hr.out hq) hq) ((hr.laid hq).cell1 (hr.out hq) (show CellRep X.K cl io _ q (.kst []) from upd_same))
    ⟨q, by rw [List.getElem?_append_right (by rw [hr.len]; exact Nat.le_refl _), hr.len]; simp, rfl⟩
theorem pe_dcK (hc : X.calm = true) (hN : X.N.Nodup) (hi : SI X cl W tg iter mi) (ok : BlkOk X.N X.env.scope scope own)
    (hg : ∀ (s : Shared) (H : Hp) (C : Addr) (cl' : List (Str × Addr)) (fp : List Addr), SG (X.blk s H scope (compEnvC scope cl' C X.env) fp) tg g)
    (ht : ∀ (s : Shared) (H : Hp) (C : Addr) (cl' : List (Str × Addr)) (fp : List Addr), PTs (X.blk s H scope (compEnvC scope cl' C X.env) fp) ifs (rd RBool X.K cl WF mt))
    (hk : ∀ (s : Shared) (H : Hp) (C : Addr) (cl' : List (Str × Addr)) (fp : List Addr), SE (X.blk s H scope (compEnvC scope cl' C X.env) fp) cl WF kx mk)
    (he : ∀ (s : Shared) (H : Hp) (C : Addr) (cl' : List (Str × Addr)) (fp : List Addr), SE (X.blk s H scope (compEnvC scope cl' C X.env) fp) cl WF vx mv)
    (hsl : ∀ i ∈ g.slots, i ∈ own.map (·.2) := by decide) (hs : ∀ x, foldedSetIterable iter X.env x = pure x := by intro _; rfl) : PE X (.DictComp kx vx [⟨tg, iter, ifs, 0⟩] scope pos) (rd (RDk X.K) X.K cl W (mDc mi g mt mk mv (own.map (·.2)))) :=
  (pe_dc (g := rdG X.K g) (wi := rdI X.K cl W mi) (tt := rd RBool X.K cl WF mt) (tk := rd (RRep X.K) X.K cl WF mk) (tv := rd (RRep X.K) X.K cl WF mv) hc hN hi ok hg ht hk he hs).imp fun sg H Q q => dc_read hsl q
theorem sd_kupd {apos cpos np : Pos} {dc : PEnv → PHeap → Res (List Int)} (i : Nat) {x : Str} (hd' : PE X e (rd (RDk X.K) X.K cl W dc)) (hN : X.N[i]? = some x := by rfl) (hv : Vis X.env.scope x := by first | exact Or.inl rfl | exact Or.inr (Or.inl rfl) | exact Or.inr (Or.inr rfl)) (hd : (x == ("__debug__" : Str)) = false := by decide)
    (hcd : (x == ("__classdict__" : Str)) = false := by decide) (hb : attributeBase (.Name x np) "update" X.env (eval (.Name x np) X.env) = eval (.Name x np) X.env := by rfl)
    (hf : ((backTo cpos (starEach [e] X.env)).all (fun x => !x.1) && (backToKw cpos (keywordEach [] X.env)).all (fun x => x.1.isSome) && decide (([e] : List Expr).length + ([] : List Keyword).length + (if ([] : List Keyword).isEmpty then 0 else 1) < 30)) = true := by rfl)
    (hl : (apos.endLine == cpos.line) = true := by rfl) (htr : backTo cpos (starEach [e] X.env) = [(false, eval e X.env)] := by rfl) : SE X cl W (.Call (.Attribute (.Name x np) "update" apos) [e] [] cpos) (mKUpd i dc) :=
  (pe_dupd (pe_var hN hv hd hcd) hd' ⟨hb, hf, hl, htr⟩).imp fun sg H Q ⟨env, h, io, E, hr, p⟩ => by
    unfold mKUpd at p
    split at p
    · rename_i n e1
      split at p
      · rename_i k0 e2
        obtain ⟨v, hv, r⟩ := E.get i _ e1
        obtain ⟨a, ha, rfl⟩ := r
        have c0 : H a = some (.dK (kvT k0)) := hr.cell n a _ ha e2
        refine ⟨_, hv, a, rfl, .inl ⟨_, .inl c0⟩, rd_mk E hr (p.bind fun ms h1 w io1 H1 s0 s1 r1 q1 p1 => ?_)⟩
        obtain ⟨b, rfl, b0, b1, b2⟩ := q1
        split at p1
        · rename_i ks e3
          split at p1
          · rename_i hlen
            obtain ⟨l, el⟩ := s1.pre
            have ha1 : io1[n]? = some a := by rw [el, List.getElem?_append_left (List.getElem?_eq_some_iff.mp ha).1]; exact ha
            have m1 := List.mem_of_getElem? ha1
            have c1 : H1 a = some (.dK (kvT ks)) := r1.cell n a _ ha1 e3
            have hz : sizeLine = 16777216 := sizeLine_eq
            refine ⟨b, kvT ks, kvT ms, rfl, fun z => b1 (by rw [← z]; exact m1), c1, b2, by rw [kvT_len, kvT_len]; omega, ?_⟩
            rw [kvT_merge]
            exact p1 _ io1 _ (Step.writeX m1 c1 dk_nf) (r1.writeX ha1 c1 dk_nf (show CellRep X.K cl io1 _ a (.kst _) from upd_same)) rfl
          · exact p1.elim
        · exact p1.elim
      · exact p.elim
    · exact p.elim
theorem con_sortK : Con1 (β := V) (RNew X.K) X.K cl (fun xs H Q => ∃ (a : Addr) (kvs : List (Key × V)) (ks : List Int), xs = [.ref a] ∧ Rd H a (.dK kvs) ∧ kvs.map (·.1) = ks.map Sum.inl ∧ ks.length < 64 ∧
    ∀ (ys : List Int) (p : Addr), ys.Perm ks → ys.Pairwise (· ≤ ·) → H p = none → Q (.ref p) (upd H p (.lst (ys.map V.int)))) fSortK := by
  intro W io sg H h x v Q hr r p
  unfold fSortK at p
  split at p
  · rename_i n
    split at p
    · rename_i ks e
      split at p
      · rename_i hl
        obtain ⟨a, ha, rfl⟩ := (show Rep X.K io H (.ref n) v from r)
        have c : H a = some (.dK (kvT ks)) := hr.cell n a _ ha e
        refine ⟨a, _, ks, rfl, .inl c, by unfold kvT; rw [List.map_map]; rfl, hl, fun ys t pm so ht => ?_⟩
        have es : ys = sortI ks := sorted_unique (pm.trans (sortI_perm ks).symm) so (sortI_sorted ks)
        subst es
        exact p _ io _ (Step.laid ht) (hr.laid ht) ⟨t, _, rfl, ht, hr.out ht, upd_same, ints_rep _⟩
      · exact p.elim
    · exact p.elim
  · exact p.elim
theorem sn_sortK (hcalm : X.calm = true) (he : SO X cl W e mo) (hm : X.mg "sorted" = none) (hg : Gl X "sorted" := by rfl) (hs : starEach [e] X.env = (false, eval e X.env) :: starEach [] X.env := by rfl) : SN X cl W (.Call (.Name "sorted" p) [e] [] pos) (m1 fSortK mo) :=
  sc_b1 (call_sortedDI hcalm) con_sortK he hg hm (by decide +kernel) (by decide) (by decide) hs
end
end Gb

/-! GuK: without a heap: a dict of ints to True, filled in one loop of a def, told sorted -/
namespace Gb
open PySem L2
/-- sorted, one behind the other -/
def insQ (a : Int) : List Int → List Int
  | [] => [a]
  | b :: bs => if a ≤ b then a :: b :: bs else b :: insQ a bs
def sortQ : List Int → List Int
  | [] => []
  | a :: as => insQ a (sortQ as)
theorem insQ_perm (a : Int) : ∀ bs, (insQ a bs).Perm (a :: bs)
  | [] => .refl _
  | b :: bs => by
    unfold insQ
    split
    · exact .refl _
    · exact ((insQ_perm a bs).cons b).trans (.swap ..)
theorem insQ_sorted (a : Int) : ∀ bs, bs.Pairwise (· ≤ ·) → (insQ a bs).Pairwise (· ≤ ·)
  | [], _ => by simp [insQ]
  | b :: bs, h => by
    unfold insQ
    rw [List.pairwise_cons] at h
    split
    · rename_i c
      rw [List.pairwise_cons, List.pairwise_cons]
      refine ⟨fun x m => ?_, h⟩
      rcases List.mem_cons.mp m with e | m
      · rw [e]; exact c
      · exact Int.le_trans c (h.1 x m)
    · rename_i c
      rw [List.pairwise_cons]
      refine ⟨fun x m => ?_, insQ_sorted a bs h.2⟩
      rcases List.mem_cons.mp ((insQ_perm a bs).mem_iff.mp m) with e | m
      · rw [e]; omega
      · exact h.1 x m
theorem sortQ_perm : ∀ as, (sortQ as).Perm as
  | [] => .refl _
  | a :: as => (insQ_perm a _).trans ((sortQ_perm as).cons a)
theorem sortQ_sorted : ∀ as, (sortQ as).Pairwise (· ≤ ·)
  | [] => .nil
  | a :: as => insQ_sorted a _ (sortQ_sorted as)
theorem sortQ_eq (as : List Int) : sortQ as = sortI as := sorted_unique ((sortQ_perm as).trans (sortI_perm as).symm) (sortQ_sorted as) (sortI_sorted as)
/-! the comprehension -/
def udcL (g : TgM) (c : UT) (kk vv : UE) (own : List Nat) : List D → List Int → PEnv → UR (List Int)
  | [], acc, v => .ok acc v
  | d :: ds, acc, v => match g.set d v with
    | none => .stuck
    | some v1 => (c v1).calm.bind fun k v2 => match k with
      | false => udcL g c kk vv own ds acc (wipeE v2 own)
      | true => (kk v2).calm.bind fun y v3 => (vv v3).calm.bind fun z v4 => match y, z with
        | .int n, .bl true => if acc.length < 16777216 then udcL g c kk vv own ds (insK acc n) (wipeE v4 own) else .stuck
        | _, _ => .stuck
def uDc (i : UI) (g : TgM) (c : UT) (kk vv : UE) (own : List Nat) : PEnv → UR (List Int) := fun v => (i v).bind fun ds v1 => udcL g c kk vv own ds [] (wipeE v1 own)
section
variable {S : Sx} {g : TgM} {c : MT} {vc : UT} {kk vv : ME} {uk uv : UE} {own : List Nat} {X : List Nat}
theorem dc_den {t : Itr} (hg : ∀ i, i ∈ g.slots → i ∈ own) (ho : ∀ i, i ∈ own → i ∉ S.O) (hc : JU S RB c vc) (hk : JU S RD kk uk) (hv : JU S RD vv uv) (hX : ∀ i, i ∈ X → i ∉ S.M) {B : Nat → Prop} {env : PEnv} {k : Nat} : ∀ (us ds : List D) {acc : List Int} {ow : Ow} {h : PHeap} {ven : PEnv} {xs : List D},
    Rl S k B ow h env ven → DenL (lk B ow) h us ds → RI X B ow h xs t → Post S RB k B ow h env (dcL g c kk vv t env ds acc h) (udcL g vc uk uv own us acc ven)
  | [], ds, acc, ow, h, ven, xs, r, q, qt => by
    rw [denL_nil] at q
    subst q
    rw [dcL, if_pos qt.live]
    exact .ok r rfl
  | u :: us, ds, acc, ow, h, ven, xs, r, q, qt => by
    rw [DenL] at q
    obtain ⟨d, ds', rfl, q1, q2⟩ := q
    rw [dcL, if_pos qt.live, udcL]
    cases es : g.set u ven with
    | none => trivial
    | some v1 =>
      obtain ⟨e1, es1, r1⟩ := set_den g (fun i m => ho i (hg i m)) r q1 es
      simp only [es1]
      have back : ∀ {ow : Ow} {h : PHeap} {v3 : PEnv}, Rl S k B ow h e1 v3 → Rl S k B ow h env (wipeE v3 own) := fun r => r.block ho (set_len g es1) fun i m => set_same g es1 fun m2 => m (hg i m2)
      cases ec : vc v1 with
      | stuck => trivial
      | exc x v2 => trivial
      | ok k2 v2 =>
        obtain ⟨k2', h2, ow2, e2, r2, s2, q3⟩ := hc.at r1 ec
        cases q3
        rw [e2]
        simp only [Res.calm_ok, Res.bind_ok, UR.calm, UR.bind_ok]
        cases k2 with
        | false => exact Post.after s2 (dc_den hg ho hc hk hv hX us ds' (back r2) (DenL.kp s2.kp _ _ q2) (qt.sta hX s2))
        | true =>
          cases ee : uk v2 with
          | stuck => trivial
          | exc x v3 => trivial
          | ok y v3 =>
            obtain ⟨y', h3, ow3, e3, r3, s3, q4⟩ := hk.at r2 ee
            simp only [e3, Res.calm_ok, Res.bind_ok, UR.calm, UR.bind_ok]
            cases ef : uv v3 with
            | stuck => trivial
            | exc x v4 => trivial
            | ok z v4 =>
              obtain ⟨z', h4, ow4, e4, r4, s4, q5⟩ := hv.at r3 ef
              simp only [e4, Res.calm_ok, Res.bind_ok, UR.calm, UR.bind_ok]
              have s24 := (s2.trans s3).trans s4
              cases y with
              | int n =>
                rw [RD, Den] at q4
                subst q4
                cases z with
                | bl b =>
                  rw [RD, Den] at q5
                  subst q5
                  cases b with
                  | true =>
                    simp only
                    split
                    · exact Post.after s24 (dc_den hg ho hc hk hv hX us ds' (back r4) (DenL.kp s24.kp _ _ q2) (qt.sta hX s24))
                    · trivial
                  | false => trivial
                | _ => trivial
              | _ => trivial
theorem ju_dc {i : MI} {vi : UI} (hi : JU S (RI X) i vi) (hg : ∀ i, i ∈ g.slots → i ∈ own) (ho : ∀ i, i ∈ own → i ∉ S.O) (hX : ∀ i, i ∈ X → i ∉ S.M) (hc : JU S RB c vc) (hk : JU S RD kk uk) (hv : JU S RD vv uv) : JU S RB (mDc i g c kk vv own) (uDc vi g vc uk uv own) := fun k B ow h env ven r =>
  (hi k B ow h env ven r).bind fun t h1 ow1 v1 us r1 s1 q1 => by
    have r2 := r1.wipe own
    rw [dropO_none fun i n e m => ho i m (r1.own i n e).1] at r2
    have p := dc_den hg ho hc hk hv hX us t.items (acc := []) r2 q1.1 q1
    revert p
    cases udcL g vc uk uv own us [] (wipeE v1 own) with
    | stuck => intro _; trivial
    | exc x v2 => intro ⟨h2, ow2, e2, r2, s2⟩; exact ⟨h2, ow2, e2, r2.unwipe ho, s2⟩
    | ok y v2 => intro ⟨a, h2, ow2, e2, r2, s2, q2⟩; exact ⟨a, h2, ow2, e2, r2.unwipe ho, s2, q2⟩
end
/-! the loop -/
def ukL (g : TgM) (a : UE) (ga : TgM) (dc : PEnv → UR (List Int)) (kill : List Nat) : List D → PEnv → List Int → UR (List Int)
  | [], v, ks => .ok ks (wipeE v kill)
  | d :: ds, v, ks => match g.set d (wipeE v kill) with
    | none => .stuck
    | some v1 => match a v1 with
      | .ok x v2 => match ga.set x v2 with
        | none => .stuck
        | some v3 => match dc v3 with
          | .ok ms v4 => if ks.length + ms.length ≤ 16777216 then ukL g a ga dc kill ds v4 (ms.foldl insK ks) else .stuck
          | .exc x v4 => .exc x v4
          | .stuck => .stuck
      | .exc x v2 => .exc x v2
      | .stuck => .stuck
def uRunK (np ns : Nat) (P : US) (c : Nat) (i : UI) (g : TgM) (a : UE) (ga : TgM) (dc : PEnv → UR (List Int)) (kill : List Nat) : UF := fun args => if args.length = np then (match P (args.map some ++ List.replicate (ns - np) none) with
  | .nx v => if c < v.length then (match i (v.set c none) with
    | .ok ds v1 => match ukL g a ga dc kill ds v1 [] with
      | .ok ks _ => if ks.length < 64 then .ok (.tup ((sortQ ks).map .int)) else .stuck
      | .exc e _ => .exc e
      | .stuck => .stuck
    | .exc e _ => .exc e
    | .stuck => .stuck) else .stuck
  | .exc e _ => .exc e
  | _ => .stuck) else .stuck
abbrev S0 : Sx := ⟨[], [], [], false, []⟩
section
variable {k : Nat} {B : Nat → Prop} {ow : Ow} {h : PHeap} {env ven : PEnv} {n : Nat} {ks ms : List Int}
theorem set_kst {m : Nat} {cs : List D} (hn : h[n]? = some (.kst ks)) (e : h[m]? = some (.lst cs)) : (h.set n (.kst ms))[m]? = some (.lst cs) := by
  rw [List.getElem?_set_ne (fun z : n = m => by rw [z, e] at hn; cases hn)]
  exact e
theorem Rl.setK (r : Rl S0 k B ow h env ven) (hn : h[n]? = some (.kst ks)) : Rl S0 k B ow (h.set n (.kst ms)) env ven := by
  have kp : Kp (lk B ow) h (lk B ow) (h.set n (.kst ms)) := fun m cs l e => ⟨l, set_kst hn e⟩
  refine ⟨by simpa using r.kl, fun m b => by simpa using r.lt m b, r.inj, r.dis, r.frs, fun i m e => ?_, r.all, r.len, fun i u a b => ?_⟩
  · have := (r.own i m e).1
    cases this
  · obtain ⟨d, e, q⟩ := r.oth i u a b
    exact ⟨d, e, Den.kp kp u d q⟩
theorem RI.setK {us : List D} {t : Itr} (q : RI [] B ow h us t) (hn : h[n]? = some (.kst ks)) : RI [] B ow (h.set n (.kst ms)) us t := by
  have kp : Kp (lk B ow) h (lk B ow) (h.set n (.kst ms)) := fun m cs l e => ⟨l, set_kst hn e⟩
  exact ⟨DenL.kp kp _ _ q.1, fun p m => ⟨set_kst hn (q.2 p m).1, (q.2 p m).2⟩⟩
theorem stp0 {ow' : Ow} {h' : PHeap} (s : Stp S0 ow h ow' h') : ∀ (m : Nat) (c : Cell), h[m]? = some c → h'[m]? = some c := fun m c e => s.keep m c (fun i _ => List.not_mem_nil) e
/-- but for one cell all stays -/
structure Bu (n : Nat) (h h' : PHeap) : Prop where
  len : h.length ≤ h'.length
  keep : ∀ (m : Nat) (c : Cell), m ≠ n → h[m]? = some c → h'[m]? = some c
theorem Bu.refl : Bu n h h := ⟨Nat.le_refl _, fun _ _ _ e => e⟩
theorem Bu.trans {h1 h2 : PHeap} (a : Bu n h h1) (b : Bu n h1 h2) : Bu n h h2 := ⟨Nat.le_trans a.len b.len, fun m c q e => b.keep m c q (a.keep m c q e)⟩
theorem Bu.of {ow' : Ow} {h' : PHeap} (s : Stp S0 ow h ow' h') : Bu n h h' := ⟨s.len, fun m c _ e => stp0 s m c e⟩
theorem Bu.set {c : Cell} : Bu n h (h.set n c) := ⟨by simp, fun m d q e => by rw [List.getElem?_set_ne (fun z => q z.symm)]; exact e⟩
section
variable {g ga : TgM} {a : ME} {ua : UE} {dc : PEnv → PHeap → Res (List Int)} {ud : PEnv → UR (List Int)} {kill : List Nat} {c : Nat} {t : Itr}
theorem kL_den (hg : c ∉ g.slots) (hga : c ∉ ga.slots) (hkill : c ∉ kill) (ha : JU S0 RD a ua) (hd : JU S0 RB dc ud) : ∀ (us ds : List D) {ow : Ow} {h : PHeap} {env ven : PEnv} {ks : List Int} {xs : List D},
    Rl S0 k B ow h env ven → DenL (lk B ow) h us ds → RI [] B ow h xs t → env[c]? = some (some (.ref n)) → h[n]? = some (.kst ks) → match ukL g ua ga ud kill us ven ks with
      | .ok ks' v => ∃ e h' ow', forL g (sSeq (sAsg a ga) (sDrop (mKUpd c dc))) kill t ds env h = .nx e h' ∧ Rl S0 k B ow' h' e v ∧ e[c]? = some (some (.ref n)) ∧ h'[n]? = some (.kst ks') ∧ Bu n h h'
      | .exc x _ => ∃ e h', forL g (sSeq (sAsg a ga) (sDrop (mKUpd c dc))) kill t ds env h = .exc x e h' ∧ Bu n h h'
      | .stuck => True
  | [], ds, ow, h, env, ven, ks, xs, r, q, qt, ec, hn => by
    rw [denL_nil] at q
    subst q
    rw [ukL, forL, if_pos qt.live]
    exact ⟨_, h, _, rfl, r.wipe kill, by rw [wipeE_get hkill]; exact ec, hn, .refl⟩
  | z :: us, ds, ow, h, env, ven, ks, xs, r, q, qt, ec, hn => by
    rw [DenL] at q
    obtain ⟨d, ds', rfl, q1, q2⟩ := q
    rw [forL, if_pos qt.live, ukL]
    have r0 := r.wipe kill
    have s0 : Stp S0 ow h (dropO ow kill) h := .drop fun i m => by cases m
    cases es : g.set z (wipeE ven kill) with
    | none => trivial
    | some v1 =>
      obtain ⟨e1, es1, r1⟩ := set_den g (fun i _ => List.not_mem_nil) r0 (Sta.sta (R := RD) s0 q1) es
      have ec1 : e1[c]? = some (some (.ref n)) := by rw [set_same g es1 hg, wipeE_get hkill]; exact ec
      simp only [es1]
      cases ea : ua v1 with
      | stuck => trivial
      | exc x v2 =>
        have := ha k B _ h e1 v1 r1
        rw [ea] at this
        obtain ⟨h2, ow2, e2, r2, s2⟩ := this
        simp only
        refine ⟨_, h2, by unfold sSeq; rw [s_asg, e2]; rfl, .of s2⟩
      | ok x v2 =>
        obtain ⟨x', h2, ow2, e2, r2, s2, q3⟩ := ha.at r1 ea
        simp only
        cases eg : ga.set x v2 with
        | none => trivial
        | some v3 =>
          obtain ⟨e3, eg3, r3⟩ := set_den ga (fun i _ => List.not_mem_nil) r2 q3 eg
          have ec3 : e3[c]? = some (some (.ref n)) := by rw [set_same ga eg3 hga]; exact ec1
          have hn2 := stp0 s2 n _ hn
          have b1 : sSeq (sAsg a ga) (sDrop (mKUpd c dc)) e1 h = sDrop (mKUpd c dc) e3 h2 := by
            unfold sSeq
            rw [s_asg, e2]
            simp only [Res.out_ok, setO, eg3]
          simp only
          cases ed : ud v3 with
          | stuck => trivial
          | exc y v4 =>
            have := hd k B _ h2 e3 v3 r3
            rw [ed] at this
            obtain ⟨h4, ow4, e4, r4, s4⟩ := this
            simp only
            refine ⟨e3, h4, ?_, (Bu.of s2).trans (.of s4)⟩
            rw [b1, s_drop]
            unfold mKUpd
            rw [ec3]
            simp only [hn2, e4]
            rfl
          | ok ms v4 =>
            obtain ⟨ms', h4, ow4, e4, r4, s4, q5⟩ := hd.at r3 ed
            cases q5
            simp only
            by_cases hl : ks.length + ms.length ≤ 16777216
            · rw [if_pos hl]
              have hn4 := stp0 s4 n _ hn2
              have b2 : sDrop (mKUpd c dc) e3 h2 = .nx e3 (h4.set n (.kst (ms.foldl insK ks))) := by
                rw [s_drop]
                unfold mKUpd
                rw [ec3]
                simp only [hn2, e4, Res.bind_ok, hn4, if_pos hl]
                rfl
              have sc := (s0.trans s2).trans s4
              have kp := sc.kp (B := B)
              have q2' := DenL.kp (fun m cs l e => ⟨l, set_kst (ms := ms.foldl insK ks) hn4 e⟩) _ _ (DenL.kp kp _ _ q2)
              have qt' := (qt.sta (fun i m => by cases m) sc).setK (ms := ms.foldl insK ks) hn4
              have := kL_den hg hga hkill ha hd us ds' (r4.setK (ms := ms.foldl insK ks) hn4) q2' qt' ec3 (by rw [List.getElem?_set_self (get_lt hn4)])
              rw [b1, b2]
              have bu : Bu n h (h4.set n (.kst (ms.foldl insK ks))) := ((Bu.of s2).trans (.of s4)).trans .set
              revert this
              cases ukL g ua ga ud kill us v4 (ms.foldl insK ks) with
              | ok ks' v => intro ⟨e, h', ow', f1, f2, f3, f4, f5⟩; exact ⟨e, h', ow', f1, f2, f3, f4, bu.trans f5⟩
              | exc x v => intro ⟨e, h', f1, f2⟩; exact ⟨e, h', f1, bu.trans f2⟩
              | stuck => intro _; trivial
            · rw [if_neg hl]; trivial
theorem sq_nx {p q : MS} {e1 : PEnv} {h1 : PHeap} (e : p env h = .nx e1 h1) : sSeq p q env h = q e1 h1 := by unfold sSeq; rw [e]
theorem sq_ex {p q : MS} {x : D} {e1 : PEnv} {h1 : PHeap} (e : p env h = .exc x e1 h1) : sSeq p q env h = .exc x e1 h1 := by unfold sSeq; rw [e]
/-- the def -/
theorem fp_ofK {np ns : Nat} {P1 P2 : MS} {U1 U2 : US} {i : MI} {ui : UI} (h1 : SU S0 P1 U1) (h2 : SU S0 P2 U2) (hi : JU S0 (RI []) i ui) (ha : JU S0 RD a ua) (hd : JU S0 RB dc ud) (hg : c ∉ g.slots) (hga : c ∉ ga.slots) (hkill : c ∉ kill) {l : MS} (hl : l = sSeq (sAsg a ga) (sDrop (mKUpd c dc))) :
    FP false (runFn np ns (sSeq P1 (sSeq P2 (sSeq (sAsg mKst0 (.name c)) (sSeq (sFor i g l kill) (sRet (m1 fTuple (mNL (m1 fSortK (mVal (mVar c))))))))))) (uRunK np ns (uSeq U1 U2) c ui g ua ga ud kill) := by
  subst hl
  intro B h us ds hB q
  unfold uRunK
  by_cases hl : us.length = np
  · have hl2 : ds.length = np := by rw [← q.len]; exact hl
    rw [if_pos hl, s_fn hl2]
    have r : Rl S0 h.length B (fun _ => none) h (ds.map some ++ List.replicate (ns - np) none) (us.map some ++ List.replicate (ns - np) none) := by
      have lkB : lk B (fun _ => none) = B := by funext n; apply propext; exact ⟨fun l => l.elim id fun ⟨_, e⟩ => (by cases e), .inl⟩
      refine ⟨Nat.le_refl _, hB, fun i j n e => (by cases e), fun i n e => (by cases e), fun i n e => (by cases e), fun i n e => (by cases e), fun i u m e => (by cases m), by simp [hl, hl2], fun i u m e => ?_⟩
      obtain ⟨d, e1, e2⟩ := q.get (args_get hl e)
      exact ⟨d, args_at e1, by rw [lkB]; exact e2⟩
    have p := us_seq h1 h2 h.length B _ h _ _ r
    generalize us.map some ++ List.replicate (ns - np) none = ven at r p ⊢
    generalize ds.map some ++ List.replicate (ns - np) none = env at r p ⊢
    have assoc : ∀ R : MS, sSeq P1 (sSeq P2 R) env h = sSeq (sSeq P1 P2) R env h := fun R => by
      unfold sSeq
      cases P1 env h <;> rfl
    rw [assoc]
    have pass : ∀ {h' : PHeap} {d : D}, h.length ≤ h'.length → (∀ m c, m < h.length → h[m]? = some c → h'[m]? = some c) → Pass h (gc h.length d h') := fun a b => ⟨gc_len a, fun m c e => gc_get (get_lt e) (b m c (get_lt e) e)⟩
    cases eU : uSeq U1 U2 ven with
    | nx v =>
      rw [eU] at p
      obtain ⟨e1, h1', ow1, p1, r1, s1⟩ := p
      simp only
      by_cases hc : c < v.length
      · rw [if_pos hc]
        have b1 : ∀ R : MS, sSeq (sSeq P1 P2) (sSeq (sAsg mKst0 (.name c)) R) env h = R (e1.set c (some (.ref h1'.length))) (h1' ++ [.kst []]) := fun R => by
          unfold sSeq at p1 ⊢
          rw [p1]
          rfl
        rw [b1]
        have hlen : c < e1.length := by rw [r1.len]; exact hc
        have r2 : Rl S0 h.length B (dropO ow1 [c]) (h1' ++ [.kst []]) (e1.set c (some (.ref h1'.length))) (v.set c none) := by
          refine (r1.app _).forget (by simp) (by simp) (fun j u e => ?_) (fun j u m e => ?_) (fun j m => ?_)
          · by_cases hj : c = j
            · subst hj; rw [List.getElem?_set_self hc] at e; cases e
            · rw [List.getElem?_set_ne hj] at e; exact ⟨e, fun m => hj (List.mem_singleton.mp m).symm⟩
          · rw [List.getElem?_set_ne (fun z => m (by rw [z]; exact List.mem_singleton.mpr rfl))]; exact e
          · rw [List.getElem?_set_ne (fun z => m (by rw [z]; exact List.mem_singleton.mpr rfl))]
        have ec : (e1.set c (some (.ref h1'.length)))[c]? = some (some (.ref h1'.length)) := List.getElem?_set_self hlen
        have hn : (h1' ++ [Cell.kst []])[h1'.length]? = some (.kst []) := by simp
        have kn : h.length ≤ h1'.length := s1.len
        have bu0 : Bu h1'.length h (h1' ++ [.kst []]) := ⟨by simp; omega, fun m d _ e => get_app (stp0 s1 m d e)⟩
        have pi := hi h.length B _ _ _ _ r2
        cases eI : ui (v.set c none) with
        | ok xs v1 =>
          rw [eI] at pi
          obtain ⟨t, h3, ow3, p3, r3, s3, q3⟩ := pi
          have b2 : ∀ R : MS, sSeq (sFor i g (sSeq (sAsg a ga) (sDrop (mKUpd c dc))) kill) R (e1.set c (some (.ref h1'.length))) (h1' ++ [.kst []]) = sSeq (fun e h => forL g (sSeq (sAsg a ga) (sDrop (mKUpd c dc))) kill t t.items e h) R (e1.set c (some (.ref h1'.length))) h3 := fun R => by
            unfold sSeq
            rw [s_for, p3]
            rfl
          rw [b2]
          have lp := kL_den hg hga hkill ha hd xs t.items r3 q3.1 q3 ec (stp0 s3 _ _ hn)
          simp only
          cases eL : ukL g ua ga ud kill xs v1 [] with
          | ok ks v2 =>
            rw [eL] at lp
            obtain ⟨e4, h4, ow4, f1, f2, f3, f4, f5⟩ := lp
            simp only
            by_cases h64 : ks.length < 64
            · rw [if_pos h64]
              have bu := (bu0.trans (.of s3)).trans f5
              have b3 : sSeq (fun e h => forL g (sSeq (sAsg a ga) (sDrop (mKUpd c dc))) kill t t.items e h) (sRet (m1 fTuple (mNL (m1 fSortK (mVal (mVar c)))))) (e1.set c (some (.ref h1'.length))) h3 = .rt (.tup ((sortI ks).map D.int)) h4 := by
                refine (sq_nx (p := fun e h => forL g (sSeq (sAsg a ga) (sDrop (mKUpd c dc))) kill t t.items e h) f1).trans ?_
                rw [s_ret, s_m1, s_nl, s_m1, s_val, mVar_at f3]
                simp only [Res.bind_ok, fSortK, f4, if_pos h64]
                rfl
              rw [b3, sortQ_eq]
              refine ⟨_, _, rfl, pass bu.len fun m d hm e => bu.keep m d (by omega) e, gc_den (gnd_den _ ?_)⟩
              have : ∀ ns : List Int, D.gndL (ns.map D.int) = true := fun ns => by
                induction ns with
                | nil => rfl
                | cons n ns ih => rw [List.map_cons, D.gndL, ih]; rfl
              rw [D.gnd, this]
            · rw [if_neg h64]; trivial
          | exc x v2 =>
            rw [eL] at lp
            obtain ⟨e4, h4, f1, f5⟩ := lp
            have bu := (bu0.trans (.of s3)).trans f5
            refine ⟨h4, ?_, bu.len, fun m d e => bu.keep m d (by have := get_lt e; omega) e⟩
            rw [sq_ex (p := fun e h => forL g (sSeq (sAsg a ga) (sDrop (mKUpd c dc))) kill t t.items e h) f1]
            rfl
          | stuck => trivial
        | exc x v1 =>
          rw [eI] at pi
          obtain ⟨h3, ow3, p3, r3, s3⟩ := pi
          refine ⟨h3, ?_, (bu0.trans (.of s3)).len, fun m d e => (bu0.trans (.of s3)).keep m d (by have := get_lt e; omega) e⟩
          unfold sSeq
          rw [s_for, p3]
          rfl
        | stuck => trivial
      · rw [if_neg hc]; trivial
    | exc x v =>
      rw [eU] at p
      obtain ⟨e1, h1', ow1, p1, r1, s1⟩ := p
      refine ⟨h1', ?_, s1.len, fun m d e => stp0 s1 m d e⟩
      unfold sSeq at p1 ⊢
      rw [p1]
      rfl
    | rt d v => trivial
    | bk v => trivial
    | ct v => trivial
    | stuck => trivial
  · rw [if_neg hl]; trivial
end
end
end Gb

namespace Gb
open PySem PySem.Spec PyProof.Rows L2
def b_is_whole : MS := sRet (mAnd (m1 (fIsi .int) (mVal (mVar 0))) (mNot (m1 (fIsi .bl) (mVal (mVar 0)))))
def p_is_whole : List D → PHeap → Res D := runFn 1 1 b_is_whole
def b_hours_of : MS := sRet (mM (m2 fAddO (mVal (m1 fLen (mVal (m2 fIx (mVal (mVar 0)) (mVal (mC (.int 2))))))) (mVal (mC (.int 1)))))
def p_hours_of : List D → PHeap → Res D := runFn 1 1 b_hours_of
def l_bays_brought_0 : MS := sIf (mTst (m1 fAny (mNL (mLc (iEnu (mVal (mVar 2))) (.tup [.name 5, .name 6]) (tYesM) (m2 (fInO id) (mVal (m2 fIx (mVal (mVar 4)) (mVal (mVar 5)))) (mVal (mVar 6))) [5, 6]))) truthD) (sDrop (mMt fAppend (mVar 3) (mCons (m2 fIx (mVal (mVar 4)) (mVal (mVar 1))) (mNil)))) (sNext)
def b_bays_brought : MS := sSeq (sAsg (mM (mNL (mDisp (mNil)))) (.name 3)) (sSeq (sFor (iSrc (mVal (m2 fIx (mVal (mVar 0)) (mVal (mC (.int 1)))))) (.name 4) (l_bays_brought_0) [4]) (sRet (mVar 3)))
def p_bays_brought : List D → PHeap → Res D := runFn 3 7 b_bays_brought
def b_bays_blown : MS := sSeq (sAsg (m2 fIx (mVal (m2 fIx (mVal (mVar 0)) (mVal (mC (.int 2))))) (mVal (mVar 1))) (.name 3)) (sRet (mIf (mTst (m1 fAny (mNL (mLc (iSrc (mVal (mVar 2))) (.name 4) (tYesM) (m2 (fInO id) (mVal (mVar 4)) (mVal (mVar 3))) [4]))) truthD) (mM (mNL (m1 fList (mVal (mVar 3))))) (mM (mNL (mDisp (mNil))))))
def p_bays_blown : List D → PHeap → Res D := runFn 3 5 b_bays_blown
def b__law_cell_at : MS := sSeq (sIf (mTB (mBin fLt (mVar 1) (m1 fLen (mVal (mVar 0))))) (sRet (m2 fIx (mVal (mVar 0)) (mVal (mVar 1)))) (sNext)) (sRet (mC (.int 0)))
def p__law_cell_at : List D → PHeap → Res D := runFn 2 2 b__law_cell_at
def b__law_next : MS := sSeq (sAsg (mBin fMod (mM (m2 fAddO (mVal (mVar 0)) (mVal (mC (.int 7919))))) (mC (.int 2147483647))) (.name 0)) (sRet (mBin fMod (mM (m2 fAddO (m2 fAddO (m2 fMulO (mVal (mVar 0)) (mVal (mVar 0))) (m2 fMulO (mVal (mC (.int 48271))) (mVal (mVar 0)))) (mVal (mC (.int 12345))))) (mC (.int 2147483629))))
def p__law_next : List D → PHeap → Res D := runFn 1 1 b__law_next
def b__law_pen_of : MS := sSeq (sAsg (m2 fMax2 (mVal (mVar 0)) (mVal (mBin fSub (mC (.int 0)) (mVar 0)))) (.name 1)) (sRet (mM (mNL (mDisp (mCons (mVar 1) (mCons (m1 fInt (mVal (mBin fGe (mVar 1) (mBin fPow (mC (.int 10)) (mC (.int 18)))))) (mCons (mBin fMod (mVar 1) (mC (.int 1000003))) (mNil))))))))
def p__law_pen_of : List D → PHeap → Res D := runFn 1 2 b__law_pen_of
def b_is_among : MS := sRet (mAnd (mCall p_is_whole (mCons (mVar 0) (mNil))) (mChain fLe fLe (mVar 1) (mVar 0) (mVar 2)))
def p_is_among : List D → PHeap → Res D := runFn 3 3 b_is_among
def l_grown_from_0 : MS := sSeq (sAsg (mIf (mTB (mBin fIsNot (mVar 2) (mC .non))) (mCall p_bays_blown (mCons (mVar 0) (mCons (mBin fSub (mVar 6) (mC (.int 1))) (mCons (m2 fIx (mVal (mVar 5)) (mVal (mUn fNeg (mC (.int 1))))) (mNil))))) (mM (mNL (mDisp (mNil))))) (.name 7)) (sSeq (sAsg (mM (mNL (mLc (iSrc (mVal (mVar 7))) (.name 8) (mTB (m2 (fInO not) (mVal (mVar 8)) (mVal (m2 fIx (mVal (mVar 2)) (mVal (mVar 6)))))) (mVar 8) [8]))) (.name 7)) (sDrop (mMt fAppend (mVar 5) (mCons (m1 fTuple (mNL (m1 fSortSet (m2 fAddO (m2 fAddO (mNL (m1 fList (mVal (m2 fIx (mVal (mVar 5)) (mVal (mUn fNeg (mC (.int 1)))))))) (mVal (mCall p_bays_brought (mCons (mVar 0) (mCons (mVar 6) (mCons (mVar 5) (mNil))))))) (mVal (mVar 7)))))) (mNil)))))
def b_grown_from : MS := sSeq (sAsg (mVar 1) (.tup [.name 3, .name 4])) (sSeq (sAsg (mM (m2 fAddO (m2 fMulO (mNL (mDisp (mCons (mTup (mNil)) (mNil)))) (mVal (mVar 3))) (mNL (mDisp (mCons (mTup (mCons (mVar 4) (mNil))) (mNil)))))) (.name 5)) (sSeq (sFor (iR2 (mM (m2 fAddO (mVal (mVar 3)) (mVal (mC (.int 1))))) (mCall p_hours_of (mCons (mVar 0) (mNil)))) (.name 6) (l_grown_from_0) [6, 7]) (sRet (m1 fTuple (mVal (mVar 5))))))
def p_grown_from : List D → PHeap → Res D := runFn 3 9 b_grown_from
def b_first_hours : MS := sSeq (sAsg (mM (mNL (mRgL1 (mCall p_hours_of (mCons (mVar 0) (mNil)))))) (.name 2)) (sSeq (sAsg (mM (mNL (mLc (iR1 (m2 fIx (mVal (mVar 0)) (mVal (mC (.int 0))))) (.name 5) (tYesM) (m1 fMinN (mNL (mLc (iSrc (mVal (mVar 2))) (.name 6) (mTB (m2 (fInO id) (mVal (mVar 5)) (mVal (m2 fIx (mVal (mVar 1)) (mVal (mVar 6)))))) (mVar 6) [6]))) [5]))) (.name 3)) (sSeq (sAsg (mM (mNL (mLc (iSrc (mVal (m2 fIx (mVal (mVar 0)) (mVal (mC (.int 1)))))) (.name 7) (tYesM) (m1 fMinN (mNL (mLc (iSrc (mVal (mVar 2))) (.name 6) (mTB (m2 (fInO id) (mVal (m2 fIx (mVal (mVar 7)) (mVal (mVar 6)))) (mVal (m2 fIx (mVal (mVar 1)) (mVal (mVar 6)))))) (mVar 6) [6]))) [7]))) (.name 4)) (sRet (mTup (mCons (m1 fTuple (mVal (mVar 3))) (mCons (m1 fTuple (mVal (mVar 4))) (mNil)))))))
def p_first_hours : List D → PHeap → Res D := runFn 2 8 b_first_hours
def l_barred_by_0 : MS := sIf (mTst (m1 fAny (mNL (mLc (iEnu (mVal (mVar 2))) (.tup [.name 6, .name 9]) (tYesM) (m2 (fInO id) (mVal (m2 fIx (mVal (mVar 5)) (m2 fAddO (m2 fAddO (mVal (mVar 3)) (mVal (mC (.int 1)))) (mVal (mVar 6))))) (mVal (mVar 9))) [6, 9]))) truthD) (sDrop (mMt fAppend (mVar 4) (mCons (m2 fIx (mVal (mVar 5)) (mVal (mVar 3))) (mNil)))) (sNext)
def l_barred_by_1 : MS := sSeq (sAsg (mM (mNL (mLc (iSrc (mVal (mVar 1))) (.tup [.name 6, .name 7, .name 8]) (tAndM (mTB (m2 (fEqO id) (mVal (mVar 6)) (mVal (mVar 3)))) (tNotM (mTst (mVar 8) truthD))) (mVar 7) [6, 7, 8]))) (.name 4)) (sSeq (sIf (mTB (m2 (fEqN not) (mVal (mVar 2)) (mNL (mDisp (mNil))))) (sAsg (mM (m2 fAddO (mVal (mVar 4)) (mVal (m2 fIx (mVal (mVar 2)) (mVal (mC (.int 0))))))) (.name 4)) (sNext)) (sSeq (sFor (iSrc (mVal (m2 fIx (mVal (mVar 0)) (mVal (mC (.int 1)))))) (.name 5) (l_barred_by_0) [5]) (sAsg (mM (m2 fAddO (mNL (mDisp (mCons (mVar 4) (mNil)))) (mVal (mVar 2)))) (.name 2))))
def b_barred_by : MS := sSeq (sAsg (mM (mNL (mDisp (mNil)))) (.name 2)) (sSeq (sFor (iR3 (mBin fSub (mCall p_hours_of (mCons (mVar 0) (mNil))) (mC (.int 1))) (mUn fNeg (mC (.int 1))) (mUn fNeg (mC (.int 1)))) (.name 3) (l_barred_by_1) [3, 4, 5]) (sRet (mVar 2)))
def p_barred_by : List D → PHeap → Res D := runFn 2 10 b_barred_by
def b_goes_on : MS := sSeq (sAsg (mTup (mCons (m2 fIx (mVal (mVar 2)) (mVal (mBin fSub (mVar 1) (mC (.int 1))))) (mCons (m2 fIx (mVal (mVar 2)) (mVal (mVar 1))) (mNil)))) (.tup [.name 3, .name 4])) (sSeq (sAsg (mM (m2 fAddO (mNL (m1 fList (mVal (mVar 3)))) (mVal (mCall p_bays_brought (mCons (mVar 0) (mCons (mVar 1) (mCons (mM (mSl (mVal (mVar 2)) (pNone) (pSome (mVar 1)))) (mNil)))))))) (.name 5)) (sSeq (sAsg (mM (m2 fAddO (mVal (mVar 5)) (mVal (mCall p_bays_blown (mCons (mVar 0) (mCons (mBin fSub (mVar 1) (mC (.int 1))) (mCons (mVar 3) (mNil)))))))) (.name 6)) (sRet (mAnd (m1 fAll (mNL (mLc (iSrc (mVal (mVar 5))) (.name 7) (tYesM) (m2 (fInO id) (mVal (mVar 7)) (mVal (mVar 4))) [7]))) (m1 fAll (mNL (mLc (iSrc (mVal (mVar 4))) (.name 7) (tYesM) (m2 (fInO id) (mVal (mVar 7)) (mVal (mVar 6))) [7])))))))
def p_goes_on : List D → PHeap → Res D := runFn 3 8 b_goes_on
def b__law_draw : MS := sSeq (sIf (tAndM (mTB (m2 (fEqO id) (mVal (m2 fIx (mVal (mVar 0)) (mVal (mC (.int 1))))) (mVal (mC (.int 1))))) (mTB (mBin fGt (m2 fIx (mVal (mVar 0)) (mVal (mC (.int 0)))) (mC (.int 0))))) (sSeq (sAsg (mBin fMod (m2 fIx (mVal (mVar 0)) (mVal (mC (.int 0)))) (mVar 1)) (.name 2)) (sSeq (sSub (mBin fDiv (m2 fIx (mVal (mVar 0)) (mVal (mC (.int 0)))) (mVar 1)) (mVar 0) (mC (.int 0))) (sRet (mVar 2)))) (sNext)) (sSeq (sSub (mCall p__law_next (mCons (mM (m2 fAddO (mVal (mCall p__law_next (mCons (m2 fIx (mVal (mVar 0)) (mVal (mC (.int 2)))) (mNil)))) (mVal (mC (.int 7))))) (mNil))) (mVar 0) (mC (.int 2))) (sRet (mBin fMod (mBin fDiv (m2 fIx (mVal (mVar 0)) (mVal (mC (.int 2)))) (mC (.int 64))) (mVar 1))))
def p__law_draw : List D → PHeap → Res D := runFn 2 3 b__law_draw
def b_are_bays : MS := sSeq (sIf (tOrM (tNotM (mTst (m1 (fIsi .tup) (mVal (mVar 1))) truthD)) (tNotM (mTst (m1 fAll (mNL (mLc (iSrc (mVal (mVar 1))) (.name 2) (tYesM) (mCall p_is_among (mCons (mVar 2) (mCons (mC (.int 0)) (mCons (mBin fSub (mVar 0) (mC (.int 1))) (mNil))))) [2]))) truthD))) (sRet (mC (.bl false))) (sNext)) (sRet (m1 fAll (mNL (mLc (iZip2 (mVal (mVar 1)) (mSl (mVal (mVar 1)) (pSome (mC (.int 1))) (pNone))) (.tup [.name 2, .name 3]) (tYesM) (mBin fLt (mVar 2) (mVar 3)) [2, 3]))))
def p_are_bays : List D → PHeap → Res D := runFn 2 4 b_are_bays
def b_is_way : MS := sRet (mAnd (m1 (fIsi .tup) (mVal (mVar 2))) (mAnd (m2 (fEqO id) (mVal (m1 fLen (mVal (mVar 2)))) (mVal (mVar 1))) (m1 fAll (mNL (mLc (iSrc (mVal (mVar 2))) (.name 3) (tYesM) (mCall p_is_among (mCons (mVar 3) (mCons (mC (.int 0)) (mCons (mBin fSub (mVar 0) (mC (.int 1))) (mNil))))) [3])))))
def p_is_way : List D → PHeap → Res D := runFn 3 4 b_is_way
def b_is_begin : MS := sSeq (sIf (tOrM (tNotM (mTst (m1 (fIsi .tup) (mVal (mVar 1))) truthD)) (mTB (m2 (fEqO not) (mVal (m1 fLen (mVal (mVar 1)))) (mVal (mC (.int 2)))))) (sRet (mC (.bl false))) (sNext)) (sRet (mAnd (mCall p_is_among (mCons (m2 fIx (mVal (mVar 1)) (mVal (mC (.int 0)))) (mCons (mC (.int 0)) (mCons (mBin fSub (mCall p_hours_of (mCons (mVar 0) (mNil))) (mC (.int 1))) (mNil))))) (mCall p_is_among (mCons (m2 fIx (mVal (mVar 1)) (mVal (mC (.int 1)))) (mCons (mC (.int 0)) (mCons (mBin fSub (m2 fIx (mVal (mVar 0)) (mVal (mC (.int 0)))) (mC (.int 1))) (mNil)))))))
def p_is_begin : List D → PHeap → Res D := runFn 2 2 b_is_begin
def b_story_by : MS := sSeq (sAsg (mVar 2) (.tup [.name 3, .name 4])) (sSeq (sAsg (mCall p_barred_by (mCons (mVar 0) (mCons (mVar 1) (mNil)))) (.name 5)) (sSeq (sIf (mTB (m2 (fInO id) (mVal (mVar 4)) (mVal (m2 fIx (mVal (mVar 5)) (mVal (mVar 3)))))) (sRet (mC .non)) (sNext)) (sSeq (sAsg (mCall p_grown_from (mCons (mVar 0) (mCons (mVar 2) (mCons (mVar 5) (mNil))))) (.name 6)) (sSeq (sIf (tNotM (mTst (m1 fAll (mNL (mLc (iSrc (mVal (mVar 1))) (.tup [.name 7, .name 4, .name 8]) (mTst (mVar 8) truthD) (m2 (fInO id) (mVal (mVar 4)) (mVal (m2 fIx (mVal (mVar 6)) (mVal (mVar 7))))) [7, 4, 8]))) truthD)) (sRet (mC .non)) (sNext)) (sRet (mVar 6))))))
def p_story_by : List D → PHeap → Res D := runFn 3 9 b_story_by
def b_is_yard : MS := sSeq (sIf (tOrM (tNotM (mTst (m1 (fIsi .tup) (mVal (mVar 0))) truthD)) (tOrM (mTB (m2 (fEqO not) (mVal (m1 fLen (mVal (mVar 0)))) (mVal (mC (.int 3))))) (tNotM (mTst (mCall p_is_among (mCons (m2 fIx (mVal (mVar 0)) (mVal (mC (.int 0)))) (mCons (mC (.int (2))) (mCons (mC (.int (6))) (mNil))))) truthD)))) (sRet (mC (.bl false))) (sNext)) (sSeq (sAsg (mVar 0) (.tup [.name 1, .name 2, .name 3])) (sSeq (sIf (tOrM (tNotM (mTst (m1 (fIsi .tup) (mVal (mVar 3))) truthD)) (tOrM (mTB (mBin fGt (m1 fLen (mVal (mVar 3))) (mC (.int (7))))) (tNotM (mTst (m1 fAll (mNL (mLc (iSrc (mVal (mVar 3))) (.name 4) (tYesM) (mCall p_are_bays (mCons (mVar 1) (mCons (mVar 4) (mNil)))) [4]))) truthD)))) (sRet (mC (.bl false))) (sNext)) (sSeq (sIf (tOrM (tNotM (mTst (m1 (fIsi .tup) (mVal (mVar 2))) truthD)) (mTB (mBin fGt (m1 fLen (mVal (mVar 2))) (mC (.int (5)))))) (sRet (mC (.bl false))) (sNext)) (sRet (m1 fAll (mNL (mLc (iSrc (mVal (mVar 2))) (.name 4) (tYesM) (mCall p_is_way (mCons (mVar 1) (mCons (mM (m2 fAddO (mVal (m1 fLen (mVal (mVar 3)))) (mVal (mC (.int 1))))) (mCons (mVar 4) (mNil))))) [4])))))))
def p_is_yard : List D → PHeap → Res D := runFn 1 5 b_is_yard
def b_need_begin : MS := sIf (tNotM (mTst (mCall p_is_begin (mCons (mVar 0) (mCons (mVar 1) (mNil)))) truthD)) (sStuck) (sNext)
def p_need_begin : List D → PHeap → Res D := runFn 2 2 b_need_begin
def b_is_find : MS := sRet (mAnd (m1 (fIsi .tup) (mVal (mVar 1))) (mAnd (m2 (fEqO id) (mVal (m1 fLen (mVal (mVar 1)))) (mVal (mC (.int 3)))) (mAnd (mCall p_is_begin (mCons (mVar 0) (mCons (mM (mSl (mVal (mVar 1)) (pNone) (pSome (mC (.int 2))))) (mNil)))) (m1 (fIsi .bl) (mVal (m2 fIx (mVal (mVar 1)) (mVal (mC (.int 2)))))))))
def p_is_find : List D → PHeap → Res D := runFn 2 2 b_is_find
def b_begins_by : MS := sSeq (sAsg (mM (mNL (mLc2 (iR1 (mCall p_hours_of (mCons (mVar 0) (mNil)))) (.name 3) (tYesM) (iR1 (m2 fIx (mVal (mVar 0)) (mVal (mC (.int 0))))) (.name 4) (tYesM) (mTup (mCons (mVar 3) (mCons (mVar 4) (mNil)))) [3, 4] [4]))) (.name 2)) (sRet (m1 fTuple (mNL (mLc (iSrc (mVal (mVar 2))) (.name 5) (mTB (mBin fIsNot (mCall p_story_by (mCons (mVar 0) (mCons (mVar 1) (mCons (mVar 5) (mNil))))) (mC .non))) (mVar 5) [5]))))
def p_begins_by : List D → PHeap → Res D := runFn 2 6 b_begins_by
def b_need_yard : MS := sIf (tNotM (mTst (mCall p_is_yard (mCons (mVar 0) (mNil))) truthD)) (sStuck) (sNext)
def p_need_yard : List D → PHeap → Res D := runFn 1 1 b_need_yard
def b_need_finds : MS := sIf (tOrM (tNotM (mTst (m1 (fIsi .tup) (mVal (mVar 1))) truthD)) (tOrM (mTB (mBin fGt (m1 fLen (mVal (mVar 1))) (mC (.int (6))))) (tNotM (mTst (m1 fAll (mNL (mLc (iSrc (mVal (mVar 1))) (.name 2) (tYesM) (mCall p_is_find (mCons (mVar 0) (mCons (mVar 2) (mNil)))) [2]))) truthD)))) (sStuck) (sNext)
def p_need_finds : List D → PHeap → Res D := runFn 2 3 b_need_finds
def b_may_have : MS := sSeq (sDrop (mCall p_need_yard (mCons (mVar 0) (mNil)))) (sSeq (sDrop (mCall p_need_begin (mCons (mVar 0) (mCons (mVar 1) (mNil))))) (sRet (mCall p_first_hours (mCons (mVar 0) (mCons (mCall p_grown_from (mCons (mVar 0) (mCons (mVar 1) (mCons (mM (m2 fMulO (mNL (mDisp (mCons (mTup (mNil)) (mNil)))) (mVal (mCall p_hours_of (mCons (mVar 0) (mNil)))))) (mNil))))) (mNil))))))
def p_may_have : List D → PHeap → Res D := runFn 2 2 b_may_have
def b_must_have : MS := sSeq (sDrop (mCall p_need_yard (mCons (mVar 0) (mNil)))) (sSeq (sDrop (mCall p_need_begin (mCons (mVar 0) (mCons (mVar 1) (mNil))))) (sRet (mCall p_first_hours (mCons (mVar 0) (mCons (mCall p_grown_from (mCons (mVar 0) (mCons (mVar 1) (mCons (mC .non) (mNil))))) (mNil))))))
def p_must_have : List D → PHeap → Res D := runFn 2 2 b_must_have
def b_begins_of : MS := sSeq (sDrop (mCall p_need_yard (mCons (mVar 0) (mNil)))) (sSeq (sDrop (mCall p_need_finds (mCons (mVar 0) (mCons (mVar 1) (mNil))))) (sRet (mCall p_begins_by (mCons (mVar 0) (mCons (mVar 1) (mNil))))))
def p_begins_of : List D → PHeap → Res D := runFn 2 2 b_begins_of
def b_story_of : MS := sSeq (sDrop (mCall p_need_yard (mCons (mVar 0) (mNil)))) (sSeq (sDrop (mCall p_need_finds (mCons (mVar 0) (mCons (mVar 1) (mNil))))) (sSeq (sDrop (mCall p_need_begin (mCons (mVar 0) (mCons (mVar 2) (mNil))))) (sRet (mCall p_story_by (mCons (mVar 0) (mCons (mVar 1) (mCons (mVar 2) (mNil))))))))
def p_story_of : List D → PHeap → Res D := runFn 3 3 b_story_of
def b_is_story : MS := sSeq (sDrop (mCall p_need_yard (mCons (mVar 0) (mNil)))) (sSeq (sDrop (mCall p_need_finds (mCons (mVar 0) (mCons (mVar 1) (mNil))))) (sSeq (sDrop (mCall p_need_begin (mCons (mVar 0) (mCons (mVar 2) (mNil))))) (sSeq (sIf (tOrM (tNotM (mTst (m1 (fIsi .tup) (mVal (mVar 3))) truthD)) (mTB (m2 (fEqO not) (mVal (m1 fLen (mVal (mVar 3)))) (mVal (mCall p_hours_of (mCons (mVar 0) (mNil))))))) (sRet (mC (.bl false))) (sNext)) (sSeq (sIf (tNotM (mTst (m1 fAll (mNL (mLc (iSrc (mVal (mVar 3))) (.name 6) (tYesM) (mCall p_are_bays (mCons (m2 fIx (mVal (mVar 0)) (mVal (mC (.int 0)))) (mCons (mVar 6) (mNil)))) [6]))) truthD)) (sRet (mC (.bl false))) (sNext)) (sSeq (sAsg (mVar 2) (.tup [.name 4, .name 5])) (sSeq (sIf (mTB (m2 (fEqO not) (mSl (mVal (mVar 3)) (pNone) (pSome (mM (m2 fAddO (mVal (mVar 4)) (mVal (mC (.int 1))))))) (m2 fAddO (m2 fMulO (mVal (mTup (mCons (mTup (mNil)) (mNil)))) (mVal (mVar 4))) (mVal (mTup (mCons (mTup (mCons (mVar 5) (mNil))) (mNil))))))) (sRet (mC (.bl false))) (sNext)) (sSeq (sIf (tNotM (mTst (m1 fAll (mNL (mLc (iR2 (mM (m2 fAddO (mVal (mVar 4)) (mVal (mC (.int 1))))) (m1 fLen (mVal (mVar 3)))) (.name 7) (tYesM) (mCall p_goes_on (mCons (mVar 0) (mCons (mVar 7) (mCons (mVar 3) (mNil))))) [7]))) truthD)) (sRet (mC (.bl false))) (sNext)) (sRet (m1 fAll (mNL (mLc (iSrc (mVal (mVar 1))) (.tup [.name 8, .name 6, .name 9]) (tYesM) (m2 (fEqO id) (mVal (m2 (fInO id) (mVal (mVar 6)) (mVal (m2 fIx (mVal (mVar 3)) (mVal (mVar 8)))))) (mVal (mVar 9))) [8, 6, 9])))))))))))
def p_is_story : List D → PHeap → Res D := runFn 4 10 b_is_story
def l_called_0 : MS := sSeq (sAsg (m2 fIx (mVal (mCall p_first_hours (mCons (mVar 0) (mCons (mCall p_story_by (mCons (mVar 0) (mCons (mVar 1) (mCons (mVar 3) (mNil))))) (mNil))))) (mVal (mC (.int 1)))) (.name 4)) (sDrop (mKUpd 2 (mDc (iEnu (mVal (mVar 4))) (.tup [.name 5, .name 6]) (mTB (mBin fIsNot (mVar 6) (mC .non))) (mVar 5) (mC (.bl true)) [5, 6])))
def b_called : MS := sSeq (sDrop (mCall p_need_yard (mCons (mVar 0) (mNil)))) (sSeq (sDrop (mCall p_need_finds (mCons (mVar 0) (mCons (mVar 1) (mNil))))) (sSeq (sAsg (mKst0) (.name 2)) (sSeq (sFor (iSrc (mVal (mCall p_begins_by (mCons (mVar 0) (mCons (mVar 1) (mNil)))))) (.name 3) (l_called_0) [3, 4]) (sRet (m1 fTuple (mNL (m1 fSortK (mVal (mVar 2)))))))))
def p_called : List D → PHeap → Res D := runFn 2 7 b_called
def l__law_clear_right_0 : MS := sDrop (mExt (mVar 5) (mCons (mM (mNL (mLc (iSrc (mVal (mTup (mCons (mC (.int 0)) (mCons (mC (.int 2)) (mNil)))))) (.name 7) (mTB (m2 (fEqO not) (mVal (mTup (mCons (mVar 6) (mCons (mVar 7) (mNil))))) (mVal (mTup (mCons (mC (.int 0)) (mCons (mC (.int 0)) (mNil))))))) (mTup (mCons (mVar 6) (mCons (mVar 7) (mNil)))) [7]))) (mNil)))
def b__law_clear_right : MS := sSeq (sPar [1, 2] (mCons (mTup (mCons (mC (.int 3)) (mCons (mTup (mCons (mM (m2 fAddO (mVal (mTup (mCons (mC (.int 0)) (mCons (mC (.int 1)) (mNil))))) (m2 fMulO (mVal (mTup (mCons (mC (.int 1)) (mNil)))) (m2 fAddO (mVal (mVar 0)) (mVal (mC (.int 1))))))) (mNil))) (mCons (mM (m2 fMulO (mVal (mTup (mCons (mTup (mNil)) (mNil)))) (m2 fAddO (mVal (mVar 0)) (mVal (mC (.int 2)))))) (mNil))))) (mCons (mM (m2 fAddO (mVal (mVar 0)) (mVal (mC (.int 2))))) (mNil)))) (sSeq (sPar [3, 4] (mCons (mTup (mCons (mTup (mCons (mVar 2) (mCons (mC (.int 1)) (mCons (mC (.bl false)) (mNil))))) (mNil))) (mCons (mTup (mCons (mTup (mCons (mVar 2) (mCons (mC (.int 1)) (mCons (mC (.bl true)) (mNil))))) (mNil))) (mNil)))) (sSeq (sAsg (mM (mNL (mDisp (mNil)))) (.name 5)) (sSeq (sFor (iR1 (mM (m2 fAddO (mVal (mVar 2)) (mVal (mC (.int 1)))))) (.name 6) (l__law_clear_right_0) [6]) (sSeq (sIf (tOrM (mTB (m2 (fEqO not) (mVal (mCall p_begins_of (mCons (mVar 1) (mCons (mVar 3) (mNil))))) (mVal (m1 fTuple (mVal (mVar 5)))))) (mTB (m2 (fEqO not) (mVal (mCall p_called (mCons (mVar 1) (mCons (mVar 3) (mNil))))) (mVal (mTup (mNil)))))) (sRet (mC (.bl false))) (sNext)) (sSeq (sAsg (mM (m2 fAddO (mNL (mDisp (mCons (mTup (mCons (mC (.int 0)) (mCons (mC (.int 0)) (mNil)))) (mNil)))) (mNL (mLc (iR1 (mM (m2 fAddO (mVal (mVar 2)) (mVal (mC (.int 1)))))) (.name 6) (tYesM) (mTup (mCons (mVar 6) (mCons (mC (.int 1)) (mNil)))) [6])))) (.name 5)) (sSeq (sIf (tOrM (mTB (m2 (fEqO not) (mVal (mCall p_begins_of (mCons (mVar 1) (mCons (mVar 4) (mNil))))) (mVal (m1 fTuple (mVal (mVar 5)))))) (mTB (m2 (fEqO not) (mVal (mCall p_called (mCons (mVar 1) (mCons (mVar 4) (mNil))))) (mVal (mTup (mCons (mC (.int 0)) (mNil))))))) (sRet (mC (.bl false))) (sNext)) (sSeq (sIf (tOrM (mTB (m2 (fEqO not) (mVal (mCall p_story_of (mCons (mVar 1) (mCons (mVar 4) (mCons (mTup (mCons (mC (.int 0)) (mCons (mC (.int 0)) (mNil)))) (mNil)))))) (m2 fAddO (mVal (mTup (mCons (mTup (mCons (mC (.int 0)) (mNil))) (mNil)))) (m2 fMulO (mVal (mTup (mCons (mTup (mCons (mC (.int 0)) (mCons (mC (.int 1)) (mNil)))) (mNil)))) (mVal (mVar 2)))))) (mTB (mBin fIsNot (mCall p_story_of (mCons (mVar 1) (mCons (mVar 3) (mCons (mTup (mCons (mC (.int 0)) (mCons (mC (.int 0)) (mNil)))) (mNil))))) (mC .non)))) (sRet (mC (.bl false))) (sNext)) (sRet (m2 (fEqO id) (mVal (mCall p_story_of (mCons (mVar 1) (mCons (mVar 3) (mCons (mTup (mCons (mC (.int 1)) (mCons (mC (.int 0)) (mNil)))) (mNil)))))) (m2 fAddO (mVal (mTup (mCons (mTup (mNil)) (mNil)))) (m2 fMulO (mVal (mTup (mCons (mTup (mCons (mC (.int 0)) (mNil))) (mNil)))) (mVal (mVar 2)))))))))))))
def p__law_clear_right : List D → PHeap → Res D := runFn 1 8 b__law_clear_right
def b__law_vents_right : MS := sSeq (sPar [1, 2] (mCons (mTup (mCons (mC (.int 3)) (mCons (mTup (mCons (mM (m2 fAddO (mVal (mTup (mCons (mC (.int 0)) (mCons (mC (.int 1)) (mNil))))) (m2 fMulO (mVal (mTup (mCons (mC (.int 1)) (mNil)))) (m2 fAddO (mVal (mVar 0)) (mVal (mC (.int 1))))))) (mNil))) (mCons (mM (m2 fAddO (mVal (mTup (mCons (mTup (mCons (mC (.int 0)) (mCons (mC (.int 2)) (mNil)))) (mNil)))) (m2 fMulO (mVal (mTup (mCons (mTup (mNil)) (mNil)))) (m2 fAddO (mVal (mVar 0)) (mVal (mC (.int 1))))))) (mNil))))) (mCons (mM (m2 fAddO (mVal (mVar 0)) (mVal (mC (.int 2))))) (mNil)))) (sSeq (sIf (tOrM (mTB (m2 (fEqO not) (mVal (mCall p_may_have (mCons (mVar 1) (mCons (mTup (mCons (mC (.int 0)) (mCons (mC (.int 2)) (mNil)))) (mNil))))) (mVal (mTup (mCons (mTup (mCons (mC (.int 1)) (mCons (mC .non) (mCons (mC (.int 0)) (mNil))))) (mCons (mTup (mCons (mC .non) (mNil))) (mNil))))))) (mTB (m2 (fEqO not) (mVal (mCall p_must_have (mCons (mVar 1) (mCons (mTup (mCons (mC (.int 0)) (mCons (mC (.int 2)) (mNil)))) (mNil))))) (mVal (mTup (mCons (mTup (mCons (mC .non) (mCons (mC .non) (mCons (mC (.int 0)) (mNil))))) (mCons (mTup (mCons (mC .non) (mNil))) (mNil)))))))) (sRet (mC (.bl false))) (sNext)) (sSeq (sAsg (mTup (mCons (mTup (mCons (mC (.int 1)) (mCons (mC (.int 0)) (mCons (mC (.bl false)) (mNil))))) (mNil))) (.name 3)) (sSeq (sIf (mTB (m2 (fEqO not) (mVal (mCall p_story_of (mCons (mVar 1) (mCons (mVar 3) (mCons (mTup (mCons (mC (.int 0)) (mCons (mC (.int 2)) (mNil)))) (mNil)))))) (m2 fMulO (mVal (mTup (mCons (mTup (mCons (mC (.int 2)) (mNil))) (mNil)))) (m2 fAddO (mVal (mVar 2)) (mVal (mC (.int 1))))))) (sRet (mC (.bl false))) (sNext)) (sSeq (sIf (mTB (m2 (fEqO not) (mVal (mCall p_story_of (mCons (mVar 1) (mCons (mTup (mNil)) (mCons (mTup (mCons (mC (.int 0)) (mCons (mC (.int 2)) (mNil)))) (mNil)))))) (m2 fAddO (mVal (mTup (mCons (mTup (mCons (mC (.int 2)) (mNil))) (mNil)))) (m2 fMulO (mVal (mTup (mCons (mTup (mCons (mC (.int 0)) (mCons (mC (.int 2)) (mNil)))) (mNil)))) (mVal (mVar 2)))))) (sRet (mC (.bl false))) (sNext)) (sSeq (sIf (mTB (mBin fIsNot (mCall p_is_story (mCons (mVar 1) (mCons (mTup (mNil)) (mCons (mTup (mCons (mC (.int 0)) (mCons (mC (.int 2)) (mNil)))) (mCons (mM (m2 fMulO (mVal (mTup (mCons (mTup (mCons (mC (.int 2)) (mNil))) (mNil)))) (m2 fAddO (mVal (mVar 2)) (mVal (mC (.int 1)))))) (mNil)))))) (mC (.bl true)))) (sRet (mC (.bl false))) (sNext)) (sRet (mBin fIs (mCall p_is_story (mCons (mVar 1) (mCons (mTup (mNil)) (mCons (mTup (mCons (mC (.int 0)) (mCons (mC (.int 2)) (mNil)))) (mCons (mM (m2 fAddO (mVal (mTup (mCons (mTup (mCons (mC (.int 2)) (mNil))) (mCons (mTup (mCons (mC (.int 1)) (mCons (mC (.int 2)) (mNil)))) (mNil))))) (m2 fMulO (mVal (mTup (mCons (mTup (mCons (mC (.int 1)) (mCons (mC (.int 2)) (mNil)))) (mNil)))) (mVal (mBin fSub (mVar 2) (mC (.int 1))))))) (mNil)))))) (mC (.bl false)))))))))
def p__law_vents_right : List D → PHeap → Res D := runFn 1 4 b__law_vents_right
def b__law_trays_right : MS := sSeq (sAsg (mTup (mCons (mC (.int 3)) (mCons (mTup (mCons (mTup (mCons (mC (.int 0)) (mCons (mC (.int 1)) (mCons (mC (.int 1)) (mNil))))) (mCons (mTup (mCons (mC (.int 2)) (mCons (mC (.int 1)) (mCons (mC (.int 2)) (mNil))))) (mNil)))) (mCons (mTup (mCons (mTup (mNil)) (mCons (mTup (mNil)) (mNil)))) (mNil))))) (.name 0)) (sSeq (sIf (tOrM (mTB (m2 (fEqO not) (mVal (mCall p_must_have (mCons (mVar 0) (mCons (mTup (mCons (mC (.int 0)) (mCons (mC (.int 0)) (mNil)))) (mNil))))) (mVal (mTup (mCons (mTup (mCons (mC (.int 0)) (mCons (mC (.int 1)) (mCons (mC (.int 2)) (mNil))))) (mCons (mTup (mCons (mC (.int 0)) (mCons (mC (.int 1)) (mNil)))) (mNil))))))) (mTB (m2 (fEqO not) (mVal (mCall p_may_have (mCons (mVar 0) (mCons (mTup (mCons (mC (.int 0)) (mCons (mC (.int 0)) (mNil)))) (mNil))))) (mVal (mTup (mCons (mTup (mCons (mC (.int 0)) (mCons (mC (.int 1)) (mCons (mC (.int 2)) (mNil))))) (mCons (mTup (mCons (mC (.int 0)) (mCons (mC (.int 1)) (mNil)))) (mNil)))))))) (sRet (mC (.bl false))) (sNext)) (sSeq (sIf (tOrM (mTB (m2 (fEqO not) (mVal (mCall p_begins_of (mCons (mVar 0) (mCons (mTup (mCons (mTup (mCons (mC (.int 2)) (mCons (mC (.int 2)) (mCons (mC (.bl false)) (mNil))))) (mNil))) (mNil))))) (mVal (mTup (mCons (mTup (mCons (mC (.int 1)) (mCons (mC (.int 0)) (mNil)))) (mCons (mTup (mCons (mC (.int 2)) (mCons (mC (.int 0)) (mNil)))) (mCons (mTup (mCons (mC (.int 2)) (mCons (mC (.int 1)) (mNil)))) (mNil)))))))) (mTB (m2 (fEqO not) (mVal (mCall p_called (mCons (mVar 0) (mCons (mTup (mCons (mTup (mCons (mC (.int 2)) (mCons (mC (.int 0)) (mCons (mC (.bl false)) (mNil))))) (mNil))) (mNil))))) (mVal (mTup (mCons (mC (.int 0)) (mCons (mC (.int 1)) (mNil)))))))) (sRet (mC (.bl false))) (sNext)) (sSeq (sIf (mTB (mBin fIsNot (mCall p_story_of (mCons (mVar 0) (mCons (mTup (mCons (mTup (mCons (mC (.int 2)) (mCons (mC (.int 2)) (mCons (mC (.bl true)) (mNil))))) (mCons (mTup (mCons (mC (.int 1)) (mCons (mC (.int 1)) (mCons (mC (.bl false)) (mNil))))) (mNil)))) (mCons (mTup (mCons (mC (.int 0)) (mCons (mC (.int 1)) (mNil)))) (mNil))))) (mC .non))) (sRet (mC (.bl false))) (sNext)) (sRet (m2 (fEqO id) (mVal (mCall p_story_of (mCons (mVar 0) (mCons (mTup (mCons (mTup (mCons (mC (.int 2)) (mCons (mC (.int 2)) (mCons (mC (.bl true)) (mNil))))) (mCons (mTup (mCons (mC (.int 1)) (mCons (mC (.int 2)) (mCons (mC (.bl false)) (mNil))))) (mNil)))) (mCons (mTup (mCons (mC (.int 0)) (mCons (mC (.int 1)) (mNil)))) (mNil)))))) (mVal (mTup (mCons (mTup (mCons (mC (.int 1)) (mNil))) (mCons (mTup (mCons (mC (.int 1)) (mNil))) (mCons (mTup (mCons (mC (.int 1)) (mCons (mC (.int 2)) (mNil)))) (mNil)))))))))))
@[irreducible] def p__law_trays_right : List D → PHeap → Res D := runFn 0 1 b__law_trays_right
def b_law : MS := sSeq (sAsg (mCall p__law_pen_of (mCons (mCall p__law_cell_at (mCons (mVar 0) (mCons (mC (.int 0)) (mNil)))) (mNil))) (.name 1)) (sSeq (sAsg (mCall p__law_draw (mCons (mVar 1) (mCons (mC (.int 6)) (mNil)))) (.name 2)) (sRet (mAnd (mCall p__law_clear_right (mCons (mVar 2) (mNil))) (mAnd (mCall p__law_vents_right (mCons (mVar 2) (mNil))) (mCall p__law_trays_right mNil)))))
def p_law : List D → PHeap → Res D := runFn 1 3 b_law
def top (i : Nat) : Stmt := PySem.Challenge.pw_glassbays_k45_forbidden_back_through_tra.main.body.getD i (.Pass ⟨0, 0, 0, 0⟩)
abbrev t_is_whole : Stmt := top 6
abbrev t_hours_of : Stmt := top 18
abbrev t_bays_brought : Stmt := top 23
abbrev t_bays_blown : Stmt := top 24
abbrev t__law_cell_at : Stmt := top 38
abbrev t__law_next : Stmt := top 39
abbrev t__law_pen_of : Stmt := top 40
abbrev t_is_among : Stmt := top 7
abbrev t_grown_from : Stmt := top 25
abbrev t_first_hours : Stmt := top 26
abbrev t_barred_by : Stmt := top 29
abbrev t_goes_on : Stmt := top 34
abbrev t__law_draw : Stmt := top 41
abbrev t_are_bays : Stmt := top 14
abbrev t_is_way : Stmt := top 15
abbrev t_is_begin : Stmt := top 19
abbrev t_story_by : Stmt := top 30
abbrev t_is_yard : Stmt := top 16
abbrev t_need_begin : Stmt := top 20
abbrev t_is_find : Stmt := top 21
abbrev t_begins_by : Stmt := top 31
abbrev t_need_yard : Stmt := top 17
abbrev t_need_finds : Stmt := top 22
abbrev t_may_have : Stmt := top 27
abbrev t_must_have : Stmt := top 28
abbrev t_begins_of : Stmt := top 32
abbrev t_story_of : Stmt := top 33
abbrev t_is_story : Stmt := top 35
abbrev t_called : Stmt := top 36
abbrev t__law_clear_right : Stmt := top 42
abbrev t__law_vents_right : Stmt := top 43
abbrev t__law_trays_right : Stmt := top 44
abbrev t_law : Stmt := top 45
/-- what the top has made -/
structure Top (K : PySem.W.Frag) (mg : Str → Option Value) : Prop where
  b_all : mg "all" = none
  b_any : mg "any" = none
  b_bool : mg "bool" = none
  b_enumerate : mg "enumerate" = none
  b_int : mg "int" = none
  b_isinstance : mg "isinstance" = none
  b_len : mg "len" = none
  b_list : mg "list" = none
  b_max : mg "max" = none
  b_min : mg "min" = none
  b_range : mg "range" = none
  b_set : mg "set" = none
  b_sorted : mg "sorted" = none
  b_tuple : mg "tuple" = none
  b_zip : mg "zip" = none
  c_LEAST_BAYS : ∃ u, mg "LEAST_BAYS" = some u ∧ RelV (V.int (2)) u
  c_MOST_BAYS : ∃ u, mg "MOST_BAYS" = some u ∧ RelV (V.int (6)) u
  c_MOST_FINDS : ∃ u, mg "MOST_FINDS" = some u ∧ RelV (V.int (6)) u
  c_MOST_VENTS : ∃ u, mg "MOST_VENTS" = some u ∧ RelV (V.int (7)) u
  c_MOST_WAYS : ∃ u, mg "MOST_WAYS" = some u ∧ RelV (V.int (5)) u
  d_is_whole : ∃ f fd, Fun K "is_whole" "is_whole" t_is_whole f fd ∧ mg "is_whole" = some (.ref f)
  d_hours_of : ∃ f fd, Fun K "hours_of" "hours_of" t_hours_of f fd ∧ mg "hours_of" = some (.ref f)
  d_bays_brought : ∃ f fd, Fun K "bays_brought" "bays_brought" t_bays_brought f fd ∧ mg "bays_brought" = some (.ref f)
  d_bays_blown : ∃ f fd, Fun K "bays_blown" "bays_blown" t_bays_blown f fd ∧ mg "bays_blown" = some (.ref f)
  d__law_cell_at : ∃ f fd, Fun K "_law_cell_at" "_law_cell_at" t__law_cell_at f fd ∧ mg "_law_cell_at" = some (.ref f)
  d__law_next : ∃ f fd, Fun K "_law_next" "_law_next" t__law_next f fd ∧ mg "_law_next" = some (.ref f)
  d__law_pen_of : ∃ f fd, Fun K "_law_pen_of" "_law_pen_of" t__law_pen_of f fd ∧ mg "_law_pen_of" = some (.ref f)
  d_is_among : ∃ f fd, Fun K "is_among" "is_among" t_is_among f fd ∧ mg "is_among" = some (.ref f)
  d_grown_from : ∃ f fd, Fun K "grown_from" "grown_from" t_grown_from f fd ∧ mg "grown_from" = some (.ref f)
  d_first_hours : ∃ f fd, Fun K "first_hours" "first_hours" t_first_hours f fd ∧ mg "first_hours" = some (.ref f)
  d_barred_by : ∃ f fd, Fun K "barred_by" "barred_by" t_barred_by f fd ∧ mg "barred_by" = some (.ref f)
  d_goes_on : ∃ f fd, Fun K "goes_on" "goes_on" t_goes_on f fd ∧ mg "goes_on" = some (.ref f)
  d__law_draw : ∃ f fd, Fun K "_law_draw" "_law_draw" t__law_draw f fd ∧ mg "_law_draw" = some (.ref f)
  d_are_bays : ∃ f fd, Fun K "are_bays" "are_bays" t_are_bays f fd ∧ mg "are_bays" = some (.ref f)
  d_is_way : ∃ f fd, Fun K "is_way" "is_way" t_is_way f fd ∧ mg "is_way" = some (.ref f)
  d_is_begin : ∃ f fd, Fun K "is_begin" "is_begin" t_is_begin f fd ∧ mg "is_begin" = some (.ref f)
  d_story_by : ∃ f fd, Fun K "story_by" "story_by" t_story_by f fd ∧ mg "story_by" = some (.ref f)
  d_is_yard : ∃ f fd, Fun K "is_yard" "is_yard" t_is_yard f fd ∧ mg "is_yard" = some (.ref f)
  d_need_begin : ∃ f fd, Fun K "need_begin" "need_begin" t_need_begin f fd ∧ mg "need_begin" = some (.ref f)
  d_is_find : ∃ f fd, Fun K "is_find" "is_find" t_is_find f fd ∧ mg "is_find" = some (.ref f)
  d_begins_by : ∃ f fd, Fun K "begins_by" "begins_by" t_begins_by f fd ∧ mg "begins_by" = some (.ref f)
  d_need_yard : ∃ f fd, Fun K "need_yard" "need_yard" t_need_yard f fd ∧ mg "need_yard" = some (.ref f)
  d_need_finds : ∃ f fd, Fun K "need_finds" "need_finds" t_need_finds f fd ∧ mg "need_finds" = some (.ref f)
  d_may_have : ∃ f fd, Fun K "may_have" "may_have" t_may_have f fd ∧ mg "may_have" = some (.ref f)
  d_must_have : ∃ f fd, Fun K "must_have" "must_have" t_must_have f fd ∧ mg "must_have" = some (.ref f)
  d_begins_of : ∃ f fd, Fun K "begins_of" "begins_of" t_begins_of f fd ∧ mg "begins_of" = some (.ref f)
  d_story_of : ∃ f fd, Fun K "story_of" "story_of" t_story_of f fd ∧ mg "story_of" = some (.ref f)
  d_is_story : ∃ f fd, Fun K "is_story" "is_story" t_is_story f fd ∧ mg "is_story" = some (.ref f)
  d_called : ∃ f fd, Fun K "called" "called" t_called f fd ∧ mg "called" = some (.ref f)
  d__law_clear_right : ∃ f fd, Fun K "_law_clear_right" "_law_clear_right" t__law_clear_right f fd ∧ mg "_law_clear_right" = some (.ref f)
  d__law_vents_right : ∃ f fd, Fun K "_law_vents_right" "_law_vents_right" t__law_vents_right f fd ∧ mg "_law_vents_right" = some (.ref f)
  d__law_trays_right : ∃ f fd, Fun K "_law_trays_right" "_law_trays_right" t__law_trays_right f fd ∧ mg "_law_trays_right" = some (.ref f)
  d_law : ∃ f fd, Fun K "law" "law" t_law f fd ∧ mg "law" = some (.ref f)
section
variable {P : Program} {w : World} {K : PySem.W.Frag} {mg : Str → Option Value} {base : Heap} {cl : Nat → Addr} {f : Addr} {fd : FuncData}
theorem sc_is_whole : FnScope ["thing"] ["thing"] (defScope t_is_whole) := ⟨rfl, rfl, rfl, by decide +kernel, rfl, by decide +kernel, by decide +kernel⟩
theorem bind_is_whole (F : Fun K "is_whole" "is_whole" t_is_whole f fd) : Binds K fd ["thing"] [] := F.binds (ps := ["thing"]) fun _ _ _ _ _ _ us hl => match us, hl with | [_], _ => rfl
theorem ok_is_whole (T : Top K mg) (F : Fun K "is_whole" "is_whole" t_is_whole f fd) : FnG P w K mg base 1 f fd ["thing"] (spOf K cl p_is_whole) := by
  refine fng_ok (np := 1) (ns := 1) F sc_is_whole rfl rfl (fun cdv A outer s H E hr hgd tk => ?_)
  have hu := hu65 hr
  exact (ss_one (ss_ret (sd_and (sd_isi (t := .int) (so_val (sd_var 0)) T.b_isinstance T.b_int (by decide +kernel)) (sd_one (sd_not (sd_isi (t := .bl) (so_val (sd_var 0)) T.b_isinstance T.b_bool (by decide +kernel)))))))
theorem sc_hours_of : FnScope ["yard"] ["yard"] (defScope t_hours_of) := ⟨rfl, rfl, rfl, by decide +kernel, rfl, by decide +kernel, by decide +kernel⟩
theorem bind_hours_of (F : Fun K "hours_of" "hours_of" t_hours_of f fd) : Binds K fd ["yard"] [] := F.binds (ps := ["yard"]) fun _ _ _ _ _ _ us hl => match us, hl with | [_], _ => rfl
theorem ok_hours_of (T : Top K mg) (F : Fun K "hours_of" "hours_of" t_hours_of f fd) : FnG P w K mg base 1 f fd ["yard"] (spOf K cl p_hours_of) := by
  refine fng_ok (np := 1) (ns := 1) F sc_hours_of rfl rfl (fun cdv A outer s H E hr hgd tk => ?_)
  have hu := hu65 hr
  exact (ss_one (ss_ret (sd_mat (so_add (so_val (sd_len (so_val (sd_ix (so_val (sd_var 0)) (so_val sd_int) (by intro _ _; rfl))) T.b_len)) (so_val sd_int)))))
theorem sc_bays_brought : FnScope ["yard", "hour", "bays_by", "found", "way", "ahead", "bays"] ["yard", "hour", "bays_by"] (defScope t_bays_brought) := ⟨rfl, rfl, rfl, by decide +kernel, rfl, by decide +kernel, by decide +kernel⟩
theorem bind_bays_brought (F : Fun K "bays_brought" "bays_brought" t_bays_brought f fd) : Binds K fd ["yard", "hour", "bays_by"] [] := F.binds (ps := ["yard", "hour", "bays_by"]) fun _ _ _ _ _ _ us hl => match us, hl with | [_, _, _], _ => rfl
theorem ok_bays_brought (T : Top K mg) (F : Fun K "bays_brought" "bays_brought" t_bays_brought f fd) : FnG P w K mg base 1 f fd ["yard", "hour", "bays_by"] (spOf K cl p_bays_brought) := by
  refine fng_ok (np := 3) (ns := 7) F sc_bays_brought rfl rfl (fun cdv A outer s H E hr hgd tk => ?_)
  have hu := hu65 hr
  exact (ss_cons (ss_set 3 (sd_mat (so_new (sn_lst sa_nil))) sc_bays_brought.nd)
    (ss_cons (ss_for (passes_of rfl) rfl (si_src (so_val (sd_ix (so_val (sd_var 0)) (so_val sd_int) (by intro _ _; rfl)))) (sg_name 4 sc_bays_brought.nd) (ss_one (ss_if (st_truth (sd_any (so_new (sn_lc (own := [("ahead", 5), ("bays", 6)]) rfl sc_bays_brought.nd (si_enu T.b_enumerate (so_val (sd_var 2))) (show BlkOk ["yard", "hour", "bays_by", "found", "way", "ahead", "bays"] (defScope t_bays_brought) _ [("ahead", 5), ("bays", 6)] from ⟨rfl, by decide +kernel, by decide +kernel, by decide +kernel, by decide +kernel⟩) (fun _ _ _ _ _ => (sg_tup rfl (sgs_cons (sg_name 5 sc_bays_brought.nd) (sgs_cons (sg_name 6 sc_bays_brought.nd) sgs_nil)))) (fun _ _ _ _ _ => st_yes) (fun _ _ _ _ _ => (sd_in hu (so_val (sd_ix (so_val (sd_var 4)) (so_val (sd_var 5)) (by intro _ _; rfl))) (so_val (sd_var 6)))))) T.b_any)) (ss_one (ss_drop (sd_append (sd_var 3) (sa_cons (sd_ix (so_val (sd_var 4)) (so_val (sd_var 1)) (by intro _ _; rfl)) sa_nil)))) ss_nil)))
    (ss_one (ss_ret (sd_var 3)))))
theorem sc_bays_blown : FnScope ["yard", "hour", "bays", "some", "bay"] ["yard", "hour", "bays"] (defScope t_bays_blown) := ⟨rfl, rfl, rfl, by decide +kernel, rfl, by decide +kernel, by decide +kernel⟩
theorem bind_bays_blown (F : Fun K "bays_blown" "bays_blown" t_bays_blown f fd) : Binds K fd ["yard", "hour", "bays"] [] := F.binds (ps := ["yard", "hour", "bays"]) fun _ _ _ _ _ _ us hl => match us, hl with | [_, _, _], _ => rfl
theorem ok_bays_blown (T : Top K mg) (F : Fun K "bays_blown" "bays_blown" t_bays_blown f fd) : FnG P w K mg base 1 f fd ["yard", "hour", "bays"] (spOf K cl p_bays_blown) := by
  refine fng_ok (np := 3) (ns := 5) F sc_bays_blown rfl rfl (fun cdv A outer s H E hr hgd tk => ?_)
  have hu := hu65 hr
  exact (ss_cons (ss_set 3 (sd_ix (so_val (sd_ix (so_val (sd_var 0)) (so_val sd_int) (by intro _ _; rfl))) (so_val (sd_var 1)) (by intro _ _; rfl)) sc_bays_blown.nd)
    (ss_one (ss_ret (sd_ifExp (st_truth (sd_any (so_new (sn_lc (own := [("bay", 4)]) rfl sc_bays_blown.nd (si_src (so_val (sd_var 2))) (show BlkOk ["yard", "hour", "bays", "some", "bay"] (defScope t_bays_blown) _ [("bay", 4)] from ⟨rfl, by decide +kernel, by decide +kernel, by decide +kernel, by decide +kernel⟩) (fun _ _ _ _ _ => (sg_name 4 sc_bays_blown.nd)) (fun _ _ _ _ _ => st_yes) (fun _ _ _ _ _ => (sd_in hu (so_val (sd_var 4)) (so_val (sd_var 3)))))) T.b_any)) (sd_mat (so_new (sn_list (so_val (sd_var 3)) T.b_list))) (sd_mat (so_new (sn_lst sa_nil)))))))
theorem sc__law_cell_at : FnScope ["_law_script", "_law_k"] ["_law_script", "_law_k"] (defScope t__law_cell_at) := ⟨rfl, rfl, rfl, by decide +kernel, rfl, by decide +kernel, by decide +kernel⟩
theorem bind__law_cell_at (F : Fun K "_law_cell_at" "_law_cell_at" t__law_cell_at f fd) : Binds K fd ["_law_script", "_law_k"] [] := F.binds (ps := ["_law_script", "_law_k"]) fun _ _ _ _ _ _ us hl => match us, hl with | [_, _], _ => rfl
theorem ok__law_cell_at (T : Top K mg) (F : Fun K "_law_cell_at" "_law_cell_at" t__law_cell_at f fd) : FnG P w K mg base 1 f fd ["_law_script", "_law_k"] (spOf K cl p__law_cell_at) := by
  refine fng_ok (np := 2) (ns := 2) F sc__law_cell_at rfl rfl (fun cdv A outer s H E hr hgd tk => ?_)
  have hu := hu65 hr
  exact (ss_cons (ss_if (st_lt (sd_var 1) (sd_len (so_val (sd_var 0)) T.b_len)) (ss_one (ss_ret (sd_ix (so_val (sd_var 0)) (so_val (sd_var 1)) (by intro _ _; rfl)))) ss_nil)
    (ss_one (ss_ret sd_int)))
theorem sc__law_next : FnScope ["_law_one"] ["_law_one"] (defScope t__law_next) := ⟨rfl, rfl, rfl, by decide +kernel, rfl, by decide +kernel, by decide +kernel⟩
theorem bind__law_next (F : Fun K "_law_next" "_law_next" t__law_next f fd) : Binds K fd ["_law_one"] [] := F.binds (ps := ["_law_one"]) fun _ _ _ _ _ _ us hl => match us, hl with | [_], _ => rfl
theorem ok__law_next (T : Top K mg) (F : Fun K "_law_next" "_law_next" t__law_next f fd) : FnG P w K mg base 1 f fd ["_law_one"] (spOf K cl p__law_next) := by
  refine fng_ok (np := 1) (ns := 1) F sc__law_next rfl rfl (fun cdv A outer s H E hr hgd tk => ?_)
  have hu := hu65 hr
  exact (ss_cons (ss_set 0 (sd_mod (sd_mat (so_add (so_val (sd_var 0)) (so_val sd_int))) sd_int) sc__law_next.nd)
    (ss_one (ss_ret (sd_mod (sd_mat (so_add (so_add (so_mul (so_val (sd_var 0)) (so_val (sd_var 0))) (so_mul (so_val sd_int) (so_val (sd_var 0)))) (so_val sd_int))) sd_int))))
theorem sc__law_pen_of : FnScope ["_law_cell", "_law_left"] ["_law_cell"] (defScope t__law_pen_of) := ⟨rfl, rfl, rfl, by decide +kernel, rfl, by decide +kernel, by decide +kernel⟩
theorem bind__law_pen_of (F : Fun K "_law_pen_of" "_law_pen_of" t__law_pen_of f fd) : Binds K fd ["_law_cell"] [] := F.binds (ps := ["_law_cell"]) fun _ _ _ _ _ _ us hl => match us, hl with | [_], _ => rfl
theorem ok__law_pen_of (T : Top K mg) (F : Fun K "_law_pen_of" "_law_pen_of" t__law_pen_of f fd) : FnG P w K mg base 1 f fd ["_law_cell"] (spOf K cl p__law_pen_of) := by
  refine fng_ok (np := 1) (ns := 2) F sc__law_pen_of rfl rfl (fun cdv A outer s H E hr hgd tk => ?_)
  have hu := hu65 hr
  exact (ss_cons (ss_set 1 (sd_max2 (so_val (sd_var 0)) (so_val (sd_sub sd_int (sd_var 0))) T.b_max) sc__law_pen_of.nd)
    (ss_one (ss_ret (sd_mat (so_new (sn_lst (sa_cons (sd_var 1) (sa_cons (sd_intc (so_val (sd_ge (sd_var 1) (sd_pow sd_int sd_int))) T.b_int) (sa_cons (sd_mod (sd_var 1) sd_int) sa_nil)))))))))
theorem sc_is_among : FnScope ["thing", "low", "high"] ["thing", "low", "high"] (defScope t_is_among) := ⟨rfl, rfl, rfl, by decide +kernel, rfl, by decide +kernel, by decide +kernel⟩
theorem bind_is_among (F : Fun K "is_among" "is_among" t_is_among f fd) : Binds K fd ["thing", "low", "high"] [] := F.binds (ps := ["thing", "low", "high"]) fun _ _ _ _ _ _ us hl => match us, hl with | [_, _, _], _ => rfl
theorem ok_is_among (T : Top K mg) (F : Fun K "is_among" "is_among" t_is_among f fd) : FnG P w K mg base 2 f fd ["thing", "low", "high"] (spOf K cl p_is_among) := by
  obtain ⟨f_is_whole, fd_is_whole, F_is_whole, g_is_whole⟩ := T.d_is_whole
  have h_is_whole := (ok_is_whole (P := P) (w := w) (base := base) (cl := cl) T F_is_whole).mono (show 1 ≤ 1 by omega)
  refine fng_ok (np := 3) (ns := 3) F sc_is_among rfl rfl (fun cdv A outer s H E hr hgd tk => ?_)
  have hu := hu65 hr
  exact (ss_one (ss_ret (sd_and (sd_callG h_is_whole hr hgd g_is_whole F_is_whole.kp (bind_is_whole F_is_whole) tk (sa_cons (sd_var 0) sa_nil)) (sd_one (sd_lele (sd_var 1) (sd_var 0) (sd_var 2))))))
theorem sc_grown_from : FnScope ["yard", "begin", "barred", "hour", "bay", "found", "later", "blown", "one"] ["yard", "begin", "barred"] (defScope t_grown_from) := ⟨rfl, rfl, rfl, by decide +kernel, rfl, by decide +kernel, by decide +kernel⟩
theorem bind_grown_from (F : Fun K "grown_from" "grown_from" t_grown_from f fd) : Binds K fd ["yard", "begin", "barred"] [] := F.binds (ps := ["yard", "begin", "barred"]) fun _ _ _ _ _ _ us hl => match us, hl with | [_, _, _], _ => rfl
theorem ok_grown_from (T : Top K mg) (F : Fun K "grown_from" "grown_from" t_grown_from f fd) : FnG P w K mg base 2 f fd ["yard", "begin", "barred"] (spOf K cl p_grown_from) := by
  obtain ⟨f_hours_of, fd_hours_of, F_hours_of, g_hours_of⟩ := T.d_hours_of
  have h_hours_of := (ok_hours_of (P := P) (w := w) (base := base) (cl := cl) T F_hours_of).mono (show 1 ≤ 1 by omega)
  obtain ⟨f_bays_blown, fd_bays_blown, F_bays_blown, g_bays_blown⟩ := T.d_bays_blown
  have h_bays_blown := (ok_bays_blown (P := P) (w := w) (base := base) (cl := cl) T F_bays_blown).mono (show 1 ≤ 1 by omega)
  obtain ⟨f_bays_brought, fd_bays_brought, F_bays_brought, g_bays_brought⟩ := T.d_bays_brought
  have h_bays_brought := (ok_bays_brought (P := P) (w := w) (base := base) (cl := cl) T F_bays_brought).mono (show 1 ≤ 1 by omega)
  refine fng_ok (np := 3) (ns := 9) F sc_grown_from rfl rfl (fun cdv A outer s H E hr hgd tk => ?_)
  have hu := hu65 hr
  exact (ss_cons (ss_asg (sd_var 1) (sg_tup rfl (sgs_cons (sg_name 3 sc_grown_from.nd) (sgs_cons (sg_name 4 sc_grown_from.nd) sgs_nil))))
    (ss_cons (ss_set 5 (sd_mat (so_add (so_mul (so_new (sn_lst (sa_cons (sd_tup sa_nil) sa_nil))) (so_val (sd_var 3))) (so_new (sn_lst (sa_cons (sd_tup (sa_cons (sd_var 4) sa_nil)) sa_nil))))) sc_grown_from.nd)
    (ss_cons (ss_for (passes_of rfl) rfl (si_rng2 T.b_range (sd_mat (so_add (so_val (sd_var 3)) (so_val sd_int))) (sd_callG h_hours_of hr hgd g_hours_of F_hours_of.kp (bind_hours_of F_hours_of) tk (sa_cons (sd_var 0) sa_nil))) (sg_name 6 sc_grown_from.nd) (ss_cons (ss_set 7 (sd_ifExp (st_isnot (sd_var 2) sd_non) (sd_callG h_bays_blown hr hgd g_bays_blown F_bays_blown.kp (bind_bays_blown F_bays_blown) tk (sa_cons (sd_var 0) (sa_cons (sd_sub (sd_var 6) sd_int) (sa_cons (sd_ix (so_val (sd_var 5)) (so_val (sd_neg sd_int)) (by intro _ _; rfl)) sa_nil)))) (sd_mat (so_new (sn_lst sa_nil)))) sc_grown_from.nd)
    (ss_cons (ss_setLc 7 (own := [("one", 8)]) rfl sc_grown_from.nd (si_src (so_val (sd_var 7))) (show BlkOk ["yard", "begin", "barred", "hour", "bay", "found", "later", "blown", "one"] (defScope t_grown_from) _ [("one", 8)] from ⟨rfl, by decide +kernel, by decide +kernel, by decide +kernel, by decide +kernel⟩) (fun _ _ _ _ _ => (sg_name 8 sc_grown_from.nd)) (fun _ _ _ _ _ => (st_oneT (st_notin hu (so_val (sd_var 8)) (so_val (sd_ix (so_val (sd_var 2)) (so_val (sd_var 6)) (by intro _ _; rfl)))))) (fun _ _ _ _ _ => (sd_var 8)))
    (ss_one (ss_drop (sd_append (sd_var 5) (sa_cons (sd_tuple (so_new (sn_sortSet hu (so_add (so_add (so_new (sn_list (so_val (sd_ix (so_val (sd_var 5)) (so_val (sd_neg sd_int)) (by intro _ _; rfl))) T.b_list)) (so_val (sd_callG h_bays_brought hr hgd g_bays_brought F_bays_brought.kp (bind_bays_brought F_bays_brought) tk (sa_cons (sd_var 0) (sa_cons (sd_var 6) (sa_cons (sd_var 5) sa_nil)))))) (so_val (sd_var 7))) T.b_sorted T.b_set)) T.b_tuple) sa_nil)))))))
    (ss_one (ss_ret (sd_tuple (so_val (sd_var 5)) T.b_tuple))))))
theorem sc_first_hours : FnScope ["yard", "story", "hours", "bays", "trays", "bay", "hour", "way"] ["yard", "story"] (defScope t_first_hours) := ⟨rfl, rfl, rfl, by decide +kernel, rfl, by decide +kernel, by decide +kernel⟩
theorem bind_first_hours (F : Fun K "first_hours" "first_hours" t_first_hours f fd) : Binds K fd ["yard", "story"] [] := F.binds (ps := ["yard", "story"]) fun _ _ _ _ _ _ us hl => match us, hl with | [_, _], _ => rfl
theorem ok_first_hours (T : Top K mg) (F : Fun K "first_hours" "first_hours" t_first_hours f fd) : FnG P w K mg base 2 f fd ["yard", "story"] (spOf K cl p_first_hours) := by
  obtain ⟨f_hours_of, fd_hours_of, F_hours_of, g_hours_of⟩ := T.d_hours_of
  have h_hours_of := (ok_hours_of (P := P) (w := w) (base := base) (cl := cl) T F_hours_of).mono (show 1 ≤ 1 by omega)
  refine fng_ok (np := 2) (ns := 8) F sc_first_hours rfl rfl (fun cdv A outer s H E hr hgd tk => ?_)
  have hu := hu65 hr
  exact (ss_cons (ss_set 2 (sd_mat (so_new (sn_rgL1 (sd_callG h_hours_of hr hgd g_hours_of F_hours_of.kp (bind_hours_of F_hours_of) tk (sa_cons (sd_var 0) sa_nil)) T.b_list T.b_range))) sc_first_hours.nd)
    (ss_cons (ss_setLc 3 (own := [("bay", 5)]) rfl sc_first_hours.nd (si_rng1 T.b_range (sd_ix (so_val (sd_var 0)) (so_val sd_int) (by intro _ _; rfl))) (show BlkOk ["yard", "story", "hours", "bays", "trays", "bay", "hour", "way"] (defScope t_first_hours) _ [("bay", 5)] from ⟨rfl, by decide +kernel, by decide +kernel, by decide +kernel, by decide +kernel⟩) (fun _ _ _ _ _ => (sg_name 5 sc_first_hours.nd)) (fun _ _ _ _ _ => st_yes) (fun _ _ _ _ _ => (sd_minN hu (so_new (sn_lc (own := [("hour", 6)]) rfl sc_first_hours.nd (si_src (so_val (sd_var 2))) (blk_in (N := ["yard", "story", "hours", "bays", "trays", "bay", "hour", "way"]) (sc := defScope t_first_hours) (own := [("hour", 6)]) rfl rfl (by decide +kernel) (by decide +kernel) (by decide +kernel) (by decide +kernel)) (fun _ _ _ _ _ => (sg_name 6 sc_first_hours.nd)) (fun _ _ _ _ _ => (st_oneT (st_in hu (so_val (sd_var 5)) (so_val (sd_ix (so_val (sd_var 1)) (so_val (sd_var 6)) (by intro _ _; rfl)))))) (fun _ _ _ _ _ => (sd_var 6)))) T.b_min)))
    (ss_cons (ss_setLc 4 (own := [("way", 7)]) rfl sc_first_hours.nd (si_src (so_val (sd_ix (so_val (sd_var 0)) (so_val sd_int) (by intro _ _; rfl)))) (show BlkOk ["yard", "story", "hours", "bays", "trays", "bay", "hour", "way"] (defScope t_first_hours) _ [("way", 7)] from ⟨rfl, by decide +kernel, by decide +kernel, by decide +kernel, by decide +kernel⟩) (fun _ _ _ _ _ => (sg_name 7 sc_first_hours.nd)) (fun _ _ _ _ _ => st_yes) (fun _ _ _ _ _ => (sd_minN hu (so_new (sn_lc (own := [("hour", 6)]) rfl sc_first_hours.nd (si_src (so_val (sd_var 2))) (blk_in (N := ["yard", "story", "hours", "bays", "trays", "bay", "hour", "way"]) (sc := defScope t_first_hours) (own := [("hour", 6)]) rfl rfl (by decide +kernel) (by decide +kernel) (by decide +kernel) (by decide +kernel)) (fun _ _ _ _ _ => (sg_name 6 sc_first_hours.nd)) (fun _ _ _ _ _ => (st_oneT (st_in hu (so_val (sd_ix (so_val (sd_var 7)) (so_val (sd_var 6)) (by intro _ _; rfl))) (so_val (sd_ix (so_val (sd_var 1)) (so_val (sd_var 6)) (by intro _ _; rfl)))))) (fun _ _ _ _ _ => (sd_var 6)))) T.b_min)))
    (ss_one (ss_ret (sd_tup (sa_cons (sd_tuple (so_val (sd_var 3)) T.b_tuple) (sa_cons (sd_tuple (so_val (sd_var 4)) T.b_tuple) sa_nil))))))))
theorem sc_barred_by : FnScope ["yard", "finds", "later", "hour", "found", "way", "at", "bay", "is_there", "bays"] ["yard", "finds"] (defScope t_barred_by) := ⟨rfl, rfl, rfl, by decide +kernel, rfl, by decide +kernel, by decide +kernel⟩
theorem bind_barred_by (F : Fun K "barred_by" "barred_by" t_barred_by f fd) : Binds K fd ["yard", "finds"] [] := F.binds (ps := ["yard", "finds"]) fun _ _ _ _ _ _ us hl => match us, hl with | [_, _], _ => rfl
theorem ok_barred_by (T : Top K mg) (F : Fun K "barred_by" "barred_by" t_barred_by f fd) : FnG P w K mg base 2 f fd ["yard", "finds"] (spOf K cl p_barred_by) := by
  obtain ⟨f_hours_of, fd_hours_of, F_hours_of, g_hours_of⟩ := T.d_hours_of
  have h_hours_of := (ok_hours_of (P := P) (w := w) (base := base) (cl := cl) T F_hours_of).mono (show 1 ≤ 1 by omega)
  refine fng_ok (np := 2) (ns := 10) F sc_barred_by rfl rfl (fun cdv A outer s H E hr hgd tk => ?_)
  have hu := hu65 hr
  exact (ss_cons (ss_set 2 (sd_mat (so_new (sn_lst sa_nil))) sc_barred_by.nd)
    (ss_cons (ss_for (passes_of rfl) rfl (si_rng3 T.b_range (sd_sub (sd_callG h_hours_of hr hgd g_hours_of F_hours_of.kp (bind_hours_of F_hours_of) tk (sa_cons (sd_var 0) sa_nil)) sd_int) (sd_neg sd_int) (sd_neg sd_int)) (sg_name 3 sc_barred_by.nd) (ss_cons (ss_setLc 4 (own := [("at", 6), ("bay", 7), ("is_there", 8)]) rfl sc_barred_by.nd (si_src (so_val (sd_var 1))) (show BlkOk ["yard", "finds", "later", "hour", "found", "way", "at", "bay", "is_there", "bays"] (defScope t_barred_by) _ [("at", 6), ("bay", 7), ("is_there", 8)] from ⟨rfl, by decide +kernel, by decide +kernel, by decide +kernel, by decide +kernel⟩) (fun _ _ _ _ _ => (sg_tup rfl (sgs_cons (sg_name 6 sc_barred_by.nd) (sgs_cons (sg_name 7 sc_barred_by.nd) (sgs_cons (sg_name 8 sc_barred_by.nd) sgs_nil))))) (fun _ _ _ _ _ => (st_oneT (st_of (sw_and (st_eq hu (so_val (sd_var 6)) (so_val (sd_var 3))) (sw_and1 (st_not (st_truth (sd_var 8)))))))) (fun _ _ _ _ _ => (sd_var 7)))
    (ss_cons (ss_if (st_neN hu (so_val (sd_var 2)) (so_new (sn_lst sa_nil))) (ss_one (ss_set 4 (sd_mat (so_add (so_val (sd_var 4)) (so_val (sd_ix (so_val (sd_var 2)) (so_val sd_int) (by intro _ _; rfl))))) sc_barred_by.nd)) ss_nil)
    (ss_cons (ss_for (passes_of rfl) rfl (si_src (so_val (sd_ix (so_val (sd_var 0)) (so_val sd_int) (by intro _ _; rfl)))) (sg_name 5 sc_barred_by.nd) (ss_one (ss_if (st_truth (sd_any (so_new (sn_lc (own := [("at", 6), ("bays", 9)]) rfl sc_barred_by.nd (si_enu T.b_enumerate (so_val (sd_var 2))) (show BlkOk ["yard", "finds", "later", "hour", "found", "way", "at", "bay", "is_there", "bays"] (defScope t_barred_by) _ [("at", 6), ("bays", 9)] from ⟨rfl, by decide +kernel, by decide +kernel, by decide +kernel, by decide +kernel⟩) (fun _ _ _ _ _ => (sg_tup rfl (sgs_cons (sg_name 6 sc_barred_by.nd) (sgs_cons (sg_name 9 sc_barred_by.nd) sgs_nil)))) (fun _ _ _ _ _ => st_yes) (fun _ _ _ _ _ => (sd_in hu (so_val (sd_ix (so_val (sd_var 5)) (so_add (so_add (so_val (sd_var 3)) (so_val sd_int)) (so_val (sd_var 6))) (by intro _ _; rfl))) (so_val (sd_var 9)))))) T.b_any)) (ss_one (ss_drop (sd_append (sd_var 4) (sa_cons (sd_ix (so_val (sd_var 5)) (so_val (sd_var 3)) (by intro _ _; rfl)) sa_nil)))) ss_nil)))
    (ss_one (ss_set 2 (sd_mat (so_add (so_new (sn_lst (sa_cons (sd_var 4) sa_nil))) (so_val (sd_var 2)))) sc_barred_by.nd))))))
    (ss_one (ss_ret (sd_var 2)))))
theorem sc_goes_on : FnScope ["yard", "hour", "story", "ahead", "here", "must", "may", "bay"] ["yard", "hour", "story"] (defScope t_goes_on) := ⟨rfl, rfl, rfl, by decide +kernel, rfl, by decide +kernel, by decide +kernel⟩
theorem bind_goes_on (F : Fun K "goes_on" "goes_on" t_goes_on f fd) : Binds K fd ["yard", "hour", "story"] [] := F.binds (ps := ["yard", "hour", "story"]) fun _ _ _ _ _ _ us hl => match us, hl with | [_, _, _], _ => rfl
theorem ok_goes_on (T : Top K mg) (F : Fun K "goes_on" "goes_on" t_goes_on f fd) : FnG P w K mg base 2 f fd ["yard", "hour", "story"] (spOf K cl p_goes_on) := by
  obtain ⟨f_bays_brought, fd_bays_brought, F_bays_brought, g_bays_brought⟩ := T.d_bays_brought
  have h_bays_brought := (ok_bays_brought (P := P) (w := w) (base := base) (cl := cl) T F_bays_brought).mono (show 1 ≤ 1 by omega)
  obtain ⟨f_bays_blown, fd_bays_blown, F_bays_blown, g_bays_blown⟩ := T.d_bays_blown
  have h_bays_blown := (ok_bays_blown (P := P) (w := w) (base := base) (cl := cl) T F_bays_blown).mono (show 1 ≤ 1 by omega)
  refine fng_ok (np := 3) (ns := 8) F sc_goes_on rfl rfl (fun cdv A outer s H E hr hgd tk => ?_)
  have hu := hu65 hr
  exact (ss_cons (ss_asg (sd_tup (sa_cons (sd_ix (so_val (sd_var 2)) (so_val (sd_sub (sd_var 1) sd_int)) (by intro _ _; rfl)) (sa_cons (sd_ix (so_val (sd_var 2)) (so_val (sd_var 1)) (by intro _ _; rfl)) sa_nil))) (sg_tup rfl (sgs_cons (sg_name 3 sc_goes_on.nd) (sgs_cons (sg_name 4 sc_goes_on.nd) sgs_nil))))
    (ss_cons (ss_set 5 (sd_mat (so_add (so_new (sn_list (so_val (sd_var 3)) T.b_list)) (so_val (sd_callG h_bays_brought hr hgd g_bays_brought F_bays_brought.kp (bind_bays_brought F_bays_brought) tk (sa_cons (sd_var 0) (sa_cons (sd_var 1) (sa_cons (sd_mat (so_slice (so_val (sd_var 2)) sp_none (sp_some (sd_var 1)))) sa_nil))))))) sc_goes_on.nd)
    (ss_cons (ss_set 6 (sd_mat (so_add (so_val (sd_var 5)) (so_val (sd_callG h_bays_blown hr hgd g_bays_blown F_bays_blown.kp (bind_bays_blown F_bays_blown) tk (sa_cons (sd_var 0) (sa_cons (sd_sub (sd_var 1) sd_int) (sa_cons (sd_var 3) sa_nil))))))) sc_goes_on.nd)
    (ss_one (ss_ret (sd_and (sd_all (so_new (sn_lc (own := [("bay", 7)]) rfl sc_goes_on.nd (si_src (so_val (sd_var 5))) (show BlkOk ["yard", "hour", "story", "ahead", "here", "must", "may", "bay"] (defScope t_goes_on) _ [("bay", 7)] from ⟨rfl, by decide +kernel, by decide +kernel, by decide +kernel, by decide +kernel⟩) (fun _ _ _ _ _ => (sg_name 7 sc_goes_on.nd)) (fun _ _ _ _ _ => st_yes) (fun _ _ _ _ _ => (sd_in hu (so_val (sd_var 7)) (so_val (sd_var 4)))))) T.b_all) (sd_one (sd_all (so_new (sn_lc (own := [("bay", 7)]) rfl sc_goes_on.nd (si_src (so_val (sd_var 4))) (show BlkOk ["yard", "hour", "story", "ahead", "here", "must", "may", "bay"] (defScope t_goes_on) _ [("bay", 7)] from ⟨rfl, by decide +kernel, by decide +kernel, by decide +kernel, by decide +kernel⟩) (fun _ _ _ _ _ => (sg_name 7 sc_goes_on.nd)) (fun _ _ _ _ _ => st_yes) (fun _ _ _ _ _ => (sd_in hu (so_val (sd_var 7)) (so_val (sd_var 6)))))) T.b_all))))))))
theorem sc__law_draw : FnScope ["_law_pen", "_law_many", "_law_found"] ["_law_pen", "_law_many"] (defScope t__law_draw) := ⟨rfl, rfl, rfl, by decide +kernel, rfl, by decide +kernel, by decide +kernel⟩
theorem bind__law_draw (F : Fun K "_law_draw" "_law_draw" t__law_draw f fd) : Binds K fd ["_law_pen", "_law_many"] [] := F.binds (ps := ["_law_pen", "_law_many"]) fun _ _ _ _ _ _ us hl => match us, hl with | [_, _], _ => rfl
theorem ok__law_draw (T : Top K mg) (F : Fun K "_law_draw" "_law_draw" t__law_draw f fd) : FnG P w K mg base 2 f fd ["_law_pen", "_law_many"] (spOf K cl p__law_draw) := by
  obtain ⟨f__law_next, fd__law_next, F__law_next, g__law_next⟩ := T.d__law_next
  have h__law_next := (ok__law_next (P := P) (w := w) (base := base) (cl := cl) T F__law_next).mono (show 1 ≤ 1 by omega)
  refine fng_ok (np := 2) (ns := 3) F sc__law_draw rfl rfl (fun cdv A outer s H E hr hgd tk => ?_)
  have hu := hu65 hr
  exact (ss_cons (ss_if (st_of (sw_and (st_eq hu (so_val (sd_ix (so_val (sd_var 0)) (so_val sd_int) (by intro _ _; rfl))) (so_val sd_int)) (sw_and1 (st_gt (sd_ix (so_val (sd_var 0)) (so_val sd_int) (by intro _ _; rfl)) sd_int)))) (ss_cons (ss_set 2 (sd_mod (sd_ix (so_val (sd_var 0)) (so_val sd_int) (by intro _ _; rfl)) (sd_var 1)) sc__law_draw.nd)
    (ss_cons (ss_sub (sd_div (sd_ix (so_val (sd_var 0)) (so_val sd_int) (by intro _ _; rfl)) (sd_var 1)) (sd_var 0) sd_int)
    (ss_one (ss_ret (sd_var 2))))) ss_nil)
    (ss_cons (ss_sub (sd_callG h__law_next hr hgd g__law_next F__law_next.kp (bind__law_next F__law_next) tk (sa_cons (sd_mat (so_add (so_val (sd_callG h__law_next hr hgd g__law_next F__law_next.kp (bind__law_next F__law_next) tk (sa_cons (sd_ix (so_val (sd_var 0)) (so_val sd_int) (by intro _ _; rfl)) sa_nil))) (so_val sd_int))) sa_nil)) (sd_var 0) sd_int)
    (ss_one (ss_ret (sd_mod (sd_div (sd_ix (so_val (sd_var 0)) (so_val sd_int) (by intro _ _; rfl)) sd_int) (sd_var 1))))))
theorem sc_are_bays : FnScope ["many", "thing", "one", "other"] ["many", "thing"] (defScope t_are_bays) := ⟨rfl, rfl, rfl, by decide +kernel, rfl, by decide +kernel, by decide +kernel⟩
theorem bind_are_bays (F : Fun K "are_bays" "are_bays" t_are_bays f fd) : Binds K fd ["many", "thing"] [] := F.binds (ps := ["many", "thing"]) fun _ _ _ _ _ _ us hl => match us, hl with | [_, _], _ => rfl
theorem ok_are_bays (T : Top K mg) (F : Fun K "are_bays" "are_bays" t_are_bays f fd) : FnG P w K mg base 3 f fd ["many", "thing"] (spOf K cl p_are_bays) := by
  obtain ⟨f_is_among, fd_is_among, F_is_among, g_is_among⟩ := T.d_is_among
  have h_is_among := (ok_is_among (P := P) (w := w) (base := base) (cl := cl) T F_is_among).mono (show 2 ≤ 2 by omega)
  refine fng_ok (np := 2) (ns := 4) F sc_are_bays rfl rfl (fun cdv A outer s H E hr hgd tk => ?_)
  have hu := hu65 hr
  exact (ss_cons (ss_if (st_of (sw_or (st_not (st_truth (sd_isi (t := .tup) (so_val (sd_var 1)) T.b_isinstance T.b_tuple (by decide +kernel)))) (sw_or1 (st_not (st_truth (sd_all (so_new (sn_lc (own := [("one", 2)]) rfl sc_are_bays.nd (si_src (so_val (sd_var 1))) (show BlkOk ["many", "thing", "one", "other"] (defScope t_are_bays) _ [("one", 2)] from ⟨rfl, by decide +kernel, by decide +kernel, by decide +kernel, by decide +kernel⟩) (fun _ _ _ _ _ => (sg_name 2 sc_are_bays.nd)) (fun _ _ _ _ _ => st_yes) (fun _ _ _ _ _ => (sd_callG h_is_among hr hgd g_is_among F_is_among.kp (bind_is_among F_is_among) (takesF _) (sa_cons (sd_var 2) (sa_cons sd_int (sa_cons (sd_sub (sd_var 0) sd_int) sa_nil))))))) T.b_all)))))) (ss_one (ss_ret sd_bl)) ss_nil)
    (ss_one (ss_ret (sd_all (so_new (sn_lc (own := [("one", 2), ("other", 3)]) rfl sc_are_bays.nd (si_zip2 T.b_zip (so_val (sd_var 1)) (so_slice (so_val (sd_var 1)) (sp_some sd_int) sp_none)) (show BlkOk ["many", "thing", "one", "other"] (defScope t_are_bays) _ [("one", 2), ("other", 3)] from ⟨rfl, by decide +kernel, by decide +kernel, by decide +kernel, by decide +kernel⟩) (fun _ _ _ _ _ => (sg_tup rfl (sgs_cons (sg_name 2 sc_are_bays.nd) (sgs_cons (sg_name 3 sc_are_bays.nd) sgs_nil)))) (fun _ _ _ _ _ => st_yes) (fun _ _ _ _ _ => (sd_lt (sd_var 2) (sd_var 3))))) T.b_all))))
theorem sc_is_way : FnScope ["many", "hours", "thing", "one"] ["many", "hours", "thing"] (defScope t_is_way) := ⟨rfl, rfl, rfl, by decide +kernel, rfl, by decide +kernel, by decide +kernel⟩
theorem bind_is_way (F : Fun K "is_way" "is_way" t_is_way f fd) : Binds K fd ["many", "hours", "thing"] [] := F.binds (ps := ["many", "hours", "thing"]) fun _ _ _ _ _ _ us hl => match us, hl with | [_, _, _], _ => rfl
theorem ok_is_way (T : Top K mg) (F : Fun K "is_way" "is_way" t_is_way f fd) : FnG P w K mg base 3 f fd ["many", "hours", "thing"] (spOf K cl p_is_way) := by
  obtain ⟨f_is_among, fd_is_among, F_is_among, g_is_among⟩ := T.d_is_among
  have h_is_among := (ok_is_among (P := P) (w := w) (base := base) (cl := cl) T F_is_among).mono (show 2 ≤ 2 by omega)
  refine fng_ok (np := 3) (ns := 4) F sc_is_way rfl rfl (fun cdv A outer s H E hr hgd tk => ?_)
  have hu := hu65 hr
  exact (ss_one (ss_ret (sd_and (sd_isi (t := .tup) (so_val (sd_var 2)) T.b_isinstance T.b_tuple (by decide +kernel)) (sd_and (sd_eq hu (so_val (sd_len (so_val (sd_var 2)) T.b_len)) (so_val (sd_var 1))) (sd_one (sd_all (so_new (sn_lc (own := [("one", 3)]) rfl sc_is_way.nd (si_src (so_val (sd_var 2))) (show BlkOk ["many", "hours", "thing", "one"] (defScope t_is_way) _ [("one", 3)] from ⟨rfl, by decide +kernel, by decide +kernel, by decide +kernel, by decide +kernel⟩) (fun _ _ _ _ _ => (sg_name 3 sc_is_way.nd)) (fun _ _ _ _ _ => st_yes) (fun _ _ _ _ _ => (sd_callG h_is_among hr hgd g_is_among F_is_among.kp (bind_is_among F_is_among) (takesF _) (sa_cons (sd_var 3) (sa_cons sd_int (sa_cons (sd_sub (sd_var 0) sd_int) sa_nil))))))) T.b_all))))))
theorem sc_is_begin : FnScope ["yard", "thing"] ["yard", "thing"] (defScope t_is_begin) := ⟨rfl, rfl, rfl, by decide +kernel, rfl, by decide +kernel, by decide +kernel⟩
theorem bind_is_begin (F : Fun K "is_begin" "is_begin" t_is_begin f fd) : Binds K fd ["yard", "thing"] [] := F.binds (ps := ["yard", "thing"]) fun _ _ _ _ _ _ us hl => match us, hl with | [_, _], _ => rfl
theorem ok_is_begin (T : Top K mg) (F : Fun K "is_begin" "is_begin" t_is_begin f fd) : FnG P w K mg base 3 f fd ["yard", "thing"] (spOf K cl p_is_begin) := by
  obtain ⟨f_is_among, fd_is_among, F_is_among, g_is_among⟩ := T.d_is_among
  have h_is_among := (ok_is_among (P := P) (w := w) (base := base) (cl := cl) T F_is_among).mono (show 2 ≤ 2 by omega)
  obtain ⟨f_hours_of, fd_hours_of, F_hours_of, g_hours_of⟩ := T.d_hours_of
  have h_hours_of := (ok_hours_of (P := P) (w := w) (base := base) (cl := cl) T F_hours_of).mono (show 1 ≤ 2 by omega)
  refine fng_ok (np := 2) (ns := 2) F sc_is_begin rfl rfl (fun cdv A outer s H E hr hgd tk => ?_)
  have hu := hu65 hr
  exact (ss_cons (ss_if (st_of (sw_or (st_not (st_truth (sd_isi (t := .tup) (so_val (sd_var 1)) T.b_isinstance T.b_tuple (by decide +kernel)))) (sw_or1 (st_ne hu (so_val (sd_len (so_val (sd_var 1)) T.b_len)) (so_val sd_int))))) (ss_one (ss_ret sd_bl)) ss_nil)
    (ss_one (ss_ret (sd_and (sd_callG h_is_among hr hgd g_is_among F_is_among.kp (bind_is_among F_is_among) tk (sa_cons (sd_ix (so_val (sd_var 1)) (so_val sd_int) (by intro _ _; rfl)) (sa_cons sd_int (sa_cons (sd_sub (sd_callG h_hours_of hr hgd g_hours_of F_hours_of.kp (bind_hours_of F_hours_of) tk (sa_cons (sd_var 0) sa_nil)) sd_int) sa_nil)))) (sd_one (sd_callG h_is_among hr hgd g_is_among F_is_among.kp (bind_is_among F_is_among) tk (sa_cons (sd_ix (so_val (sd_var 1)) (so_val sd_int) (by intro _ _; rfl)) (sa_cons sd_int (sa_cons (sd_sub (sd_ix (so_val (sd_var 0)) (so_val sd_int) (by intro _ _; rfl)) sd_int) sa_nil)))))))))
theorem sc_story_by : FnScope ["yard", "finds", "begin", "hour", "bay", "barred", "found", "at", "is_there"] ["yard", "finds", "begin"] (defScope t_story_by) := ⟨rfl, rfl, rfl, by decide +kernel, rfl, by decide +kernel, by decide +kernel⟩
theorem bind_story_by (F : Fun K "story_by" "story_by" t_story_by f fd) : Binds K fd ["yard", "finds", "begin"] [] := F.binds (ps := ["yard", "finds", "begin"]) fun _ _ _ _ _ _ us hl => match us, hl with | [_, _, _], _ => rfl
theorem ok_story_by (T : Top K mg) (F : Fun K "story_by" "story_by" t_story_by f fd) : FnG P w K mg base 3 f fd ["yard", "finds", "begin"] (spOf K cl p_story_by) := by
  obtain ⟨f_barred_by, fd_barred_by, F_barred_by, g_barred_by⟩ := T.d_barred_by
  have h_barred_by := (ok_barred_by (P := P) (w := w) (base := base) (cl := cl) T F_barred_by).mono (show 2 ≤ 2 by omega)
  obtain ⟨f_grown_from, fd_grown_from, F_grown_from, g_grown_from⟩ := T.d_grown_from
  have h_grown_from := (ok_grown_from (P := P) (w := w) (base := base) (cl := cl) T F_grown_from).mono (show 2 ≤ 2 by omega)
  refine fng_ok (np := 3) (ns := 9) F sc_story_by rfl rfl (fun cdv A outer s H E hr hgd tk => ?_)
  have hu := hu65 hr
  exact (ss_cons (ss_asg (sd_var 2) (sg_tup rfl (sgs_cons (sg_name 3 sc_story_by.nd) (sgs_cons (sg_name 4 sc_story_by.nd) sgs_nil))))
    (ss_cons (ss_set 5 (sd_callG h_barred_by hr hgd g_barred_by F_barred_by.kp (bind_barred_by F_barred_by) tk (sa_cons (sd_var 0) (sa_cons (sd_var 1) sa_nil))) sc_story_by.nd)
    (ss_cons (ss_if (st_in hu (so_val (sd_var 4)) (so_val (sd_ix (so_val (sd_var 5)) (so_val (sd_var 3)) (by intro _ _; rfl)))) (ss_one (ss_ret sd_non)) ss_nil)
    (ss_cons (ss_set 6 (sd_callG h_grown_from hr hgd g_grown_from F_grown_from.kp (bind_grown_from F_grown_from) tk (sa_cons (sd_var 0) (sa_cons (sd_var 2) (sa_cons (sd_var 5) sa_nil)))) sc_story_by.nd)
    (ss_cons (ss_if (st_not (st_truth (sd_all (so_new (sn_lc (own := [("at", 7), ("bay", 4), ("is_there", 8)]) rfl sc_story_by.nd (si_src (so_val (sd_var 1))) (show BlkOk ["yard", "finds", "begin", "hour", "bay", "barred", "found", "at", "is_there"] (defScope t_story_by) _ [("at", 7), ("bay", 4), ("is_there", 8)] from ⟨rfl, by decide +kernel, by decide +kernel, by decide +kernel, by decide +kernel⟩) (fun _ _ _ _ _ => (sg_tup rfl (sgs_cons (sg_name 7 sc_story_by.nd) (sgs_cons (sg_name 4 sc_story_by.nd) (sgs_cons (sg_name 8 sc_story_by.nd) sgs_nil))))) (fun _ _ _ _ _ => (st_oneT (st_truth (sd_var 8)))) (fun _ _ _ _ _ => (sd_in hu (so_val (sd_var 4)) (so_val (sd_ix (so_val (sd_var 6)) (so_val (sd_var 7)) (by intro _ _; rfl))))))) T.b_all))) (ss_one (ss_ret sd_non)) ss_nil)
    (ss_one (ss_ret (sd_var 6))))))))
theorem sc_is_yard : FnScope ["thing", "many", "ways", "vents", "one"] ["thing"] (defScope t_is_yard) := ⟨rfl, rfl, rfl, by decide +kernel, rfl, by decide +kernel, by decide +kernel⟩
theorem bind_is_yard (F : Fun K "is_yard" "is_yard" t_is_yard f fd) : Binds K fd ["thing"] [] := F.binds (ps := ["thing"]) fun _ _ _ _ _ _ us hl => match us, hl with | [_], _ => rfl
theorem ok_is_yard (T : Top K mg) (F : Fun K "is_yard" "is_yard" t_is_yard f fd) : FnG P w K mg base 4 f fd ["thing"] (spOf K cl p_is_yard) := by
  obtain ⟨f_is_among, fd_is_among, F_is_among, g_is_among⟩ := T.d_is_among
  have h_is_among := (ok_is_among (P := P) (w := w) (base := base) (cl := cl) T F_is_among).mono (show 2 ≤ 3 by omega)
  obtain ⟨f_are_bays, fd_are_bays, F_are_bays, g_are_bays⟩ := T.d_are_bays
  have h_are_bays := (ok_are_bays (P := P) (w := w) (base := base) (cl := cl) T F_are_bays).mono (show 3 ≤ 3 by omega)
  obtain ⟨f_is_way, fd_is_way, F_is_way, g_is_way⟩ := T.d_is_way
  have h_is_way := (ok_is_way (P := P) (w := w) (base := base) (cl := cl) T F_is_way).mono (show 3 ≤ 3 by omega)
  refine fng_ok (np := 1) (ns := 5) F sc_is_yard rfl rfl (fun cdv A outer s H E hr hgd tk => ?_)
  have hu := hu65 hr
  exact (ss_cons (ss_if (st_of (sw_or (st_not (st_truth (sd_isi (t := .tup) (so_val (sd_var 0)) T.b_isinstance T.b_tuple (by decide +kernel)))) (sw_or (st_ne hu (so_val (sd_len (so_val (sd_var 0)) T.b_len)) (so_val sd_int)) (sw_or1 (st_not (st_truth (sd_callG h_is_among hr hgd g_is_among F_is_among.kp (bind_is_among F_is_among) tk (sa_cons (sd_ix (so_val (sd_var 0)) (so_val sd_int) (by intro _ _; rfl)) (sa_cons (sd_gc rfl T.c_LEAST_BAYS) (sa_cons (sd_gc rfl T.c_MOST_BAYS) sa_nil)))))))))) (ss_one (ss_ret sd_bl)) ss_nil)
    (ss_cons (ss_asg (sd_var 0) (sg_tup rfl (sgs_cons (sg_name 1 sc_is_yard.nd) (sgs_cons (sg_name 2 sc_is_yard.nd) (sgs_cons (sg_name 3 sc_is_yard.nd) sgs_nil)))))
    (ss_cons (ss_if (st_of (sw_or (st_not (st_truth (sd_isi (t := .tup) (so_val (sd_var 3)) T.b_isinstance T.b_tuple (by decide +kernel)))) (sw_or (st_gt (sd_len (so_val (sd_var 3)) T.b_len) (sd_gc rfl T.c_MOST_VENTS)) (sw_or1 (st_not (st_truth (sd_all (so_new (sn_lc (own := [("one", 4)]) rfl sc_is_yard.nd (si_src (so_val (sd_var 3))) (show BlkOk ["thing", "many", "ways", "vents", "one"] (defScope t_is_yard) _ [("one", 4)] from ⟨rfl, by decide +kernel, by decide +kernel, by decide +kernel, by decide +kernel⟩) (fun _ _ _ _ _ => (sg_name 4 sc_is_yard.nd)) (fun _ _ _ _ _ => st_yes) (fun _ _ _ _ _ => (sd_callG h_are_bays hr hgd g_are_bays F_are_bays.kp (bind_are_bays F_are_bays) (takesF _) (sa_cons (sd_var 1) (sa_cons (sd_var 4) sa_nil)))))) T.b_all))))))) (ss_one (ss_ret sd_bl)) ss_nil)
    (ss_cons (ss_if (st_of (sw_or (st_not (st_truth (sd_isi (t := .tup) (so_val (sd_var 2)) T.b_isinstance T.b_tuple (by decide +kernel)))) (sw_or1 (st_gt (sd_len (so_val (sd_var 2)) T.b_len) (sd_gc rfl T.c_MOST_WAYS))))) (ss_one (ss_ret sd_bl)) ss_nil)
    (ss_one (ss_ret (sd_all (so_new (sn_lc (own := [("one", 4)]) rfl sc_is_yard.nd (si_src (so_val (sd_var 2))) (show BlkOk ["thing", "many", "ways", "vents", "one"] (defScope t_is_yard) _ [("one", 4)] from ⟨rfl, by decide +kernel, by decide +kernel, by decide +kernel, by decide +kernel⟩) (fun _ _ _ _ _ => (sg_name 4 sc_is_yard.nd)) (fun _ _ _ _ _ => st_yes) (fun _ _ _ _ _ => (sd_callG h_is_way hr hgd g_is_way F_is_way.kp (bind_is_way F_is_way) (takesF _) (sa_cons (sd_var 1) (sa_cons (sd_mat (so_add (so_val (sd_len (so_val (sd_var 3)) T.b_len)) (so_val sd_int))) (sa_cons (sd_var 4) sa_nil))))))) T.b_all)))))))
theorem sc_need_begin : FnScope ["yard", "thing"] ["yard", "thing"] (defScope t_need_begin) := ⟨rfl, rfl, rfl, by decide +kernel, rfl, by decide +kernel, by decide +kernel⟩
theorem bind_need_begin (F : Fun K "need_begin" "need_begin" t_need_begin f fd) : Binds K fd ["yard", "thing"] [] := F.binds (ps := ["yard", "thing"]) fun _ _ _ _ _ _ us hl => match us, hl with | [_, _], _ => rfl
theorem ok_need_begin (T : Top K mg) (F : Fun K "need_begin" "need_begin" t_need_begin f fd) : FnG P w K mg base 4 f fd ["yard", "thing"] (spOf K cl p_need_begin) := by
  obtain ⟨f_is_begin, fd_is_begin, F_is_begin, g_is_begin⟩ := T.d_is_begin
  have h_is_begin := (ok_is_begin (P := P) (w := w) (base := base) (cl := cl) T F_is_begin).mono (show 3 ≤ 3 by omega)
  refine fng_ok (np := 2) (ns := 2) F sc_need_begin rfl rfl (fun cdv A outer s H E hr hgd tk => ?_)
  have hu := hu65 hr
  exact (ss_one (ss_if (st_not (st_truth (sd_callG h_is_begin hr hgd g_is_begin F_is_begin.kp (bind_is_begin F_is_begin) tk (sa_cons (sd_var 0) (sa_cons (sd_var 1) sa_nil))))) (ss_one ss_never) ss_nil))
theorem sc_is_find : FnScope ["yard", "thing"] ["yard", "thing"] (defScope t_is_find) := ⟨rfl, rfl, rfl, by decide +kernel, rfl, by decide +kernel, by decide +kernel⟩
theorem bind_is_find (F : Fun K "is_find" "is_find" t_is_find f fd) : Binds K fd ["yard", "thing"] [] := F.binds (ps := ["yard", "thing"]) fun _ _ _ _ _ _ us hl => match us, hl with | [_, _], _ => rfl
theorem ok_is_find (T : Top K mg) (F : Fun K "is_find" "is_find" t_is_find f fd) : FnG P w K mg base 4 f fd ["yard", "thing"] (spOf K cl p_is_find) := by
  obtain ⟨f_is_begin, fd_is_begin, F_is_begin, g_is_begin⟩ := T.d_is_begin
  have h_is_begin := (ok_is_begin (P := P) (w := w) (base := base) (cl := cl) T F_is_begin).mono (show 3 ≤ 3 by omega)
  refine fng_ok (np := 2) (ns := 2) F sc_is_find rfl rfl (fun cdv A outer s H E hr hgd tk => ?_)
  have hu := hu65 hr
  exact (ss_one (ss_ret (sd_and (sd_isi (t := .tup) (so_val (sd_var 1)) T.b_isinstance T.b_tuple (by decide +kernel)) (sd_and (sd_eq hu (so_val (sd_len (so_val (sd_var 1)) T.b_len)) (so_val sd_int)) (sd_and (sd_callG h_is_begin hr hgd g_is_begin F_is_begin.kp (bind_is_begin F_is_begin) tk (sa_cons (sd_var 0) (sa_cons (sd_mat (so_slice (so_val (sd_var 1)) sp_none (sp_some sd_int))) sa_nil))) (sd_one (sd_isi (t := .bl) (so_val (sd_ix (so_val (sd_var 1)) (so_val sd_int) (by intro _ _; rfl))) T.b_isinstance T.b_bool (by decide +kernel))))))))
theorem sc_begins_by : FnScope ["yard", "finds", "every", "hour", "bay", "begin"] ["yard", "finds"] (defScope t_begins_by) := ⟨rfl, rfl, rfl, by decide +kernel, rfl, by decide +kernel, by decide +kernel⟩
theorem bind_begins_by (F : Fun K "begins_by" "begins_by" t_begins_by f fd) : Binds K fd ["yard", "finds"] [] := F.binds (ps := ["yard", "finds"]) fun _ _ _ _ _ _ us hl => match us, hl with | [_, _], _ => rfl
theorem ok_begins_by (T : Top K mg) (F : Fun K "begins_by" "begins_by" t_begins_by f fd) : FnG P w K mg base 4 f fd ["yard", "finds"] (spOf K cl p_begins_by) := by
  obtain ⟨f_hours_of, fd_hours_of, F_hours_of, g_hours_of⟩ := T.d_hours_of
  have h_hours_of := (ok_hours_of (P := P) (w := w) (base := base) (cl := cl) T F_hours_of).mono (show 1 ≤ 3 by omega)
  obtain ⟨f_story_by, fd_story_by, F_story_by, g_story_by⟩ := T.d_story_by
  have h_story_by := (ok_story_by (P := P) (w := w) (base := base) (cl := cl) T F_story_by).mono (show 3 ≤ 3 by omega)
  refine fng_ok (np := 2) (ns := 6) F sc_begins_by rfl rfl (fun cdv A outer s H E hr hgd tk => ?_)
  have hu := hu65 hr
  exact (ss_cons (ss_setLc2 2 (own := [("hour", 3), ("bay", 4)]) (vs1 := [4]) rfl sc_begins_by.nd (si_rng1 T.b_range (sd_callG h_hours_of hr hgd g_hours_of F_hours_of.kp (bind_hours_of F_hours_of) tk (sa_cons (sd_var 0) sa_nil))) (show BlkOk ["yard", "finds", "every", "hour", "bay", "begin"] (defScope t_begins_by) _ [("hour", 3), ("bay", 4)] from ⟨rfl, by decide +kernel, by decide +kernel, by decide +kernel, by decide +kernel⟩) (fun _ _ _ _ _ => (sg_name 3 sc_begins_by.nd)) (fun _ _ _ _ _ => st_yes) (fun _ _ _ _ _ => (si_rng1 T.b_range (sd_ix (so_val (sd_var 0)) (so_val sd_int) (by intro _ _; rfl)))) (fun _ _ _ _ _ => (sg_name 4 sc_begins_by.nd)) (fun _ _ _ _ _ => st_yes) (fun _ _ _ _ _ => (sd_tup (sa_cons (sd_var 3) (sa_cons (sd_var 4) sa_nil)))))
    (ss_one (ss_ret (sd_tuple (so_new (sn_lc (own := [("begin", 5)]) rfl sc_begins_by.nd (si_src (so_val (sd_var 2))) (show BlkOk ["yard", "finds", "every", "hour", "bay", "begin"] (defScope t_begins_by) _ [("begin", 5)] from ⟨rfl, by decide +kernel, by decide +kernel, by decide +kernel, by decide +kernel⟩) (fun _ _ _ _ _ => (sg_name 5 sc_begins_by.nd)) (fun _ _ _ _ _ => (st_oneT (st_isnot (sd_callG h_story_by hr hgd g_story_by F_story_by.kp (bind_story_by F_story_by) (takesF _) (sa_cons (sd_var 0) (sa_cons (sd_var 1) (sa_cons (sd_var 5) sa_nil)))) sd_non))) (fun _ _ _ _ _ => (sd_var 5)))) T.b_tuple))))
theorem sc_need_yard : FnScope ["thing"] ["thing"] (defScope t_need_yard) := ⟨rfl, rfl, rfl, by decide +kernel, rfl, by decide +kernel, by decide +kernel⟩
theorem bind_need_yard (F : Fun K "need_yard" "need_yard" t_need_yard f fd) : Binds K fd ["thing"] [] := F.binds (ps := ["thing"]) fun _ _ _ _ _ _ us hl => match us, hl with | [_], _ => rfl
theorem ok_need_yard (T : Top K mg) (F : Fun K "need_yard" "need_yard" t_need_yard f fd) : FnG P w K mg base 5 f fd ["thing"] (spOf K cl p_need_yard) := by
  obtain ⟨f_is_yard, fd_is_yard, F_is_yard, g_is_yard⟩ := T.d_is_yard
  have h_is_yard := (ok_is_yard (P := P) (w := w) (base := base) (cl := cl) T F_is_yard).mono (show 4 ≤ 4 by omega)
  refine fng_ok (np := 1) (ns := 1) F sc_need_yard rfl rfl (fun cdv A outer s H E hr hgd tk => ?_)
  have hu := hu65 hr
  exact (ss_one (ss_if (st_not (st_truth (sd_callG h_is_yard hr hgd g_is_yard F_is_yard.kp (bind_is_yard F_is_yard) tk (sa_cons (sd_var 0) sa_nil)))) (ss_one ss_never) ss_nil))
theorem sc_need_finds : FnScope ["yard", "thing", "one"] ["yard", "thing"] (defScope t_need_finds) := ⟨rfl, rfl, rfl, by decide +kernel, rfl, by decide +kernel, by decide +kernel⟩
theorem bind_need_finds (F : Fun K "need_finds" "need_finds" t_need_finds f fd) : Binds K fd ["yard", "thing"] [] := F.binds (ps := ["yard", "thing"]) fun _ _ _ _ _ _ us hl => match us, hl with | [_, _], _ => rfl
theorem ok_need_finds (T : Top K mg) (F : Fun K "need_finds" "need_finds" t_need_finds f fd) : FnG P w K mg base 5 f fd ["yard", "thing"] (spOf K cl p_need_finds) := by
  obtain ⟨f_is_find, fd_is_find, F_is_find, g_is_find⟩ := T.d_is_find
  have h_is_find := (ok_is_find (P := P) (w := w) (base := base) (cl := cl) T F_is_find).mono (show 4 ≤ 4 by omega)
  refine fng_ok (np := 2) (ns := 3) F sc_need_finds rfl rfl (fun cdv A outer s H E hr hgd tk => ?_)
  have hu := hu65 hr
  exact (ss_one (ss_if (st_of (sw_or (st_not (st_truth (sd_isi (t := .tup) (so_val (sd_var 1)) T.b_isinstance T.b_tuple (by decide +kernel)))) (sw_or (st_gt (sd_len (so_val (sd_var 1)) T.b_len) (sd_gc rfl T.c_MOST_FINDS)) (sw_or1 (st_not (st_truth (sd_all (so_new (sn_lc (own := [("one", 2)]) rfl sc_need_finds.nd (si_src (so_val (sd_var 1))) (show BlkOk ["yard", "thing", "one"] (defScope t_need_finds) _ [("one", 2)] from ⟨rfl, by decide +kernel, by decide +kernel, by decide +kernel, by decide +kernel⟩) (fun _ _ _ _ _ => (sg_name 2 sc_need_finds.nd)) (fun _ _ _ _ _ => st_yes) (fun _ _ _ _ _ => (sd_callG h_is_find hr hgd g_is_find F_is_find.kp (bind_is_find F_is_find) (takesF _) (sa_cons (sd_var 0) (sa_cons (sd_var 2) sa_nil)))))) T.b_all))))))) (ss_one ss_never) ss_nil))
theorem sc_may_have : FnScope ["yard", "begin"] ["yard", "begin"] (defScope t_may_have) := ⟨rfl, rfl, rfl, by decide +kernel, rfl, by decide +kernel, by decide +kernel⟩
theorem bind_may_have (F : Fun K "may_have" "may_have" t_may_have f fd) : Binds K fd ["yard", "begin"] [] := F.binds (ps := ["yard", "begin"]) fun _ _ _ _ _ _ us hl => match us, hl with | [_, _], _ => rfl
theorem ok_may_have (T : Top K mg) (F : Fun K "may_have" "may_have" t_may_have f fd) : FnG P w K mg base 6 f fd ["yard", "begin"] (spOf K cl p_may_have) := by
  obtain ⟨f_need_yard, fd_need_yard, F_need_yard, g_need_yard⟩ := T.d_need_yard
  have h_need_yard := (ok_need_yard (P := P) (w := w) (base := base) (cl := cl) T F_need_yard).mono (show 5 ≤ 5 by omega)
  obtain ⟨f_need_begin, fd_need_begin, F_need_begin, g_need_begin⟩ := T.d_need_begin
  have h_need_begin := (ok_need_begin (P := P) (w := w) (base := base) (cl := cl) T F_need_begin).mono (show 4 ≤ 5 by omega)
  obtain ⟨f_first_hours, fd_first_hours, F_first_hours, g_first_hours⟩ := T.d_first_hours
  have h_first_hours := (ok_first_hours (P := P) (w := w) (base := base) (cl := cl) T F_first_hours).mono (show 2 ≤ 5 by omega)
  obtain ⟨f_grown_from, fd_grown_from, F_grown_from, g_grown_from⟩ := T.d_grown_from
  have h_grown_from := (ok_grown_from (P := P) (w := w) (base := base) (cl := cl) T F_grown_from).mono (show 2 ≤ 5 by omega)
  obtain ⟨f_hours_of, fd_hours_of, F_hours_of, g_hours_of⟩ := T.d_hours_of
  have h_hours_of := (ok_hours_of (P := P) (w := w) (base := base) (cl := cl) T F_hours_of).mono (show 1 ≤ 5 by omega)
  refine fng_ok (np := 2) (ns := 2) F sc_may_have rfl rfl (fun cdv A outer s H E hr hgd tk => ?_)
  have hu := hu65 hr
  exact (ss_cons (ss_drop (sd_callG h_need_yard hr hgd g_need_yard F_need_yard.kp (bind_need_yard F_need_yard) tk (sa_cons (sd_var 0) sa_nil)))
    (ss_cons (ss_drop (sd_callG h_need_begin hr hgd g_need_begin F_need_begin.kp (bind_need_begin F_need_begin) tk (sa_cons (sd_var 0) (sa_cons (sd_var 1) sa_nil))))
    (ss_one (ss_ret (sd_callG h_first_hours hr hgd g_first_hours F_first_hours.kp (bind_first_hours F_first_hours) tk (sa_cons (sd_var 0) (sa_cons (sd_callG h_grown_from hr hgd g_grown_from F_grown_from.kp (bind_grown_from F_grown_from) tk (sa_cons (sd_var 0) (sa_cons (sd_var 1) (sa_cons (sd_mat (so_mul (so_new (sn_lst (sa_cons (sd_tup sa_nil) sa_nil))) (so_val (sd_callG h_hours_of hr hgd g_hours_of F_hours_of.kp (bind_hours_of F_hours_of) tk (sa_cons (sd_var 0) sa_nil))))) sa_nil)))) sa_nil)))))))
theorem sc_must_have : FnScope ["yard", "begin"] ["yard", "begin"] (defScope t_must_have) := ⟨rfl, rfl, rfl, by decide +kernel, rfl, by decide +kernel, by decide +kernel⟩
theorem bind_must_have (F : Fun K "must_have" "must_have" t_must_have f fd) : Binds K fd ["yard", "begin"] [] := F.binds (ps := ["yard", "begin"]) fun _ _ _ _ _ _ us hl => match us, hl with | [_, _], _ => rfl
theorem ok_must_have (T : Top K mg) (F : Fun K "must_have" "must_have" t_must_have f fd) : FnG P w K mg base 6 f fd ["yard", "begin"] (spOf K cl p_must_have) := by
  obtain ⟨f_need_yard, fd_need_yard, F_need_yard, g_need_yard⟩ := T.d_need_yard
  have h_need_yard := (ok_need_yard (P := P) (w := w) (base := base) (cl := cl) T F_need_yard).mono (show 5 ≤ 5 by omega)
  obtain ⟨f_need_begin, fd_need_begin, F_need_begin, g_need_begin⟩ := T.d_need_begin
  have h_need_begin := (ok_need_begin (P := P) (w := w) (base := base) (cl := cl) T F_need_begin).mono (show 4 ≤ 5 by omega)
  obtain ⟨f_first_hours, fd_first_hours, F_first_hours, g_first_hours⟩ := T.d_first_hours
  have h_first_hours := (ok_first_hours (P := P) (w := w) (base := base) (cl := cl) T F_first_hours).mono (show 2 ≤ 5 by omega)
  obtain ⟨f_grown_from, fd_grown_from, F_grown_from, g_grown_from⟩ := T.d_grown_from
  have h_grown_from := (ok_grown_from (P := P) (w := w) (base := base) (cl := cl) T F_grown_from).mono (show 2 ≤ 5 by omega)
  refine fng_ok (np := 2) (ns := 2) F sc_must_have rfl rfl (fun cdv A outer s H E hr hgd tk => ?_)
  have hu := hu65 hr
  exact (ss_cons (ss_drop (sd_callG h_need_yard hr hgd g_need_yard F_need_yard.kp (bind_need_yard F_need_yard) tk (sa_cons (sd_var 0) sa_nil)))
    (ss_cons (ss_drop (sd_callG h_need_begin hr hgd g_need_begin F_need_begin.kp (bind_need_begin F_need_begin) tk (sa_cons (sd_var 0) (sa_cons (sd_var 1) sa_nil))))
    (ss_one (ss_ret (sd_callG h_first_hours hr hgd g_first_hours F_first_hours.kp (bind_first_hours F_first_hours) tk (sa_cons (sd_var 0) (sa_cons (sd_callG h_grown_from hr hgd g_grown_from F_grown_from.kp (bind_grown_from F_grown_from) tk (sa_cons (sd_var 0) (sa_cons (sd_var 1) (sa_cons sd_non sa_nil)))) sa_nil)))))))
theorem sc_begins_of : FnScope ["yard", "finds"] ["yard", "finds"] (defScope t_begins_of) := ⟨rfl, rfl, rfl, by decide +kernel, rfl, by decide +kernel, by decide +kernel⟩
theorem bind_begins_of (F : Fun K "begins_of" "begins_of" t_begins_of f fd) : Binds K fd ["yard", "finds"] [] := F.binds (ps := ["yard", "finds"]) fun _ _ _ _ _ _ us hl => match us, hl with | [_, _], _ => rfl
theorem ok_begins_of (T : Top K mg) (F : Fun K "begins_of" "begins_of" t_begins_of f fd) : FnG P w K mg base 6 f fd ["yard", "finds"] (spOf K cl p_begins_of) := by
  obtain ⟨f_need_yard, fd_need_yard, F_need_yard, g_need_yard⟩ := T.d_need_yard
  have h_need_yard := (ok_need_yard (P := P) (w := w) (base := base) (cl := cl) T F_need_yard).mono (show 5 ≤ 5 by omega)
  obtain ⟨f_need_finds, fd_need_finds, F_need_finds, g_need_finds⟩ := T.d_need_finds
  have h_need_finds := (ok_need_finds (P := P) (w := w) (base := base) (cl := cl) T F_need_finds).mono (show 5 ≤ 5 by omega)
  obtain ⟨f_begins_by, fd_begins_by, F_begins_by, g_begins_by⟩ := T.d_begins_by
  have h_begins_by := (ok_begins_by (P := P) (w := w) (base := base) (cl := cl) T F_begins_by).mono (show 4 ≤ 5 by omega)
  refine fng_ok (np := 2) (ns := 2) F sc_begins_of rfl rfl (fun cdv A outer s H E hr hgd tk => ?_)
  have hu := hu65 hr
  exact (ss_cons (ss_drop (sd_callG h_need_yard hr hgd g_need_yard F_need_yard.kp (bind_need_yard F_need_yard) tk (sa_cons (sd_var 0) sa_nil)))
    (ss_cons (ss_drop (sd_callG h_need_finds hr hgd g_need_finds F_need_finds.kp (bind_need_finds F_need_finds) tk (sa_cons (sd_var 0) (sa_cons (sd_var 1) sa_nil))))
    (ss_one (ss_ret (sd_callG h_begins_by hr hgd g_begins_by F_begins_by.kp (bind_begins_by F_begins_by) tk (sa_cons (sd_var 0) (sa_cons (sd_var 1) sa_nil)))))))
theorem sc_story_of : FnScope ["yard", "finds", "begin"] ["yard", "finds", "begin"] (defScope t_story_of) := ⟨rfl, rfl, rfl, by decide +kernel, rfl, by decide +kernel, by decide +kernel⟩
theorem bind_story_of (F : Fun K "story_of" "story_of" t_story_of f fd) : Binds K fd ["yard", "finds", "begin"] [] := F.binds (ps := ["yard", "finds", "begin"]) fun _ _ _ _ _ _ us hl => match us, hl with | [_, _, _], _ => rfl
theorem ok_story_of (T : Top K mg) (F : Fun K "story_of" "story_of" t_story_of f fd) : FnG P w K mg base 6 f fd ["yard", "finds", "begin"] (spOf K cl p_story_of) := by
  obtain ⟨f_need_yard, fd_need_yard, F_need_yard, g_need_yard⟩ := T.d_need_yard
  have h_need_yard := (ok_need_yard (P := P) (w := w) (base := base) (cl := cl) T F_need_yard).mono (show 5 ≤ 5 by omega)
  obtain ⟨f_need_finds, fd_need_finds, F_need_finds, g_need_finds⟩ := T.d_need_finds
  have h_need_finds := (ok_need_finds (P := P) (w := w) (base := base) (cl := cl) T F_need_finds).mono (show 5 ≤ 5 by omega)
  obtain ⟨f_need_begin, fd_need_begin, F_need_begin, g_need_begin⟩ := T.d_need_begin
  have h_need_begin := (ok_need_begin (P := P) (w := w) (base := base) (cl := cl) T F_need_begin).mono (show 4 ≤ 5 by omega)
  obtain ⟨f_story_by, fd_story_by, F_story_by, g_story_by⟩ := T.d_story_by
  have h_story_by := (ok_story_by (P := P) (w := w) (base := base) (cl := cl) T F_story_by).mono (show 3 ≤ 5 by omega)
  refine fng_ok (np := 3) (ns := 3) F sc_story_of rfl rfl (fun cdv A outer s H E hr hgd tk => ?_)
  have hu := hu65 hr
  exact (ss_cons (ss_drop (sd_callG h_need_yard hr hgd g_need_yard F_need_yard.kp (bind_need_yard F_need_yard) tk (sa_cons (sd_var 0) sa_nil)))
    (ss_cons (ss_drop (sd_callG h_need_finds hr hgd g_need_finds F_need_finds.kp (bind_need_finds F_need_finds) tk (sa_cons (sd_var 0) (sa_cons (sd_var 1) sa_nil))))
    (ss_cons (ss_drop (sd_callG h_need_begin hr hgd g_need_begin F_need_begin.kp (bind_need_begin F_need_begin) tk (sa_cons (sd_var 0) (sa_cons (sd_var 2) sa_nil))))
    (ss_one (ss_ret (sd_callG h_story_by hr hgd g_story_by F_story_by.kp (bind_story_by F_story_by) tk (sa_cons (sd_var 0) (sa_cons (sd_var 1) (sa_cons (sd_var 2) sa_nil)))))))))
theorem sc_is_story : FnScope ["yard", "finds", "begin", "thing", "hour", "bay", "one", "later", "at", "is_there"] ["yard", "finds", "begin", "thing"] (defScope t_is_story) := ⟨rfl, rfl, rfl, by decide +kernel, rfl, by decide +kernel, by decide +kernel⟩
theorem bind_is_story (F : Fun K "is_story" "is_story" t_is_story f fd) : Binds K fd ["yard", "finds", "begin", "thing"] [] := F.binds (ps := ["yard", "finds", "begin", "thing"]) fun _ _ _ _ _ _ us hl => match us, hl with | [_, _, _, _], _ => rfl
theorem ok_is_story (T : Top K mg) (F : Fun K "is_story" "is_story" t_is_story f fd) : FnG P w K mg base 6 f fd ["yard", "finds", "begin", "thing"] (spOf K cl p_is_story) := by
  obtain ⟨f_need_yard, fd_need_yard, F_need_yard, g_need_yard⟩ := T.d_need_yard
  have h_need_yard := (ok_need_yard (P := P) (w := w) (base := base) (cl := cl) T F_need_yard).mono (show 5 ≤ 5 by omega)
  obtain ⟨f_need_finds, fd_need_finds, F_need_finds, g_need_finds⟩ := T.d_need_finds
  have h_need_finds := (ok_need_finds (P := P) (w := w) (base := base) (cl := cl) T F_need_finds).mono (show 5 ≤ 5 by omega)
  obtain ⟨f_need_begin, fd_need_begin, F_need_begin, g_need_begin⟩ := T.d_need_begin
  have h_need_begin := (ok_need_begin (P := P) (w := w) (base := base) (cl := cl) T F_need_begin).mono (show 4 ≤ 5 by omega)
  obtain ⟨f_hours_of, fd_hours_of, F_hours_of, g_hours_of⟩ := T.d_hours_of
  have h_hours_of := (ok_hours_of (P := P) (w := w) (base := base) (cl := cl) T F_hours_of).mono (show 1 ≤ 5 by omega)
  obtain ⟨f_are_bays, fd_are_bays, F_are_bays, g_are_bays⟩ := T.d_are_bays
  have h_are_bays := (ok_are_bays (P := P) (w := w) (base := base) (cl := cl) T F_are_bays).mono (show 3 ≤ 5 by omega)
  obtain ⟨f_goes_on, fd_goes_on, F_goes_on, g_goes_on⟩ := T.d_goes_on
  have h_goes_on := (ok_goes_on (P := P) (w := w) (base := base) (cl := cl) T F_goes_on).mono (show 2 ≤ 5 by omega)
  refine fng_ok (np := 4) (ns := 10) F sc_is_story rfl rfl (fun cdv A outer s H E hr hgd tk => ?_)
  have hu := hu65 hr
  exact (ss_cons (ss_drop (sd_callG h_need_yard hr hgd g_need_yard F_need_yard.kp (bind_need_yard F_need_yard) tk (sa_cons (sd_var 0) sa_nil)))
    (ss_cons (ss_drop (sd_callG h_need_finds hr hgd g_need_finds F_need_finds.kp (bind_need_finds F_need_finds) tk (sa_cons (sd_var 0) (sa_cons (sd_var 1) sa_nil))))
    (ss_cons (ss_drop (sd_callG h_need_begin hr hgd g_need_begin F_need_begin.kp (bind_need_begin F_need_begin) tk (sa_cons (sd_var 0) (sa_cons (sd_var 2) sa_nil))))
    (ss_cons (ss_if (st_of (sw_or (st_not (st_truth (sd_isi (t := .tup) (so_val (sd_var 3)) T.b_isinstance T.b_tuple (by decide +kernel)))) (sw_or1 (st_ne hu (so_val (sd_len (so_val (sd_var 3)) T.b_len)) (so_val (sd_callG h_hours_of hr hgd g_hours_of F_hours_of.kp (bind_hours_of F_hours_of) tk (sa_cons (sd_var 0) sa_nil))))))) (ss_one (ss_ret sd_bl)) ss_nil)
    (ss_cons (ss_if (st_not (st_truth (sd_all (so_new (sn_lc (own := [("one", 6)]) rfl sc_is_story.nd (si_src (so_val (sd_var 3))) (show BlkOk ["yard", "finds", "begin", "thing", "hour", "bay", "one", "later", "at", "is_there"] (defScope t_is_story) _ [("one", 6)] from ⟨rfl, by decide +kernel, by decide +kernel, by decide +kernel, by decide +kernel⟩) (fun _ _ _ _ _ => (sg_name 6 sc_is_story.nd)) (fun _ _ _ _ _ => st_yes) (fun _ _ _ _ _ => (sd_callG h_are_bays hr hgd g_are_bays F_are_bays.kp (bind_are_bays F_are_bays) (takesF _) (sa_cons (sd_ix (so_val (sd_var 0)) (so_val sd_int) (by intro _ _; rfl)) (sa_cons (sd_var 6) sa_nil)))))) T.b_all))) (ss_one (ss_ret sd_bl)) ss_nil)
    (ss_cons (ss_asg (sd_var 2) (sg_tup rfl (sgs_cons (sg_name 4 sc_is_story.nd) (sgs_cons (sg_name 5 sc_is_story.nd) sgs_nil))))
    (ss_cons (ss_if (st_ne hu (so_slice (so_val (sd_var 3)) sp_none (sp_some (sd_mat (so_add (so_val (sd_var 4)) (so_val sd_int))))) (so_add (so_mul (so_val (sd_tup (sa_cons (sd_tup sa_nil) sa_nil))) (so_val (sd_var 4))) (so_val (sd_tup (sa_cons (sd_tup (sa_cons (sd_var 5) sa_nil)) sa_nil))))) (ss_one (ss_ret sd_bl)) ss_nil)
    (ss_cons (ss_if (st_not (st_truth (sd_all (so_new (sn_lc (own := [("later", 7)]) rfl sc_is_story.nd (si_rng2 T.b_range (sd_mat (so_add (so_val (sd_var 4)) (so_val sd_int))) (sd_len (so_val (sd_var 3)) T.b_len)) (show BlkOk ["yard", "finds", "begin", "thing", "hour", "bay", "one", "later", "at", "is_there"] (defScope t_is_story) _ [("later", 7)] from ⟨rfl, by decide +kernel, by decide +kernel, by decide +kernel, by decide +kernel⟩) (fun _ _ _ _ _ => (sg_name 7 sc_is_story.nd)) (fun _ _ _ _ _ => st_yes) (fun _ _ _ _ _ => (sd_callG h_goes_on hr hgd g_goes_on F_goes_on.kp (bind_goes_on F_goes_on) (takesF _) (sa_cons (sd_var 0) (sa_cons (sd_var 7) (sa_cons (sd_var 3) sa_nil))))))) T.b_all))) (ss_one (ss_ret sd_bl)) ss_nil)
    (ss_one (ss_ret (sd_all (so_new (sn_lc (own := [("at", 8), ("one", 6), ("is_there", 9)]) rfl sc_is_story.nd (si_src (so_val (sd_var 1))) (show BlkOk ["yard", "finds", "begin", "thing", "hour", "bay", "one", "later", "at", "is_there"] (defScope t_is_story) _ [("at", 8), ("one", 6), ("is_there", 9)] from ⟨rfl, by decide +kernel, by decide +kernel, by decide +kernel, by decide +kernel⟩) (fun _ _ _ _ _ => (sg_tup rfl (sgs_cons (sg_name 8 sc_is_story.nd) (sgs_cons (sg_name 6 sc_is_story.nd) (sgs_cons (sg_name 9 sc_is_story.nd) sgs_nil))))) (fun _ _ _ _ _ => st_yes) (fun _ _ _ _ _ => (sd_eq hu (so_val (sd_in hu (so_val (sd_var 6)) (so_val (sd_ix (so_val (sd_var 3)) (so_val (sd_var 8)) (by intro _ _; rfl))))) (so_val (sd_var 9)))))) T.b_all)))))))))))
theorem sc_called : FnScope ["yard", "finds", "found", "begin", "trays", "tray", "first"] ["yard", "finds"] (defScope t_called) := ⟨rfl, rfl, rfl, by decide +kernel, rfl, by decide +kernel, by decide +kernel⟩
theorem bind_called (F : Fun K "called" "called" t_called f fd) : Binds K fd ["yard", "finds"] [] := F.binds (ps := ["yard", "finds"]) fun _ _ _ _ _ _ us hl => match us, hl with | [_, _], _ => rfl
theorem ok_called (T : Top K mg) (F : Fun K "called" "called" t_called f fd) : FnG P w K mg base 6 f fd ["yard", "finds"] (spOf K cl p_called) := by
  obtain ⟨f_need_yard, fd_need_yard, F_need_yard, g_need_yard⟩ := T.d_need_yard
  have h_need_yard := (ok_need_yard (P := P) (w := w) (base := base) (cl := cl) T F_need_yard).mono (show 5 ≤ 5 by omega)
  obtain ⟨f_need_finds, fd_need_finds, F_need_finds, g_need_finds⟩ := T.d_need_finds
  have h_need_finds := (ok_need_finds (P := P) (w := w) (base := base) (cl := cl) T F_need_finds).mono (show 5 ≤ 5 by omega)
  obtain ⟨f_begins_by, fd_begins_by, F_begins_by, g_begins_by⟩ := T.d_begins_by
  have h_begins_by := (ok_begins_by (P := P) (w := w) (base := base) (cl := cl) T F_begins_by).mono (show 4 ≤ 5 by omega)
  obtain ⟨f_first_hours, fd_first_hours, F_first_hours, g_first_hours⟩ := T.d_first_hours
  have h_first_hours := (ok_first_hours (P := P) (w := w) (base := base) (cl := cl) T F_first_hours).mono (show 2 ≤ 5 by omega)
  obtain ⟨f_story_by, fd_story_by, F_story_by, g_story_by⟩ := T.d_story_by
  have h_story_by := (ok_story_by (P := P) (w := w) (base := base) (cl := cl) T F_story_by).mono (show 3 ≤ 5 by omega)
  refine fng_ok (np := 2) (ns := 7) F sc_called rfl rfl (fun cdv A outer s H E hr hgd tk => ?_)
  have hu := hu65 hr
  exact (ss_cons (ss_drop (sd_callG h_need_yard hr hgd g_need_yard F_need_yard.kp (bind_need_yard F_need_yard) tk (sa_cons (sd_var 0) sa_nil)))
    (ss_cons (ss_drop (sd_callG h_need_finds hr hgd g_need_finds F_need_finds.kp (bind_need_finds F_need_finds) tk (sa_cons (sd_var 0) (sa_cons (sd_var 1) sa_nil))))
    (ss_cons (ss_set 2 sd_kst0 sc_called.nd)
    (ss_cons (ss_for (passes_of rfl) rfl (si_src (so_val (sd_callG h_begins_by hr hgd g_begins_by F_begins_by.kp (bind_begins_by F_begins_by) tk (sa_cons (sd_var 0) (sa_cons (sd_var 1) sa_nil))))) (sg_name 3 sc_called.nd) (ss_cons (ss_set 4 (sd_ix (so_val (sd_callG h_first_hours hr hgd g_first_hours F_first_hours.kp (bind_first_hours F_first_hours) tk (sa_cons (sd_var 0) (sa_cons (sd_callG h_story_by hr hgd g_story_by F_story_by.kp (bind_story_by F_story_by) tk (sa_cons (sd_var 0) (sa_cons (sd_var 1) (sa_cons (sd_var 3) sa_nil)))) sa_nil)))) (so_val sd_int) (by intro _ _; rfl)) sc_called.nd)
    (ss_one (ss_drop (sd_kupd 2 (pe_dcK (own := [("tray", 5), ("first", 6)]) rfl sc_called.nd (si_enu T.b_enumerate (so_val (sd_var 4))) (show BlkOk ["yard", "finds", "found", "begin", "trays", "tray", "first"] (defScope t_called) _ [("tray", 5), ("first", 6)] from ⟨rfl, by decide +kernel, by decide +kernel, by decide +kernel, by decide +kernel⟩) (fun _ _ _ _ _ => (sg_tup rfl (sgs_cons (sg_name 5 sc_called.nd) (sgs_cons (sg_name 6 sc_called.nd) sgs_nil)))) (fun _ _ _ _ _ => (st_oneT (st_isnot (sd_var 6) sd_non))) (fun _ _ _ _ _ => (sd_var 5)) (fun _ _ _ _ _ => sd_bl)))))))
    (ss_one (ss_ret (sd_tuple (so_new (sn_sortK rfl (so_val (sd_var 2)) T.b_sorted)) T.b_tuple)))))))
theorem sc__law_clear_right : FnScope ["_law_more", "_law_yard", "_law_last", "_law_clear", "_law_there", "_law_due", "_law_hour", "_law_bay"] ["_law_more"] (defScope t__law_clear_right) := ⟨rfl, rfl, rfl, by decide +kernel, rfl, by decide +kernel, by decide +kernel⟩
theorem bind__law_clear_right (F : Fun K "_law_clear_right" "_law_clear_right" t__law_clear_right f fd) : Binds K fd ["_law_more"] [] := F.binds (ps := ["_law_more"]) fun _ _ _ _ _ _ us hl => match us, hl with | [_], _ => rfl
theorem ok__law_clear_right (T : Top K mg) (F : Fun K "_law_clear_right" "_law_clear_right" t__law_clear_right f fd) : FnG P w K mg base 7 f fd ["_law_more"] (spOf K cl p__law_clear_right) := by
  obtain ⟨f_begins_of, fd_begins_of, F_begins_of, g_begins_of⟩ := T.d_begins_of
  have h_begins_of := (ok_begins_of (P := P) (w := w) (base := base) (cl := cl) T F_begins_of).mono (show 6 ≤ 6 by omega)
  obtain ⟨f_called, fd_called, F_called, g_called⟩ := T.d_called
  have h_called := (ok_called (P := P) (w := w) (base := base) (cl := cl) T F_called).mono (show 6 ≤ 6 by omega)
  obtain ⟨f_story_of, fd_story_of, F_story_of, g_story_of⟩ := T.d_story_of
  have h_story_of := (ok_story_of (P := P) (w := w) (base := base) (cl := cl) T F_story_of).mono (show 6 ≤ 6 by omega)
  refine fng_ok (np := 1) (ns := 8) F sc__law_clear_right rfl rfl (fun cdv A outer s H E hr hgd tk => ?_)
  have hu := hu65 hr
  exact (ss_cons (ss_par (i := 1) (j := 2) rfl sc__law_clear_right.nd (sa_cons (sd_tup (sa_cons sd_int (sa_cons (sd_tup (sa_cons (sd_mat (so_add (so_val (sd_tup (sa_cons sd_int (sa_cons sd_int sa_nil)))) (so_mul (so_val (sd_tup (sa_cons sd_int sa_nil))) (so_add (so_val (sd_var 0)) (so_val sd_int))))) sa_nil)) (sa_cons (sd_mat (so_mul (so_val (sd_tup (sa_cons (sd_tup sa_nil) sa_nil))) (so_add (so_val (sd_var 0)) (so_val sd_int)))) sa_nil)))) (sa_cons (sd_mat (so_add (so_val (sd_var 0)) (so_val sd_int))) sa_nil)))
    (ss_cons (ss_par (i := 3) (j := 4) rfl sc__law_clear_right.nd (sa_cons (sd_tup (sa_cons (sd_tup (sa_cons (sd_var 2) (sa_cons sd_int (sa_cons sd_bl sa_nil)))) sa_nil)) (sa_cons (sd_tup (sa_cons (sd_tup (sa_cons (sd_var 2) (sa_cons sd_int (sa_cons sd_bl sa_nil)))) sa_nil)) sa_nil)))
    (ss_cons (ss_set 5 (sd_mat (so_new (sn_lst sa_nil))) sc__law_clear_right.nd)
    (ss_cons (ss_for (passes_of rfl) rfl (si_rng1 T.b_range (sd_mat (so_add (so_val (sd_var 2)) (so_val sd_int)))) (sg_name 6 sc__law_clear_right.nd) (ss_one (ss_drop (sd_extend (sd_var 5) (sa_cons (sd_mat (so_new (sn_lc (own := [("_law_bay", 7)]) rfl sc__law_clear_right.nd (si_src (so_val (sd_tup (sa_cons sd_int (sa_cons sd_int sa_nil))))) (show BlkOk ["_law_more", "_law_yard", "_law_last", "_law_clear", "_law_there", "_law_due", "_law_hour", "_law_bay"] (defScope t__law_clear_right) _ [("_law_bay", 7)] from ⟨rfl, by decide +kernel, by decide +kernel, by decide +kernel, by decide +kernel⟩) (fun _ _ _ _ _ => (sg_name 7 sc__law_clear_right.nd)) (fun _ _ _ _ _ => (st_oneT (st_ne hu (so_val (sd_tup (sa_cons (sd_var 6) (sa_cons (sd_var 7) sa_nil)))) (so_val (sd_tup (sa_cons sd_int (sa_cons sd_int sa_nil))))))) (fun _ _ _ _ _ => (sd_tup (sa_cons (sd_var 6) (sa_cons (sd_var 7) sa_nil))))))) sa_nil)))))
    (ss_cons (ss_if (st_of (sw_or (st_ne hu (so_val (sd_callG h_begins_of hr hgd g_begins_of F_begins_of.kp (bind_begins_of F_begins_of) tk (sa_cons (sd_var 1) (sa_cons (sd_var 3) sa_nil)))) (so_val (sd_tuple (so_val (sd_var 5)) T.b_tuple))) (sw_or1 (st_ne hu (so_val (sd_callG h_called hr hgd g_called F_called.kp (bind_called F_called) tk (sa_cons (sd_var 1) (sa_cons (sd_var 3) sa_nil)))) (so_val (sd_tup sa_nil)))))) (ss_one (ss_ret sd_bl)) ss_nil)
    (ss_cons (ss_set 5 (sd_mat (so_add (so_new (sn_lst (sa_cons (sd_tup (sa_cons sd_int (sa_cons sd_int sa_nil))) sa_nil))) (so_new (sn_lc (own := [("_law_hour", 6)]) rfl sc__law_clear_right.nd (si_rng1 T.b_range (sd_mat (so_add (so_val (sd_var 2)) (so_val sd_int)))) (show BlkOk ["_law_more", "_law_yard", "_law_last", "_law_clear", "_law_there", "_law_due", "_law_hour", "_law_bay"] (defScope t__law_clear_right) _ [("_law_hour", 6)] from ⟨rfl, by decide +kernel, by decide +kernel, by decide +kernel, by decide +kernel⟩) (fun _ _ _ _ _ => (sg_name 6 sc__law_clear_right.nd)) (fun _ _ _ _ _ => st_yes) (fun _ _ _ _ _ => (sd_tup (sa_cons (sd_var 6) (sa_cons sd_int sa_nil)))))))) sc__law_clear_right.nd)
    (ss_cons (ss_if (st_of (sw_or (st_ne hu (so_val (sd_callG h_begins_of hr hgd g_begins_of F_begins_of.kp (bind_begins_of F_begins_of) tk (sa_cons (sd_var 1) (sa_cons (sd_var 4) sa_nil)))) (so_val (sd_tuple (so_val (sd_var 5)) T.b_tuple))) (sw_or1 (st_ne hu (so_val (sd_callG h_called hr hgd g_called F_called.kp (bind_called F_called) tk (sa_cons (sd_var 1) (sa_cons (sd_var 4) sa_nil)))) (so_val (sd_tup (sa_cons sd_int sa_nil))))))) (ss_one (ss_ret sd_bl)) ss_nil)
    (ss_cons (ss_if (st_of (sw_or (st_ne hu (so_val (sd_callG h_story_of hr hgd g_story_of F_story_of.kp (bind_story_of F_story_of) tk (sa_cons (sd_var 1) (sa_cons (sd_var 4) (sa_cons (sd_tup (sa_cons sd_int (sa_cons sd_int sa_nil))) sa_nil))))) (so_add (so_val (sd_tup (sa_cons (sd_tup (sa_cons sd_int sa_nil)) sa_nil))) (so_mul (so_val (sd_tup (sa_cons (sd_tup (sa_cons sd_int (sa_cons sd_int sa_nil))) sa_nil))) (so_val (sd_var 2))))) (sw_or1 (st_isnot (sd_callG h_story_of hr hgd g_story_of F_story_of.kp (bind_story_of F_story_of) tk (sa_cons (sd_var 1) (sa_cons (sd_var 3) (sa_cons (sd_tup (sa_cons sd_int (sa_cons sd_int sa_nil))) sa_nil)))) sd_non)))) (ss_one (ss_ret sd_bl)) ss_nil)
    (ss_one (ss_ret (sd_eq hu (so_val (sd_callG h_story_of hr hgd g_story_of F_story_of.kp (bind_story_of F_story_of) tk (sa_cons (sd_var 1) (sa_cons (sd_var 3) (sa_cons (sd_tup (sa_cons sd_int (sa_cons sd_int sa_nil))) sa_nil))))) (so_add (so_val (sd_tup (sa_cons (sd_tup sa_nil) sa_nil))) (so_mul (so_val (sd_tup (sa_cons (sd_tup (sa_cons sd_int sa_nil)) sa_nil))) (so_val (sd_var 2)))))))))))))))
theorem sc__law_vents_right : FnScope ["_law_more", "_law_yard", "_law_last", "_law_clear"] ["_law_more"] (defScope t__law_vents_right) := ⟨rfl, rfl, rfl, by decide +kernel, rfl, by decide +kernel, by decide +kernel⟩
theorem bind__law_vents_right (F : Fun K "_law_vents_right" "_law_vents_right" t__law_vents_right f fd) : Binds K fd ["_law_more"] [] := F.binds (ps := ["_law_more"]) fun _ _ _ _ _ _ us hl => match us, hl with | [_], _ => rfl
theorem ok__law_vents_right (T : Top K mg) (F : Fun K "_law_vents_right" "_law_vents_right" t__law_vents_right f fd) : FnG P w K mg base 7 f fd ["_law_more"] (spOf K cl p__law_vents_right) := by
  obtain ⟨f_may_have, fd_may_have, F_may_have, g_may_have⟩ := T.d_may_have
  have h_may_have := (ok_may_have (P := P) (w := w) (base := base) (cl := cl) T F_may_have).mono (show 6 ≤ 6 by omega)
  obtain ⟨f_must_have, fd_must_have, F_must_have, g_must_have⟩ := T.d_must_have
  have h_must_have := (ok_must_have (P := P) (w := w) (base := base) (cl := cl) T F_must_have).mono (show 6 ≤ 6 by omega)
  obtain ⟨f_story_of, fd_story_of, F_story_of, g_story_of⟩ := T.d_story_of
  have h_story_of := (ok_story_of (P := P) (w := w) (base := base) (cl := cl) T F_story_of).mono (show 6 ≤ 6 by omega)
  obtain ⟨f_is_story, fd_is_story, F_is_story, g_is_story⟩ := T.d_is_story
  have h_is_story := (ok_is_story (P := P) (w := w) (base := base) (cl := cl) T F_is_story).mono (show 6 ≤ 6 by omega)
  refine fng_ok (np := 1) (ns := 4) F sc__law_vents_right rfl rfl (fun cdv A outer s H E hr hgd tk => ?_)
  have hu := hu65 hr
  exact (ss_cons (ss_par (i := 1) (j := 2) rfl sc__law_vents_right.nd (sa_cons (sd_tup (sa_cons sd_int (sa_cons (sd_tup (sa_cons (sd_mat (so_add (so_val (sd_tup (sa_cons sd_int (sa_cons sd_int sa_nil)))) (so_mul (so_val (sd_tup (sa_cons sd_int sa_nil))) (so_add (so_val (sd_var 0)) (so_val sd_int))))) sa_nil)) (sa_cons (sd_mat (so_add (so_val (sd_tup (sa_cons (sd_tup (sa_cons sd_int (sa_cons sd_int sa_nil))) sa_nil))) (so_mul (so_val (sd_tup (sa_cons (sd_tup sa_nil) sa_nil))) (so_add (so_val (sd_var 0)) (so_val sd_int))))) sa_nil)))) (sa_cons (sd_mat (so_add (so_val (sd_var 0)) (so_val sd_int))) sa_nil)))
    (ss_cons (ss_if (st_of (sw_or (st_ne hu (so_val (sd_callG h_may_have hr hgd g_may_have F_may_have.kp (bind_may_have F_may_have) tk (sa_cons (sd_var 1) (sa_cons (sd_tup (sa_cons sd_int (sa_cons sd_int sa_nil))) sa_nil)))) (so_val (sd_tup (sa_cons (sd_tup (sa_cons sd_int (sa_cons sd_non (sa_cons sd_int sa_nil)))) (sa_cons (sd_tup (sa_cons sd_non sa_nil)) sa_nil))))) (sw_or1 (st_ne hu (so_val (sd_callG h_must_have hr hgd g_must_have F_must_have.kp (bind_must_have F_must_have) tk (sa_cons (sd_var 1) (sa_cons (sd_tup (sa_cons sd_int (sa_cons sd_int sa_nil))) sa_nil)))) (so_val (sd_tup (sa_cons (sd_tup (sa_cons sd_non (sa_cons sd_non (sa_cons sd_int sa_nil)))) (sa_cons (sd_tup (sa_cons sd_non sa_nil)) sa_nil)))))))) (ss_one (ss_ret sd_bl)) ss_nil)
    (ss_cons (ss_set 3 (sd_tup (sa_cons (sd_tup (sa_cons sd_int (sa_cons sd_int (sa_cons sd_bl sa_nil)))) sa_nil)) sc__law_vents_right.nd)
    (ss_cons (ss_if (st_ne hu (so_val (sd_callG h_story_of hr hgd g_story_of F_story_of.kp (bind_story_of F_story_of) tk (sa_cons (sd_var 1) (sa_cons (sd_var 3) (sa_cons (sd_tup (sa_cons sd_int (sa_cons sd_int sa_nil))) sa_nil))))) (so_mul (so_val (sd_tup (sa_cons (sd_tup (sa_cons sd_int sa_nil)) sa_nil))) (so_add (so_val (sd_var 2)) (so_val sd_int)))) (ss_one (ss_ret sd_bl)) ss_nil)
    (ss_cons (ss_if (st_ne hu (so_val (sd_callG h_story_of hr hgd g_story_of F_story_of.kp (bind_story_of F_story_of) tk (sa_cons (sd_var 1) (sa_cons (sd_tup sa_nil) (sa_cons (sd_tup (sa_cons sd_int (sa_cons sd_int sa_nil))) sa_nil))))) (so_add (so_val (sd_tup (sa_cons (sd_tup (sa_cons sd_int sa_nil)) sa_nil))) (so_mul (so_val (sd_tup (sa_cons (sd_tup (sa_cons sd_int (sa_cons sd_int sa_nil))) sa_nil))) (so_val (sd_var 2))))) (ss_one (ss_ret sd_bl)) ss_nil)
    (ss_cons (ss_if (st_isnot (sd_callG h_is_story hr hgd g_is_story F_is_story.kp (bind_is_story F_is_story) tk (sa_cons (sd_var 1) (sa_cons (sd_tup sa_nil) (sa_cons (sd_tup (sa_cons sd_int (sa_cons sd_int sa_nil))) (sa_cons (sd_mat (so_mul (so_val (sd_tup (sa_cons (sd_tup (sa_cons sd_int sa_nil)) sa_nil))) (so_add (so_val (sd_var 2)) (so_val sd_int)))) sa_nil))))) sd_bl) (ss_one (ss_ret sd_bl)) ss_nil)
    (ss_one (ss_ret (sd_is (sd_callG h_is_story hr hgd g_is_story F_is_story.kp (bind_is_story F_is_story) tk (sa_cons (sd_var 1) (sa_cons (sd_tup sa_nil) (sa_cons (sd_tup (sa_cons sd_int (sa_cons sd_int sa_nil))) (sa_cons (sd_mat (so_add (so_val (sd_tup (sa_cons (sd_tup (sa_cons sd_int sa_nil)) (sa_cons (sd_tup (sa_cons sd_int (sa_cons sd_int sa_nil))) sa_nil)))) (so_mul (so_val (sd_tup (sa_cons (sd_tup (sa_cons sd_int (sa_cons sd_int sa_nil))) sa_nil))) (so_val (sd_sub (sd_var 2) sd_int))))) sa_nil))))) sd_bl)))))))))
theorem sc__law_trays_right : FnScope ["_law_yard"] [] (defScope t__law_trays_right) := ⟨rfl, rfl, rfl, by decide +kernel, rfl, by decide +kernel, by decide +kernel⟩
theorem bind__law_trays_right (F : Fun K "_law_trays_right" "_law_trays_right" t__law_trays_right f fd) : Binds K fd [] [] := F.binds (ps := []) fun _ _ _ _ _ _ us hl => match us, hl with | [], _ => rfl
theorem ok__law_trays_right (T : Top K mg) (F : Fun K "_law_trays_right" "_law_trays_right" t__law_trays_right f fd) : FnG P w K mg base 7 f fd [] (spOf K cl p__law_trays_right) := by
  obtain ⟨f_must_have, fd_must_have, F_must_have, g_must_have⟩ := T.d_must_have
  have h_must_have := (ok_must_have (P := P) (w := w) (base := base) (cl := cl) T F_must_have).mono (show 6 ≤ 6 by omega)
  obtain ⟨f_may_have, fd_may_have, F_may_have, g_may_have⟩ := T.d_may_have
  have h_may_have := (ok_may_have (P := P) (w := w) (base := base) (cl := cl) T F_may_have).mono (show 6 ≤ 6 by omega)
  obtain ⟨f_begins_of, fd_begins_of, F_begins_of, g_begins_of⟩ := T.d_begins_of
  have h_begins_of := (ok_begins_of (P := P) (w := w) (base := base) (cl := cl) T F_begins_of).mono (show 6 ≤ 6 by omega)
  obtain ⟨f_called, fd_called, F_called, g_called⟩ := T.d_called
  have h_called := (ok_called (P := P) (w := w) (base := base) (cl := cl) T F_called).mono (show 6 ≤ 6 by omega)
  obtain ⟨f_story_of, fd_story_of, F_story_of, g_story_of⟩ := T.d_story_of
  have h_story_of := (ok_story_of (P := P) (w := w) (base := base) (cl := cl) T F_story_of).mono (show 6 ≤ 6 by omega)
  unfold p__law_trays_right
  refine fng_ok (np := 0) (ns := 1) F sc__law_trays_right rfl rfl (fun cdv A outer s H E hr hgd tk => ?_)
  have hu := hu65 hr
  exact (ss_cons (ss_set 0 (sd_tup (sa_cons sd_int (sa_cons (sd_tup (sa_cons (sd_tup (sa_cons sd_int (sa_cons sd_int (sa_cons sd_int sa_nil)))) (sa_cons (sd_tup (sa_cons sd_int (sa_cons sd_int (sa_cons sd_int sa_nil)))) sa_nil))) (sa_cons (sd_tup (sa_cons (sd_tup sa_nil) (sa_cons (sd_tup sa_nil) sa_nil))) sa_nil)))) sc__law_trays_right.nd)
    (ss_cons (ss_if (st_of (sw_or (st_ne hu (so_val (sd_callG h_must_have hr hgd g_must_have F_must_have.kp (bind_must_have F_must_have) tk (sa_cons (sd_var 0) (sa_cons (sd_tup (sa_cons sd_int (sa_cons sd_int sa_nil))) sa_nil)))) (so_val (sd_tup (sa_cons (sd_tup (sa_cons sd_int (sa_cons sd_int (sa_cons sd_int sa_nil)))) (sa_cons (sd_tup (sa_cons sd_int (sa_cons sd_int sa_nil))) sa_nil))))) (sw_or1 (st_ne hu (so_val (sd_callG h_may_have hr hgd g_may_have F_may_have.kp (bind_may_have F_may_have) tk (sa_cons (sd_var 0) (sa_cons (sd_tup (sa_cons sd_int (sa_cons sd_int sa_nil))) sa_nil)))) (so_val (sd_tup (sa_cons (sd_tup (sa_cons sd_int (sa_cons sd_int (sa_cons sd_int sa_nil)))) (sa_cons (sd_tup (sa_cons sd_int (sa_cons sd_int sa_nil))) sa_nil)))))))) (ss_one (ss_ret sd_bl)) ss_nil)
    (ss_cons (ss_if (st_of (sw_or (st_ne hu (so_val (sd_callG h_begins_of hr hgd g_begins_of F_begins_of.kp (bind_begins_of F_begins_of) tk (sa_cons (sd_var 0) (sa_cons (sd_tup (sa_cons (sd_tup (sa_cons sd_int (sa_cons sd_int (sa_cons sd_bl sa_nil)))) sa_nil)) sa_nil)))) (so_val (sd_tup (sa_cons (sd_tup (sa_cons sd_int (sa_cons sd_int sa_nil))) (sa_cons (sd_tup (sa_cons sd_int (sa_cons sd_int sa_nil))) (sa_cons (sd_tup (sa_cons sd_int (sa_cons sd_int sa_nil))) sa_nil)))))) (sw_or1 (st_ne hu (so_val (sd_callG h_called hr hgd g_called F_called.kp (bind_called F_called) tk (sa_cons (sd_var 0) (sa_cons (sd_tup (sa_cons (sd_tup (sa_cons sd_int (sa_cons sd_int (sa_cons sd_bl sa_nil)))) sa_nil)) sa_nil)))) (so_val (sd_tup (sa_cons sd_int (sa_cons sd_int sa_nil)))))))) (ss_one (ss_ret sd_bl)) ss_nil)
    (ss_cons (ss_if (st_isnot (sd_callG h_story_of hr hgd g_story_of F_story_of.kp (bind_story_of F_story_of) tk (sa_cons (sd_var 0) (sa_cons (sd_tup (sa_cons (sd_tup (sa_cons sd_int (sa_cons sd_int (sa_cons sd_bl sa_nil)))) (sa_cons (sd_tup (sa_cons sd_int (sa_cons sd_int (sa_cons sd_bl sa_nil)))) sa_nil))) (sa_cons (sd_tup (sa_cons sd_int (sa_cons sd_int sa_nil))) sa_nil)))) sd_non) (ss_one (ss_ret sd_bl)) ss_nil)
    (ss_one (ss_ret (sd_eq hu (so_val (sd_callG h_story_of hr hgd g_story_of F_story_of.kp (bind_story_of F_story_of) tk (sa_cons (sd_var 0) (sa_cons (sd_tup (sa_cons (sd_tup (sa_cons sd_int (sa_cons sd_int (sa_cons sd_bl sa_nil)))) (sa_cons (sd_tup (sa_cons sd_int (sa_cons sd_int (sa_cons sd_bl sa_nil)))) sa_nil))) (sa_cons (sd_tup (sa_cons sd_int (sa_cons sd_int sa_nil))) sa_nil))))) (so_val (sd_tup (sa_cons (sd_tup (sa_cons sd_int sa_nil)) (sa_cons (sd_tup (sa_cons sd_int sa_nil)) (sa_cons (sd_tup (sa_cons sd_int (sa_cons sd_int sa_nil))) sa_nil))))))))))))
theorem sc_law : FnScope ["_law_script", "_law_pen", "_law_more"] ["_law_script"] (defScope t_law) := ⟨rfl, rfl, rfl, by decide +kernel, rfl, by decide +kernel, by decide +kernel⟩
theorem bind_law (F : Fun K "law" "law" t_law f fd) : Binds K fd ["_law_script"] [] := F.binds (ps := ["_law_script"]) fun _ _ _ _ _ _ us hl => match us, hl with | [_], _ => rfl
theorem ok_law (T : Top K mg) (F : Fun K "law" "law" t_law f fd) : FnG P w K mg base 8 f fd ["_law_script"] (spOf K cl p_law) := by
  obtain ⟨f__law_pen_of, fd__law_pen_of, F__law_pen_of, g__law_pen_of⟩ := T.d__law_pen_of
  have h__law_pen_of := (ok__law_pen_of (P := P) (w := w) (base := base) (cl := cl) T F__law_pen_of).mono (show 1 ≤ 7 by omega)
  obtain ⟨f__law_cell_at, fd__law_cell_at, F__law_cell_at, g__law_cell_at⟩ := T.d__law_cell_at
  have h__law_cell_at := (ok__law_cell_at (P := P) (w := w) (base := base) (cl := cl) T F__law_cell_at).mono (show 1 ≤ 7 by omega)
  obtain ⟨f__law_draw, fd__law_draw, F__law_draw, g__law_draw⟩ := T.d__law_draw
  have h__law_draw := (ok__law_draw (P := P) (w := w) (base := base) (cl := cl) T F__law_draw).mono (show 2 ≤ 7 by omega)
  obtain ⟨f__law_clear_right, fd__law_clear_right, F__law_clear_right, g__law_clear_right⟩ := T.d__law_clear_right
  have h__law_clear_right := (ok__law_clear_right (P := P) (w := w) (base := base) (cl := cl) T F__law_clear_right).mono (show 7 ≤ 7 by omega)
  obtain ⟨f__law_vents_right, fd__law_vents_right, F__law_vents_right, g__law_vents_right⟩ := T.d__law_vents_right
  have h__law_vents_right := (ok__law_vents_right (P := P) (w := w) (base := base) (cl := cl) T F__law_vents_right).mono (show 7 ≤ 7 by omega)
  obtain ⟨f__law_trays_right, fd__law_trays_right, F__law_trays_right, g__law_trays_right⟩ := T.d__law_trays_right
  have h__law_trays_right := (ok__law_trays_right (P := P) (w := w) (base := base) (cl := cl) T F__law_trays_right).mono (show 7 ≤ 7 by omega)
  refine fng_ok (np := 1) (ns := 3) F sc_law rfl rfl (fun cdv A outer s H E hr hgd tk => ?_)
  have hu := hu65 hr
  exact (ss_cons (ss_set 1 (sd_callG h__law_pen_of hr hgd g__law_pen_of F__law_pen_of.kp (bind__law_pen_of F__law_pen_of) tk (sa_cons (sd_callG h__law_cell_at hr hgd g__law_cell_at F__law_cell_at.kp (bind__law_cell_at F__law_cell_at) tk (sa_cons (sd_var 0) (sa_cons sd_int sa_nil))) sa_nil)) sc_law.nd)
    (ss_cons (ss_set 2 (sd_callG h__law_draw hr hgd g__law_draw F__law_draw.kp (bind__law_draw F__law_draw) tk (sa_cons (sd_var 1) (sa_cons sd_int sa_nil))) sc_law.nd)
    (ss_one (ss_ret (sd_and (sd_callG h__law_clear_right hr hgd g__law_clear_right F__law_clear_right.kp (bind__law_clear_right F__law_clear_right) tk (sa_cons (sd_var 2) sa_nil)) (sd_and (sd_callG h__law_vents_right hr hgd g__law_vents_right F__law_vents_right.kp (bind__law_vents_right F__law_vents_right) tk (sa_cons (sd_var 2) sa_nil)) (sd_one (sd_callG0 h__law_trays_right hr hgd g__law_trays_right F__law_trays_right.kp (bind__law_trays_right F__law_trays_right) tk))))))))
end
end Gb

namespace Gb
open PySem L2
def u_is_whole : US := uRet (uAnd (u1 (gIsi .int) (uVar 0)) (uNot (u1 (gIsi .bl) (uVar 0))))
theorem j_is_whole : SU ⟨[], [], [], false, []⟩ (b_is_whole) (u_is_whole) := by
  unfold b_is_whole u_is_whole
  exact (us_ret rfl (ue_and (ue_m1 g_isi (uo_w (uo_val (ue_var (by decide))))) (ue_not (ue_m1 g_isi (uo_w (uo_val (ue_var (by decide))))))))
def F_is_whole : UF := uRunP false 1 1 u_is_whole
theorem k_is_whole : FP false p_is_whole F_is_whole := fp_of j_is_whole (by decide)
def u_hours_of : US := uRet (u2 gAdd (u1 gLen (u2 gIx (uVar 0) (uC (.int 2)))) (uC (.int 1)))
theorem j_hours_of : SU ⟨[], [], [], false, []⟩ (b_hours_of) (u_hours_of) := by
  unfold b_hours_of u_hours_of
  exact (us_ret rfl (ue_mat (ue_m2 g_add (uo_val (ue_m1 g_len (uo_w (uo_val (ue_m2 g_ix (uo_val (ue_var (by decide))) (uo_w (uo_val ue_c))))))) (uo_w (uo_val ue_c)))))
def F_hours_of : UF := uRunP false 1 1 u_hours_of
theorem k_hours_of : FP false p_hours_of F_hours_of := fp_of j_hours_of (by decide)
def v_bays_brought_0 : US := uSIf (uTst (u1 gAny (uNew (uLc (uEnu (uVar 2)) (.tup [.name 5, .name 6]) (uTYes) (u2 (gIn id) (u2 gIx (uVar 4) (uVar 5)) (uVar 6)) [5, 6]))) gTruth) (uDrop (uMt fAppend 3 (uCons (u2 gIx (uVar 4) (uVar 1)) (uNil)))) (uNext)
theorem w_bays_brought_0 : SU ⟨[3], [], [3], true, []⟩ (l_bays_brought_0) (v_bays_brought_0) := by
  unfold l_bays_brought_0 v_bays_brought_0
  exact (us_if (ut_truth (ue_m1 g_any (uo_w (uo_new (ua_lc (X := []) (ui_enu (ux_v (uo_val (ue_var (by decide))))) (by decide) (by decide) (by decide) ut_yes (ue_m2 g_in (uo_val (ue_m2 g_ix (uo_val (ue_var (by decide))) (uo_w (uo_val (ue_var (by decide)))))) (uo_w (uo_val (ue_var (by decide)))))))))) (us_drop (ue_mt m_append (by decide) (by decide) (ua_cons (ue_m2 g_ix (uo_val (ue_var (by decide))) (uo_w (uo_val (ue_var (by decide))))) ua_nil))) us_next)
def u_bays_brought : US := uSeq (uAsg (uNew (uDisp (uNil))) (.name 3)) (uSeq (uFor (uSrc (u2 gIx (uVar 0) (uC (.int 1)))) (.name 4) (v_bays_brought_0) [4]) (uRet (uMove 3)))
theorem j_bays_brought : SU ⟨[3], [], [3], true, []⟩ (b_bays_brought) (u_bays_brought) := by
  unfold b_bays_brought u_bays_brought
  exact (us_seq (us_asgN (un_new (ua_disp ua_nil)) (by decide) (by decide))
    (us_seq (us_for (X := []) (M' := [3]) (by decide) (ui_src (ux_v (uo_val (ue_m2 g_ix (uo_val (ue_var (by decide))) (uo_w (uo_val ue_c)))))) (by decide) (by decide) (by decide) w_bays_brought_0)
    (us_retOwn (by decide) (by decide))))
def F_bays_brought : UF := uRunP true 3 7 u_bays_brought
theorem k_bays_brought : FP true p_bays_brought F_bays_brought := fp_of j_bays_brought (by decide)
def u_bays_blown : US := uSeq (uAsg (u2 gIx (u2 gIx (uVar 0) (uC (.int 2))) (uVar 1)) (.name 3)) (uRet (uIf (uTst (u1 gAny (uNew (uLc (uSrc (uVar 2)) (.name 4) (uTYes) (u2 (gIn id) (uVar 4) (uVar 3)) [4]))) gTruth) (uNew (u1 gSeq (uVar 3))) (uNew (uDisp (uNil)))))
theorem j_bays_blown : SU ⟨[], [], [], false, []⟩ (b_bays_blown) (u_bays_blown) := by
  unfold b_bays_blown u_bays_blown
  exact (us_seq (us_asg (ue_m2 g_ix (uo_val (ue_m2 g_ix (uo_val (ue_var (by decide))) (uo_w (uo_val ue_c)))) (uo_w (uo_val (ue_var (by decide))))) (by decide))
    (us_ret rfl (ue_if (ut_truth (ue_m1 g_any (uo_w (uo_new (ua_lc (X := []) (ui_src (ux_v (uo_val (ue_var (by decide))))) (by decide) (by decide) (by decide) ut_yes (ue_m2 g_in (uo_val (ue_var (by decide))) (uo_w (uo_val (ue_var (by decide)))))))))) (ue_mat (uo_new (ue_m1 g_list (uo_w (uo_val (ue_var (by decide))))))) (ue_mat (uo_new (ua_disp ua_nil))))))
def F_bays_blown : UF := uRunP false 3 5 u_bays_blown
theorem k_bays_blown : FP false p_bays_blown F_bays_blown := fp_of j_bays_blown (by decide)
def u__law_cell_at : US := uSeq (uSIf (uTB (uBin gLt (uVar 1) (u1 gLen (uVar 0)))) (uRet (u2 gIx (uVar 0) (uVar 1))) (uNext)) (uRet (uC (.int 0)))
theorem j__law_cell_at : SU ⟨[], [], [], false, []⟩ (b__law_cell_at) (u__law_cell_at) := by
  unfold b__law_cell_at u__law_cell_at
  exact (us_seq (us_if (ut_tb (ue_bin g_cmp (ue_var (by decide)) (ue_m1 g_len (uo_w (uo_val (ue_var (by decide))))))) (us_ret rfl (ue_m2 g_ix (uo_val (ue_var (by decide))) (uo_w (uo_val (ue_var (by decide)))))) us_next)
    (us_ret rfl ue_c))
def F__law_cell_at : UF := uRunP false 2 2 u__law_cell_at
theorem k__law_cell_at : FP false p__law_cell_at F__law_cell_at := fp_of j__law_cell_at (by decide)
def u__law_next : US := uSeq (uAsg (uBin gMod (u2 gAdd (uVar 0) (uC (.int 7919))) (uC (.int 2147483647))) (.name 0)) (uRet (uBin gMod (u2 gAdd (u2 gAdd (u2 gMul (uVar 0) (uVar 0)) (u2 gMul (uC (.int 48271)) (uVar 0))) (uC (.int 12345))) (uC (.int 2147483629))))
theorem j__law_next : SU ⟨[], [], [], false, []⟩ (b__law_next) (u__law_next) := by
  unfold b__law_next u__law_next
  exact (us_seq (us_asg (ue_bin g_mod (ue_mat (ue_m2 g_add (uo_val (ue_var (by decide))) (uo_w (uo_val ue_c)))) ue_c) (by decide))
    (us_ret rfl (ue_bin g_mod (ue_mat (ue_m2 g_add (ue_m2 g_add (ue_m2 g_mul (uo_val (ue_var (by decide))) (uo_w (uo_val (ue_var (by decide))))) (uo_w (ue_m2 g_mul (uo_val ue_c) (uo_w (uo_val (ue_var (by decide))))))) (uo_w (uo_val ue_c)))) ue_c)))
def F__law_next : UF := uRunP false 1 1 u__law_next
theorem k__law_next : FP false p__law_next F__law_next := fp_of j__law_next (by decide)
def u__law_pen_of : US := uSeq (uAsg (u2 gMax2 (uVar 0) (uBin gSub (uC (.int 0)) (uVar 0))) (.name 1)) (uRet (uNew (uDisp (uCons (uVar 1) (uCons (u1 gInt (uBin gGe (uVar 1) (uBin gPow (uC (.int 10)) (uC (.int 18))))) (uCons (uBin gMod (uVar 1) (uC (.int 1000003))) (uNil)))))))
theorem j__law_pen_of : SU ⟨[], [], [], true, []⟩ (b__law_pen_of) (u__law_pen_of) := by
  unfold b__law_pen_of u__law_pen_of
  exact (us_seq (us_asg (ue_m2 g_max2 (uo_val (ue_var (by decide))) (uo_w (uo_val (ue_bin g_sub ue_c (ue_var (by decide)))))) (by decide))
    (us_retNew (un_new (ua_disp (ua_cons (ue_var (by decide)) (ua_cons (ue_m1 g_int (uo_w (uo_val (ue_bin g_cmp (ue_var (by decide)) (ue_bin g_pow ue_c ue_c))))) (ua_cons (ue_bin g_mod (ue_var (by decide)) ue_c) ua_nil)))))))
def F__law_pen_of : UF := uRunP true 1 2 u__law_pen_of
theorem k__law_pen_of : FP true p__law_pen_of F__law_pen_of := fp_of j__law_pen_of (by decide)
def u_is_among : US := uRet (uAnd (uCall F_is_whole (uCons (uVar 0) (uNil))) (uChain gLe gLe (uVar 1) (uVar 0) (uVar 2)))
theorem j_is_among : SU ⟨[], [], [], false, []⟩ (b_is_among) (u_is_among) := by
  unfold b_is_among u_is_among
  exact (us_ret rfl (ue_and (ue_call k_is_whole (ua_cons (ue_var (by decide)) ua_nil)) (ue_chain g_cmp g_cmp (ue_var (by decide)) (ue_var (by decide)) (ue_var (by decide)))))
def F_is_among : UF := uRunP false 3 3 u_is_among
theorem k_is_among : FP false p_is_among F_is_among := fp_of j_is_among (by decide)
def v_grown_from_0 : US := uSeq (uAsg (uIf (uTB (uBin (gIs not) (uVar 2) (uC .non))) (uCall F_bays_blown (uCons (uVar 0) (uCons (uBin gSub (uVar 6) (uC (.int 1))) (uCons (u2o gIx 5 (uUn gNeg (uC (.int 1)))) (uNil))))) (uNew (uDisp (uNil)))) (.name 7)) (uSeq (uAsg (uNew (uLc (uSrc (uVar 7)) (.name 8) (uTB (u2 (gIn not) (uVar 8) (u2 gIx (uVar 2) (uVar 6)))) (uVar 8) [8])) (.name 7)) (uDrop (uMt fAppend 5 (uCons (u1 gTuple (uNew (u1 gSortSet (u2 gAdd (u2 gAdd (uNew (u1 gSeq (u2o gIx 5 (uUn gNeg (uC (.int 1)))))) (uCallBF F_bays_brought (uCons (uVar 0) (uCons (uVar 6) (uCons (uVar 5) (uNil)))))) (uVar 7))))) (uNil)))))
theorem w_grown_from_0 : SU ⟨[5], [], [5], false, []⟩ (l_grown_from_0) (v_grown_from_0) := by
  unfold l_grown_from_0 v_grown_from_0
  exact (us_seq (us_asg (ue_if (ut_tb (ue_bin g_isnot (ue_var (by decide)) ue_c)) (ue_call k_bays_blown (ua_cons (ue_var (by decide)) (ua_cons (ue_bin g_sub (ue_var (by decide)) ue_c) (ua_cons (ue_m2o g_ix (by decide) (uo_w (uo_val (ue_un g_neg ue_c)))) ua_nil)))) (ue_mat (uo_new (ua_disp ua_nil)))) (by decide))
    (us_seq (us_asg (ue_mat (uo_new (ua_lc (X := []) (ui_src (ux_v (uo_val (ue_var (by decide))))) (by decide) (by decide) (by decide) (ut_tb (ue_m2 g_in (uo_val (ue_var (by decide))) (uo_w (uo_val (ue_m2 g_ix (uo_val (ue_var (by decide))) (uo_w (uo_val (ue_var (by decide))))))))) (ue_var (by decide))))) (by decide))
    (us_drop (ue_mt m_append (by decide) (by decide) (ua_cons (ue_m1 g_tuple (uo_w (uo_new (ue_m1 g_sortSet (uo_w (ue_m2 g_add (ue_m2 g_add (uo_new (ue_m1 g_list (uo_w (uo_val (ue_m2o g_ix (by decide) (uo_w (uo_val (ue_un g_neg ue_c)))))))) (uo_w (uo_val (ue_callBF k_bays_brought (ub_cons (ub_of (ue_var (by decide))) (ub_cons (ub_of (ue_var (by decide))) (ub_cons (ub_own (by decide)) ub_nil))))))) (uo_w (uo_val (ue_var (by decide)))))))))) ua_nil)))))
def u_grown_from : US := uSeq (uAsg (uVar 1) (.tup [.name 3, .name 4])) (uSeq (uAsg (u2 gCat (u2 gMul (uNew (uDisp (uCons (uTup (uNil)) (uNil)))) (uVar 3)) (uNew (uDisp (uCons (uTup (uCons (uVar 4) (uNil))) (uNil))))) (.name 5)) (uSeq (uFor (uR2 (u2 gAdd (uVar 3) (uC (.int 1))) (uCall F_hours_of (uCons (uVar 0) (uNil)))) (.name 6) (v_grown_from_0) [6, 7]) (uRet (u1 gTuple (uVar 5)))))
theorem j_grown_from : SU ⟨[5], [], [5], false, []⟩ (b_grown_from) (u_grown_from) := by
  unfold b_grown_from u_grown_from
  exact (us_seq (us_asg (ue_var (by decide)) (by decide))
    (us_seq (us_asgN (ue_m2 n_cat (ue_m2 g_mul (uo_new (ua_disp (ua_cons (ue_tup ua_nil) ua_nil))) (uo_w (uo_val (ue_var (by decide))))) (uo_w (uo_new (ua_disp (ua_cons (ue_tup (ua_cons (ue_var (by decide)) ua_nil)) ua_nil))))) (by decide) (by decide))
    (us_seq (us_for (X := []) (M' := [5]) (by decide) (ui_r2 (ue_mat (ue_m2 g_add (uo_val (ue_var (by decide))) (uo_w (uo_val ue_c)))) (ue_call k_hours_of (ua_cons (ue_var (by decide)) ua_nil))) (by decide) (by decide) (by decide) w_grown_from_0)
    (us_ret rfl (ue_m1 g_tuple (uo_own (by decide)))))))
def F_grown_from : UF := uRunP false 3 9 u_grown_from
theorem k_grown_from : FP false p_grown_from F_grown_from := fp_of j_grown_from (by decide)
def u_first_hours : US := uSeq (uAsg (uNew (uRgL1 (uCall F_hours_of (uCons (uVar 0) (uNil))))) (.name 2)) (uSeq (uAsg (uNew (uLc (uR1 (u2 gIx (uVar 0) (uC (.int 0)))) (.name 5) (uTYes) (u1 gMinN (uNew (uLc (uSrc (uVar 2)) (.name 6) (uTB (u2 (gIn id) (uVar 5) (u2 gIx (uVar 1) (uVar 6)))) (uVar 6) [6]))) [5])) (.name 3)) (uSeq (uAsg (uNew (uLc (uSrc (u2 gIx (uVar 0) (uC (.int 1)))) (.name 7) (uTYes) (u1 gMinN (uNew (uLc (uSrc (uVar 2)) (.name 6) (uTB (u2 (gIn id) (u2 gIx (uVar 7) (uVar 6)) (u2 gIx (uVar 1) (uVar 6)))) (uVar 6) [6]))) [7])) (.name 4)) (uRet (uTup (uCons (u1 gTuple (uVar 3)) (uCons (u1 gTuple (uVar 4)) (uNil)))))))
theorem j_first_hours : SU ⟨[], [], [], false, []⟩ (b_first_hours) (u_first_hours) := by
  unfold b_first_hours u_first_hours
  exact (us_seq (us_asg (ue_mat (uo_new (ua_rgL1 (ue_call k_hours_of (ua_cons (ue_var (by decide)) ua_nil))))) (by decide))
    (us_seq (us_asg (ue_mat (uo_new (ua_lc (X := []) (ui_r1 (ue_m2 g_ix (uo_val (ue_var (by decide))) (uo_w (uo_val ue_c)))) (by decide) (by decide) (by decide) ut_yes (ue_m1 g_minN (uo_w (uo_new (ua_lc (X := []) (ui_src (ux_v (uo_val (ue_var (by decide))))) (by decide) (by decide) (by decide) (ut_tb (ue_m2 g_in (uo_val (ue_var (by decide))) (uo_w (uo_val (ue_m2 g_ix (uo_val (ue_var (by decide))) (uo_w (uo_val (ue_var (by decide))))))))) (ue_var (by decide))))))))) (by decide))
    (us_seq (us_asg (ue_mat (uo_new (ua_lc (X := []) (ui_src (ux_v (uo_val (ue_m2 g_ix (uo_val (ue_var (by decide))) (uo_w (uo_val ue_c)))))) (by decide) (by decide) (by decide) ut_yes (ue_m1 g_minN (uo_w (uo_new (ua_lc (X := []) (ui_src (ux_v (uo_val (ue_var (by decide))))) (by decide) (by decide) (by decide) (ut_tb (ue_m2 g_in (uo_val (ue_m2 g_ix (uo_val (ue_var (by decide))) (uo_w (uo_val (ue_var (by decide)))))) (uo_w (uo_val (ue_m2 g_ix (uo_val (ue_var (by decide))) (uo_w (uo_val (ue_var (by decide))))))))) (ue_var (by decide))))))))) (by decide))
    (us_ret rfl (ue_tup (ua_cons (ue_m1 g_tuple (uo_w (uo_val (ue_var (by decide))))) (ua_cons (ue_m1 g_tuple (uo_w (uo_val (ue_var (by decide))))) ua_nil)))))))
def F_first_hours : UF := uRunP false 2 8 u_first_hours
theorem k_first_hours : FP false p_first_hours F_first_hours := fp_of j_first_hours (by decide)
def v_barred_by_0 : US := uSIf (uTst (u1 gAny (uNew (uLc (uEnu (uVar 2)) (.tup [.name 6, .name 9]) (uTYes) (u2 (gIn id) (u2 gIx (uVar 5) (u2 gAdd (u2 gAdd (uVar 3) (uC (.int 1))) (uVar 6))) (uVar 9)) [6, 9]))) gTruth) (uDrop (uMt fAppend 4 (uCons (u2 gIx (uVar 5) (uVar 3)) (uNil)))) (uNext)
theorem w_barred_by_0 : SU ⟨[4], [], [4], false, []⟩ (l_barred_by_0) (v_barred_by_0) := by
  unfold l_barred_by_0 v_barred_by_0
  exact (us_if (ut_truth (ue_m1 g_any (uo_w (uo_new (ua_lc (X := []) (ui_enu (ux_v (uo_val (ue_var (by decide))))) (by decide) (by decide) (by decide) ut_yes (ue_m2 g_in (uo_val (ue_m2 g_ix (uo_val (ue_var (by decide))) (uo_w (ue_m2 g_add (ue_m2 g_add (uo_val (ue_var (by decide))) (uo_w (uo_val ue_c))) (uo_w (uo_val (ue_var (by decide)))))))) (uo_w (uo_val (ue_var (by decide)))))))))) (us_drop (ue_mt m_append (by decide) (by decide) (ua_cons (ue_m2 g_ix (uo_val (ue_var (by decide))) (uo_w (uo_val (ue_var (by decide))))) ua_nil))) us_next)
def v_barred_by_1 : US := uSeq (uAsg (uNew (uLc (uSrc (uVar 1)) (.tup [.name 6, .name 7, .name 8]) (uTAnd (uTB (u2 (gEq id) (uVar 6) (uVar 3))) (uTNot (uTst (uVar 8) gTruth))) (uVar 7) [6, 7, 8])) (.name 4)) (uSeq (uSIf (uTB (u2 (gEqN not) (uVar 2) (uNew (uDisp (uNil))))) (uAsg (u2o gCat 4 (u2 gIx (uVar 2) (uC (.int 0)))) (.name 4)) (uNext)) (uSeq (uFor (uSrc (u2 gIx (uVar 0) (uC (.int 1)))) (.name 5) (v_barred_by_0) [5]) (uAsg (u2 gAdd (uNew (uDisp (uCons (uMove 4) (uNil)))) (uVar 2)) (.name 2))))
theorem w_barred_by_1 : SU ⟨[4], [], [4], false, []⟩ (l_barred_by_1) (v_barred_by_1) := by
  unfold l_barred_by_1 v_barred_by_1
  exact (us_seq (us_asgN (un_new (ua_lc (X := []) (ui_src (ux_v (uo_val (ue_var (by decide))))) (by decide) (by decide) (by decide) (ut_and (ut_tb (ue_m2 g_eq (uo_val (ue_var (by decide))) (uo_w (uo_val (ue_var (by decide)))))) (ut_not (ut_truth (ue_var (by decide))))) (ue_var (by decide)))) (by decide) (by decide))
    (us_seq (us_if (ut_tb (ue_m2 g_eqN (uo_val (ue_var (by decide))) (uo_w (uo_new (ua_disp ua_nil))))) (us_asgN (ue_m2o n_cat (by decide) (uo_w (uo_val (ue_m2 g_ix (uo_val (ue_var (by decide))) (uo_w (uo_val ue_c)))))) (by decide) (by decide)) us_next)
    (us_seq (us_for (X := []) (M' := [4]) (by decide) (ui_src (ux_v (uo_val (ue_m2 g_ix (uo_val (ue_var (by decide))) (uo_w (uo_val ue_c)))))) (by decide) (by decide) (by decide) w_barred_by_0)
    (us_asg (ue_mat (ue_m2 g_add (uo_new (ua_disp (ua_cons (ue_move (by decide) (by decide)) ua_nil))) (uo_w (uo_val (ue_var (by decide)))))) (by decide)))))
def u_barred_by : US := uSeq (uAsg (uNew (uDisp (uNil))) (.name 2)) (uSeq (uFor (uR3 (uBin gSub (uCall F_hours_of (uCons (uVar 0) (uNil))) (uC (.int 1))) (uUn gNeg (uC (.int 1))) (uUn gNeg (uC (.int 1)))) (.name 3) (v_barred_by_1) [3, 4, 5]) (uRet (uVar 2)))
theorem j_barred_by : SU ⟨[4], [], [4], false, []⟩ (b_barred_by) (u_barred_by) := by
  unfold b_barred_by u_barred_by
  exact (us_seq (us_asg (ue_mat (uo_new (ua_disp ua_nil))) (by decide))
    (us_seq (us_for (X := []) (M' := [4]) (by decide) (ui_r3 (ue_bin g_sub (ue_call k_hours_of (ua_cons (ue_var (by decide)) ua_nil)) ue_c) (ue_un g_neg ue_c) (ue_un g_neg ue_c)) (by decide) (by decide) (by decide) w_barred_by_1)
    (us_ret rfl (ue_var (by decide)))))
def F_barred_by : UF := uRunP false 2 10 u_barred_by
theorem k_barred_by : FP false p_barred_by F_barred_by := fp_of j_barred_by (by decide)
def u_goes_on : US := uSeq (uAsg (uTup (uCons (u2 gIx (uVar 2) (uBin gSub (uVar 1) (uC (.int 1)))) (uCons (u2 gIx (uVar 2) (uVar 1)) (uNil)))) (.tup [.name 3, .name 4])) (uSeq (uAsg (u2 gAdd (uNew (u1 gSeq (uVar 3))) (uCall F_bays_brought (uCons (uVar 0) (uCons (uVar 1) (uCons (uSl gSl (uVar 2) (upNone) (upSome (uVar 1))) (uNil)))))) (.name 5)) (uSeq (uAsg (u2 gAdd (uVar 5) (uCall F_bays_blown (uCons (uVar 0) (uCons (uBin gSub (uVar 1) (uC (.int 1))) (uCons (uVar 3) (uNil)))))) (.name 6)) (uRet (uAnd (u1 gAll (uNew (uLc (uSrc (uVar 5)) (.name 7) (uTYes) (u2 (gIn id) (uVar 7) (uVar 4)) [7]))) (u1 gAll (uNew (uLc (uSrc (uVar 4)) (.name 7) (uTYes) (u2 (gIn id) (uVar 7) (uVar 6)) [7])))))))
theorem j_goes_on : SU ⟨[], [], [], false, []⟩ (b_goes_on) (u_goes_on) := by
  unfold b_goes_on u_goes_on
  exact (us_seq (us_asg (ue_tup (ua_cons (ue_m2 g_ix (uo_val (ue_var (by decide))) (uo_w (uo_val (ue_bin g_sub (ue_var (by decide)) ue_c)))) (ua_cons (ue_m2 g_ix (uo_val (ue_var (by decide))) (uo_w (uo_val (ue_var (by decide))))) ua_nil))) (by decide))
    (us_seq (us_asg (ue_mat (ue_m2 g_add (uo_new (ue_m1 g_list (uo_w (uo_val (ue_var (by decide)))))) (uo_w (uo_val (ue_call k_bays_brought (ua_cons (ue_var (by decide)) (ua_cons (ue_var (by decide)) (ua_cons (ue_mat (uo_sl g_sl (uo_val (ue_var (by decide))) up_none (up_some (ue_var (by decide))))) ua_nil)))))))) (by decide))
    (us_seq (us_asg (ue_mat (ue_m2 g_add (uo_val (ue_var (by decide))) (uo_w (uo_val (ue_call k_bays_blown (ua_cons (ue_var (by decide)) (ua_cons (ue_bin g_sub (ue_var (by decide)) ue_c) (ua_cons (ue_var (by decide)) ua_nil)))))))) (by decide))
    (us_ret rfl (ue_and (ue_m1 g_all (uo_w (uo_new (ua_lc (X := []) (ui_src (ux_v (uo_val (ue_var (by decide))))) (by decide) (by decide) (by decide) ut_yes (ue_m2 g_in (uo_val (ue_var (by decide))) (uo_w (uo_val (ue_var (by decide))))))))) (ue_m1 g_all (uo_w (uo_new (ua_lc (X := []) (ui_src (ux_v (uo_val (ue_var (by decide))))) (by decide) (by decide) (by decide) ut_yes (ue_m2 g_in (uo_val (ue_var (by decide))) (uo_w (uo_val (ue_var (by decide))))))))))))))
def F_goes_on : UF := uRunP false 3 8 u_goes_on
theorem k_goes_on : FP false p_goes_on F_goes_on := fp_of j_goes_on (by decide)
def u__law_draw : US := uSeq (uSIf (uTAnd (uTB (u2 (gEq id) (u2o gIx 0 (uC (.int 1))) (uC (.int 1)))) (uTB (uBin gGt (u2o gIx 0 (uC (.int 0))) (uC (.int 0))))) (uSeq (uAsg (uBin gMod (u2o gIx 0 (uC (.int 0))) (uVar 1)) (.name 2)) (uSeq (uSub (uBin gDiv (u2o gIx 0 (uC (.int 0))) (uVar 1)) 0 (uC (.int 0))) (uRet (uVar 2)))) (uNext)) (uSeq (uSub (uCall F__law_next (uCons (u2 gAdd (uCall F__law_next (uCons (u2o gIx 0 (uC (.int 2))) (uNil))) (uC (.int 7))) (uNil))) 0 (uC (.int 2))) (uRet (uBin gMod (uBin gDiv (u2o gIx 0 (uC (.int 2))) (uC (.int 64))) (uVar 1))))
theorem j__law_draw : SU ⟨[0], [0], [0], false, []⟩ (b__law_draw) (u__law_draw) := by
  unfold b__law_draw u__law_draw
  exact (us_seq (us_if (ut_and (ut_tb (ue_m2 g_eq (uo_val (ue_m2o g_ix (by decide) (uo_w (uo_val ue_c)))) (uo_w (uo_val ue_c)))) (ut_tb (ue_bin g_cmp (ue_m2o g_ix (by decide) (uo_w (uo_val ue_c))) ue_c))) (us_seq (us_asg (ue_bin g_mod (ue_m2o g_ix (by decide) (uo_w (uo_val ue_c))) (ue_var (by decide))) (by decide))
    (us_seq (us_sub (ue_bin g_div (ue_m2o g_ix (by decide) (uo_w (uo_val ue_c))) (ue_var (by decide))) (by decide) (by decide) ue_c)
    (us_ret rfl (ue_var (by decide))))) us_next)
    (us_seq (us_sub (ue_call k__law_next (ua_cons (ue_mat (ue_m2 g_add (uo_val (ue_call k__law_next (ua_cons (ue_m2o g_ix (by decide) (uo_w (uo_val ue_c))) ua_nil))) (uo_w (uo_val ue_c)))) ua_nil)) (by decide) (by decide) ue_c)
    (us_ret rfl (ue_bin g_mod (ue_bin g_div (ue_m2o g_ix (by decide) (uo_w (uo_val ue_c))) ue_c) (ue_var (by decide))))))
def F__law_draw : UG := uRunM false 2 3 u__law_draw
theorem k__law_draw : FM false p__law_draw F__law_draw := fm_of j__law_draw (by decide) (by decide)
def u_are_bays : US := uSeq (uSIf (uTOr (uTNot (uTst (u1 (gIsi .tup) (uVar 1)) gTruth)) (uTNot (uTst (u1 gAll (uNew (uLc (uSrc (uVar 1)) (.name 2) (uTYes) (uCall F_is_among (uCons (uVar 2) (uCons (uC (.int 0)) (uCons (uBin gSub (uVar 0) (uC (.int 1))) (uNil))))) [2]))) gTruth))) (uRet (uC (.bl false))) (uNext)) (uRet (u1 gAll (uNew (uLc (uZip2 (uVar 1) (uSl gSl (uVar 1) (upSome (uC (.int 1))) (upNone))) (.tup [.name 2, .name 3]) (uTYes) (uBin gLt (uVar 2) (uVar 3)) [2, 3]))))
theorem j_are_bays : SU ⟨[], [], [], false, []⟩ (b_are_bays) (u_are_bays) := by
  unfold b_are_bays u_are_bays
  exact (us_seq (us_if (ut_or (ut_not (ut_truth (ue_m1 g_isi (uo_w (uo_val (ue_var (by decide))))))) (ut_not (ut_truth (ue_m1 g_all (uo_w (uo_new (ua_lc (X := []) (ui_src (ux_v (uo_val (ue_var (by decide))))) (by decide) (by decide) (by decide) ut_yes (ue_call k_is_among (ua_cons (ue_var (by decide)) (ua_cons ue_c (ua_cons (ue_bin g_sub (ue_var (by decide)) ue_c) ua_nil))))))))))) (us_ret rfl ue_c) us_next)
    (us_ret rfl (ue_m1 g_all (uo_w (uo_new (ua_lc (X := []) (ui_zip2 (uo_val (ue_var (by decide))) (ux_v (uo_sl g_sl (uo_val (ue_var (by decide))) (up_some ue_c) up_none))) (by decide) (by decide) (by decide) ut_yes (ue_bin g_cmp (ue_var (by decide)) (ue_var (by decide)))))))))
def F_are_bays : UF := uRunP false 2 4 u_are_bays
theorem k_are_bays : FP false p_are_bays F_are_bays := fp_of j_are_bays (by decide)
def u_is_way : US := uRet (uAnd (u1 (gIsi .tup) (uVar 2)) (uAnd (u2 (gEq id) (u1 gLen (uVar 2)) (uVar 1)) (u1 gAll (uNew (uLc (uSrc (uVar 2)) (.name 3) (uTYes) (uCall F_is_among (uCons (uVar 3) (uCons (uC (.int 0)) (uCons (uBin gSub (uVar 0) (uC (.int 1))) (uNil))))) [3])))))
theorem j_is_way : SU ⟨[], [], [], false, []⟩ (b_is_way) (u_is_way) := by
  unfold b_is_way u_is_way
  exact (us_ret rfl (ue_and (ue_m1 g_isi (uo_w (uo_val (ue_var (by decide))))) (ue_and (ue_m2 g_eq (uo_val (ue_m1 g_len (uo_w (uo_val (ue_var (by decide)))))) (uo_w (uo_val (ue_var (by decide))))) (ue_m1 g_all (uo_w (uo_new (ua_lc (X := []) (ui_src (ux_v (uo_val (ue_var (by decide))))) (by decide) (by decide) (by decide) ut_yes (ue_call k_is_among (ua_cons (ue_var (by decide)) (ua_cons ue_c (ua_cons (ue_bin g_sub (ue_var (by decide)) ue_c) ua_nil)))))))))))
def F_is_way : UF := uRunP false 3 4 u_is_way
theorem k_is_way : FP false p_is_way F_is_way := fp_of j_is_way (by decide)
def u_is_begin : US := uSeq (uSIf (uTOr (uTNot (uTst (u1 (gIsi .tup) (uVar 1)) gTruth)) (uTB (u2 (gEq not) (u1 gLen (uVar 1)) (uC (.int 2))))) (uRet (uC (.bl false))) (uNext)) (uRet (uAnd (uCall F_is_among (uCons (u2 gIx (uVar 1) (uC (.int 0))) (uCons (uC (.int 0)) (uCons (uBin gSub (uCall F_hours_of (uCons (uVar 0) (uNil))) (uC (.int 1))) (uNil))))) (uCall F_is_among (uCons (u2 gIx (uVar 1) (uC (.int 1))) (uCons (uC (.int 0)) (uCons (uBin gSub (u2 gIx (uVar 0) (uC (.int 0))) (uC (.int 1))) (uNil)))))))
theorem j_is_begin : SU ⟨[], [], [], false, []⟩ (b_is_begin) (u_is_begin) := by
  unfold b_is_begin u_is_begin
  exact (us_seq (us_if (ut_or (ut_not (ut_truth (ue_m1 g_isi (uo_w (uo_val (ue_var (by decide))))))) (ut_tb (ue_m2 g_eq (uo_val (ue_m1 g_len (uo_w (uo_val (ue_var (by decide)))))) (uo_w (uo_val ue_c))))) (us_ret rfl ue_c) us_next)
    (us_ret rfl (ue_and (ue_call k_is_among (ua_cons (ue_m2 g_ix (uo_val (ue_var (by decide))) (uo_w (uo_val ue_c))) (ua_cons ue_c (ua_cons (ue_bin g_sub (ue_call k_hours_of (ua_cons (ue_var (by decide)) ua_nil)) ue_c) ua_nil)))) (ue_call k_is_among (ua_cons (ue_m2 g_ix (uo_val (ue_var (by decide))) (uo_w (uo_val ue_c))) (ua_cons ue_c (ua_cons (ue_bin g_sub (ue_m2 g_ix (uo_val (ue_var (by decide))) (uo_w (uo_val ue_c))) ue_c) ua_nil)))))))
def F_is_begin : UF := uRunP false 2 2 u_is_begin
theorem k_is_begin : FP false p_is_begin F_is_begin := fp_of j_is_begin (by decide)
def u_story_by : US := uSeq (uAsg (uVar 2) (.tup [.name 3, .name 4])) (uSeq (uAsg (uCall F_barred_by (uCons (uVar 0) (uCons (uVar 1) (uNil)))) (.name 5)) (uSeq (uSIf (uTB (u2 (gIn id) (uVar 4) (u2 gIx (uVar 5) (uVar 3)))) (uRet (uC .non)) (uNext)) (uSeq (uAsg (uCall F_grown_from (uCons (uVar 0) (uCons (uVar 2) (uCons (uVar 5) (uNil))))) (.name 6)) (uSeq (uSIf (uTNot (uTst (u1 gAll (uNew (uLc (uSrc (uVar 1)) (.tup [.name 7, .name 4, .name 8]) (uTst (uVar 8) gTruth) (u2 (gIn id) (uVar 4) (u2 gIx (uVar 6) (uVar 7))) [7, 4, 8]))) gTruth)) (uRet (uC .non)) (uNext)) (uRet (uVar 6))))))
theorem j_story_by : SU ⟨[], [], [], false, []⟩ (b_story_by) (u_story_by) := by
  unfold b_story_by u_story_by
  exact (us_seq (us_asg (ue_var (by decide)) (by decide))
    (us_seq (us_asg (ue_call k_barred_by (ua_cons (ue_var (by decide)) (ua_cons (ue_var (by decide)) ua_nil))) (by decide))
    (us_seq (us_if (ut_tb (ue_m2 g_in (uo_val (ue_var (by decide))) (uo_w (uo_val (ue_m2 g_ix (uo_val (ue_var (by decide))) (uo_w (uo_val (ue_var (by decide))))))))) (us_ret rfl ue_c) us_next)
    (us_seq (us_asg (ue_call k_grown_from (ua_cons (ue_var (by decide)) (ua_cons (ue_var (by decide)) (ua_cons (ue_var (by decide)) ua_nil)))) (by decide))
    (us_seq (us_if (ut_not (ut_truth (ue_m1 g_all (uo_w (uo_new (ua_lc (X := []) (ui_src (ux_v (uo_val (ue_var (by decide))))) (by decide) (by decide) (by decide) (ut_truth (ue_var (by decide))) (ue_m2 g_in (uo_val (ue_var (by decide))) (uo_w (uo_val (ue_m2 g_ix (uo_val (ue_var (by decide))) (uo_w (uo_val (ue_var (by decide)))))))))))))) (us_ret rfl ue_c) us_next)
    (us_ret rfl (ue_var (by decide))))))))
def F_story_by : UF := uRunP false 3 9 u_story_by
theorem k_story_by : FP false p_story_by F_story_by := fp_of j_story_by (by decide)
def u_is_yard : US := uSeq (uSIf (uTOr (uTNot (uTst (u1 (gIsi .tup) (uVar 0)) gTruth)) (uTOr (uTB (u2 (gEq not) (u1 gLen (uVar 0)) (uC (.int 3)))) (uTNot (uTst (uCall F_is_among (uCons (u2 gIx (uVar 0) (uC (.int 0))) (uCons (uC (.int (2))) (uCons (uC (.int (6))) (uNil))))) gTruth)))) (uRet (uC (.bl false))) (uNext)) (uSeq (uAsg (uVar 0) (.tup [.name 1, .name 2, .name 3])) (uSeq (uSIf (uTOr (uTNot (uTst (u1 (gIsi .tup) (uVar 3)) gTruth)) (uTOr (uTB (uBin gGt (u1 gLen (uVar 3)) (uC (.int (7))))) (uTNot (uTst (u1 gAll (uNew (uLc (uSrc (uVar 3)) (.name 4) (uTYes) (uCall F_are_bays (uCons (uVar 1) (uCons (uVar 4) (uNil)))) [4]))) gTruth)))) (uRet (uC (.bl false))) (uNext)) (uSeq (uSIf (uTOr (uTNot (uTst (u1 (gIsi .tup) (uVar 2)) gTruth)) (uTB (uBin gGt (u1 gLen (uVar 2)) (uC (.int (5)))))) (uRet (uC (.bl false))) (uNext)) (uRet (u1 gAll (uNew (uLc (uSrc (uVar 2)) (.name 4) (uTYes) (uCall F_is_way (uCons (uVar 1) (uCons (u2 gAdd (u1 gLen (uVar 3)) (uC (.int 1))) (uCons (uVar 4) (uNil))))) [4])))))))
theorem j_is_yard : SU ⟨[], [], [], false, []⟩ (b_is_yard) (u_is_yard) := by
  unfold b_is_yard u_is_yard
  exact (us_seq (us_if (ut_or (ut_not (ut_truth (ue_m1 g_isi (uo_w (uo_val (ue_var (by decide))))))) (ut_or (ut_tb (ue_m2 g_eq (uo_val (ue_m1 g_len (uo_w (uo_val (ue_var (by decide)))))) (uo_w (uo_val ue_c)))) (ut_not (ut_truth (ue_call k_is_among (ua_cons (ue_m2 g_ix (uo_val (ue_var (by decide))) (uo_w (uo_val ue_c))) (ua_cons ue_c (ua_cons ue_c ua_nil)))))))) (us_ret rfl ue_c) us_next)
    (us_seq (us_asg (ue_var (by decide)) (by decide))
    (us_seq (us_if (ut_or (ut_not (ut_truth (ue_m1 g_isi (uo_w (uo_val (ue_var (by decide))))))) (ut_or (ut_tb (ue_bin g_cmp (ue_m1 g_len (uo_w (uo_val (ue_var (by decide))))) ue_c)) (ut_not (ut_truth (ue_m1 g_all (uo_w (uo_new (ua_lc (X := []) (ui_src (ux_v (uo_val (ue_var (by decide))))) (by decide) (by decide) (by decide) ut_yes (ue_call k_are_bays (ua_cons (ue_var (by decide)) (ua_cons (ue_var (by decide)) ua_nil))))))))))) (us_ret rfl ue_c) us_next)
    (us_seq (us_if (ut_or (ut_not (ut_truth (ue_m1 g_isi (uo_w (uo_val (ue_var (by decide))))))) (ut_tb (ue_bin g_cmp (ue_m1 g_len (uo_w (uo_val (ue_var (by decide))))) ue_c))) (us_ret rfl ue_c) us_next)
    (us_ret rfl (ue_m1 g_all (uo_w (uo_new (ua_lc (X := []) (ui_src (ux_v (uo_val (ue_var (by decide))))) (by decide) (by decide) (by decide) ut_yes (ue_call k_is_way (ua_cons (ue_var (by decide)) (ua_cons (ue_mat (ue_m2 g_add (uo_val (ue_m1 g_len (uo_w (uo_val (ue_var (by decide)))))) (uo_w (uo_val ue_c)))) (ua_cons (ue_var (by decide)) ua_nil)))))))))))))
def F_is_yard : UF := uRunP false 1 5 u_is_yard
theorem k_is_yard : FP false p_is_yard F_is_yard := fp_of j_is_yard (by decide)
def u_need_begin : US := uSIf (uTNot (uTst (uCall F_is_begin (uCons (uVar 0) (uCons (uVar 1) (uNil)))) gTruth)) (uStuck) (uNext)
theorem j_need_begin : SU ⟨[], [], [], false, []⟩ (b_need_begin) (u_need_begin) := by
  unfold b_need_begin u_need_begin
  exact (us_if (ut_not (ut_truth (ue_call k_is_begin (ua_cons (ue_var (by decide)) (ua_cons (ue_var (by decide)) ua_nil))))) us_stuck us_next)
def F_need_begin : UF := uRunP false 2 2 u_need_begin
theorem k_need_begin : FP false p_need_begin F_need_begin := fp_of j_need_begin (by decide)
def u_is_find : US := uRet (uAnd (u1 (gIsi .tup) (uVar 1)) (uAnd (u2 (gEq id) (u1 gLen (uVar 1)) (uC (.int 3))) (uAnd (uCall F_is_begin (uCons (uVar 0) (uCons (uSl gSl (uVar 1) (upNone) (upSome (uC (.int 2)))) (uNil)))) (u1 (gIsi .bl) (u2 gIx (uVar 1) (uC (.int 2)))))))
theorem j_is_find : SU ⟨[], [], [], false, []⟩ (b_is_find) (u_is_find) := by
  unfold b_is_find u_is_find
  exact (us_ret rfl (ue_and (ue_m1 g_isi (uo_w (uo_val (ue_var (by decide))))) (ue_and (ue_m2 g_eq (uo_val (ue_m1 g_len (uo_w (uo_val (ue_var (by decide)))))) (uo_w (uo_val ue_c))) (ue_and (ue_call k_is_begin (ua_cons (ue_var (by decide)) (ua_cons (ue_mat (uo_sl g_sl (uo_val (ue_var (by decide))) up_none (up_some ue_c))) ua_nil))) (ue_m1 g_isi (uo_w (uo_val (ue_m2 g_ix (uo_val (ue_var (by decide))) (uo_w (uo_val ue_c))))))))))
def F_is_find : UF := uRunP false 2 2 u_is_find
theorem k_is_find : FP false p_is_find F_is_find := fp_of j_is_find (by decide)
def u_begins_by : US := uSeq (uAsg (uNew (uLc2 (uR1 (uCall F_hours_of (uCons (uVar 0) (uNil)))) (.name 3) (uTYes) (uR1 (u2 gIx (uVar 0) (uC (.int 0)))) (.name 4) (uTYes) (uTup (uCons (uVar 3) (uCons (uVar 4) (uNil)))) [3, 4] [4])) (.name 2)) (uRet (u1 gTuple (uNew (uLc (uSrc (uVar 2)) (.name 5) (uTB (uBin (gIs not) (uCall F_story_by (uCons (uVar 0) (uCons (uVar 1) (uCons (uVar 5) (uNil))))) (uC .non))) (uVar 5) [5]))))
theorem j_begins_by : SU ⟨[], [], [], false, []⟩ (b_begins_by) (u_begins_by) := by
  unfold b_begins_by u_begins_by
  exact (us_seq (us_asg (ue_mat (uo_new (ua_lc2 (X := []) (X1 := []) (ui_r1 (ue_call k_hours_of (ua_cons (ue_var (by decide)) ua_nil))) (by decide) (by decide) (by decide) ut_yes (ui_r1 (ue_m2 g_ix (uo_val (ue_var (by decide))) (uo_w (uo_val ue_c)))) (by decide) (by decide) (by decide) ut_yes (ue_tup (ua_cons (ue_var (by decide)) (ua_cons (ue_var (by decide)) ua_nil)))))) (by decide))
    (us_ret rfl (ue_m1 g_tuple (uo_w (uo_new (ua_lc (X := []) (ui_src (ux_v (uo_val (ue_var (by decide))))) (by decide) (by decide) (by decide) (ut_tb (ue_bin g_isnot (ue_call k_story_by (ua_cons (ue_var (by decide)) (ua_cons (ue_var (by decide)) (ua_cons (ue_var (by decide)) ua_nil)))) ue_c)) (ue_var (by decide))))))))
def F_begins_by : UF := uRunP false 2 6 u_begins_by
theorem k_begins_by : FP false p_begins_by F_begins_by := fp_of j_begins_by (by decide)
def u_need_yard : US := uSIf (uTNot (uTst (uCall F_is_yard (uCons (uVar 0) (uNil))) gTruth)) (uStuck) (uNext)
theorem j_need_yard : SU ⟨[], [], [], false, []⟩ (b_need_yard) (u_need_yard) := by
  unfold b_need_yard u_need_yard
  exact (us_if (ut_not (ut_truth (ue_call k_is_yard (ua_cons (ue_var (by decide)) ua_nil)))) us_stuck us_next)
def F_need_yard : UF := uRunP false 1 1 u_need_yard
theorem k_need_yard : FP false p_need_yard F_need_yard := fp_of j_need_yard (by decide)
def u_need_finds : US := uSIf (uTOr (uTNot (uTst (u1 (gIsi .tup) (uVar 1)) gTruth)) (uTOr (uTB (uBin gGt (u1 gLen (uVar 1)) (uC (.int (6))))) (uTNot (uTst (u1 gAll (uNew (uLc (uSrc (uVar 1)) (.name 2) (uTYes) (uCall F_is_find (uCons (uVar 0) (uCons (uVar 2) (uNil)))) [2]))) gTruth)))) (uStuck) (uNext)
theorem j_need_finds : SU ⟨[], [], [], false, []⟩ (b_need_finds) (u_need_finds) := by
  unfold b_need_finds u_need_finds
  exact (us_if (ut_or (ut_not (ut_truth (ue_m1 g_isi (uo_w (uo_val (ue_var (by decide))))))) (ut_or (ut_tb (ue_bin g_cmp (ue_m1 g_len (uo_w (uo_val (ue_var (by decide))))) ue_c)) (ut_not (ut_truth (ue_m1 g_all (uo_w (uo_new (ua_lc (X := []) (ui_src (ux_v (uo_val (ue_var (by decide))))) (by decide) (by decide) (by decide) ut_yes (ue_call k_is_find (ua_cons (ue_var (by decide)) (ua_cons (ue_var (by decide)) ua_nil))))))))))) us_stuck us_next)
def F_need_finds : UF := uRunP false 2 3 u_need_finds
theorem k_need_finds : FP false p_need_finds F_need_finds := fp_of j_need_finds (by decide)
def u_may_have : US := uSeq (uDrop (uCall F_need_yard (uCons (uVar 0) (uNil)))) (uSeq (uDrop (uCall F_need_begin (uCons (uVar 0) (uCons (uVar 1) (uNil))))) (uRet (uCall F_first_hours (uCons (uVar 0) (uCons (uCall F_grown_from (uCons (uVar 0) (uCons (uVar 1) (uCons (u2 gMul (uNew (uDisp (uCons (uTup (uNil)) (uNil)))) (uCall F_hours_of (uCons (uVar 0) (uNil)))) (uNil))))) (uNil))))))
theorem j_may_have : SU ⟨[], [], [], false, []⟩ (b_may_have) (u_may_have) := by
  unfold b_may_have u_may_have
  exact (us_seq (us_drop (ue_call k_need_yard (ua_cons (ue_var (by decide)) ua_nil)))
    (us_seq (us_drop (ue_call k_need_begin (ua_cons (ue_var (by decide)) (ua_cons (ue_var (by decide)) ua_nil))))
    (us_ret rfl (ue_call k_first_hours (ua_cons (ue_var (by decide)) (ua_cons (ue_call k_grown_from (ua_cons (ue_var (by decide)) (ua_cons (ue_var (by decide)) (ua_cons (ue_mat (ue_m2 g_mul (uo_new (ua_disp (ua_cons (ue_tup ua_nil) ua_nil))) (uo_w (uo_val (ue_call k_hours_of (ua_cons (ue_var (by decide)) ua_nil)))))) ua_nil)))) ua_nil))))))
def F_may_have : UF := uRunP false 2 2 u_may_have
theorem k_may_have : FP false p_may_have F_may_have := fp_of j_may_have (by decide)
def u_must_have : US := uSeq (uDrop (uCall F_need_yard (uCons (uVar 0) (uNil)))) (uSeq (uDrop (uCall F_need_begin (uCons (uVar 0) (uCons (uVar 1) (uNil))))) (uRet (uCall F_first_hours (uCons (uVar 0) (uCons (uCall F_grown_from (uCons (uVar 0) (uCons (uVar 1) (uCons (uC .non) (uNil))))) (uNil))))))
theorem j_must_have : SU ⟨[], [], [], false, []⟩ (b_must_have) (u_must_have) := by
  unfold b_must_have u_must_have
  exact (us_seq (us_drop (ue_call k_need_yard (ua_cons (ue_var (by decide)) ua_nil)))
    (us_seq (us_drop (ue_call k_need_begin (ua_cons (ue_var (by decide)) (ua_cons (ue_var (by decide)) ua_nil))))
    (us_ret rfl (ue_call k_first_hours (ua_cons (ue_var (by decide)) (ua_cons (ue_call k_grown_from (ua_cons (ue_var (by decide)) (ua_cons (ue_var (by decide)) (ua_cons ue_c ua_nil)))) ua_nil))))))
def F_must_have : UF := uRunP false 2 2 u_must_have
theorem k_must_have : FP false p_must_have F_must_have := fp_of j_must_have (by decide)
def u_begins_of : US := uSeq (uDrop (uCall F_need_yard (uCons (uVar 0) (uNil)))) (uSeq (uDrop (uCall F_need_finds (uCons (uVar 0) (uCons (uVar 1) (uNil))))) (uRet (uCall F_begins_by (uCons (uVar 0) (uCons (uVar 1) (uNil))))))
theorem j_begins_of : SU ⟨[], [], [], false, []⟩ (b_begins_of) (u_begins_of) := by
  unfold b_begins_of u_begins_of
  exact (us_seq (us_drop (ue_call k_need_yard (ua_cons (ue_var (by decide)) ua_nil)))
    (us_seq (us_drop (ue_call k_need_finds (ua_cons (ue_var (by decide)) (ua_cons (ue_var (by decide)) ua_nil))))
    (us_ret rfl (ue_call k_begins_by (ua_cons (ue_var (by decide)) (ua_cons (ue_var (by decide)) ua_nil))))))
def F_begins_of : UF := uRunP false 2 2 u_begins_of
theorem k_begins_of : FP false p_begins_of F_begins_of := fp_of j_begins_of (by decide)
def u_story_of : US := uSeq (uDrop (uCall F_need_yard (uCons (uVar 0) (uNil)))) (uSeq (uDrop (uCall F_need_finds (uCons (uVar 0) (uCons (uVar 1) (uNil))))) (uSeq (uDrop (uCall F_need_begin (uCons (uVar 0) (uCons (uVar 2) (uNil))))) (uRet (uCall F_story_by (uCons (uVar 0) (uCons (uVar 1) (uCons (uVar 2) (uNil))))))))
theorem j_story_of : SU ⟨[], [], [], false, []⟩ (b_story_of) (u_story_of) := by
  unfold b_story_of u_story_of
  exact (us_seq (us_drop (ue_call k_need_yard (ua_cons (ue_var (by decide)) ua_nil)))
    (us_seq (us_drop (ue_call k_need_finds (ua_cons (ue_var (by decide)) (ua_cons (ue_var (by decide)) ua_nil))))
    (us_seq (us_drop (ue_call k_need_begin (ua_cons (ue_var (by decide)) (ua_cons (ue_var (by decide)) ua_nil))))
    (us_ret rfl (ue_call k_story_by (ua_cons (ue_var (by decide)) (ua_cons (ue_var (by decide)) (ua_cons (ue_var (by decide)) ua_nil))))))))
def F_story_of : UF := uRunP false 3 3 u_story_of
theorem k_story_of : FP false p_story_of F_story_of := fp_of j_story_of (by decide)
def u_is_story : US := uSeq (uDrop (uCall F_need_yard (uCons (uVar 0) (uNil)))) (uSeq (uDrop (uCall F_need_finds (uCons (uVar 0) (uCons (uVar 1) (uNil))))) (uSeq (uDrop (uCall F_need_begin (uCons (uVar 0) (uCons (uVar 2) (uNil))))) (uSeq (uSIf (uTOr (uTNot (uTst (u1 (gIsi .tup) (uVar 3)) gTruth)) (uTB (u2 (gEq not) (u1 gLen (uVar 3)) (uCall F_hours_of (uCons (uVar 0) (uNil)))))) (uRet (uC (.bl false))) (uNext)) (uSeq (uSIf (uTNot (uTst (u1 gAll (uNew (uLc (uSrc (uVar 3)) (.name 6) (uTYes) (uCall F_are_bays (uCons (u2 gIx (uVar 0) (uC (.int 0))) (uCons (uVar 6) (uNil)))) [6]))) gTruth)) (uRet (uC (.bl false))) (uNext)) (uSeq (uAsg (uVar 2) (.tup [.name 4, .name 5])) (uSeq (uSIf (uTB (u2 (gEq not) (uSl gSl (uVar 3) (upNone) (upSome (u2 gAdd (uVar 4) (uC (.int 1))))) (u2 gAdd (u2 gMul (uTup (uCons (uTup (uNil)) (uNil))) (uVar 4)) (uTup (uCons (uTup (uCons (uVar 5) (uNil))) (uNil)))))) (uRet (uC (.bl false))) (uNext)) (uSeq (uSIf (uTNot (uTst (u1 gAll (uNew (uLc (uR2 (u2 gAdd (uVar 4) (uC (.int 1))) (u1 gLen (uVar 3))) (.name 7) (uTYes) (uCall F_goes_on (uCons (uVar 0) (uCons (uVar 7) (uCons (uVar 3) (uNil))))) [7]))) gTruth)) (uRet (uC (.bl false))) (uNext)) (uRet (u1 gAll (uNew (uLc (uSrc (uVar 1)) (.tup [.name 8, .name 6, .name 9]) (uTYes) (u2 (gEq id) (u2 (gIn id) (uVar 6) (u2 gIx (uVar 3) (uVar 8))) (uVar 9)) [8, 6, 9])))))))))))
theorem j_is_story : SU ⟨[], [], [], false, []⟩ (b_is_story) (u_is_story) := by
  unfold b_is_story u_is_story
  exact (us_seq (us_drop (ue_call k_need_yard (ua_cons (ue_var (by decide)) ua_nil)))
    (us_seq (us_drop (ue_call k_need_finds (ua_cons (ue_var (by decide)) (ua_cons (ue_var (by decide)) ua_nil))))
    (us_seq (us_drop (ue_call k_need_begin (ua_cons (ue_var (by decide)) (ua_cons (ue_var (by decide)) ua_nil))))
    (us_seq (us_if (ut_or (ut_not (ut_truth (ue_m1 g_isi (uo_w (uo_val (ue_var (by decide))))))) (ut_tb (ue_m2 g_eq (uo_val (ue_m1 g_len (uo_w (uo_val (ue_var (by decide)))))) (uo_w (uo_val (ue_call k_hours_of (ua_cons (ue_var (by decide)) ua_nil))))))) (us_ret rfl ue_c) us_next)
    (us_seq (us_if (ut_not (ut_truth (ue_m1 g_all (uo_w (uo_new (ua_lc (X := []) (ui_src (ux_v (uo_val (ue_var (by decide))))) (by decide) (by decide) (by decide) ut_yes (ue_call k_are_bays (ua_cons (ue_m2 g_ix (uo_val (ue_var (by decide))) (uo_w (uo_val ue_c))) (ua_cons (ue_var (by decide)) ua_nil))))))))) (us_ret rfl ue_c) us_next)
    (us_seq (us_asg (ue_var (by decide)) (by decide))
    (us_seq (us_if (ut_tb (ue_m2 g_eq (uo_sl g_sl (uo_val (ue_var (by decide))) up_none (up_some (ue_mat (ue_m2 g_add (uo_val (ue_var (by decide))) (uo_w (uo_val ue_c)))))) (uo_w (ue_m2 g_add (ue_m2 g_mul (uo_val (ue_tup (ua_cons (ue_tup ua_nil) ua_nil))) (uo_w (uo_val (ue_var (by decide))))) (uo_w (uo_val (ue_tup (ua_cons (ue_tup (ua_cons (ue_var (by decide)) ua_nil)) ua_nil)))))))) (us_ret rfl ue_c) us_next)
    (us_seq (us_if (ut_not (ut_truth (ue_m1 g_all (uo_w (uo_new (ua_lc (X := []) (ui_r2 (ue_mat (ue_m2 g_add (uo_val (ue_var (by decide))) (uo_w (uo_val ue_c)))) (ue_m1 g_len (uo_w (uo_val (ue_var (by decide)))))) (by decide) (by decide) (by decide) ut_yes (ue_call k_goes_on (ua_cons (ue_var (by decide)) (ua_cons (ue_var (by decide)) (ua_cons (ue_var (by decide)) ua_nil)))))))))) (us_ret rfl ue_c) us_next)
    (us_ret rfl (ue_m1 g_all (uo_w (uo_new (ua_lc (X := []) (ui_src (ux_v (uo_val (ue_var (by decide))))) (by decide) (by decide) (by decide) ut_yes (ue_m2 g_eq (uo_val (ue_m2 g_in (uo_val (ue_var (by decide))) (uo_w (uo_val (ue_m2 g_ix (uo_val (ue_var (by decide))) (uo_w (uo_val (ue_var (by decide))))))))) (uo_w (uo_val (ue_var (by decide))))))))))))))))))
def F_is_story : UF := uRunP false 4 10 u_is_story
theorem k_is_story : FP false p_is_story F_is_story := fp_of j_is_story (by decide)
def F_called : UF := uRunK 2 7 (uSeq (uDrop (uCall F_need_yard (uCons (uVar 0) (uNil)))) (uDrop (uCall F_need_finds (uCons (uVar 0) (uCons (uVar 1) (uNil)))))) 2 (uSrc (uCall F_begins_by (uCons (uVar 0) (uCons (uVar 1) (uNil))))) (.name 3) (u2 gIx (uCall F_first_hours (uCons (uVar 0) (uCons (uCall F_story_by (uCons (uVar 0) (uCons (uVar 1) (uCons (uVar 3) (uNil))))) (uNil)))) (uC (.int 1))) (.name 4) (uDc (uEnu (uVar 4)) (.tup [.name 5, .name 6]) (uTB (uBin (gIs not) (uVar 6) (uC .non))) (uVar 5) (uC (.bl true)) [5, 6]) [3, 4]
theorem k_called : FP false p_called F_called := by
  unfold p_called b_called F_called
  exact fp_ofK (us_drop (ue_call k_need_yard (ua_cons (ue_var (by decide)) ua_nil))) (us_drop (ue_call k_need_finds (ua_cons (ue_var (by decide)) (ua_cons (ue_var (by decide)) ua_nil)))) (ui_src (ux_v (uo_val (ue_call k_begins_by (ua_cons (ue_var (by decide)) (ua_cons (ue_var (by decide)) ua_nil)))))) (ue_m2 g_ix (uo_val (ue_call k_first_hours (ua_cons (ue_var (by decide)) (ua_cons (ue_call k_story_by (ua_cons (ue_var (by decide)) (ua_cons (ue_var (by decide)) (ua_cons (ue_var (by decide)) ua_nil)))) ua_nil)))) (uo_w (uo_val ue_c))) (ju_dc (X := []) (ui_enu (ux_v (uo_val (ue_var (by decide))))) (by decide) (by decide) (by decide) (ut_tb (ue_bin g_isnot (ue_var (by decide)) ue_c)) (ue_var (by decide)) ue_c) (by decide) (by decide) (by decide) rfl
def v__law_clear_right_0 : US := uDrop (uExt 5 (uCons (uNew (uLc (uSrc (uTup (uCons (uC (.int 0)) (uCons (uC (.int 2)) (uNil))))) (.name 7) (uTB (u2 (gEq not) (uTup (uCons (uVar 6) (uCons (uVar 7) (uNil)))) (uTup (uCons (uC (.int 0)) (uCons (uC (.int 0)) (uNil)))))) (uTup (uCons (uVar 6) (uCons (uVar 7) (uNil)))) [7])) (uNil)))
theorem w__law_clear_right_0 : SU ⟨[5], [], [5], false, []⟩ (l__law_clear_right_0) (v__law_clear_right_0) := by
  unfold l__law_clear_right_0 v__law_clear_right_0
  exact (us_drop (ue_ext (by decide) (by decide) (ua_cons (ue_mat (uo_new (ua_lc (X := []) (ui_src (ux_v (uo_val (ue_tup (ua_cons ue_c (ua_cons ue_c ua_nil)))))) (by decide) (by decide) (by decide) (ut_tb (ue_m2 g_eq (uo_val (ue_tup (ua_cons (ue_var (by decide)) (ua_cons (ue_var (by decide)) ua_nil)))) (uo_w (uo_val (ue_tup (ua_cons ue_c (ua_cons ue_c ua_nil))))))) (ue_tup (ua_cons (ue_var (by decide)) (ua_cons (ue_var (by decide)) ua_nil)))))) ua_nil)))
def u__law_clear_right : US := uSeq (uPar [1, 2] (uCons (uTup (uCons (uC (.int 3)) (uCons (uTup (uCons (u2 gAdd (uTup (uCons (uC (.int 0)) (uCons (uC (.int 1)) (uNil)))) (u2 gMul (uTup (uCons (uC (.int 1)) (uNil))) (u2 gAdd (uVar 0) (uC (.int 1))))) (uNil))) (uCons (u2 gMul (uTup (uCons (uTup (uNil)) (uNil))) (u2 gAdd (uVar 0) (uC (.int 2)))) (uNil))))) (uCons (u2 gAdd (uVar 0) (uC (.int 2))) (uNil)))) (uSeq (uPar [3, 4] (uCons (uTup (uCons (uTup (uCons (uVar 2) (uCons (uC (.int 1)) (uCons (uC (.bl false)) (uNil))))) (uNil))) (uCons (uTup (uCons (uTup (uCons (uVar 2) (uCons (uC (.int 1)) (uCons (uC (.bl true)) (uNil))))) (uNil))) (uNil)))) (uSeq (uAsg (uNew (uDisp (uNil))) (.name 5)) (uSeq (uFor (uR1 (u2 gAdd (uVar 2) (uC (.int 1)))) (.name 6) (v__law_clear_right_0) [6]) (uSeq (uSIf (uTOr (uTB (u2 (gEq not) (uCall F_begins_of (uCons (uVar 1) (uCons (uVar 3) (uNil)))) (u1 gTuple (uVar 5)))) (uTB (u2 (gEq not) (uCall F_called (uCons (uVar 1) (uCons (uVar 3) (uNil)))) (uTup (uNil))))) (uRet (uC (.bl false))) (uNext)) (uSeq (uAsg (u2 gCat (uNew (uDisp (uCons (uTup (uCons (uC (.int 0)) (uCons (uC (.int 0)) (uNil)))) (uNil)))) (uNew (uLc (uR1 (u2 gAdd (uVar 2) (uC (.int 1)))) (.name 6) (uTYes) (uTup (uCons (uVar 6) (uCons (uC (.int 1)) (uNil)))) [6]))) (.name 5)) (uSeq (uSIf (uTOr (uTB (u2 (gEq not) (uCall F_begins_of (uCons (uVar 1) (uCons (uVar 4) (uNil)))) (u1 gTuple (uVar 5)))) (uTB (u2 (gEq not) (uCall F_called (uCons (uVar 1) (uCons (uVar 4) (uNil)))) (uTup (uCons (uC (.int 0)) (uNil)))))) (uRet (uC (.bl false))) (uNext)) (uSeq (uSIf (uTOr (uTB (u2 (gEq not) (uCall F_story_of (uCons (uVar 1) (uCons (uVar 4) (uCons (uTup (uCons (uC (.int 0)) (uCons (uC (.int 0)) (uNil)))) (uNil))))) (u2 gAdd (uTup (uCons (uTup (uCons (uC (.int 0)) (uNil))) (uNil))) (u2 gMul (uTup (uCons (uTup (uCons (uC (.int 0)) (uCons (uC (.int 1)) (uNil)))) (uNil))) (uVar 2))))) (uTB (uBin (gIs not) (uCall F_story_of (uCons (uVar 1) (uCons (uVar 3) (uCons (uTup (uCons (uC (.int 0)) (uCons (uC (.int 0)) (uNil)))) (uNil))))) (uC .non)))) (uRet (uC (.bl false))) (uNext)) (uRet (u2 (gEq id) (uCall F_story_of (uCons (uVar 1) (uCons (uVar 3) (uCons (uTup (uCons (uC (.int 1)) (uCons (uC (.int 0)) (uNil)))) (uNil))))) (u2 gAdd (uTup (uCons (uTup (uNil)) (uNil))) (u2 gMul (uTup (uCons (uTup (uCons (uC (.int 0)) (uNil))) (uNil))) (uVar 2))))))))))))
theorem j__law_clear_right : SU ⟨[5], [], [5], false, []⟩ (b__law_clear_right) (u__law_clear_right) := by
  unfold b__law_clear_right u__law_clear_right
  exact (us_seq (us_par (jp_val 1 (by decide) (ue_tup (ua_cons ue_c (ua_cons (ue_tup (ua_cons (ue_mat (ue_m2 g_add (uo_val (ue_tup (ua_cons ue_c (ua_cons ue_c ua_nil)))) (uo_w (ue_m2 g_mul (uo_val (ue_tup (ua_cons ue_c ua_nil))) (uo_w (ue_m2 g_add (uo_val (ue_var (by decide))) (uo_w (uo_val ue_c)))))))) ua_nil)) (ua_cons (ue_mat (ue_m2 g_mul (uo_val (ue_tup (ua_cons (ue_tup ua_nil) ua_nil))) (uo_w (ue_m2 g_add (uo_val (ue_var (by decide))) (uo_w (uo_val ue_c)))))) ua_nil)))) (jp_val 2 (by decide) (ue_mat (ue_m2 g_add (uo_val (ue_var (by decide))) (uo_w (uo_val ue_c)))) jp_nil)) rfl)
    (us_seq (us_par (jp_val 3 (by decide) (ue_tup (ua_cons (ue_tup (ua_cons (ue_var (by decide)) (ua_cons ue_c (ua_cons ue_c ua_nil)))) ua_nil)) (jp_val 4 (by decide) (ue_tup (ua_cons (ue_tup (ua_cons (ue_var (by decide)) (ua_cons ue_c (ua_cons ue_c ua_nil)))) ua_nil)) jp_nil)) rfl)
    (us_seq (us_asgN (un_new (ua_disp ua_nil)) (by decide) (by decide))
    (us_seq (us_for (X := []) (M' := [5]) (by decide) (ui_r1 (ue_mat (ue_m2 g_add (uo_val (ue_var (by decide))) (uo_w (uo_val ue_c))))) (by decide) (by decide) (by decide) w__law_clear_right_0)
    (us_seq (us_if (ut_or (ut_tb (ue_m2 g_eq (uo_val (ue_call k_begins_of (ua_cons (ue_var (by decide)) (ua_cons (ue_var (by decide)) ua_nil)))) (uo_w (uo_val (ue_m1 g_tuple (uo_own (by decide))))))) (ut_tb (ue_m2 g_eq (uo_val (ue_call k_called (ua_cons (ue_var (by decide)) (ua_cons (ue_var (by decide)) ua_nil)))) (uo_w (uo_val (ue_tup ua_nil)))))) (us_ret rfl ue_c) us_next)
    (us_seq (us_asgN (ue_m2 n_cat (uo_new (ua_disp (ua_cons (ue_tup (ua_cons ue_c (ua_cons ue_c ua_nil))) ua_nil))) (uo_w (uo_new (ua_lc (X := []) (ui_r1 (ue_mat (ue_m2 g_add (uo_val (ue_var (by decide))) (uo_w (uo_val ue_c))))) (by decide) (by decide) (by decide) ut_yes (ue_tup (ua_cons (ue_var (by decide)) (ua_cons ue_c ua_nil))))))) (by decide) (by decide))
    (us_seq (us_if (ut_or (ut_tb (ue_m2 g_eq (uo_val (ue_call k_begins_of (ua_cons (ue_var (by decide)) (ua_cons (ue_var (by decide)) ua_nil)))) (uo_w (uo_val (ue_m1 g_tuple (uo_own (by decide))))))) (ut_tb (ue_m2 g_eq (uo_val (ue_call k_called (ua_cons (ue_var (by decide)) (ua_cons (ue_var (by decide)) ua_nil)))) (uo_w (uo_val (ue_tup (ua_cons ue_c ua_nil))))))) (us_ret rfl ue_c) us_next)
    (us_seq (us_if (ut_or (ut_tb (ue_m2 g_eq (uo_val (ue_call k_story_of (ua_cons (ue_var (by decide)) (ua_cons (ue_var (by decide)) (ua_cons (ue_tup (ua_cons ue_c (ua_cons ue_c ua_nil))) ua_nil))))) (uo_w (ue_m2 g_add (uo_val (ue_tup (ua_cons (ue_tup (ua_cons ue_c ua_nil)) ua_nil))) (uo_w (ue_m2 g_mul (uo_val (ue_tup (ua_cons (ue_tup (ua_cons ue_c (ua_cons ue_c ua_nil))) ua_nil))) (uo_w (uo_val (ue_var (by decide)))))))))) (ut_tb (ue_bin g_isnot (ue_call k_story_of (ua_cons (ue_var (by decide)) (ua_cons (ue_var (by decide)) (ua_cons (ue_tup (ua_cons ue_c (ua_cons ue_c ua_nil))) ua_nil)))) ue_c))) (us_ret rfl ue_c) us_next)
    (us_ret rfl (ue_m2 g_eq (uo_val (ue_call k_story_of (ua_cons (ue_var (by decide)) (ua_cons (ue_var (by decide)) (ua_cons (ue_tup (ua_cons ue_c (ua_cons ue_c ua_nil))) ua_nil))))) (uo_w (ue_m2 g_add (uo_val (ue_tup (ua_cons (ue_tup ua_nil) ua_nil))) (uo_w (ue_m2 g_mul (uo_val (ue_tup (ua_cons (ue_tup (ua_cons ue_c ua_nil)) ua_nil))) (uo_w (uo_val (ue_var (by decide))))))))))))))))))
def F__law_clear_right : UF := uRunP false 1 8 u__law_clear_right
theorem k__law_clear_right : FP false p__law_clear_right F__law_clear_right := fp_of j__law_clear_right (by decide)
def u__law_vents_right : US := uSeq (uPar [1, 2] (uCons (uTup (uCons (uC (.int 3)) (uCons (uTup (uCons (u2 gAdd (uTup (uCons (uC (.int 0)) (uCons (uC (.int 1)) (uNil)))) (u2 gMul (uTup (uCons (uC (.int 1)) (uNil))) (u2 gAdd (uVar 0) (uC (.int 1))))) (uNil))) (uCons (u2 gAdd (uTup (uCons (uTup (uCons (uC (.int 0)) (uCons (uC (.int 2)) (uNil)))) (uNil))) (u2 gMul (uTup (uCons (uTup (uNil)) (uNil))) (u2 gAdd (uVar 0) (uC (.int 1))))) (uNil))))) (uCons (u2 gAdd (uVar 0) (uC (.int 2))) (uNil)))) (uSeq (uSIf (uTOr (uTB (u2 (gEq not) (uCall F_may_have (uCons (uVar 1) (uCons (uTup (uCons (uC (.int 0)) (uCons (uC (.int 2)) (uNil)))) (uNil)))) (uTup (uCons (uTup (uCons (uC (.int 1)) (uCons (uC .non) (uCons (uC (.int 0)) (uNil))))) (uCons (uTup (uCons (uC .non) (uNil))) (uNil)))))) (uTB (u2 (gEq not) (uCall F_must_have (uCons (uVar 1) (uCons (uTup (uCons (uC (.int 0)) (uCons (uC (.int 2)) (uNil)))) (uNil)))) (uTup (uCons (uTup (uCons (uC .non) (uCons (uC .non) (uCons (uC (.int 0)) (uNil))))) (uCons (uTup (uCons (uC .non) (uNil))) (uNil))))))) (uRet (uC (.bl false))) (uNext)) (uSeq (uAsg (uTup (uCons (uTup (uCons (uC (.int 1)) (uCons (uC (.int 0)) (uCons (uC (.bl false)) (uNil))))) (uNil))) (.name 3)) (uSeq (uSIf (uTB (u2 (gEq not) (uCall F_story_of (uCons (uVar 1) (uCons (uVar 3) (uCons (uTup (uCons (uC (.int 0)) (uCons (uC (.int 2)) (uNil)))) (uNil))))) (u2 gMul (uTup (uCons (uTup (uCons (uC (.int 2)) (uNil))) (uNil))) (u2 gAdd (uVar 2) (uC (.int 1)))))) (uRet (uC (.bl false))) (uNext)) (uSeq (uSIf (uTB (u2 (gEq not) (uCall F_story_of (uCons (uVar 1) (uCons (uTup (uNil)) (uCons (uTup (uCons (uC (.int 0)) (uCons (uC (.int 2)) (uNil)))) (uNil))))) (u2 gAdd (uTup (uCons (uTup (uCons (uC (.int 2)) (uNil))) (uNil))) (u2 gMul (uTup (uCons (uTup (uCons (uC (.int 0)) (uCons (uC (.int 2)) (uNil)))) (uNil))) (uVar 2))))) (uRet (uC (.bl false))) (uNext)) (uSeq (uSIf (uTB (uBin (gIs not) (uCall F_is_story (uCons (uVar 1) (uCons (uTup (uNil)) (uCons (uTup (uCons (uC (.int 0)) (uCons (uC (.int 2)) (uNil)))) (uCons (u2 gMul (uTup (uCons (uTup (uCons (uC (.int 2)) (uNil))) (uNil))) (u2 gAdd (uVar 2) (uC (.int 1)))) (uNil)))))) (uC (.bl true)))) (uRet (uC (.bl false))) (uNext)) (uRet (uBin (gIs id) (uCall F_is_story (uCons (uVar 1) (uCons (uTup (uNil)) (uCons (uTup (uCons (uC (.int 0)) (uCons (uC (.int 2)) (uNil)))) (uCons (u2 gAdd (uTup (uCons (uTup (uCons (uC (.int 2)) (uNil))) (uCons (uTup (uCons (uC (.int 1)) (uCons (uC (.int 2)) (uNil)))) (uNil)))) (u2 gMul (uTup (uCons (uTup (uCons (uC (.int 1)) (uCons (uC (.int 2)) (uNil)))) (uNil))) (uBin gSub (uVar 2) (uC (.int 1))))) (uNil)))))) (uC (.bl false)))))))))
theorem j__law_vents_right : SU ⟨[], [], [], false, []⟩ (b__law_vents_right) (u__law_vents_right) := by
  unfold b__law_vents_right u__law_vents_right
  exact (us_seq (us_par (jp_val 1 (by decide) (ue_tup (ua_cons ue_c (ua_cons (ue_tup (ua_cons (ue_mat (ue_m2 g_add (uo_val (ue_tup (ua_cons ue_c (ua_cons ue_c ua_nil)))) (uo_w (ue_m2 g_mul (uo_val (ue_tup (ua_cons ue_c ua_nil))) (uo_w (ue_m2 g_add (uo_val (ue_var (by decide))) (uo_w (uo_val ue_c)))))))) ua_nil)) (ua_cons (ue_mat (ue_m2 g_add (uo_val (ue_tup (ua_cons (ue_tup (ua_cons ue_c (ua_cons ue_c ua_nil))) ua_nil))) (uo_w (ue_m2 g_mul (uo_val (ue_tup (ua_cons (ue_tup ua_nil) ua_nil))) (uo_w (ue_m2 g_add (uo_val (ue_var (by decide))) (uo_w (uo_val ue_c)))))))) ua_nil)))) (jp_val 2 (by decide) (ue_mat (ue_m2 g_add (uo_val (ue_var (by decide))) (uo_w (uo_val ue_c)))) jp_nil)) rfl)
    (us_seq (us_if (ut_or (ut_tb (ue_m2 g_eq (uo_val (ue_call k_may_have (ua_cons (ue_var (by decide)) (ua_cons (ue_tup (ua_cons ue_c (ua_cons ue_c ua_nil))) ua_nil)))) (uo_w (uo_val (ue_tup (ua_cons (ue_tup (ua_cons ue_c (ua_cons ue_c (ua_cons ue_c ua_nil)))) (ua_cons (ue_tup (ua_cons ue_c ua_nil)) ua_nil))))))) (ut_tb (ue_m2 g_eq (uo_val (ue_call k_must_have (ua_cons (ue_var (by decide)) (ua_cons (ue_tup (ua_cons ue_c (ua_cons ue_c ua_nil))) ua_nil)))) (uo_w (uo_val (ue_tup (ua_cons (ue_tup (ua_cons ue_c (ua_cons ue_c (ua_cons ue_c ua_nil)))) (ua_cons (ue_tup (ua_cons ue_c ua_nil)) ua_nil)))))))) (us_ret rfl ue_c) us_next)
    (us_seq (us_asg (ue_tup (ua_cons (ue_tup (ua_cons ue_c (ua_cons ue_c (ua_cons ue_c ua_nil)))) ua_nil)) (by decide))
    (us_seq (us_if (ut_tb (ue_m2 g_eq (uo_val (ue_call k_story_of (ua_cons (ue_var (by decide)) (ua_cons (ue_var (by decide)) (ua_cons (ue_tup (ua_cons ue_c (ua_cons ue_c ua_nil))) ua_nil))))) (uo_w (ue_m2 g_mul (uo_val (ue_tup (ua_cons (ue_tup (ua_cons ue_c ua_nil)) ua_nil))) (uo_w (ue_m2 g_add (uo_val (ue_var (by decide))) (uo_w (uo_val ue_c)))))))) (us_ret rfl ue_c) us_next)
    (us_seq (us_if (ut_tb (ue_m2 g_eq (uo_val (ue_call k_story_of (ua_cons (ue_var (by decide)) (ua_cons (ue_tup ua_nil) (ua_cons (ue_tup (ua_cons ue_c (ua_cons ue_c ua_nil))) ua_nil))))) (uo_w (ue_m2 g_add (uo_val (ue_tup (ua_cons (ue_tup (ua_cons ue_c ua_nil)) ua_nil))) (uo_w (ue_m2 g_mul (uo_val (ue_tup (ua_cons (ue_tup (ua_cons ue_c (ua_cons ue_c ua_nil))) ua_nil))) (uo_w (uo_val (ue_var (by decide)))))))))) (us_ret rfl ue_c) us_next)
    (us_seq (us_if (ut_tb (ue_bin g_isnot (ue_call k_is_story (ua_cons (ue_var (by decide)) (ua_cons (ue_tup ua_nil) (ua_cons (ue_tup (ua_cons ue_c (ua_cons ue_c ua_nil))) (ua_cons (ue_mat (ue_m2 g_mul (uo_val (ue_tup (ua_cons (ue_tup (ua_cons ue_c ua_nil)) ua_nil))) (uo_w (ue_m2 g_add (uo_val (ue_var (by decide))) (uo_w (uo_val ue_c)))))) ua_nil))))) ue_c)) (us_ret rfl ue_c) us_next)
    (us_ret rfl (ue_bin g_is (ue_call k_is_story (ua_cons (ue_var (by decide)) (ua_cons (ue_tup ua_nil) (ua_cons (ue_tup (ua_cons ue_c (ua_cons ue_c ua_nil))) (ua_cons (ue_mat (ue_m2 g_add (uo_val (ue_tup (ua_cons (ue_tup (ua_cons ue_c ua_nil)) (ua_cons (ue_tup (ua_cons ue_c (ua_cons ue_c ua_nil))) ua_nil)))) (uo_w (ue_m2 g_mul (uo_val (ue_tup (ua_cons (ue_tup (ua_cons ue_c (ua_cons ue_c ua_nil))) ua_nil))) (uo_w (uo_val (ue_bin g_sub (ue_var (by decide)) ue_c))))))) ua_nil))))) ue_c))))))))
def F__law_vents_right : UF := uRunP false 1 4 u__law_vents_right
theorem k__law_vents_right : FP false p__law_vents_right F__law_vents_right := fp_of j__law_vents_right (by decide)
def u__law_trays_right : US := uSeq (uAsg (uTup (uCons (uC (.int 3)) (uCons (uTup (uCons (uTup (uCons (uC (.int 0)) (uCons (uC (.int 1)) (uCons (uC (.int 1)) (uNil))))) (uCons (uTup (uCons (uC (.int 2)) (uCons (uC (.int 1)) (uCons (uC (.int 2)) (uNil))))) (uNil)))) (uCons (uTup (uCons (uTup (uNil)) (uCons (uTup (uNil)) (uNil)))) (uNil))))) (.name 0)) (uSeq (uSIf (uTOr (uTB (u2 (gEq not) (uCall F_must_have (uCons (uVar 0) (uCons (uTup (uCons (uC (.int 0)) (uCons (uC (.int 0)) (uNil)))) (uNil)))) (uTup (uCons (uTup (uCons (uC (.int 0)) (uCons (uC (.int 1)) (uCons (uC (.int 2)) (uNil))))) (uCons (uTup (uCons (uC (.int 0)) (uCons (uC (.int 1)) (uNil)))) (uNil)))))) (uTB (u2 (gEq not) (uCall F_may_have (uCons (uVar 0) (uCons (uTup (uCons (uC (.int 0)) (uCons (uC (.int 0)) (uNil)))) (uNil)))) (uTup (uCons (uTup (uCons (uC (.int 0)) (uCons (uC (.int 1)) (uCons (uC (.int 2)) (uNil))))) (uCons (uTup (uCons (uC (.int 0)) (uCons (uC (.int 1)) (uNil)))) (uNil))))))) (uRet (uC (.bl false))) (uNext)) (uSeq (uSIf (uTOr (uTB (u2 (gEq not) (uCall F_begins_of (uCons (uVar 0) (uCons (uTup (uCons (uTup (uCons (uC (.int 2)) (uCons (uC (.int 2)) (uCons (uC (.bl false)) (uNil))))) (uNil))) (uNil)))) (uTup (uCons (uTup (uCons (uC (.int 1)) (uCons (uC (.int 0)) (uNil)))) (uCons (uTup (uCons (uC (.int 2)) (uCons (uC (.int 0)) (uNil)))) (uCons (uTup (uCons (uC (.int 2)) (uCons (uC (.int 1)) (uNil)))) (uNil))))))) (uTB (u2 (gEq not) (uCall F_called (uCons (uVar 0) (uCons (uTup (uCons (uTup (uCons (uC (.int 2)) (uCons (uC (.int 0)) (uCons (uC (.bl false)) (uNil))))) (uNil))) (uNil)))) (uTup (uCons (uC (.int 0)) (uCons (uC (.int 1)) (uNil))))))) (uRet (uC (.bl false))) (uNext)) (uSeq (uSIf (uTB (uBin (gIs not) (uCall F_story_of (uCons (uVar 0) (uCons (uTup (uCons (uTup (uCons (uC (.int 2)) (uCons (uC (.int 2)) (uCons (uC (.bl true)) (uNil))))) (uCons (uTup (uCons (uC (.int 1)) (uCons (uC (.int 1)) (uCons (uC (.bl false)) (uNil))))) (uNil)))) (uCons (uTup (uCons (uC (.int 0)) (uCons (uC (.int 1)) (uNil)))) (uNil))))) (uC .non))) (uRet (uC (.bl false))) (uNext)) (uRet (u2 (gEq id) (uCall F_story_of (uCons (uVar 0) (uCons (uTup (uCons (uTup (uCons (uC (.int 2)) (uCons (uC (.int 2)) (uCons (uC (.bl true)) (uNil))))) (uCons (uTup (uCons (uC (.int 1)) (uCons (uC (.int 2)) (uCons (uC (.bl false)) (uNil))))) (uNil)))) (uCons (uTup (uCons (uC (.int 0)) (uCons (uC (.int 1)) (uNil)))) (uNil))))) (uTup (uCons (uTup (uCons (uC (.int 1)) (uNil))) (uCons (uTup (uCons (uC (.int 1)) (uNil))) (uCons (uTup (uCons (uC (.int 1)) (uCons (uC (.int 2)) (uNil)))) (uNil))))))))))
theorem j__law_trays_right : SU ⟨[], [], [], false, []⟩ (b__law_trays_right) (u__law_trays_right) := by
  unfold b__law_trays_right u__law_trays_right
  exact (us_seq (us_asg (ue_tup (ua_cons ue_c (ua_cons (ue_tup (ua_cons (ue_tup (ua_cons ue_c (ua_cons ue_c (ua_cons ue_c ua_nil)))) (ua_cons (ue_tup (ua_cons ue_c (ua_cons ue_c (ua_cons ue_c ua_nil)))) ua_nil))) (ua_cons (ue_tup (ua_cons (ue_tup ua_nil) (ua_cons (ue_tup ua_nil) ua_nil))) ua_nil)))) (by decide))
    (us_seq (us_if (ut_or (ut_tb (ue_m2 g_eq (uo_val (ue_call k_must_have (ua_cons (ue_var (by decide)) (ua_cons (ue_tup (ua_cons ue_c (ua_cons ue_c ua_nil))) ua_nil)))) (uo_w (uo_val (ue_tup (ua_cons (ue_tup (ua_cons ue_c (ua_cons ue_c (ua_cons ue_c ua_nil)))) (ua_cons (ue_tup (ua_cons ue_c (ua_cons ue_c ua_nil))) ua_nil))))))) (ut_tb (ue_m2 g_eq (uo_val (ue_call k_may_have (ua_cons (ue_var (by decide)) (ua_cons (ue_tup (ua_cons ue_c (ua_cons ue_c ua_nil))) ua_nil)))) (uo_w (uo_val (ue_tup (ua_cons (ue_tup (ua_cons ue_c (ua_cons ue_c (ua_cons ue_c ua_nil)))) (ua_cons (ue_tup (ua_cons ue_c (ua_cons ue_c ua_nil))) ua_nil)))))))) (us_ret rfl ue_c) us_next)
    (us_seq (us_if (ut_or (ut_tb (ue_m2 g_eq (uo_val (ue_call k_begins_of (ua_cons (ue_var (by decide)) (ua_cons (ue_tup (ua_cons (ue_tup (ua_cons ue_c (ua_cons ue_c (ua_cons ue_c ua_nil)))) ua_nil)) ua_nil)))) (uo_w (uo_val (ue_tup (ua_cons (ue_tup (ua_cons ue_c (ua_cons ue_c ua_nil))) (ua_cons (ue_tup (ua_cons ue_c (ua_cons ue_c ua_nil))) (ua_cons (ue_tup (ua_cons ue_c (ua_cons ue_c ua_nil))) ua_nil)))))))) (ut_tb (ue_m2 g_eq (uo_val (ue_call k_called (ua_cons (ue_var (by decide)) (ua_cons (ue_tup (ua_cons (ue_tup (ua_cons ue_c (ua_cons ue_c (ua_cons ue_c ua_nil)))) ua_nil)) ua_nil)))) (uo_w (uo_val (ue_tup (ua_cons ue_c (ua_cons ue_c ua_nil)))))))) (us_ret rfl ue_c) us_next)
    (us_seq (us_if (ut_tb (ue_bin g_isnot (ue_call k_story_of (ua_cons (ue_var (by decide)) (ua_cons (ue_tup (ua_cons (ue_tup (ua_cons ue_c (ua_cons ue_c (ua_cons ue_c ua_nil)))) (ua_cons (ue_tup (ua_cons ue_c (ua_cons ue_c (ua_cons ue_c ua_nil)))) ua_nil))) (ua_cons (ue_tup (ua_cons ue_c (ua_cons ue_c ua_nil))) ua_nil)))) ue_c)) (us_ret rfl ue_c) us_next)
    (us_ret rfl (ue_m2 g_eq (uo_val (ue_call k_story_of (ua_cons (ue_var (by decide)) (ua_cons (ue_tup (ua_cons (ue_tup (ua_cons ue_c (ua_cons ue_c (ua_cons ue_c ua_nil)))) (ua_cons (ue_tup (ua_cons ue_c (ua_cons ue_c (ua_cons ue_c ua_nil)))) ua_nil))) (ua_cons (ue_tup (ua_cons ue_c (ua_cons ue_c ua_nil))) ua_nil))))) (uo_w (uo_val (ue_tup (ua_cons (ue_tup (ua_cons ue_c ua_nil)) (ua_cons (ue_tup (ua_cons ue_c ua_nil)) (ua_cons (ue_tup (ua_cons ue_c (ua_cons ue_c ua_nil))) ua_nil))))))))))))
@[irreducible] def F__law_trays_right : UF := uRunP false 0 1 u__law_trays_right
theorem k__law_trays_right : FP false p__law_trays_right F__law_trays_right := by unfold p__law_trays_right F__law_trays_right; exact fp_of j__law_trays_right (by decide)
def u_law : US := uSeq (uAsg (uCall F__law_pen_of (uCons (uCall F__law_cell_at (uCons (uVar 0) (uCons (uC (.int 0)) (uNil)))) (uNil))) (.name 1)) (uSeq (uAsg (uCallM F__law_draw 1 (uCons (uC (.int 6)) (uNil))) (.name 2)) (uRet (uAnd (uCall F__law_clear_right (uCons (uVar 2) (uNil))) (uAnd (uCall F__law_vents_right (uCons (uVar 2) (uNil))) (uCall F__law_trays_right (uNil))))))
theorem j_law : SU ⟨[1], [], [1], false, []⟩ (b_law) (u_law) := by
  unfold b_law u_law
  exact (us_seq (us_asgF k__law_pen_of (ua_cons (ue_call k__law_cell_at (ua_cons (ue_var (by decide)) (ua_cons ue_c ua_nil))) ua_nil) (by decide) (by decide))
    (us_seq (us_asg (ue_callM k__law_draw (by decide) (by decide) (ua_cons ue_c ua_nil)) (by decide))
    (us_ret rfl (ue_and (ue_call k__law_clear_right (ua_cons (ue_var (by decide)) ua_nil)) (ue_and (ue_call k__law_vents_right (ua_cons (ue_var (by decide)) ua_nil)) (ue_call k__law_trays_right ua_nil))))))
def F_law : UF := uRunP false 1 3 u_law
theorem k_law : FP false p_law F_law := fp_of j_law (by decide)
end Gb

/-! Hp1: what is drawn with a pen -/
namespace Gb
open PySem L2
structure Rp where
  a : Int
  f : Int
  c : Int
  ha : 0 ≤ a
  hc : 0 ≤ c
  hc2 : c < 2147483629
def penD (s : Rp) : List D := [.int s.a, .int s.f, .int s.c]
theorem fmod_b (x b : Int) (hb : 0 < b) : 0 ≤ x.fmod b ∧ x.fmod b < b := ⟨Int.fmod_nonneg_of_pos x hb, Int.fmod_lt_of_pos x hb⟩
theorem sm64 {i : Int} (h0 : 0 ≤ i) (h1 : i < 18446744073709551616) : small64 i = true := decide_eq_true (by omega)
theorem fdiv_nn {x b : Int} (hx : 0 ≤ x) (hb : 0 < b) : 0 ≤ x.fdiv b := by
  rw [Int.fdiv_eq_ediv_of_nonneg _ (Int.le_of_lt hb)]
  exact Int.ediv_nonneg hx (Int.le_of_lt hb)
theorem next_ex {x : Int} : ∃ y : Int, F__law_next [.int x] = .ok (.int y) ∧ 0 ≤ y ∧ y < 2147483629 := by
  have q1 := fmod_b (x + 7919) 2147483647 (by decide)
  unfold F__law_next u__law_next
  generalize h1 : (x + 7919).fmod 2147483647 = z at q1
  have s1 := sm64 q1.1 (by omega)
  have s2 : small64 48271 = true := by decide
  simp [h1, s1, s2]
  exact fmod_b _ _ (by decide)
theorem draw_ex (s : Rp) (b : Int) (h1 : 1 ≤ b) (h2 : b < 1000000000) : ∃ (r : Int) (t : Rp), F__law_draw (penD s) [.int b] = .ok (.int r) (penD t) ∧ 0 ≤ r ∧ r < b := by
  obtain ⟨a, f, c, ha, hc, hc2⟩ := s
  have b0 : b ≠ 0 := by omega
  have bn : b.natAbs < 1073741824 := by omega
  obtain ⟨y, ey, _⟩ := next_ex (x := c)
  obtain ⟨z, ez, hz0, hz1⟩ := next_ex (x := y + 7)
  by_cases hf : f = 1
  · by_cases h0 : 0 < a
    · refine ⟨a.fmod b, ⟨a.fdiv b, f, c, fdiv_nn ha (by omega), hc, hc2⟩, ?_, fmod_b a b (by omega)⟩
      unfold F__law_draw u__law_draw penD
      simp [hf, h0, b0, bn, ixN, stateOf, retM]
    · refine ⟨(z.fdiv 64).fmod b, ⟨a, f, z, ha, hz0, hz1⟩, ?_, fmod_b _ b (by omega)⟩
      unfold F__law_draw u__law_draw penD
      simp [hf, h0, b0, bn, ixN, stateOf, retM, ey, ez]
  · refine ⟨(z.fdiv 64).fmod b, ⟨a, f, z, ha, hz0, hz1⟩, ?_, fmod_b _ b (by omega)⟩
    unfold F__law_draw u__law_draw penD
    simp [hf, b0, bn, ixN, stateOf, retM, ey, ez]
open Classical in
noncomputable def dr (s : Rp) (b : Int) : Int := if h : 1 ≤ b ∧ b < 1000000000 then choose (draw_ex s b h.1 h.2) else 0
open Classical in
noncomputable def drs (s : Rp) (b : Int) : Rp := if h : 1 ≤ b ∧ b < 1000000000 then choose (choose_spec (draw_ex s b h.1 h.2)) else s
section
variable {s : Rp} {b : Int}
theorem dr_all (h1 : 1 ≤ b) (h2 : b < 1000000000) : F__law_draw (penD s) [.int b] = .ok (.int (dr s b)) (penD (drs s b)) ∧ 0 ≤ dr s b ∧ dr s b < b := by
  unfold dr drs
  rw [dif_pos ⟨h1, h2⟩, dif_pos ⟨h1, h2⟩]
  exact Classical.choose_spec (Classical.choose_spec (draw_ex s b h1 h2))
@[simp] theorem dr_eq (h1 : 1 ≤ b) (h2 : b < 1000000000) : F__law_draw (penD s) [.int b] = .ok (.int (dr s b)) (penD (drs s b)) := (dr_all h1 h2).1
theorem dr_b (s : Rp) (b : Int) (h1 : 1 ≤ b := by decide) (h2 : b < 1000000000 := by decide) : 0 ≤ dr s b ∧ dr s b < b := (dr_all h1 h2).2
theorem at_2 {α : Type} {x y : α} {i : Int} (h : 0 ≤ i ∧ i < 2) : atI [x, y] i = some (if i = 0 then x else y) := by
  rcases (by omega : i = 0 ∨ i = 1) with rfl | rfl <;> simp
@[simp] theorem at_d2 {α : Type} {x y : α} : atI [x, y] (dr s 2) = some (if dr s 2 = 0 then x else y) := at_2 (dr_b s 2)
end
theorem pen_ex (x : Int) : ∃ s : Rp, F__law_pen_of [.int x] = .ok (.lst (penD s)) := by
  have q := fmod_b (if 0 - x > x then 0 - x else x) 1000003 (by decide)
  refine ⟨⟨if 0 - x > x then 0 - x else x, if (if 0 - x > x then 0 - x else x) ≥ 10 ^ 18 then 1 else 0, (if 0 - x > x then 0 - x else x).fmod 1000003, by split <;> omega, q.1, by omega⟩, ?_⟩
  unfold F__law_pen_of u__law_pen_of penD
  simp
end Gb

/-! Hpx: cells; the end -/
namespace Gb
open PySem L2
/-- cells -/
theorem cut_ints {ns : List Int} {l u : Option Int} : ∃ ms : List Int, cutD (ns.map D.int) l u = ms.map D.int ∧ ms.length ≤ ns.length := by
  unfold cutD
  rw [List.length_map]
  refine ⟨(ns.drop (HT.sIx ns.length 0 l)).take (HT.sIx ns.length ns.length u - HT.sIx ns.length 0 l), ?_, ?_⟩
  · rw [List.map_take, List.map_drop]
  · rw [List.length_take, List.length_drop]
    omega
theorem cell_ex (ns : List Int) {k : Int} (hk : 0 ≤ k) : ∃ x, F__law_cell_at [.fro (ns.map D.int), .int k] = .ok (.int x) := by
  unfold F__law_cell_at u__law_cell_at
  by_cases hl : k < (ns.length : Int)
  · obtain ⟨d, e1, e2⟩ := at_some (xs := ns.map D.int) hk (by simpa using hl)
    rw [List.getElem?_map] at e1
    cases q : ns[k.toNat]? with
    | none => rw [q] at e1; cases e1
    | some x => rw [q] at e1; cases e1; exact ⟨x, by simp [hl, e2]⟩
  · exact ⟨0, by simp [hl]⟩
/-- from the words without a heap to the plain ones -/
theorem law_endP {p : List D → PHeap → Res D} {F : UF} (k : FP false p F) (ns : List Int) (e : F [.fro (ns.map D.int)] = .ok (.bl true)) : ∃ h, p [.fro (ns.map D.int)] [] = .ok (.bl true) h := by
  have := k (fun _ => False) [] [.fro (ns.map D.int)] [.fro (ns.map D.int)] (fun _ h => h.elim) (.one (by rw [Den]; exact ⟨_, rfl, DenL.ints ns⟩))
  rw [e] at this
  obtain ⟨d, h', e1, _, q⟩ := this
  replace q : Den (fun _ => False) h' (.bl true) d := q
  rw [Den] at q
  subst q
  exact ⟨h', e1⟩
end Gb

/-! Hk45: k45, by the kernel -/
namespace Gb
open PySem L2
def uxIs (r : UX) (d : D) : Bool := match r with
  | .ok e => decide (e = d)
  | _ => false
theorem uxIs_eq {r : UX} {d : D} (h : uxIs r d = true) : r = .ok d := by
  unfold uxIs at h
  split at h
  · rw [of_decide_eq_true h]
  · cases h
theorem trays_t : F__law_trays_right [] = .ok (.bl true) := uxIs_eq (by decide +kernel)
theorem clear_0 : F__law_clear_right [.int 0] = .ok (.bl true) := uxIs_eq (by decide +kernel)
theorem clear_1 : F__law_clear_right [.int 1] = .ok (.bl true) := uxIs_eq (by decide +kernel)
theorem clear_2 : F__law_clear_right [.int 2] = .ok (.bl true) := uxIs_eq (by decide +kernel)
theorem clear_3 : F__law_clear_right [.int 3] = .ok (.bl true) := uxIs_eq (by decide +kernel)
theorem clear_4 : F__law_clear_right [.int 4] = .ok (.bl true) := uxIs_eq (by decide +kernel)
theorem clear_5 : F__law_clear_right [.int 5] = .ok (.bl true) := uxIs_eq (by decide +kernel)
theorem vents_0 : F__law_vents_right [.int 0] = .ok (.bl true) := uxIs_eq (by decide +kernel)
theorem vents_1 : F__law_vents_right [.int 1] = .ok (.bl true) := uxIs_eq (by decide +kernel)
theorem vents_2 : F__law_vents_right [.int 2] = .ok (.bl true) := uxIs_eq (by decide +kernel)
theorem vents_3 : F__law_vents_right [.int 3] = .ok (.bl true) := uxIs_eq (by decide +kernel)
theorem vents_4 : F__law_vents_right [.int 4] = .ok (.bl true) := uxIs_eq (by decide +kernel)
theorem vents_5 : F__law_vents_right [.int 5] = .ok (.bl true) := uxIs_eq (by decide +kernel)
theorem both_t {r : Int} (h : 0 ≤ r ∧ r < 6) : F__law_clear_right [.int r] = .ok (.bl true) ∧ F__law_vents_right [.int r] = .ok (.bl true) := by
  have c : r = 0 ∨ r = 1 ∨ r = 2 ∨ r = 3 ∨ r = 4 ∨ r = 5 := by omega
  rcases c with rfl | rfl | rfl | rfl | rfl | rfl
  · exact ⟨clear_0, vents_0⟩
  · exact ⟨clear_1, vents_1⟩
  · exact ⟨clear_2, vents_2⟩
  · exact ⟨clear_3, vents_3⟩
  · exact ⟨clear_4, vents_4⟩
  · exact ⟨clear_5, vents_5⟩
theorem law_u (ns : List Int) : F_law [.fro (ns.map D.int)] = .ok (.bl true) := by
  obtain ⟨x0, e0⟩ := cell_ex ns (k := 0) (by decide)
  obtain ⟨s, e1⟩ := pen_ex x0
  have e2 := dr_eq (s := s) (b := 6) (by decide) (by decide)
  obtain ⟨e3, e4⟩ := both_t (dr_b s 6)
  have e5 := trays_t
  generalize dr s 6 = r at *
  generalize (ns.map D.int) = NS at *
  unfold F_law u_law
  simp [e0, e1, e2, e3, e4, e5]
theorem law_true (ns : List Int) (hl : ns.length ≤ 63) : ∃ h, p_law [.fro (ns.map .int)] [] = .ok (.bl true) h := law_endP k_law ns (law_u ns)
end Gb

namespace Gb
open PySem PySem.Spec PyProof.Rows L2
theorem all_mk {l : PySem.W.OpenLaw} {w : World} {K : PySem.W.Frag} {h : Heap} {mg : Str → Option Value} {fa : Addr} (X : K.In h) (G : h.Ns mainGlobals mg) (hfa : mg "law" = some (.ref fa))
    {f0 : Addr} {od0 an0 : Option Addr} {sl0 : Array (Option Value)} {oc0 kV0 dc0 pm0 cd0 ct0 : Value} (a0 : PySem.W.nsIn K mainGlobals "is_whole" = some (some (.ref f0))) (l0 : K.lookup f0 = some ⟨oc0, od0, .func (PySem.W.fnOf "is_whole" "is_whole" (defArgs t_is_whole) (defBody t_is_whole) (defScope t_is_whole) .none kV0 dc0 pm0 an0 cd0 ct0), sl0⟩) (c0 : PySem.W.codeIn K cd0 "is_whole" = true) (k0 : PySem.W.keepIn K (.ref f0) = true)
    {f1 : Addr} {od1 an1 : Option Addr} {sl1 : Array (Option Value)} {oc1 kV1 dc1 pm1 cd1 ct1 : Value} (a1 : PySem.W.nsIn K mainGlobals "hours_of" = some (some (.ref f1))) (l1 : K.lookup f1 = some ⟨oc1, od1, .func (PySem.W.fnOf "hours_of" "hours_of" (defArgs t_hours_of) (defBody t_hours_of) (defScope t_hours_of) .none kV1 dc1 pm1 an1 cd1 ct1), sl1⟩) (c1 : PySem.W.codeIn K cd1 "hours_of" = true) (k1 : PySem.W.keepIn K (.ref f1) = true)
    {f2 : Addr} {od2 an2 : Option Addr} {sl2 : Array (Option Value)} {oc2 kV2 dc2 pm2 cd2 ct2 : Value} (a2 : PySem.W.nsIn K mainGlobals "bays_brought" = some (some (.ref f2))) (l2 : K.lookup f2 = some ⟨oc2, od2, .func (PySem.W.fnOf "bays_brought" "bays_brought" (defArgs t_bays_brought) (defBody t_bays_brought) (defScope t_bays_brought) .none kV2 dc2 pm2 an2 cd2 ct2), sl2⟩) (c2 : PySem.W.codeIn K cd2 "bays_brought" = true) (k2 : PySem.W.keepIn K (.ref f2) = true)
    {f3 : Addr} {od3 an3 : Option Addr} {sl3 : Array (Option Value)} {oc3 kV3 dc3 pm3 cd3 ct3 : Value} (a3 : PySem.W.nsIn K mainGlobals "bays_blown" = some (some (.ref f3))) (l3 : K.lookup f3 = some ⟨oc3, od3, .func (PySem.W.fnOf "bays_blown" "bays_blown" (defArgs t_bays_blown) (defBody t_bays_blown) (defScope t_bays_blown) .none kV3 dc3 pm3 an3 cd3 ct3), sl3⟩) (c3 : PySem.W.codeIn K cd3 "bays_blown" = true) (k3 : PySem.W.keepIn K (.ref f3) = true)
    {f4 : Addr} {od4 an4 : Option Addr} {sl4 : Array (Option Value)} {oc4 kV4 dc4 pm4 cd4 ct4 : Value} (a4 : PySem.W.nsIn K mainGlobals "_law_cell_at" = some (some (.ref f4))) (l4 : K.lookup f4 = some ⟨oc4, od4, .func (PySem.W.fnOf "_law_cell_at" "_law_cell_at" (defArgs t__law_cell_at) (defBody t__law_cell_at) (defScope t__law_cell_at) .none kV4 dc4 pm4 an4 cd4 ct4), sl4⟩) (c4 : PySem.W.codeIn K cd4 "_law_cell_at" = true) (k4 : PySem.W.keepIn K (.ref f4) = true)
    {f5 : Addr} {od5 an5 : Option Addr} {sl5 : Array (Option Value)} {oc5 kV5 dc5 pm5 cd5 ct5 : Value} (a5 : PySem.W.nsIn K mainGlobals "_law_next" = some (some (.ref f5))) (l5 : K.lookup f5 = some ⟨oc5, od5, .func (PySem.W.fnOf "_law_next" "_law_next" (defArgs t__law_next) (defBody t__law_next) (defScope t__law_next) .none kV5 dc5 pm5 an5 cd5 ct5), sl5⟩) (c5 : PySem.W.codeIn K cd5 "_law_next" = true) (k5 : PySem.W.keepIn K (.ref f5) = true)
    {f6 : Addr} {od6 an6 : Option Addr} {sl6 : Array (Option Value)} {oc6 kV6 dc6 pm6 cd6 ct6 : Value} (a6 : PySem.W.nsIn K mainGlobals "_law_pen_of" = some (some (.ref f6))) (l6 : K.lookup f6 = some ⟨oc6, od6, .func (PySem.W.fnOf "_law_pen_of" "_law_pen_of" (defArgs t__law_pen_of) (defBody t__law_pen_of) (defScope t__law_pen_of) .none kV6 dc6 pm6 an6 cd6 ct6), sl6⟩) (c6 : PySem.W.codeIn K cd6 "_law_pen_of" = true) (k6 : PySem.W.keepIn K (.ref f6) = true)
    {f7 : Addr} {od7 an7 : Option Addr} {sl7 : Array (Option Value)} {oc7 kV7 dc7 pm7 cd7 ct7 : Value} (a7 : PySem.W.nsIn K mainGlobals "is_among" = some (some (.ref f7))) (l7 : K.lookup f7 = some ⟨oc7, od7, .func (PySem.W.fnOf "is_among" "is_among" (defArgs t_is_among) (defBody t_is_among) (defScope t_is_among) .none kV7 dc7 pm7 an7 cd7 ct7), sl7⟩) (c7 : PySem.W.codeIn K cd7 "is_among" = true) (k7 : PySem.W.keepIn K (.ref f7) = true)
    {f8 : Addr} {od8 an8 : Option Addr} {sl8 : Array (Option Value)} {oc8 kV8 dc8 pm8 cd8 ct8 : Value} (a8 : PySem.W.nsIn K mainGlobals "grown_from" = some (some (.ref f8))) (l8 : K.lookup f8 = some ⟨oc8, od8, .func (PySem.W.fnOf "grown_from" "grown_from" (defArgs t_grown_from) (defBody t_grown_from) (defScope t_grown_from) .none kV8 dc8 pm8 an8 cd8 ct8), sl8⟩) (c8 : PySem.W.codeIn K cd8 "grown_from" = true) (k8 : PySem.W.keepIn K (.ref f8) = true)
    {f9 : Addr} {od9 an9 : Option Addr} {sl9 : Array (Option Value)} {oc9 kV9 dc9 pm9 cd9 ct9 : Value} (a9 : PySem.W.nsIn K mainGlobals "first_hours" = some (some (.ref f9))) (l9 : K.lookup f9 = some ⟨oc9, od9, .func (PySem.W.fnOf "first_hours" "first_hours" (defArgs t_first_hours) (defBody t_first_hours) (defScope t_first_hours) .none kV9 dc9 pm9 an9 cd9 ct9), sl9⟩) (c9 : PySem.W.codeIn K cd9 "first_hours" = true) (k9 : PySem.W.keepIn K (.ref f9) = true)
    {f10 : Addr} {od10 an10 : Option Addr} {sl10 : Array (Option Value)} {oc10 kV10 dc10 pm10 cd10 ct10 : Value} (a10 : PySem.W.nsIn K mainGlobals "barred_by" = some (some (.ref f10))) (l10 : K.lookup f10 = some ⟨oc10, od10, .func (PySem.W.fnOf "barred_by" "barred_by" (defArgs t_barred_by) (defBody t_barred_by) (defScope t_barred_by) .none kV10 dc10 pm10 an10 cd10 ct10), sl10⟩) (c10 : PySem.W.codeIn K cd10 "barred_by" = true) (k10 : PySem.W.keepIn K (.ref f10) = true)
    {f11 : Addr} {od11 an11 : Option Addr} {sl11 : Array (Option Value)} {oc11 kV11 dc11 pm11 cd11 ct11 : Value} (a11 : PySem.W.nsIn K mainGlobals "goes_on" = some (some (.ref f11))) (l11 : K.lookup f11 = some ⟨oc11, od11, .func (PySem.W.fnOf "goes_on" "goes_on" (defArgs t_goes_on) (defBody t_goes_on) (defScope t_goes_on) .none kV11 dc11 pm11 an11 cd11 ct11), sl11⟩) (c11 : PySem.W.codeIn K cd11 "goes_on" = true) (k11 : PySem.W.keepIn K (.ref f11) = true)
    {f12 : Addr} {od12 an12 : Option Addr} {sl12 : Array (Option Value)} {oc12 kV12 dc12 pm12 cd12 ct12 : Value} (a12 : PySem.W.nsIn K mainGlobals "_law_draw" = some (some (.ref f12))) (l12 : K.lookup f12 = some ⟨oc12, od12, .func (PySem.W.fnOf "_law_draw" "_law_draw" (defArgs t__law_draw) (defBody t__law_draw) (defScope t__law_draw) .none kV12 dc12 pm12 an12 cd12 ct12), sl12⟩) (c12 : PySem.W.codeIn K cd12 "_law_draw" = true) (k12 : PySem.W.keepIn K (.ref f12) = true)
    {f13 : Addr} {od13 an13 : Option Addr} {sl13 : Array (Option Value)} {oc13 kV13 dc13 pm13 cd13 ct13 : Value} (a13 : PySem.W.nsIn K mainGlobals "are_bays" = some (some (.ref f13))) (l13 : K.lookup f13 = some ⟨oc13, od13, .func (PySem.W.fnOf "are_bays" "are_bays" (defArgs t_are_bays) (defBody t_are_bays) (defScope t_are_bays) .none kV13 dc13 pm13 an13 cd13 ct13), sl13⟩) (c13 : PySem.W.codeIn K cd13 "are_bays" = true) (k13 : PySem.W.keepIn K (.ref f13) = true)
    {f14 : Addr} {od14 an14 : Option Addr} {sl14 : Array (Option Value)} {oc14 kV14 dc14 pm14 cd14 ct14 : Value} (a14 : PySem.W.nsIn K mainGlobals "is_way" = some (some (.ref f14))) (l14 : K.lookup f14 = some ⟨oc14, od14, .func (PySem.W.fnOf "is_way" "is_way" (defArgs t_is_way) (defBody t_is_way) (defScope t_is_way) .none kV14 dc14 pm14 an14 cd14 ct14), sl14⟩) (c14 : PySem.W.codeIn K cd14 "is_way" = true) (k14 : PySem.W.keepIn K (.ref f14) = true)
    {f15 : Addr} {od15 an15 : Option Addr} {sl15 : Array (Option Value)} {oc15 kV15 dc15 pm15 cd15 ct15 : Value} (a15 : PySem.W.nsIn K mainGlobals "is_begin" = some (some (.ref f15))) (l15 : K.lookup f15 = some ⟨oc15, od15, .func (PySem.W.fnOf "is_begin" "is_begin" (defArgs t_is_begin) (defBody t_is_begin) (defScope t_is_begin) .none kV15 dc15 pm15 an15 cd15 ct15), sl15⟩) (c15 : PySem.W.codeIn K cd15 "is_begin" = true) (k15 : PySem.W.keepIn K (.ref f15) = true)
    {f16 : Addr} {od16 an16 : Option Addr} {sl16 : Array (Option Value)} {oc16 kV16 dc16 pm16 cd16 ct16 : Value} (a16 : PySem.W.nsIn K mainGlobals "story_by" = some (some (.ref f16))) (l16 : K.lookup f16 = some ⟨oc16, od16, .func (PySem.W.fnOf "story_by" "story_by" (defArgs t_story_by) (defBody t_story_by) (defScope t_story_by) .none kV16 dc16 pm16 an16 cd16 ct16), sl16⟩) (c16 : PySem.W.codeIn K cd16 "story_by" = true) (k16 : PySem.W.keepIn K (.ref f16) = true)
    {f17 : Addr} {od17 an17 : Option Addr} {sl17 : Array (Option Value)} {oc17 kV17 dc17 pm17 cd17 ct17 : Value} (a17 : PySem.W.nsIn K mainGlobals "is_yard" = some (some (.ref f17))) (l17 : K.lookup f17 = some ⟨oc17, od17, .func (PySem.W.fnOf "is_yard" "is_yard" (defArgs t_is_yard) (defBody t_is_yard) (defScope t_is_yard) .none kV17 dc17 pm17 an17 cd17 ct17), sl17⟩) (c17 : PySem.W.codeIn K cd17 "is_yard" = true) (k17 : PySem.W.keepIn K (.ref f17) = true)
    {f18 : Addr} {od18 an18 : Option Addr} {sl18 : Array (Option Value)} {oc18 kV18 dc18 pm18 cd18 ct18 : Value} (a18 : PySem.W.nsIn K mainGlobals "need_begin" = some (some (.ref f18))) (l18 : K.lookup f18 = some ⟨oc18, od18, .func (PySem.W.fnOf "need_begin" "need_begin" (defArgs t_need_begin) (defBody t_need_begin) (defScope t_need_begin) .none kV18 dc18 pm18 an18 cd18 ct18), sl18⟩) (c18 : PySem.W.codeIn K cd18 "need_begin" = true) (k18 : PySem.W.keepIn K (.ref f18) = true)
    {f19 : Addr} {od19 an19 : Option Addr} {sl19 : Array (Option Value)} {oc19 kV19 dc19 pm19 cd19 ct19 : Value} (a19 : PySem.W.nsIn K mainGlobals "is_find" = some (some (.ref f19))) (l19 : K.lookup f19 = some ⟨oc19, od19, .func (PySem.W.fnOf "is_find" "is_find" (defArgs t_is_find) (defBody t_is_find) (defScope t_is_find) .none kV19 dc19 pm19 an19 cd19 ct19), sl19⟩) (c19 : PySem.W.codeIn K cd19 "is_find" = true) (k19 : PySem.W.keepIn K (.ref f19) = true)
    {f20 : Addr} {od20 an20 : Option Addr} {sl20 : Array (Option Value)} {oc20 kV20 dc20 pm20 cd20 ct20 : Value} (a20 : PySem.W.nsIn K mainGlobals "begins_by" = some (some (.ref f20))) (l20 : K.lookup f20 = some ⟨oc20, od20, .func (PySem.W.fnOf "begins_by" "begins_by" (defArgs t_begins_by) (defBody t_begins_by) (defScope t_begins_by) .none kV20 dc20 pm20 an20 cd20 ct20), sl20⟩) (c20 : PySem.W.codeIn K cd20 "begins_by" = true) (k20 : PySem.W.keepIn K (.ref f20) = true)
    {f21 : Addr} {od21 an21 : Option Addr} {sl21 : Array (Option Value)} {oc21 kV21 dc21 pm21 cd21 ct21 : Value} (a21 : PySem.W.nsIn K mainGlobals "need_yard" = some (some (.ref f21))) (l21 : K.lookup f21 = some ⟨oc21, od21, .func (PySem.W.fnOf "need_yard" "need_yard" (defArgs t_need_yard) (defBody t_need_yard) (defScope t_need_yard) .none kV21 dc21 pm21 an21 cd21 ct21), sl21⟩) (c21 : PySem.W.codeIn K cd21 "need_yard" = true) (k21 : PySem.W.keepIn K (.ref f21) = true)
    {f22 : Addr} {od22 an22 : Option Addr} {sl22 : Array (Option Value)} {oc22 kV22 dc22 pm22 cd22 ct22 : Value} (a22 : PySem.W.nsIn K mainGlobals "need_finds" = some (some (.ref f22))) (l22 : K.lookup f22 = some ⟨oc22, od22, .func (PySem.W.fnOf "need_finds" "need_finds" (defArgs t_need_finds) (defBody t_need_finds) (defScope t_need_finds) .none kV22 dc22 pm22 an22 cd22 ct22), sl22⟩) (c22 : PySem.W.codeIn K cd22 "need_finds" = true) (k22 : PySem.W.keepIn K (.ref f22) = true)
    {f23 : Addr} {od23 an23 : Option Addr} {sl23 : Array (Option Value)} {oc23 kV23 dc23 pm23 cd23 ct23 : Value} (a23 : PySem.W.nsIn K mainGlobals "may_have" = some (some (.ref f23))) (l23 : K.lookup f23 = some ⟨oc23, od23, .func (PySem.W.fnOf "may_have" "may_have" (defArgs t_may_have) (defBody t_may_have) (defScope t_may_have) .none kV23 dc23 pm23 an23 cd23 ct23), sl23⟩) (c23 : PySem.W.codeIn K cd23 "may_have" = true) (k23 : PySem.W.keepIn K (.ref f23) = true)
    {f24 : Addr} {od24 an24 : Option Addr} {sl24 : Array (Option Value)} {oc24 kV24 dc24 pm24 cd24 ct24 : Value} (a24 : PySem.W.nsIn K mainGlobals "must_have" = some (some (.ref f24))) (l24 : K.lookup f24 = some ⟨oc24, od24, .func (PySem.W.fnOf "must_have" "must_have" (defArgs t_must_have) (defBody t_must_have) (defScope t_must_have) .none kV24 dc24 pm24 an24 cd24 ct24), sl24⟩) (c24 : PySem.W.codeIn K cd24 "must_have" = true) (k24 : PySem.W.keepIn K (.ref f24) = true)
    {f25 : Addr} {od25 an25 : Option Addr} {sl25 : Array (Option Value)} {oc25 kV25 dc25 pm25 cd25 ct25 : Value} (a25 : PySem.W.nsIn K mainGlobals "begins_of" = some (some (.ref f25))) (l25 : K.lookup f25 = some ⟨oc25, od25, .func (PySem.W.fnOf "begins_of" "begins_of" (defArgs t_begins_of) (defBody t_begins_of) (defScope t_begins_of) .none kV25 dc25 pm25 an25 cd25 ct25), sl25⟩) (c25 : PySem.W.codeIn K cd25 "begins_of" = true) (k25 : PySem.W.keepIn K (.ref f25) = true)
    {f26 : Addr} {od26 an26 : Option Addr} {sl26 : Array (Option Value)} {oc26 kV26 dc26 pm26 cd26 ct26 : Value} (a26 : PySem.W.nsIn K mainGlobals "story_of" = some (some (.ref f26))) (l26 : K.lookup f26 = some ⟨oc26, od26, .func (PySem.W.fnOf "story_of" "story_of" (defArgs t_story_of) (defBody t_story_of) (defScope t_story_of) .none kV26 dc26 pm26 an26 cd26 ct26), sl26⟩) (c26 : PySem.W.codeIn K cd26 "story_of" = true) (k26 : PySem.W.keepIn K (.ref f26) = true)
    {f27 : Addr} {od27 an27 : Option Addr} {sl27 : Array (Option Value)} {oc27 kV27 dc27 pm27 cd27 ct27 : Value} (a27 : PySem.W.nsIn K mainGlobals "is_story" = some (some (.ref f27))) (l27 : K.lookup f27 = some ⟨oc27, od27, .func (PySem.W.fnOf "is_story" "is_story" (defArgs t_is_story) (defBody t_is_story) (defScope t_is_story) .none kV27 dc27 pm27 an27 cd27 ct27), sl27⟩) (c27 : PySem.W.codeIn K cd27 "is_story" = true) (k27 : PySem.W.keepIn K (.ref f27) = true)
    {f28 : Addr} {od28 an28 : Option Addr} {sl28 : Array (Option Value)} {oc28 kV28 dc28 pm28 cd28 ct28 : Value} (a28 : PySem.W.nsIn K mainGlobals "called" = some (some (.ref f28))) (l28 : K.lookup f28 = some ⟨oc28, od28, .func (PySem.W.fnOf "called" "called" (defArgs t_called) (defBody t_called) (defScope t_called) .none kV28 dc28 pm28 an28 cd28 ct28), sl28⟩) (c28 : PySem.W.codeIn K cd28 "called" = true) (k28 : PySem.W.keepIn K (.ref f28) = true)
    {f29 : Addr} {od29 an29 : Option Addr} {sl29 : Array (Option Value)} {oc29 kV29 dc29 pm29 cd29 ct29 : Value} (a29 : PySem.W.nsIn K mainGlobals "_law_clear_right" = some (some (.ref f29))) (l29 : K.lookup f29 = some ⟨oc29, od29, .func (PySem.W.fnOf "_law_clear_right" "_law_clear_right" (defArgs t__law_clear_right) (defBody t__law_clear_right) (defScope t__law_clear_right) .none kV29 dc29 pm29 an29 cd29 ct29), sl29⟩) (c29 : PySem.W.codeIn K cd29 "_law_clear_right" = true) (k29 : PySem.W.keepIn K (.ref f29) = true)
    {f30 : Addr} {od30 an30 : Option Addr} {sl30 : Array (Option Value)} {oc30 kV30 dc30 pm30 cd30 ct30 : Value} (a30 : PySem.W.nsIn K mainGlobals "_law_vents_right" = some (some (.ref f30))) (l30 : K.lookup f30 = some ⟨oc30, od30, .func (PySem.W.fnOf "_law_vents_right" "_law_vents_right" (defArgs t__law_vents_right) (defBody t__law_vents_right) (defScope t__law_vents_right) .none kV30 dc30 pm30 an30 cd30 ct30), sl30⟩) (c30 : PySem.W.codeIn K cd30 "_law_vents_right" = true) (k30 : PySem.W.keepIn K (.ref f30) = true)
    {f31 : Addr} {od31 an31 : Option Addr} {sl31 : Array (Option Value)} {oc31 kV31 dc31 pm31 cd31 ct31 : Value} (a31 : PySem.W.nsIn K mainGlobals "_law_trays_right" = some (some (.ref f31))) (l31 : K.lookup f31 = some ⟨oc31, od31, .func (PySem.W.fnOf "_law_trays_right" "_law_trays_right" (defArgs t__law_trays_right) (defBody t__law_trays_right) (defScope t__law_trays_right) .none kV31 dc31 pm31 an31 cd31 ct31), sl31⟩) (c31 : PySem.W.codeIn K cd31 "_law_trays_right" = true) (k31 : PySem.W.keepIn K (.ref f31) = true)
    {f32 : Addr} {od32 an32 : Option Addr} {sl32 : Array (Option Value)} {oc32 kV32 dc32 pm32 cd32 ct32 : Value} (a32 : PySem.W.nsIn K mainGlobals "law" = some (some (.ref f32))) (l32 : K.lookup f32 = some ⟨oc32, od32, .func (PySem.W.fnOf "law" "law" (defArgs t_law) (defBody t_law) (defScope t_law) .none kV32 dc32 pm32 an32 cd32 ct32), sl32⟩) (c32 : PySem.W.codeIn K cd32 "law" = true) (k32 : PySem.W.keepIn K (.ref f32) = true)
    (z_all : PySem.W.nsIn K mainGlobals "all" = some none)
    (z_any : PySem.W.nsIn K mainGlobals "any" = some none)
    (z_bool : PySem.W.nsIn K mainGlobals "bool" = some none)
    (z_enumerate : PySem.W.nsIn K mainGlobals "enumerate" = some none)
    (z_int : PySem.W.nsIn K mainGlobals "int" = some none)
    (z_isinstance : PySem.W.nsIn K mainGlobals "isinstance" = some none)
    (z_len : PySem.W.nsIn K mainGlobals "len" = some none)
    (z_list : PySem.W.nsIn K mainGlobals "list" = some none)
    (z_max : PySem.W.nsIn K mainGlobals "max" = some none)
    (z_min : PySem.W.nsIn K mainGlobals "min" = some none)
    (z_range : PySem.W.nsIn K mainGlobals "range" = some none)
    (z_set : PySem.W.nsIn K mainGlobals "set" = some none)
    (z_sorted : PySem.W.nsIn K mainGlobals "sorted" = some none)
    (z_tuple : PySem.W.nsIn K mainGlobals "tuple" = some none)
    (z_zip : PySem.W.nsIn K mainGlobals "zip" = some none)
    (y_LEAST_BAYS : ∃ t, PySem.W.nsIn K mainGlobals "LEAST_BAYS" = some (some (.int (2) t)))
    (y_MOST_BAYS : ∃ t, PySem.W.nsIn K mainGlobals "MOST_BAYS" = some (some (.int (6) t)))
    (y_MOST_FINDS : ∃ t, PySem.W.nsIn K mainGlobals "MOST_FINDS" = some (some (.int (6) t)))
    (y_MOST_VENTS : ∃ t, PySem.W.nsIn K mainGlobals "MOST_VENTS" = some (some (.int (7) t)))
    (y_MOST_WAYS : ∃ t, PySem.W.nsIn K mainGlobals "MOST_WAYS" = some (some (.int (5) t)))
    : ∃ fd : FuncData, (∀ (s : Shared) (v : Value), BindsTo s fd ⟨[v], []⟩ [("_law_script", v)]) ∧ ∀ base : Heap, K.In base → base.Ns mainGlobals mg → FnG l.prog w K mg base 8 fa fd ["_law_script"] (spOf K (fun _ => 0) p_law) := by
  have e := hfa.symm.trans (PySem.W.mg_of X G a32)
  cases e
  have T : Top K mg := ⟨PySem.W.mg_none_of X G z_all, PySem.W.mg_none_of X G z_any, PySem.W.mg_none_of X G z_bool, PySem.W.mg_none_of X G z_enumerate, PySem.W.mg_none_of X G z_int, PySem.W.mg_none_of X G z_isinstance, PySem.W.mg_none_of X G z_len, PySem.W.mg_none_of X G z_list, PySem.W.mg_none_of X G z_max, PySem.W.mg_none_of X G z_min, PySem.W.mg_none_of X G z_range, PySem.W.mg_none_of X G z_set, PySem.W.mg_none_of X G z_sorted, PySem.W.mg_none_of X G z_tuple, PySem.W.mg_none_of X G z_zip, (by obtain ⟨t, e⟩ := y_LEAST_BAYS; exact ⟨_, PySem.W.mg_of X G e, ⟨t, rfl⟩⟩), (by obtain ⟨t, e⟩ := y_MOST_BAYS; exact ⟨_, PySem.W.mg_of X G e, ⟨t, rfl⟩⟩), (by obtain ⟨t, e⟩ := y_MOST_FINDS; exact ⟨_, PySem.W.mg_of X G e, ⟨t, rfl⟩⟩), (by obtain ⟨t, e⟩ := y_MOST_VENTS; exact ⟨_, PySem.W.mg_of X G e, ⟨t, rfl⟩⟩), (by obtain ⟨t, e⟩ := y_MOST_WAYS; exact ⟨_, PySem.W.mg_of X G e, ⟨t, rfl⟩⟩), ⟨_, _, fun_mk (st := t_is_whole) l0 c0 k0, PySem.W.mg_of X G a0⟩, ⟨_, _, fun_mk (st := t_hours_of) l1 c1 k1, PySem.W.mg_of X G a1⟩, ⟨_, _, fun_mk (st := t_bays_brought) l2 c2 k2, PySem.W.mg_of X G a2⟩, ⟨_, _, fun_mk (st := t_bays_blown) l3 c3 k3, PySem.W.mg_of X G a3⟩, ⟨_, _, fun_mk (st := t__law_cell_at) l4 c4 k4, PySem.W.mg_of X G a4⟩, ⟨_, _, fun_mk (st := t__law_next) l5 c5 k5, PySem.W.mg_of X G a5⟩, ⟨_, _, fun_mk (st := t__law_pen_of) l6 c6 k6, PySem.W.mg_of X G a6⟩, ⟨_, _, fun_mk (st := t_is_among) l7 c7 k7, PySem.W.mg_of X G a7⟩, ⟨_, _, fun_mk (st := t_grown_from) l8 c8 k8, PySem.W.mg_of X G a8⟩, ⟨_, _, fun_mk (st := t_first_hours) l9 c9 k9, PySem.W.mg_of X G a9⟩, ⟨_, _, fun_mk (st := t_barred_by) l10 c10 k10, PySem.W.mg_of X G a10⟩, ⟨_, _, fun_mk (st := t_goes_on) l11 c11 k11, PySem.W.mg_of X G a11⟩, ⟨_, _, fun_mk (st := t__law_draw) l12 c12 k12, PySem.W.mg_of X G a12⟩, ⟨_, _, fun_mk (st := t_are_bays) l13 c13 k13, PySem.W.mg_of X G a13⟩, ⟨_, _, fun_mk (st := t_is_way) l14 c14 k14, PySem.W.mg_of X G a14⟩, ⟨_, _, fun_mk (st := t_is_begin) l15 c15 k15, PySem.W.mg_of X G a15⟩, ⟨_, _, fun_mk (st := t_story_by) l16 c16 k16, PySem.W.mg_of X G a16⟩, ⟨_, _, fun_mk (st := t_is_yard) l17 c17 k17, PySem.W.mg_of X G a17⟩, ⟨_, _, fun_mk (st := t_need_begin) l18 c18 k18, PySem.W.mg_of X G a18⟩, ⟨_, _, fun_mk (st := t_is_find) l19 c19 k19, PySem.W.mg_of X G a19⟩, ⟨_, _, fun_mk (st := t_begins_by) l20 c20 k20, PySem.W.mg_of X G a20⟩, ⟨_, _, fun_mk (st := t_need_yard) l21 c21 k21, PySem.W.mg_of X G a21⟩, ⟨_, _, fun_mk (st := t_need_finds) l22 c22 k22, PySem.W.mg_of X G a22⟩, ⟨_, _, fun_mk (st := t_may_have) l23 c23 k23, PySem.W.mg_of X G a23⟩, ⟨_, _, fun_mk (st := t_must_have) l24 c24 k24, PySem.W.mg_of X G a24⟩, ⟨_, _, fun_mk (st := t_begins_of) l25 c25 k25, PySem.W.mg_of X G a25⟩, ⟨_, _, fun_mk (st := t_story_of) l26 c26 k26, PySem.W.mg_of X G a26⟩, ⟨_, _, fun_mk (st := t_is_story) l27 c27 k27, PySem.W.mg_of X G a27⟩, ⟨_, _, fun_mk (st := t_called) l28 c28 k28, PySem.W.mg_of X G a28⟩, ⟨_, _, fun_mk (st := t__law_clear_right) l29 c29 k29, PySem.W.mg_of X G a29⟩, ⟨_, _, fun_mk (st := t__law_vents_right) l30 c30 k30, PySem.W.mg_of X G a30⟩, ⟨_, _, fun_mk (st := t__law_trays_right) l31 c31 k31, PySem.W.mg_of X G a31⟩, ⟨_, _, fun_mk (st := t_law) l32 c32 k32, PySem.W.mg_of X G a32⟩⟩
  exact ⟨_, fun s v => .of_eq rfl, fun base _ _ => ok_law T (fun_mk (st := t_law) l32 c32 k32)⟩
end Gb

open PySem PySem.W PyProof.Rows
set_option maxRecDepth 100000 in
set_option maxHeartbeats 0 in
theorem PySem.Challenge.cw_glassbays_k45_forbidden_back_through_tra_holds : PySem.Challenge.rw_glassbays_k45_forbidden_back_through_tra.Holds := by
  w_on; o_law; k_head; (case hw => w_witness2)
  k_fill
  refine Gb.walkG (l := PySem.Challenge.rw_glassbays_k45_forbidden_back_through_tra) (kk := 8) (x := "_law_script") (cl := fun _ => 0) (g := Gb.p_law) rfl rfl ⟨rfl, by decide, by decide⟩ (fun w h Y => PySem.W.kIn_of Y) ?F Gb.law_true
  case F =>
    intro w mg fa h KX G hmg
    refine' Gb.all_mk KX G hmg ?a0 ?l0 ?c0 ?k0 ?a1 ?l1 ?c1 ?k1 ?a2 ?l2 ?c2 ?k2 ?a3 ?l3 ?c3 ?k3 ?a4 ?l4 ?c4 ?k4 ?a5 ?l5 ?c5 ?k5 ?a6 ?l6 ?c6 ?k6 ?a7 ?l7 ?c7 ?k7 ?a8 ?l8 ?c8 ?k8 ?a9 ?l9 ?c9 ?k9 ?a10 ?l10 ?c10 ?k10 ?a11 ?l11 ?c11 ?k11 ?a12 ?l12 ?c12 ?k12 ?a13 ?l13 ?c13 ?k13 ?a14 ?l14 ?c14 ?k14 ?a15 ?l15 ?c15 ?k15 ?a16 ?l16 ?c16 ?k16 ?a17 ?l17 ?c17 ?k17 ?a18 ?l18 ?c18 ?k18 ?a19 ?l19 ?c19 ?k19 ?a20 ?l20 ?c20 ?k20 ?a21 ?l21 ?c21 ?k21 ?a22 ?l22 ?c22 ?k22 ?a23 ?l23 ?c23 ?k23 ?a24 ?l24 ?c24 ?k24 ?a25 ?l25 ?c25 ?k25 ?a26 ?l26 ?c26 ?k26 ?a27 ?l27 ?c27 ?k27 ?a28 ?l28 ?c28 ?k28 ?a29 ?l29 ?c29 ?k29 ?a30 ?l30 ?c30 ?k30 ?a31 ?l31 ?c31 ?k31 ?a32 ?l32 ?c32 ?k32 ?z_all ?z_any ?z_bool ?z_enumerate ?z_int ?z_isinstance ?z_len ?z_list ?z_max ?z_min ?z_range ?z_set ?z_sorted ?z_tuple ?z_zip ?y_LEAST_BAYS ?y_MOST_BAYS ?y_MOST_FINDS ?y_MOST_VENTS ?y_MOST_WAYS
    (case a0 => k_is)
    (case l0 => k_is)
    (case c0 => k_is)
    (case k0 => k_is)
    (case a1 => k_is)
    (case l1 => k_is)
    (case c1 => k_is)
    (case k1 => k_is)
    (case a2 => k_is)
    (case l2 => k_is)
    (case c2 => k_is)
    (case k2 => k_is)
    (case a3 => k_is)
    (case l3 => k_is)
    (case c3 => k_is)
    (case k3 => k_is)
    (case a4 => k_is)
    (case l4 => k_is)
    (case c4 => k_is)
    (case k4 => k_is)
    (case a5 => k_is)
    (case l5 => k_is)
    (case c5 => k_is)
    (case k5 => k_is)
    (case a6 => k_is)
    (case l6 => k_is)
    (case c6 => k_is)
    (case k6 => k_is)
    (case a7 => k_is)
    (case l7 => k_is)
    (case c7 => k_is)
    (case k7 => k_is)
    (case a8 => k_is)
    (case l8 => k_is)
    (case c8 => k_is)
    (case k8 => k_is)
    (case a9 => k_is)
    (case l9 => k_is)
    (case c9 => k_is)
    (case k9 => k_is)
    (case a10 => k_is)
    (case l10 => k_is)
    (case c10 => k_is)
    (case k10 => k_is)
    (case a11 => k_is)
    (case l11 => k_is)
    (case c11 => k_is)
    (case k11 => k_is)
    (case a12 => k_is)
    (case l12 => k_is)
    (case c12 => k_is)
    (case k12 => k_is)
    (case a13 => k_is)
    (case l13 => k_is)
    (case c13 => k_is)
    (case k13 => k_is)
    (case a14 => k_is)
    (case l14 => k_is)
    (case c14 => k_is)
    (case k14 => k_is)
    (case a15 => k_is)
    (case l15 => k_is)
    (case c15 => k_is)
    (case k15 => k_is)
    (case a16 => k_is)
    (case l16 => k_is)
    (case c16 => k_is)
    (case k16 => k_is)
    (case a17 => k_is)
    (case l17 => k_is)
    (case c17 => k_is)
    (case k17 => k_is)
    (case a18 => k_is)
    (case l18 => k_is)
    (case c18 => k_is)
    (case k18 => k_is)
    (case a19 => k_is)
    (case l19 => k_is)
    (case c19 => k_is)
    (case k19 => k_is)
    (case a20 => k_is)
    (case l20 => k_is)
    (case c20 => k_is)
    (case k20 => k_is)
    (case a21 => k_is)
    (case l21 => k_is)
    (case c21 => k_is)
    (case k21 => k_is)
    (case a22 => k_is)
    (case l22 => k_is)
    (case c22 => k_is)
    (case k22 => k_is)
    (case a23 => k_is)
    (case l23 => k_is)
    (case c23 => k_is)
    (case k23 => k_is)
    (case a24 => k_is)
    (case l24 => k_is)
    (case c24 => k_is)
    (case k24 => k_is)
    (case a25 => k_is)
    (case l25 => k_is)
    (case c25 => k_is)
    (case k25 => k_is)
    (case a26 => k_is)
    (case l26 => k_is)
    (case c26 => k_is)
    (case k26 => k_is)
    (case a27 => k_is)
    (case l27 => k_is)
    (case c27 => k_is)
    (case k27 => k_is)
    (case a28 => k_is)
    (case l28 => k_is)
    (case c28 => k_is)
    (case k28 => k_is)
    (case a29 => k_is)
    (case l29 => k_is)
    (case c29 => k_is)
    (case k29 => k_is)
    (case a30 => k_is)
    (case l30 => k_is)
    (case c30 => k_is)
    (case k30 => k_is)
    (case a31 => k_is)
    (case l31 => k_is)
    (case c31 => k_is)
    (case k31 => k_is)
    (case a32 => k_is)
    (case l32 => k_is)
    (case c32 => k_is)
    (case k32 => k_is)
    (case z_all => k_is)
    (case z_any => k_is)
    (case z_bool => k_is)
    (case z_enumerate => k_is)
    (case z_int => k_is)
    (case z_isinstance => k_is)
    (case z_len => k_is)
    (case z_list => k_is)
    (case z_max => k_is)
    (case z_min => k_is)
    (case z_range => k_is)
    (case z_set => k_is)
    (case z_sorted => k_is)
    (case z_tuple => k_is)
    (case z_zip => k_is)
    (case y_LEAST_BAYS => exact ⟨_, by k_is⟩)
    (case y_MOST_BAYS => exact ⟨_, by k_is⟩)
    (case y_MOST_FINDS => exact ⟨_, by k_is⟩)
    (case y_MOST_VENTS => exact ⟨_, by k_is⟩)
    (case y_MOST_WAYS => exact ⟨_, by k_is⟩)
