import PyProof.Rows.All
import HandS.ForExc
import Wide.All
import OpenK.AllK
import Wide.FinOn
import HandS.ForMost
import HandS.Exc
import HandS.ExcOwn
import HandS.WordsExc
import HandS.TupAny
import HandS.TupMul
import HandS.ReCall
import HandS.Walk
import HandS.Zip
import HandS.Flow
import HandS.CallSlots
import HandS.IsInst
import HandS.TupLe
import KE.DataEq
import KE.DataFind
import KE.DataIsa
import KE.DataMinMax
import KE.DataCmp
import KE.SortData
import KE.GoesEnum
import HandS.Style
import HandS.SetFor
import HandS.Defaults
import PySem.Challenge.RW_glassbays_k15_whole_walls_one_by_one
set_option Elab.async false
set_option linter.all false
set_option maxRecDepth 100000
set_option autoImplicit false
set_option maxHeartbeats 4000000
/-! GbA: plain values, plain heaps, what a statement comes to: no Python in sight -/
namespace Gb
open PySem

/-- a value: refs point into the plain heap -/
inductive D where
  | non | bl (b : Bool) | int (i : Int) | str (x : Str) | tup (xs : List D) | ref (n : Nat)
  /-- a list that nobody writes (the script) -/
  | fro (xs : List D)

mutual
def D.beq : D → D → Bool
  | .non, .non => true
  | .bl a, .bl b => a == b
  | .int a, .int b => a == b
  | .str a, .str b => a == b
  | .tup a, .tup b => D.beqL a b
  | .ref a, .ref b => a == b
  | .fro a, .fro b => D.beqL a b
  | _, _ => false
def D.beqL : List D → List D → Bool
  | [], [] => true
  | a :: r, b :: s => D.beq a b && D.beqL r s
  | _, _ => false
end
mutual
theorem D.beq_iff : ∀ a b : D, D.beq a b = true ↔ a = b
  | .non, b => by cases b <;> simp [D.beq]
  | .bl x, b => by cases b <;> simp [D.beq]
  | .int x, b => by cases b <;> simp [D.beq]
  | .str x, b => by cases b <;> simp [D.beq]
  | .ref x, b => by cases b <;> simp [D.beq]
  | .tup xs, b => by
    cases b with
    | tup ys => simp only [D.beq, D.tup.injEq]; exact D.beqL_iff xs ys
    | _ => simp [D.beq]
  | .fro xs, b => by
    cases b with
    | fro ys => simp only [D.beq, D.fro.injEq]; exact D.beqL_iff xs ys
    | _ => simp [D.beq]
theorem D.beqL_iff : ∀ a b : List D, D.beqL a b = true ↔ a = b
  | [], b => by cases b <;> simp [D.beqL]
  | x :: xs, b => by
    cases b with
    | nil => simp [D.beqL]
    | cons y ys => simp only [D.beqL, Bool.and_eq_true, D.beq_iff x y, D.beqL_iff xs ys, List.cons.injEq]
end
instance : DecidableEq D := fun a b => decidable_of_iff _ (D.beq_iff a b)

/-- what a ref points at: a list, a dict, an instance -/
inductive Cell where
  | lst (xs : List D)
  | dct (kvs : List (D × D))
  | ins (c : Nat) (fs : List (Str × D))
  deriving DecidableEq
abbrev PHeap := List Cell
abbrev PEnv := List (Option D)

inductive Res (α : Type) where
  | ok (a : α) (h : PHeap)
  | exc (e : D) (h : PHeap)
  | stuck
/-- behind a statement -/
inductive Out where
  | nx (env : PEnv) (h : PHeap)
  | rt (d : D) (h : PHeap)
  | bk (env : PEnv) (h : PHeap)
  | ct (env : PEnv) (h : PHeap)
  | exc (e : D) (env : PEnv) (h : PHeap)
  | stuck

def Res.bind {α β : Type} (r : Res α) (f : α → PHeap → Res β) : Res β := match r with
  | .ok a h => f a h
  | .exc e h => .exc e h
  | .stuck => .stuck
@[simp] theorem Res.bind_ok {α β : Type} (a : α) (h : PHeap) (f : α → PHeap → Res β) : (Res.ok a h).bind f = f a h := rfl
@[simp] theorem Res.bind_stuck {α β : Type} (f : α → PHeap → Res β) : (Res.stuck : Res α).bind f = .stuck := rfl
@[simp] theorem Res.bind_exc {α β : Type} (e : D) (h : PHeap) (f : α → PHeap → Res β) : (Res.exc e h : Res α).bind f = .exc e h := rfl
/-- an expression's end, within a statement -/
def Res.out {α : Type} (r : Res α) (env : PEnv) (f : α → PHeap → Out) : Out := match r with
  | .ok a h => f a h
  | .exc e h => .exc e env h
  | .stuck => .stuck
@[simp] theorem Res.out_ok {α : Type} (a : α) (h : PHeap) (env : PEnv) (f : α → PHeap → Out) : (Res.ok a h).out env f = f a h := rfl
@[simp] theorem Res.out_stuck {α : Type} (env : PEnv) (f : α → PHeap → Out) : (Res.stuck : Res α).out env f = .stuck := rfl
@[simp] theorem Res.out_exc {α : Type} (e : D) (h : PHeap) (env : PEnv) (f : α → PHeap → Out) : (Res.exc e h : Res α).out env f = .exc e env h := rfl

/-- within a comprehension nothing may be raised -/
def Res.calm {α : Type} (r : Res α) : Res α := match r with
  | .exc _ _ => .stuck
  | r => r
@[simp] theorem Res.calm_ok {α : Type} (a : α) (h : PHeap) : (Res.ok a h).calm = .ok a h := rfl
@[simp] theorem Res.calm_stuck {α : Type} : (Res.stuck : Res α).calm = .stuck := rfl
@[simp] theorem Res.calm_exc {α : Type} (e : D) (h : PHeap) : (Res.exc e h : Res α).calm = .stuck := rfl

abbrev ME := PEnv → PHeap → Res D
abbrev MT := PEnv → PHeap → Res Bool
abbrev MA := PEnv → PHeap → Res (List D)
abbrev MS := PEnv → PHeap → Out
/-- what is walked: its items, and the lists that must stand as they do -/
structure Itr where
  items : List D
  deps : List (Nat × List D)
abbrev MI := PEnv → PHeap → Res Itr
/-- a target: a slot, or several in a tuple -/
inductive TgM where
  | name (i : Nat) | tup (ts : List TgM)
mutual
def TgM.set : TgM → D → PEnv → Option PEnv
  | .name i, d, env => some (env.set i (some d))
  | .tup ts, d, env => match d with
    | .tup xs => TgM.sets ts xs env
    | _ => none
def TgM.sets : List TgM → List D → PEnv → Option PEnv
  | [], [], env => some env
  | t :: ts, x :: xs, env => match TgM.set t x env with
    | some e => TgM.sets ts xs e
    | none => none
  | _, _, _ => none
end
mutual
def TgM.slots : TgM → List Nat
  | .name i => [i]
  | .tup ts => TgM.slotsL ts
def TgM.slotsL : List TgM → List Nat
  | [] => []
  | t :: ts => TgM.slots t ++ TgM.slotsL ts
end

def Itr.live (t : Itr) (h : PHeap) : Bool := t.deps.all fun p => match h[p.1]? with
  | some (.lst xs) => decide (xs = p.2)
  | _ => false

/-! ### small refs, what a call leaves behind -/
mutual
def D.small (n : Nat) : D → Bool
  | .ref k => decide (k < n)
  | .tup xs => D.smallL n xs
  | .fro xs => D.smallL n xs
  | _ => true
def D.smallL (n : Nat) : List D → Bool
  | [] => true
  | x :: xs => D.small n x && D.smallL n xs
end
def Cell.small (n : Nat) : Cell → Bool
  | .lst xs => D.smallL n xs
  | .dct kvs => kvs.all fun p => p.1.small n && p.2.small n
  | .ins _ fs => fs.all fun p => p.2.small n
def gc (n : Nat) (d : D) (h : PHeap) : PHeap :=
  if h.length ≤ n then h else if d.small n && (h.take n).all (Cell.small n) then h.take n else h

/-! ### the words of expressions -/
def mVar (i : Nat) : ME := fun env h => match env[i]? with
  | some (some d) => .ok d h
  | _ => .stuck
def mC (d : D) : ME := fun _ h => .ok d h
def mBin (f : D → D → PHeap → Res D) (a b : ME) : ME := fun env h => (a env h).bind fun x h1 => (b env h1).bind fun y h2 => f x y h2
def mUn (f : D → PHeap → Res D) (a : ME) : ME := fun env h => (a env h).bind f
def mIf (c : MT) (a b : ME) : ME := fun env h => (c env h).bind fun k h1 => match k with
  | true => a env h1
  | false => b env h1
def mNil : MA := fun _ h => .ok [] h
def mCons (a : ME) (r : MA) : MA := fun env h => (a env h).bind fun x h1 => (r env h1).bind fun xs h2 => .ok (x :: xs) h2
def mTup (a : MA) : ME := fun env h => (a env h).bind fun xs h1 => if xs.length ≤ 16777216 then .ok (.tup xs) h1 else .stuck
/-- a new list -/
def mLst (a : MA) : ME := fun env h => (a env h).bind fun xs h1 => if xs.length ≤ 16777216 then .ok (.ref h1.length) (h1 ++ [.lst xs]) else .stuck
def mCall (f : List D → PHeap → Res D) (a : MA) : ME := fun env h => (a env h).bind f

/-! tests -/
def mTst (a : ME) (f : D → PHeap → Res Bool) : MT := fun env h => (a env h).bind f
def mTB (a : ME) : MT := fun env h => (a env h).bind fun d h1 => match d with
  | .bl b => .ok b h1
  | _ => .stuck
def tNotM (c : MT) : MT := fun env h => (c env h).bind fun k h1 => .ok (!k) h1
def tAndM (a b : MT) : MT := fun env h => (a env h).bind fun k h1 => match k with
  | true => b env h1
  | false => .ok false h1
def tOrM (a b : MT) : MT := fun env h => (a env h).bind fun k h1 => match k with
  | true => .ok true h1
  | false => b env h1
def truthD : D → PHeap → Res Bool := fun d h => match d with
  | .non => .ok false h
  | .bl b => .ok b h
  | .int i => .ok (i != 0) h
  | .str x => if x.length ≤ 16777216 then .ok ((x.length : Int) != 0) h else .stuck
  | .tup xs => .ok (!xs.isEmpty) h
  | .ref n => match h[n]? with
    | some (.lst xs) => .ok (!xs.isEmpty) h
    | _ => .stuck
  | .fro xs => .ok (!xs.isEmpty) h
/-- x and y, x or y, as values -/
def mAnd (a b : ME) : ME := fun env h => (a env h).bind fun d h1 => (truthD d h1).bind fun k h2 => match k with
  | true => b env h2
  | false => .ok d h2
def mOr (a b : ME) : ME := fun env h => (a env h).bind fun d h1 => (truthD d h1).bind fun k h2 => match k with
  | true => .ok d h2
  | false => b env h2
def mNot (a : ME) : ME := fun env h => (a env h).bind fun d h1 => (truthD d h1).bind fun k h2 => .ok (.bl (!k)) h2
/-- a op1 b op2 c -/
def mChain (f g : D → D → PHeap → Res D) (a b c : ME) : ME := fun env h => (a env h).bind fun x h1 => (b env h1).bind fun y h2 => (f x y h2).bind fun z h3 => match z with
  | .bl true => (c env h3).bind fun w h4 => g y w h4
  | .bl false => .ok (.bl false) h3
  | _ => .stuck

/-! statements -/
def sSeq (a b : MS) : MS := fun env h => match a env h with
  | .nx e h1 => b e h1
  | o => o
def sNext : MS := fun env h => .nx env h
def sAsg (a : ME) (g : TgM) : MS := fun env h => (a env h).out env fun d h1 => match g.set d env with
  | some e => .nx e h1
  | none => .stuck
/-- a, b = x, y -/
def sPar (is : List Nat) (a : MA) : MS := fun env h => (a env h).out env fun xs h1 => if xs.length = is.length then .nx ((is.zip xs).foldl (fun e p => e.set p.1 (some p.2)) env) h1 else .stuck
def sDrop (a : ME) : MS := fun env h => (a env h).out env fun _ h1 => .nx env h1
def sRet (a : ME) : MS := fun env h => (a env h).out env fun d h1 => .rt d h1
def sRetN : MS := fun _ h => .rt .non h
def sIf (c : MT) (a b : MS) : MS := fun env h => (c env h).out env fun k h1 => match k with
  | true => a env h1
  | false => b env h1
def sBreak : MS := fun env h => .bk env h
def sCont : MS := fun env h => .ct env h
def sStuck : MS := fun _ _ => .stuck
/-- slots forgotten -/
def wipeE (env : PEnv) : List Nat → PEnv
  | [] => env
  | v :: vs => (wipeE env vs).set v none
def forL (g : TgM) (body : MS) (kill : List Nat) (t : Itr) : List D → PEnv → PHeap → Out
  | [], env, h => if t.live h then .nx (wipeE env kill) h else .stuck
  | d :: ds, env, h => if t.live h then match g.set d (wipeE env kill) with
      | none => .stuck
      | some e1 => match body e1 h with
        | .nx e h1 => forL g body kill t ds e h1
        | .ct e h1 => forL g body kill t ds e h1
        | .bk e h1 => .nx e h1
        | .rt d h1 => .rt d h1
        | .exc x e h1 => .exc x e h1
        | .stuck => .stuck
    else .stuck
def sFor (i : MI) (g : TgM) (body : MS) (kill : List Nat) : MS := fun env h => (i env h).out env fun t h1 => forL g body kill t t.items env h1
def whileL (c : MT) (body : MS) (kill : List Nat) : Nat → PEnv → PHeap → Out
  | 0, _, _ => .stuck
  | n + 1, env, h => (c (wipeE env kill) h).out env fun k h1 => match k with
    | false => .nx (wipeE env kill) h1
    | true => match body (wipeE env kill) h1 with
      | .nx e h2 => whileL c body kill n e h2
      | .ct e h2 => whileL c body kill n e h2
      | .bk e h2 => .nx e h2
      | .rt d h2 => .rt d h2
      | .exc x e h2 => .exc x e h2
      | .stuck => .stuck
def sWhile (c : MT) (body : MS) (kill : List Nat) : MS := fun env h => whileL c body kill 1000000000000 env h
/-- a value's items, and the cell that it is -/
def depsOf : D → List D → List (Nat × List D)
  | .ref n, xs => [(n, xs)]
  | _, _ => []
/-- [elt for target in iter if test]: the items that are made; own: the slots of the block's own names -/
def lcL (g : TgM) (c : MT) (elt : ME) (t : Itr) (env : PEnv) : List D → List D → PHeap → Res (List D)
  | [], acc, h => if t.live h then .ok acc h else .stuck
  | d :: ds, acc, h => if t.live h then match g.set d env with
      | none => .stuck
      | some e1 => (c e1 h).calm.bind fun k h1 => match k with
        | false => lcL g c elt t env ds acc h1
        | true => (elt e1 h1).calm.bind fun y h2 => if acc.length < 16777216 then lcL g c elt t env ds (acc ++ [y]) h2 else .stuck
    else .stuck
/-- two generators -/
def lc2In (g : TgM) (c : MT) (elt : ME) (t : Itr) (env : PEnv) : List D → List D → PHeap → Res (List D)
  | [], acc, h => if t.live h then .ok acc h else .stuck
  | d :: ds, acc, h => if t.live h then match g.set d env with
      | none => .stuck
      | some e1 => (c e1 h).calm.bind fun k h1 => match k with
        | false => lc2In g c elt t env ds acc h1
        | true => (elt e1 h1).calm.bind fun y h2 => if acc.length < 16777216 then lc2In g c elt t env ds (acc ++ [y]) h2 else .stuck
    else .stuck
def lc2L (g : TgM) (c : MT) (i1 : MI) (g1 : TgM) (c1 : MT) (elt : ME) (own1 : List Nat) (t : Itr) (env : PEnv) : List D → List D → PHeap → Res (List D)
  | [], acc, h => if t.live h then .ok acc h else .stuck
  | d :: ds, acc, h => if t.live h then match g.set d env with
      | none => .stuck
      | some e1 => (c e1 h).calm.bind fun k h1 => match k with
        | false => lc2L g c i1 g1 c1 elt own1 t env ds acc h1
        | true => (i1 e1 h1).calm.bind fun t1 h2 => (lc2In g1 c1 elt t1 (wipeE e1 own1) t1.items acc h2).bind fun acc' h3 => lc2L g c i1 g1 c1 elt own1 t env ds acc' h3
    else .stuck
def tYesM : MT := fun _ h => .ok true h
/-- the items of a comprehension -/
def mLc (i : MI) (g : TgM) (c : MT) (elt : ME) (own : List Nat) : MA := fun env h => (i env h).bind fun t h1 => lcL g c elt t (wipeE env own) t.items [] h1
def mLc2 (i : MI) (g : TgM) (c : MT) (i1 : MI) (g1 : TgM) (c1 : MT) (elt : ME) (own own1 : List Nat) : MA := fun env h => (i env h).bind fun t h1 => lc2L g c i1 g1 c1 elt own1 t (wipeE env own) t.items [] h1
/-- .. as a new list -/
def mNew (a : MA) : ME := fun env h => (a env h).bind fun xs h1 => .ok (.ref h1.length) (h1 ++ [.lst xs])

/-- a def's run: the parameters, then the other names -/
def runFn (np slots : Nat) (body : MS) : List D → PHeap → Res D := fun args h => if args.length = np then (match body (args.map some ++ List.replicate (slots - np) none) h with
  | .nx _ h1 => .ok .non (gc h.length .non h1)
  | .rt d h1 => .ok d (gc h.length d h1)
  | .exc e _ h1 => .exc e h1
  | _ => .stuck) else .stuck
end Gb

/-! GbT: tuples that are tracked as they were made (no dict of their own), and what is done with them -/
namespace Gb
open PySem PySem.Spec PyProof.Rows L2

/-- a tuple that is tracked as the object it is, with no dict of its own -/
def TupA (K : PySem.W.Frag) (H : Hp) (a : Addr) (xs : List V) : Prop :=
  (∃ o : Obj, H a = some (.frz o (.tup xs)) ∧ o.dict = none) ∨
    ∃ (o : Obj) (its : Array Value) (n : Nat), K.lookup a = some o ∧ o.cls = .type "tuple" ∧ o.dict = none ∧ o.data = .seq its n ∧ its.size ≤ sizeLine ∧ Vals xs its.toList
theorem TupA.of {K : PySem.W.Frag} {H : Hp} {a : Addr} {xs : List V} {o : Obj} (h : H a = some (.frz o (.tup xs))) (n : o.dict = none) : TupA K H a xs := .inl ⟨o, h, n⟩
theorem TupA.sq {K : PySem.W.Frag} {H : Hp} {a : Addr} {xs : List V} (h : TupA K H a xs) : SqT K H a xs := by
  rcases h with ⟨o, h, _⟩ | ⟨o, its, n, h1, h2, _, h3, h4, h5⟩
  · exact .inl (.inr ⟨o, h⟩)
  · exact .inr ⟨o, its, n, h1, h2, h3, h4, h5⟩
section
variable {X : Cx} {pins : List (Addr × Obj)} {σ : L2.St} {H : Hp} {s : Shared} {a : Addr} {xs ys : List V}
theorem _root_.L2.Inv.tupD (I : Inv X pins σ H s) (h : TupA X.K H a xs) : ∃ o, s.heap.get? a = some o ∧ o.cls = .type "tuple" ∧ o.dict = none := by
  rcases h with ⟨o, h, hd⟩ | ⟨o, its, n, hk, hc, hdn, _⟩
  · obtain ⟨e, _, its, r, ⟨o', e', hc, _⟩⟩ := I.hok a _ h
    rw [e] at e'; cases e'
    exact ⟨o, e, hc, hd⟩
  · exact ⟨o, I.kIn a o hk, hc, hdn⟩
/-- the object of a new tuple -/
abbrev tupO (its : List Value) : Obj := { cls := .type "tuple", data := .seq its.toArray }
theorem tup_ok {P : Program} {w : World} {h : Heap} {its : List Value} (hv : Vals ys its) (hz : ys.length ≤ sizeLine) (e : h.get? a = some (tupO its)) : ObjOk P w H h a (.frz (tupO its) (.tup ys)) :=
  ⟨e, hz, its, hv, ⟨_, e, rfl, _, rfl⟩⟩
/-- a new tuple is laid -/
theorem _root_.L2.Inv.tnew {its : List Value} {t' : Nat} (I : Inv X pins σ H s) (hv : Vals ys its) (hz : ys.length ≤ sizeLine) :
    Inv X pins σ (upd H s.heap.objs.size (.frz (tupO its) (.tup ys))) { s with heap := s.heap.push (tupO its), toks := t' } :=
  I.laid (fun b u e => Heap.get?_push_of_some _ e) (Nat.le_refl _) (tup_ok hv hz (Heap.get?_push_size _ rfl))
/-- it ends as is wished with a new tuple -/
abbrev NewT (H : Hp) (xs : List V) (Q : VK) : Prop := ∀ p o, H p = none → Obj.dict o = none → Q (.ref p) (upd H p (.frz o (.tup xs)))

variable {e : Expr} {es : List Expr} {te : TE} {t : TA} {pos : Pos}
def tTupA (t : TA) : TE := fun σ H Q => t σ H fun xs H1 => xs.length ≤ sizeLine ∧ NewT H1 xs Q
theorem pe_tupA {x1} (h : PA X es t) : PE X (.Tuple es x1 pos) (tTupA t) := by
  refine ⟨fun pins s σ H Q I hq => ?_⟩
  refine wpAny_Tuple_spliced (thn (h.run pos pins s σ H _ I hq) fun us s1 ⟨xs, H1, I1, r, z, q⟩ => ⟨by rw [← r.length]; exact z, ?_⟩)
  exact ⟨.ref s1.heap.objs.size, _, I1.tnew (t' := s1.toks) r z, rfl, q _ _ I1.fresh rfl⟩
/-- (a, b, ..) = a tuple of that length -/
def gTupA (K : PySem.W.Frag) (n : Nat) (t : TGs) : TG := fun v σ H Q => ∃ a xs, v = .ref a ∧ TupA K H a xs ∧ xs.length = n ∧ t xs σ H Q
theorem pg_tupA {k : Nat} {t : TGs} {n : Nat} (hc : X.calm = true) (h : PGs X es t)
    (hn : (assignEach es X.env).length = n := by rfl) (hst : (assignEach es X.env).findIdx? (·.1) = none := by rfl) : PG X (.Tuple es k pos) (gTupA X.K n t) := by
  refine ⟨fun pins s σ H v u Q I r hw => ?_⟩
  obtain ⟨a, xs, e1, hq, hl, hw⟩ := hw
  subst e1
  cases r
  obtain ⟨its, rv, ht, hz⟩ := I.tuple hq.sq
  refine assign_Tuple_tuple (I.ok.hd hc) ht (by simp [hn, ← hl, rv.length]) hst fun h' hx => ?_
  have I1 : Inv X pins σ H { s with heap := h' } := I.kept (t' := s.toks) fun b o e => hx b o (Nat.ne_of_lt (Heap.lt_size e)) e
  exact h.run pins _ σ H xs _ Q I1 (by simpa using rv) hw
/-- t[lo:hi] -/
def rSlAA (K : PySem.W.Frag) : V → Option Int → Option Int → Hp → VK → Prop := fun x lo hi H Q => ∃ a xs, x = .ref a ∧ TupA K H a xs ∧
  (HT.sIx xs.length 0 lo = 0 ∧ HT.sIx xs.length xs.length hi = xs.length → Q (.ref a) H) ∧ (¬ (HT.sIx xs.length 0 lo = 0 ∧ HT.sIx xs.length xs.length hi = xs.length) → NewT H (cutV xs lo hi) Q)
theorem sl_tupAA : SlR X (rSlAA X.K) := by
  intro pins s σ H x v vl vu lo hi sl Q I rx hs pl pu h
  obtain ⟨a, xs, rfl, hx, q1, q2⟩ := h
  cases rx
  obtain ⟨its, r, ht, hz⟩ := I.tuple hx.sq
  have hlen : its.toArray.size = xs.length := by rw [List.size_toArray]; exact r.length.symm
  refine ⟨"tuple", _, PyProof.Rows.slot_tuple_getitem.lookup, ht.typeIs, ?_⟩
  by_cases hw : HT.sIx xs.length 0 lo = 0 ∧ HT.sIx xs.length xs.length hi = xs.length
  · exact L2.getItem_tuple_whole ht hs pl pu (by rw [hlen]; exact hw) ⟨.ref a, H, I, rfl, q1 hw⟩
  · refine HT.getItem_tuple_cut ht hs pl pu (by rw [hlen]; exact hw) ?_ (by rw [hlen]; exact hz)
    rw [hlen]
    exact ⟨.ref s.heap.objs.size, _, I.tnew (t' := s.toks) ((r.drop (HT.sIx xs.length 0 lo)).take (HT.sIx xs.length xs.length hi - HT.sIx xs.length 0 lo)) (Nat.le_trans (cutV_length xs lo hi) hz), rfl, q2 hw _ _ I.fresh rfl⟩
/-- t + u -/
def rCatAA (K : PySem.W.Frag) : R2 := fun x y H Q => ∃ a b xs ys, x = .ref a ∧ y = .ref b ∧ TupA K H a xs ∧ TupA K H b ys ∧ xs.length + ys.length ≤ sizeLine ∧
  (xs = [] → Q (.ref b) H) ∧ (xs ≠ [] → ys = [] → Q (.ref a) H) ∧ (xs ≠ [] → ys ≠ [] → NewT H (xs ++ ys) Q)
theorem op_catAA : OpR X (binaryOp .Add) (rCatAA X.K) := by
  intro pins s σ H x y v u Q I rx ry h
  obtain ⟨a, b, xs, ys, rfl, rfl, ha, hb, hz, q0, q1, q2⟩ := h
  cases rx
  cases ry
  obtain ⟨its, r1, p1, _⟩ := I.tuple ha.sq
  obtain ⟨its2, r2, p2, _⟩ := I.tuple hb.sq
  by_cases hx : xs = []
  · subst hx
    cases r1
    exact L2.cat_tup0 p1 p2 ⟨.ref b, H, I, rfl, q0 rfl⟩
  · refine HT.cat_tup p1 p2 (fun z => hx (r1.nil_iff.mp z)) (fun z => ⟨.ref a, H, I, rfl, q1 hx (r2.nil_iff.mp z)⟩) (fun z => ?_) (by rw [← r1.length, ← r2.length]; exact hz)
    exact ⟨.ref s.heap.objs.size, _, I.tnew (t' := s.toks) (r1.append r2) (by rw [List.length_append]; exact hz), rfl, q2 hx (fun w => z (r2.nil_iff.mpr w)) _ _ I.fresh rfl⟩
/-- tuple(x) of a list or a tuple -/
def rTupleA (K : PySem.W.Frag) : List V → Hp → VK → Prop := fun xs H Q => ∃ p ys, xs = [.ref p] ∧ ((SqL K H p ys ∧ NewT H ys Q) ∨ (TupA K H p ys ∧ Q (.ref p) H))
theorem call_tupleA : CallR X (.type "tuple") (rTupleA X.K) := by
  intro pins s σ H xs us Q I r h
  obtain ⟨p, ys, rfl, h⟩ := h
  obtain ⟨u, rfl, rx⟩ := vals1 r
  cases rx
  rcases h with ⟨hq, q⟩ | ⟨hq, q⟩
  · obtain ⟨its, r', pl, hz⟩ := I.list hq
    have hlen := r'.length
    refine call_tuple_list pl.isList (fun h' kp => ?_) (by simp only [List.size_toArray] <;> omega)
    have I1 : Inv X pins σ H { s with heap := h' } := I.kept (t' := s.toks) kp
    exact ⟨.ref h'.objs.size, _, I1.tnew (t' := s.toks) r' hz, rfl, q _ _ (I1.hok.fresh (Nat.le_refl _)) rfl⟩
  · obtain ⟨its, r', pl, hz⟩ := I.tuple hq.sq
    exact call_tuple_same pl ⟨.ref p, H, I, rfl, q⟩

theorem tuple_mulS (l : Addr) (items : Array Value) (n : Nat) (dd : Option Addr) (sl : Array (Option Value)) (x : Int) (u : Tok) (c0 : (decide (x < -(2 ^ 63)) || decide (x ≥ 2 ^ 63)) = false) (c1 : (items.isEmpty || x == 1) = true) :
    Meets (Builtin.«tuple.__mul__» ⟨[.ref l, .int x u], []⟩) (fun _ R s => s.heap.get? l = some { cls := .type "tuple", dict := dd, data := .seq items n, slots := sl } ∧
      R (.ok (.ret (Value.ref l))) s) :=
  .of_wp fun prog w A R s h => by
    obtain ⟨hp, g, d, tk, os⟩ := s
    obtain ⟨hl, h⟩ := h
    have f1 := AutoSeq1.idx_int
    wp_walk using wpAny_loadPart' hl
    repeat (first
      | (refine wpAny_ite_false (decide_eq_false (by rw [c0]; exact Bool.false_ne_true)) ?_; wp_walk using wpAny_loadPart' hl)
      | (refine wpAny_ite_true (decide_eq_true c1) ?_; wp_walk using wpAny_loadPart' hl))
    exact ⟨_, rfl, h⟩
theorem tuple_mul0 (l : Addr) (items : Array Value) (n : Nat) (dd : Option Addr) (sl : Array (Option Value)) (x : Int) (u : Tok) (c0 : (decide (x < -(2 ^ 63)) || decide (x ≥ 2 ^ 63)) = false) (c1 : (items.isEmpty || x == 1) = false) (c2 : (decide (x ≤ 0) || items.isEmpty) = true) :
    Meets (Builtin.«tuple.__mul__» ⟨[.ref l, .int x u], []⟩) (fun _ R s => s.heap.get? l = some { cls := .type "tuple", dict := dd, data := .seq items n, slots := sl } ∧
      R (.ok (.ret (Value.ref s.heap.objs.size))) { s with heap := s.heap.push { cls := Value.type "tuple", data := Data.seq #[] }, toks := s.toks }) :=
  .of_wp fun prog w A R s h => by
    obtain ⟨hp, g, d, tk, os⟩ := s
    obtain ⟨hl, h⟩ := h
    have f1 := AutoSeq1.idx_int
    wp_walk using wpAny_loadPart' hl
    repeat (first
      | (refine wpAny_ite_false (decide_eq_false (by rw [c0]; exact Bool.false_ne_true)) ?_; wp_walk using wpAny_loadPart' hl)
      | (refine wpAny_ite_false (decide_eq_false (by rw [c1]; exact Bool.false_ne_true)) ?_; wp_walk using wpAny_loadPart' hl)
      | (refine wpAny_ite_true (decide_eq_true c2) ?_; wp_walk using wpAny_loadPart' hl))
    exact ⟨_, rfl, h⟩
/-- t * k -/
def rRepA (K : PySem.W.Frag) : R2 := fun x y H Q => ∃ l k xs, x = .ref l ∧ y = .int k ∧ TupA K H l xs ∧ -1000 ≤ k ∧ k ≤ 1000 ∧ xs.length ≤ 1000 ∧
  ((xs = [] ∨ k = 1) → Q (.ref l) H) ∧ (xs ≠ [] → k ≠ 1 → NewT H (List.replicate k.toNat xs).flatten Q)
theorem op_repA : OpR X (binaryOp .Mult) (rRepA X.K) := by
  intro pins s σ H x y v u Q I rx ry h
  obtain ⟨l, k, xs, rfl, rfl, hT, h1, h2, hz, qs, qn⟩ := h
  cases rx
  obtain ⟨t, rfl⟩ := ry
  obtain ⟨its, r, ⟨⟨cls, dd, data, sl⟩, ho, hc, n, hd⟩, hs⟩ := I.tuple hT.sq
  simp only at hc hd
  subst hc hd
  have hle : its.length = xs.length := r.length.symm
  have c0 : (decide (k < -(2 ^ 63)) || decide (k ≥ 2 ^ 63)) = false := by
    rw [decide_eq_false (by omega), decide_eq_false (by omega)] <;> rfl
  by_cases hsame : xs = [] ∨ k = 1
  · have c1 : (its.toArray.isEmpty || k == 1) = true := by
      rcases hsame with e | e
      · subst e; cases r; rfl
      · subst e; simp
    exact wpAny_binaryOp_repeat_ref (T := "tuple") (U := "int") (by decide) ⟨_, ho, rfl⟩ (fun s' => typeIs_int s' k t) noFill_tuple_mul F.fills_int_mul F.slot_int_rmul repeat_tuple F.slot_int_index.lookup
      (call_meets F.slot_int_rmul (typeIs_int s k t) F.entry_int_rmul (F.args_int_rmul_2 _ _) (int_rmul_tuple k t l its.toArray n dd sl)
        ⟨ho, rfl, ⟨_, ho, rfl⟩, call_meets F.slot_tuple_mul ⟨_, ho, rfl⟩ F.entry_tuple_mul (F.args_tuple_mul_2 _ _) (tuple_mulS l its.toArray n dd sl k t c0 c1) ⟨ho, ⟨.ref l, H, I, rfl, qs hsame⟩⟩⟩)
  have hne : xs ≠ [] := fun e => hsame (.inl e)
  have hk1 : k ≠ 1 := fun e => hsame (.inr e)
  have q := qn hne hk1
  have hn : its ≠ [] := fun e => hne (by
    rw [e] at hle
    exact List.eq_nil_of_length_eq_zero hle.symm)
  have hi : its.toArray.isEmpty = false := by
    cases its with
    | nil => exact absurd rfl hn
    | cons a b => rfl
  have c1 : (its.toArray.isEmpty || k == 1) = false := by
    rw [hi, Bool.false_or]
    exact beq_eq_false_iff_ne.mpr hk1
  by_cases hk0 : k ≤ 0
  · have c2 : (decide (k ≤ 0) || its.toArray.isEmpty) = true := by simp [hk0]
    have e0 : k.toNat = 0 := by omega
    rw [e0] at q
    exact wpAny_binaryOp_repeat_ref (T := "tuple") (U := "int") (by decide) ⟨_, ho, rfl⟩ (fun s' => typeIs_int s' k t) noFill_tuple_mul F.fills_int_mul F.slot_int_rmul repeat_tuple F.slot_int_index.lookup
      (call_meets F.slot_int_rmul (typeIs_int s k t) F.entry_int_rmul (F.args_int_rmul_2 _ _) (int_rmul_tuple k t l its.toArray n dd sl)
        ⟨ho, rfl, ⟨_, ho, rfl⟩, call_meets F.slot_tuple_mul ⟨_, ho, rfl⟩ F.entry_tuple_mul (F.args_tuple_mul_2 _ _) (tuple_mul0 l its.toArray n dd sl k t c0 c1 c2)
          ⟨ho, ⟨.ref s.heap.objs.size, _, I.tnew (its := []) (ys := []) (t' := s.toks) .nil (Nat.zero_le _), rfl, q _ _ I.fresh rfl⟩⟩⟩)
  have hsz0 : its.toArray.size = xs.length := by rw [List.size_toArray, hle]
  have hm : ((its.toArray.size : Nat) : Int) * k ≤ 1000000 := by
    rw [hsz0]
    have a1 : ((xs.length : Nat) : Int) * k ≤ 1000 * k := Int.mul_le_mul_of_nonneg_right (by omega) (by omega)
    omega
  have flen : (List.replicate k.toNat its).flatten.length ≤ sizeLine := by
    rw [PyProof.Rows.lm_len_rep_flat, hle, sizeLine_eq]
    have a1 : k.toNat * xs.length ≤ 1000 * 1000 := Nat.mul_le_mul (by omega) hz
    omega
  have c2 : (decide (k ≤ 0) || its.toArray.isEmpty) = false := by
    rw [hi, Bool.or_false]
    exact decide_eq_false (by omega)
  have c4 : Builtin.Tuple.tupleTooMany (((its.toArray.size : Nat) : Int) * k) = false := by
    unfold Builtin.Tuple.tupleTooMany
    rw [sizeLine_eq]
    exact decide_eq_false (by omega)
  refine wpAny_binaryOp_repeat_ref (T := "tuple") (U := "int") (by decide) ⟨_, ho, rfl⟩ (fun s' => typeIs_int s' k t) noFill_tuple_mul F.fills_int_mul F.slot_int_rmul repeat_tuple F.slot_int_index.lookup
    (call_meets F.slot_int_rmul (typeIs_int s k t) F.entry_int_rmul (F.args_int_rmul_2 _ _) (int_rmul_tuple k t l its.toArray n dd sl)
      ⟨ho, rfl, ⟨_, ho, rfl⟩, call_meets F.slot_tuple_mul ⟨_, ho, rfl⟩ F.entry_tuple_mul (F.args_tuple_mul_2 _ _) (tuple_mulW l its.toArray n dd sl k t c0 c1 c2 (by omega) c4 (by rw [size_rep, List.size_toArray]; exact flen)) ⟨ho, ?_⟩⟩)
  rw [size_rep]
  exact ⟨.ref s.heap.objs.size, _, I.tnew (t' := s.toks) (r.rep k.toNat) (by rw [PyProof.Rows.lm_len_rep_flat]; rw [PyProof.Rows.lm_len_rep_flat, hle] at flen; exact flen), rfl, q _ _ I.fresh rfl⟩
/-- t.m(..) -/
def tyTup (K : PySem.W.Frag) : V → Hp → Prop := fun x H => ∃ a xs, x = .ref a ∧ TupA K H a xs
theorem ty_tup : TyOk X "tuple" (tyTup X.K) := by
  intro pins σ H s x v I r ty
  obtain ⟨a, xs, rfl, h⟩ := ty
  cases r
  obtain ⟨o, e, c, d⟩ := I.tupD h
  exact ⟨⟨o, e, c⟩, fun b e' => by cases e'; exact ⟨o, e, d⟩⟩
end
end Gb

/-! GbB: how plain values and heaps stand for Python's; the readings of plain words -/
namespace Gb
open PySem L2

/-- a list that nobody writes -/
def FroL (K : PySem.W.Frag) (H : Hp) (a : Addr) (xs : List V) : Prop :=
  (∃ o, H a = some (.frz o (.lst xs))) ∨
    ∃ (o : Obj) (its : Array Value) (n : Nat), K.lookup a = some o ∧ o.cls = .type "list" ∧ o.dict = none ∧ o.data = .seq its n ∧ its.size ≤ sizeLine ∧ Vals xs its.toList
theorem FroL.sq {K : PySem.W.Frag} {H : Hp} {a : Addr} {xs : List V} (h : FroL K H a xs) : SqL K H a xs := by
  rcases h with h | h
  · exact .inl (.inr h)
  · exact .inr h
mutual
def Rep (K : PySem.W.Frag) (io : List Addr) (H : Hp) : D → V → Prop
  | .non, v => v = .non
  | .bl b, v => v = .bl b
  | .int i, v => v = .int i
  | .str x, v => v = .str x
  | .ref n, v => ∃ a, io[n]? = some a ∧ v = .ref a
  | .tup xs, v => ∃ a vs, v = .ref a ∧ TupA K H a vs ∧ RepL K io H xs vs
  | .fro xs, v => ∃ a vs, v = .ref a ∧ FroL K H a vs ∧ RepL K io H xs vs
def RepL (K : PySem.W.Frag) (io : List Addr) (H : Hp) : List D → List V → Prop
  | [], vs => vs = []
  | x :: xs, vs => ∃ v r, vs = v :: r ∧ Rep K io H x v ∧ RepL K io H xs r
end

/-- from (io, H) on to (io', H'): what stands, but for the cells at io -/
structure Step (K : PySem.W.Frag) (io : List Addr) (H : Hp) (io' : List Addr) (H' : Hp) : Prop where
  pre : ∃ l, io' = io ++ l
  new : ∀ b, b ∈ io' → b ∉ io → H b = none
  keep : ∀ b o, H b = some o → b ∉ io → H' b = some o
  tup : ∀ a vs, TupA K H a vs → TupA K H' a vs
  fro : ∀ a vs, FroL K H a vs → FroL K H' a vs

section
variable {K : PySem.W.Frag} {io io' io2 : List Addr} {H H' H2 : Hp}
theorem Step.refl : Step K io H io H := ⟨⟨[], by simp⟩, fun _ h n => absurd h n, fun _ _ h _ => h, fun _ _ h => h, fun _ _ h => h⟩
theorem Step.out (a : Step K io H io' H') {b : Addr} {o : HO} (h : H b = some o) (n : b ∉ io) : b ∉ io' := fun m => by
  rw [a.new b m n] at h; cases h
theorem Step.trans (a : Step K io H io' H') (b : Step K io' H' io2 H2) : Step K io H io2 H2 := by
  obtain ⟨l, e⟩ := a.pre
  obtain ⟨m, e2⟩ := b.pre
  refine ⟨⟨l ++ m, by rw [e2, e, List.append_assoc]⟩, fun x h n => ?_, fun x o h n => b.keep x o (a.keep x o h n) (a.out h n), fun x vs h => b.tup x vs (a.tup x vs h), fun x vs h => b.fro x vs (a.fro x vs h)⟩
  by_cases hx : x ∈ io'
  · exact a.new x hx n
  · have q := b.new x h hx
    cases e : H x with
    | none => rfl
    | some o => rw [a.keep x o e n] at q; cases q
theorem Step.get (a : Step K io H io' H') {n : Nat} {x : Addr} (h : io[n]? = some x) : io'[n]? = some x := by
  obtain ⟨l, e⟩ := a.pre
  have hl : n < io.length := (List.getElem?_eq_some_iff.mp h).1
  rw [e, List.getElem?_append_left hl]
  exact h
mutual
theorem Rep.mono (hp : ∀ (n : Nat) a, io[n]? = some a → io'[n]? = some a) (ht : ∀ a vs, TupA K H a vs → TupA K H' a vs) (hf : ∀ a vs, FroL K H a vs → FroL K H' a vs) : ∀ (d : D) (v : V), Rep K io H d v → Rep K io' H' d v
  | .non, _, h => h
  | .bl _, _, h => h
  | .int _, _, h => h
  | .str _, _, h => h
  | .ref _, _, ⟨a, h, e⟩ => ⟨a, hp _ _ h, e⟩
  | .tup xs, _, ⟨a, vs, e, h, r⟩ => ⟨a, vs, e, ht _ _ h, RepL.mono hp ht hf xs vs r⟩
  | .fro xs, _, ⟨a, vs, e, h, r⟩ => ⟨a, vs, e, hf _ _ h, RepL.mono hp ht hf xs vs r⟩
theorem RepL.mono (hp : ∀ (n : Nat) a, io[n]? = some a → io'[n]? = some a) (ht : ∀ a vs, TupA K H a vs → TupA K H' a vs) (hf : ∀ a vs, FroL K H a vs → FroL K H' a vs) : ∀ (ds : List D) (vs : List V), RepL K io H ds vs → RepL K io' H' ds vs
  | [], _, h => h
  | d :: ds, _, ⟨v, r, e, h, t⟩ => ⟨v, r, e, Rep.mono hp ht hf d v h, RepL.mono hp ht hf ds r t⟩
end
theorem Rep.step (s : Step K io H io' H') (d : D) (v : V) (r : Rep K io H d v) : Rep K io' H' d v := Rep.mono (fun _ _ h => s.get h) s.tup s.fro d v r
theorem RepL.step (s : Step K io H io' H') (ds : List D) (vs : List V) (r : RepL K io H ds vs) : RepL K io' H' ds vs := RepL.mono (fun _ _ h => s.get h) s.tup s.fro ds vs r
theorem RepL.length : ∀ {ds : List D} {vs : List V}, RepL K io H ds vs → ds.length = vs.length
  | [], _, h => by subst h; rfl
  | d :: ds, _, ⟨v, r, e, h, t⟩ => by subst e; simp [RepL.length t]
theorem RepL.append : ∀ {ds es : List D} {vs us : List V}, RepL K io H ds vs → RepL K io H es us → RepL K io H (ds ++ es) (vs ++ us)
  | [], _, _, _, h, r => by subst h; exact r
  | d :: ds, _, _, _, ⟨v, r, e, h, t⟩, q => by subst e; exact ⟨v, _, rfl, h, RepL.append t q⟩
theorem RepL.get : ∀ {ds : List D} {vs : List V} {i : Nat} {d : D}, RepL K io H ds vs → ds[i]? = some d → ∃ v, vs[i]? = some v ∧ Rep K io H d v
  | [], _, _, _, _, e => by simp at e
  | d :: ds, _, 0, _, ⟨v, r, e, h, t⟩, q => by subst e; simp at q; subst q; exact ⟨v, rfl, h⟩
  | d :: ds, _, i + 1, _, ⟨v, r, e, h, t⟩, q => by subst e; obtain ⟨u, a, b⟩ := RepL.get t (i := i) (by simpa using q); exact ⟨u, by simpa using a, b⟩
theorem RepL.take : ∀ {ds : List D} {vs : List V} (n : Nat), RepL K io H ds vs → RepL K io H (ds.take n) (vs.take n)
  | [], _, n, h => by subst h; simp [RepL]
  | d :: ds, _, 0, ⟨v, r, e, h, t⟩ => by simp [RepL]
  | d :: ds, _, n + 1, ⟨v, r, e, h, t⟩ => by subst e; exact ⟨v, _, rfl, h, RepL.take n t⟩
theorem RepL.drop : ∀ {ds : List D} {vs : List V} (n : Nat), RepL K io H ds vs → RepL K io H (ds.drop n) (vs.drop n)
  | [], _, n, h => by subst h; simp [RepL]
  | d :: ds, _, 0, h => h
  | d :: ds, _, n + 1, ⟨v, r, e, h, t⟩ => by subst e; exact RepL.drop n t
theorem RepL.set : ∀ {ds : List D} {vs : List V} {d : D} {v : V} (i : Nat), RepL K io H ds vs → Rep K io H d v → RepL K io H (ds.set i d) (vs.set i v)
  | [], _, _, _, _, h, _ => by subst h; simp [RepL]
  | _ :: ds, _, _, _, 0, ⟨v, r, e, h, t⟩, q => by subst e; exact ⟨_, _, rfl, q, t⟩
  | _ :: ds, _, _, _, i + 1, ⟨v, r, e, h, t⟩, q => by subst e; exact ⟨_, _, rfl, h, RepL.set i t q⟩
theorem RepL.nil_iff {ds : List D} {vs : List V} (h : RepL K io H ds vs) : (!ds.isEmpty) = !vs.isEmpty := by
  cases ds with
  | nil => have h' : vs = [] := h; subst h'; rfl
  | cons d ds => obtain ⟨v, r, e, _⟩ := h; subst e; rfl

/-- the fields of an instance -/
def RepF (K : PySem.W.Frag) (io : List Addr) (H : Hp) (fs : List (Str × D)) (vs : List (Str × V)) : Prop :=
  fs.map (·.1) = vs.map (·.1) ∧ RepL K io H (fs.map (·.2)) (vs.map (·.2))
/-- what stands at a cell's address -/
def CellRep (K : PySem.W.Frag) (cl : Nat → Addr) (io : List Addr) (H : Hp) (a : Addr) : Cell → Prop
  | .lst xs => ∃ vs, H a = some (.lst vs) ∧ RepL K io H xs vs
  | .dct _ => False
  | .ins c fs => ∃ dx vs, H a = some (.ins (cl c) dx vs) ∧ RepF K io H fs vs
structure HRel (K : PySem.W.Frag) (cl : Nat → Addr) (io : List Addr) (H : Hp) (h : PHeap) : Prop where
  len : io.length = h.length
  nd : io.Nodup
  cell : ∀ (n : Nat) a c, io[n]? = some a → h[n]? = some c → CellRep K cl io H a c
structure ERel (K : PySem.W.Frag) (io : List Addr) (H : Hp) (sg : L2.St) (env : PEnv) : Prop where
  len : env.length = sg.length
  get : ∀ (i : Nat) d, env[i]? = some (some d) → ∃ v, sg[i]? = some (some v) ∧ Rep K io H d v
theorem ERel.step {sg : L2.St} {env : PEnv} (e : ERel K io H sg env) (s : Step K io H io' H') : ERel K io' H' sg env :=
  ⟨e.len, fun i d h => let ⟨v, a, b⟩ := e.get i d h; ⟨v, a, b.step s _ _⟩⟩
theorem ERel.set {sg : L2.St} {env : PEnv} (e : ERel K io H sg env) {i : Nat} {d : D} {v : V} (r : Rep K io H d v) : ERel K io H (sg.set i (some v)) (env.set i (some d)) := by
  refine ⟨by simp [e.len], fun j x h => ?_⟩
  by_cases hj : i = j
  · subst hj
    have hl : i < env.length := by
      have := (List.getElem?_eq_some_iff.mp h).1
      simpa using this
    rw [List.getElem?_set_self hl] at h
    cases h
    exact ⟨v, List.getElem?_set_self (by rw [← e.len]; exact hl), r⟩
  · rw [List.getElem?_set_ne hj] at h
    obtain ⟨u, a, b⟩ := e.get j x h
    exact ⟨u, by rw [List.getElem?_set_ne hj]; exact a, b⟩
theorem ERel.forget {sg : L2.St} {env : PEnv} (e : ERel K io H sg env) (i : Nat) : ERel K io H sg (env.set i none) := by
  refine ⟨by simp [e.len], fun j x h => ?_⟩
  by_cases hj : i = j
  · subst hj
    by_cases hl : i < env.length
    · rw [List.getElem?_set_self hl] at h; cases h
    · rw [List.getElem?_eq_none (by simpa using hl)] at h; cases h
  · rw [List.getElem?_set_ne hj] at h
    exact e.get j x h
theorem ERel.wipe {sg : L2.St} {env : PEnv} (e : ERel K io H sg env) : ∀ vs, ERel K io H sg (wipeE env vs)
  | [] => e
  | v :: vs => (ERel.wipe e vs).forget v
theorem wipeE_length (env : PEnv) : ∀ vs, (wipeE env vs).length = env.length
  | [] => rfl
  | v :: vs => by show ((wipeE env vs).set v none).length = _; rw [List.length_set, wipeE_length env vs]
theorem wipeE_some {env : PEnv} {i : Nat} {x : D} : ∀ {vs : List Nat}, (wipeE env vs)[i]? = some (some x) → env[i]? = some (some x) ∧ i ∉ vs
  | [], h => ⟨h, by simp⟩
  | v :: vs, h => by
    have h : ((wipeE env vs).set v none)[i]? = some (some x) := h
    by_cases hi : v = i
    · subst hi
      by_cases hv : v < (wipeE env vs).length
      · rw [List.getElem?_set_self hv] at h; cases h
      · rw [List.getElem?_eq_none (by simpa using hv)] at h; cases h
    · rw [List.getElem?_set_ne hi] at h
      obtain ⟨h1, h2⟩ := wipeE_some h
      exact ⟨h1, by simp only [List.mem_cons, not_or]; exact ⟨fun e => hi e.symm, h2⟩⟩
theorem wipe_get {sg : L2.St} {i : Nat} : ∀ {vs : List Nat}, i ∉ vs → (wipe sg vs)[i]? = sg[i]?
  | [], _ => rfl
  | v :: vs, h => by
    simp only [List.mem_cons, not_or] at h
    show ((wipe sg vs).set v none)[i]? = _
    rw [List.getElem?_set_ne (fun e => h.1 e.symm), wipe_get h.2]
/-- both sides forget -/
theorem ERel.wipe2 {sg : L2.St} {env : PEnv} (e : ERel K io H sg env) (vs : List Nat) : ERel K io H (L2.wipe sg vs) (wipeE env vs) := by
  refine ⟨by rw [wipeE_length, wipe_length, e.len], fun i d h => ?_⟩
  obtain ⟨h1, h2⟩ := wipeE_some h
  obtain ⟨v, a, b⟩ := e.get i d h1
  exact ⟨v, by rw [wipe_get h2]; exact a, b⟩

/-- what an exception stands for: a class by its number; with a line -/
def ExcRep (cl : Nat → Addr) (H : Hp) (e : D) (cls : Value) (dd : Option Addr) : Prop := match e with
  | .int c => cls = .ref (cl c.toNat) ∧ dd = none
  | .tup [.int c, .int l] => cls = .ref (cl c.toNat) ∧ ∃ d, dd = some d ∧ H d = some (.xd [("line", .int l)])
  | _ => False

end

/-- a relation of a plain result and a value that may look at the heap at the start, but only for what is free there -/
class Back (K : PySem.W.Frag) {α β : Type} (R : Hp → List Addr → Hp → α → β → Prop) : Prop where
  back : ∀ {io H io1 H1 io' H' a b}, Step K io H io1 H1 → (∃ l, io' = io1 ++ l) → R H1 io' H' a b → R H io' H' a b
/-- a plain end, as a wish -/
def postR {α β : Type} (R : Hp → List Addr → Hp → α → β → Prop) (K : PySem.W.Frag) (cl : Nat → Addr) (W : WX) (io : List Addr) (sg : L2.St) (H : Hp) (r : Res α) (Q : β → Hp → Prop) : Prop :=
  match r with
  | .ok a h => ∀ b io' H', Step K io H io' H' → HRel K cl io' H' h → R H io' H' a b → Q b H'
  | .exc e h => ∀ cls dd io' H', Step K io H io' H' → HRel K cl io' H' h → ExcRep cl H' e cls dd → W cls dd sg H'
  | .stuck => False
/-- the reading of a plain word -/
def rd {α β : Type} (R : Hp → List Addr → Hp → α → β → Prop) (K : PySem.W.Frag) (cl : Nat → Addr) (W : WX) (m : PEnv → PHeap → Res α) : L2.St → Hp → (β → Hp → Prop) → Prop :=
  fun sg H Q => ∃ env h io, ERel K io H sg env ∧ HRel K cl io H h ∧ postR R K cl W io sg H (m env h) Q
abbrev RRep (K : PySem.W.Frag) : Hp → List Addr → Hp → D → V → Prop := fun _ io H d v => Rep K io H d v
abbrev RRepL (K : PySem.W.Frag) : Hp → List Addr → Hp → List D → List V → Prop := fun _ io H d v => RepL K io H d v
abbrev RBool : Hp → List Addr → Hp → Bool → Bool → Prop := fun _ _ _ a b => a = b
/-- a new list, no cell's yet -/
def RNew (K : PySem.W.Frag) : Hp → List Addr → Hp → List D → V → Prop := fun H0 io H xs v => ∃ a vs, v = .ref a ∧ H0 a = none ∧ a ∉ io ∧ H a = some (.lst vs) ∧ RepL K io H xs vs
instance {K : PySem.W.Frag} : Back K (RRep K) := ⟨fun _ _ h => h⟩
instance {K : PySem.W.Frag} : Back K (RRepL K) := ⟨fun _ _ h => h⟩
instance {K : PySem.W.Frag} : Back K RBool := ⟨fun _ _ h => h⟩
theorem Step.before {K : PySem.W.Frag} {io io1 io' : List Addr} {H H1 : Hp} {a : Addr} (s : Step K io H io1 H1) (hl : ∃ l, io' = io1 ++ l) (h0 : H1 a = none) (h1 : a ∉ io') : H a = none := by
  cases q : H a with
  | none => rfl
  | some o =>
    obtain ⟨l, e⟩ := hl
    have n : a ∉ io := fun m => h1 (by obtain ⟨l2, e2⟩ := s.pre; rw [e, e2]; simp [m])
    rw [s.keep a o q n] at h0
    cases h0
instance {K : PySem.W.Frag} : Back K (RNew K) := ⟨fun s hl ⟨a, vs, e1, h0, h1, h2, h3⟩ => ⟨a, vs, e1, s.before hl h0 h1, h1, h2, h3⟩⟩

section
variable {K : PySem.W.Frag} {cl : Nat → Addr} {W : WX} {io io1 : List Addr} {sg : L2.St} {H H1 : Hp} {α β γ δ : Type} {R : Hp → List Addr → Hp → α → β → Prop} {S : Hp → List Addr → Hp → γ → δ → Prop}
theorem HRel.there {h : PHeap} (r : HRel K cl io H h) {n : Nat} {a : Addr} (e : io[n]? = some a) : ∃ c, h[n]? = some c ∧ CellRep K cl io H a c := by
  have hl : n < io.length := (List.getElem?_eq_some_iff.mp e).1
  have hl2 : n < h.length := by rw [← r.len]; exact hl
  exact ⟨h[n], List.getElem?_eq_getElem hl2, r.cell n a _ e (List.getElem?_eq_getElem hl2)⟩
theorem HRel.addr {h : PHeap} (r : HRel K cl io H h) {n : Nat} {c : Cell} (e : h[n]? = some c) : ∃ a, io[n]? = some a ∧ CellRep K cl io H a c := by
  have hl : n < h.length := (List.getElem?_eq_some_iff.mp e).1
  have hl2 : n < io.length := by rw [r.len]; exact hl
  exact ⟨io[n], List.getElem?_eq_getElem hl2, r.cell n _ c (List.getElem?_eq_getElem hl2) e⟩
theorem postR.step [Back K S] {r : Res γ} {Q : δ → Hp → Prop} (p : postR S K cl W io sg H r Q) (s : Step K io H io1 H1) : postR S K cl W io1 sg H1 r Q := by
  cases r with
  | ok a h => exact fun b io' H' s2 hr q => p b io' H' (s.trans s2) hr (Back.back s s2.pre q)
  | exc e h => exact fun cls dd io' H' s2 hr q => p cls dd io' H' (s.trans s2) hr q
  | stuck => exact p
theorem postR.bind [Back K S] {r : Res α} {f : α → PHeap → Res γ} {Q : δ → Hp → Prop} {Q' : β → Hp → Prop} (p : postR S K cl W io sg H (r.bind f) Q)
    (k : ∀ a h1 b io1 H1, r = .ok a h1 → Step K io H io1 H1 → HRel K cl io1 H1 h1 → R H io1 H1 a b → postR S K cl W io1 sg H1 (f a h1) Q → Q' b H1) : postR R K cl W io sg H r Q' := by
  cases r with
  | ok a h => exact fun b io1 H1 s hr q => k a h b io1 H1 rfl s hr q (postR.step (show postR S K cl W io sg H (f a h) Q from p) s)
  | exc e h => exact p
  | stuck => exact p
theorem postR.imp {r : Res α} {Q Q' : β → Hp → Prop} (p : postR R K cl W io sg H r Q) (k : ∀ b H', Q b H' → Q' b H') : postR R K cl W io sg H r Q' := by
  cases r with
  | ok a h => exact fun b io1 H1 s hr q => k _ _ (p b io1 H1 s hr q)
  | exc e h => exact p
  | stuck => exact p
theorem rd_mk {m : PEnv → PHeap → Res α} {env : PEnv} {h : PHeap} {Q : β → Hp → Prop} (E : ERel K io H sg env) (r : HRel K cl io H h) (p : postR R K cl W io sg H (m env h) Q) : rd R K cl W m sg H Q := ⟨env, h, io, E, r, p⟩
/-- a plain result that is there already -/
theorem postR.here {a : α} {h : PHeap} {b : β} {Q : β → Hp → Prop} (p : postR R K cl W io sg H (.ok a h) Q) (r : HRel K cl io H h) (q : R H io H a b) : Q b H := p b io H .refl r q
end
end Gb

/-! GbC: the rules: a piece of syntax and its plain word -/
namespace Gb
open PySem L2

abbrev SE (X : Cx) (cl : Nat → Addr) (W : WX) (e : Expr) (m : ME) : Prop := PE X e (rd (RRep X.K) X.K cl W m)
abbrev ST (X : Cx) (cl : Nat → Addr) (W : WX) (e : Expr) (m : MT) : Prop := PT X e (rd RBool X.K cl W m)
abbrev SW (X : Cx) (cl : Nat → Addr) (W : WX) (e : Expr) (m : MT) : Prop := PW X e (rd RBool X.K cl W m)
abbrev SA (X : Cx) (cl : Nat → Addr) (W : WX) (es : List Expr) (m : MA) : Prop := PA X es (rd (RRepL X.K) X.K cl W m)
/-- an expression that gives a new list -/
abbrev SN (X : Cx) (cl : Nat → Addr) (W : WX) (e : Expr) (m : MA) : Prop := PE X e (rd (RNew X.K) X.K cl W m)

theorem _root_.L2.PE.imp {X : Cx} {e : Expr} {t t' : TE} (h : PE X e t) (k : ∀ sg H Q, t' sg H Q → t sg H Q) : PE X e t' := ⟨fun pins s sg H Q I q => h.run pins s sg H Q I (k _ _ _ q)⟩
theorem _root_.L2.PT.imp {X : Cx} {e : Expr} {t t' : TT} (h : PT X e t) (k : ∀ sg H Q, t' sg H Q → t sg H Q) : PT X e t' := ⟨fun pins s sg H Q I q => h.run pins s sg H Q I (k _ _ _ q)⟩
theorem _root_.L2.PW.imp {X : Cx} {e : Expr} {t t' : TT} (h : PW X e t) (k : ∀ sg H Q, t' sg H Q → t sg H Q) : PW X e t' := ⟨fun wh pins s sg H Q I q => h.run wh pins s sg H Q I (k _ _ _ q)⟩
theorem _root_.L2.PA.imp {X : Cx} {e : List Expr} {t t' : TA} (h : PA X e t) (k : ∀ sg H Q, t' sg H Q → t sg H Q) : PA X e t' := ⟨fun pos pins s sg H Q I q => h.run pos pins s sg H Q I (k _ _ _ q)⟩
theorem _root_.L2.PS.imp {X : Cx} {e : Stmt} {t t' : TS} (h : PS X e t) (k : ∀ D sg H, t' D sg H → t D sg H) : PS X e t' := ⟨fun pins s sg H D I q => h.run pins s sg H D I (k _ _ _ q)⟩
theorem _root_.L2.PSs.imp {X : Cx} {e : List Stmt} {t t' : TS} (h : PSs X e t) (k : ∀ D sg H, t' D sg H → t D sg H) : PSs X e t' := ⟨fun pins s sg H D I q => h.run pins s sg H D I (k _ _ _ q)⟩
theorem _root_.L2.PG.imp {X : Cx} {e : Expr} {t t' : TG} (h : PG X e t) (k : ∀ v sg H Q, t' v sg H Q → t v sg H Q) : PG X e t' := ⟨fun pins s sg H v u Q I r q => h.run pins s sg H v u Q I r (k _ _ _ _ q)⟩
theorem _root_.L2.PI.imp {X : Cx} {tg e : Expr} {t t' : TI} (h : PI X tg e t) (k : ∀ sg H Q, t' sg H Q → t sg H Q) : PI X tg e t' := ⟨fun pins s sg H Q I q => h.run pins s sg H Q I (k _ _ _ q)⟩

/-! ### heaps that grow and change -/
section
variable {K : PySem.W.Frag} {cl : Nat → Addr} {W : WX} {io : List Addr} {H : Hp} {h : PHeap} {p a : Addr} {o : HO}
theorem sqT_keep {H' : Hp} (k : ∀ b o u, H b = some (.frz o u) → H' b = some (.frz o u)) {a : Addr} {vs : List V} (s : TupA K H a vs) : TupA K H' a vs := by
  rcases s with ⟨o, s, n⟩ | s
  · exact .inl ⟨o, k _ _ _ s, n⟩
  · exact .inr s
theorem fro_keep {H' : Hp} (k : ∀ b o u, H b = some (.frz o u) → H' b = some (.frz o u)) {a : Addr} {vs : List V} (s : FroL K H a vs) : FroL K H' a vs := by
  rcases s with ⟨o, s⟩ | s
  · exact .inl ⟨o, k _ _ _ s⟩
  · exact .inr s
theorem Step.laid (hp : H p = none) : Step K io H io (upd H p o) := by
  have k : ∀ b u, H b = some u → upd H p o b = some u := fun b u e => by rw [upd_ne (ne_of_none e hp)]; exact e
  exact ⟨⟨[], by simp⟩, fun _ m n => absurd m n, fun b u e _ => k b u e, fun _ _ s => sqT_keep (fun b o u e => k b _ e) s, fun _ _ s => fro_keep (fun b o u e => k b _ e) s⟩
theorem RepF.step {io' : List Addr} {H' : Hp} {fs : List (Str × D)} {vs : List (Str × V)} (s : Step K io H io' H') (r : RepF K io H fs vs) : RepF K io' H' fs vs := ⟨r.1, r.2.step s _ _⟩
theorem CellRep.step {io' : List Addr} {H' : Hp} {c : Cell} (s : Step K io H io' H') (e : H' a = H a) (r : CellRep K cl io H a c) : CellRep K cl io' H' a c := by
  cases c with
  | lst xs => obtain ⟨vs, h1, h2⟩ := r; exact ⟨vs, e.trans h1, h2.step s _ _⟩
  | dct kvs => exact r
  | ins c fs => obtain ⟨dx, vs, h1, h2⟩ := r; exact ⟨dx, vs, e.trans h1, h2.step s⟩
theorem CellRep.some {c : Cell} (r : CellRep K cl io H a c) : ∃ o, H a = some o := by
  cases c with
  | lst xs => obtain ⟨vs, h1, h2⟩ := r; exact ⟨_, h1⟩
  | dct kvs => exact r.elim
  | ins c fs => obtain ⟨dx, vs, h1, h2⟩ := r; exact ⟨_, h1⟩
theorem HRel.tracked (r : HRel K cl io H h) (m : a ∈ io) : ∃ o, H a = some o := by
  obtain ⟨n, hn⟩ := List.mem_iff_getElem?.mp m
  obtain ⟨c, _, q⟩ := r.there hn
  exact q.some
theorem HRel.out (r : HRel K cl io H h) (n : H a = none) : a ∉ io := fun m => by
  obtain ⟨o, e⟩ := r.tracked m
  rw [n] at e; cases e
theorem HRel.same {H' : Hp} (r : HRel K cl io H h) (s : Step K io H io H') (e : ∀ a ∈ io, H' a = H a) : HRel K cl io H' h :=
  ⟨r.len, r.nd, fun n a c h1 h2 => (r.cell n a c h1 h2).step s (e a (List.mem_of_getElem? h1))⟩
theorem HRel.laid (r : HRel K cl io H h) (hp : H p = none) : HRel K cl io (upd H p o) h :=
  r.same (Step.laid hp) fun a m => by
    obtain ⟨u, e⟩ := r.tracked m
    exact upd_ne (ne_of_none e hp)
/-- a list that stands apart becomes a cell -/
theorem Step.cell {H0 : Hp} {io0 : List Addr} (s : Step K io0 H0 io H) (hn : a ∉ io) (h0 : H0 a = none) : Step K io0 H0 (io ++ [a]) H := by
  obtain ⟨l, e⟩ := s.pre
  refine ⟨⟨l ++ [a], by rw [e, List.append_assoc]⟩, fun b m n => ?_, s.keep, s.tup, s.fro⟩
  rcases List.mem_append.mp m with m | m
  · exact s.new b m n
  · rw [List.mem_singleton.mp m]; exact h0
theorem get_more {n : Nat} {b : Addr} (h : io[n]? = some b) : (io ++ [a])[n]? = some b := by
  rw [List.getElem?_append_left (List.getElem?_eq_some_iff.mp h).1]; exact h
theorem Rep.more {d : D} {v : V} (r : Rep K io H d v) : Rep K (io ++ [a]) H d v := r.mono (fun _ _ h => get_more h) (fun _ _ h => h) (fun _ _ h => h)
theorem RepL.more {xs : List D} {vs : List V} (r : RepL K io H xs vs) : RepL K (io ++ [a]) H xs vs := r.mono (fun _ _ h => get_more h) (fun _ _ h => h) (fun _ _ h => h)
theorem CellRep.more {c : Cell} {b : Addr} (r : CellRep K cl io H b c) : CellRep K cl (io ++ [a]) H b c := by
  cases c with
  | lst xs => obtain ⟨vs, h1, h2⟩ := r; exact ⟨vs, h1, h2.more⟩
  | dct kvs => exact r
  | ins c fs => obtain ⟨dx, vs, h1, h2⟩ := r; exact ⟨dx, vs, h1, h2.1, h2.2.more⟩
theorem HRel.cell1 {c : Cell} (r : HRel K cl io H h) (hn : a ∉ io) (q : CellRep K cl io H a c) : HRel K cl (io ++ [a]) H (h ++ [c]) := by
  refine ⟨by simp [r.len], ?_, fun n b d h1 h2 => ?_⟩
  · rw [List.nodup_append]
    exact ⟨r.nd, by simp, fun x hx y hy e => hn (by rw [← List.mem_singleton.mp hy, ← e]; exact hx)⟩
  · by_cases hl : n < io.length
    · rw [List.getElem?_append_left hl] at h1
      rw [List.getElem?_append_left (by rw [← r.len]; exact hl)] at h2
      exact (r.cell n b d h1 h2).more
    · rw [List.getElem?_append_right (by omega)] at h1
      rw [List.getElem?_append_right (by rw [← r.len]; omega)] at h2
      have z : n - io.length = 0 := by
        cases e : n - io.length with
        | zero => rfl
        | succ k => rw [e] at h1; simp at h1
      rw [z] at h1
      rw [← r.len, z] at h2
      simp at h1 h2
      subst h1 h2
      exact q.more
/-- a cell's list is changed -/
theorem Step.write {vs ws : List V} (m : a ∈ io) (e : H a = some (.lst vs)) : Step K io H io (upd H a (.lst ws)) := by
  have k : ∀ b u, H b = some u → (∀ vs, u ≠ .lst vs) → upd H a (.lst ws) b = some u := fun b u q n => by
    rw [upd_ne (fun z => n vs (by rw [z, e] at q; exact (Option.some.inj q).symm))]; exact q
  refine ⟨⟨[], by simp⟩, fun _ m n => absurd m n, fun b u q n => ?_, fun _ _ s => sqT_keep (fun b o u e => k b _ e (by intro _ z; cases z)) s, fun _ _ s => fro_keep (fun b o u e => k b _ e (by intro _ z; cases z)) s⟩
  rw [upd_ne (fun z : b = a => n (by rw [z]; exact m))]; exact q
theorem HRel.write {n : Nat} {vs ws : List V} {xs : List D} (r : HRel K cl io H h) (hn : io[n]? = some a) (e : H a = some (.lst vs)) (q : RepL K io H xs ws) : HRel K cl io (upd H a (.lst ws)) (h.set n (.lst xs)) := by
  have m := List.mem_of_getElem? hn
  have s : Step K io H io (upd H a (.lst ws)) := Step.write m e
  refine ⟨by simp [r.len], r.nd, fun i b c h1 h2 => ?_⟩
  by_cases hi : n = i
  · subst hi
    rw [hn] at h1; cases h1
    have hl : n < h.length := by rw [← r.len]; exact (List.getElem?_eq_some_iff.mp hn).1
    rw [List.getElem?_set_self hl] at h2; cases h2
    exact ⟨ws, upd_same, q.step s _ _⟩
  · rw [List.getElem?_set_ne hi] at h2
    refine (r.cell i b c h1 h2).step s (upd_ne fun z => hi ?_)
    subst z
    have l1 := (List.getElem?_eq_some_iff.mp h1)
    have l2 := (List.getElem?_eq_some_iff.mp hn)
    obtain ⟨g1, e1⟩ := l1
    obtain ⟨g2, e2⟩ := l2
    exact (List.getElem_inj r.nd).mp (e2.trans e1.symm)
end

/-! ### values as data -/
def travO {α β : Type} (f : α → Option β) : List α → Option (List β)
  | [] => some []
  | x :: xs => match f x, travO f xs with
    | some a, some b => some (a :: b)
    | _, _ => none
/-- a value as data, refs opened to so many levels -/
def toPy (h : PHeap) : Nat → D → Option PyData
  | 0, _ => none
  | n + 1, d => match d with
    | .non => some .none
    | .bl b => some (.bool b)
    | .int i => some (.int i)
    | .str x => some (.str x)
    | .tup xs => (travO (toPy h n) xs).map .tuple
    | .fro xs => (travO (toPy h n) xs).map .list
    | .ref k => match h[k]? with
      | some (.lst xs) => (travO (toPy h n) xs).map .list
      | _ => none
section
variable {K : PySem.W.Frag} {cl : Nat → Addr} {io : List Addr} {H : Hp} {h : PHeap}
theorem dpAll_of {n : Nat} (ih : ∀ (d : D) (v : V) (p : PyData), toPy h n d = some p → Rep K io H d v → Dp K H v p ∧ p.plain = true ∧ p.depth ≤ n) :
    ∀ (ds : List D) (vs : List V) (ps : List PyData), travO (toPy h n) ds = some ps → RepL K io H ds vs → DpAll K H vs ps ∧ PyData.plainAll ps = true ∧ PyData.depthAll ps ≤ n
  | [], vs, ps, e, r => by
    have r' : vs = [] := r
    subst r'
    have e' : some [] = some ps := e
    cases e'
    exact ⟨.nil, rfl, by simp [PyData.depthAll]⟩
  | d :: ds, vs, ps, e, r => by
    obtain ⟨v, t, rfl, r1, r2⟩ := r
    simp only [travO] at e
    cases e1 : toPy h n d with
    | none => rw [e1] at e; cases e
    | some p =>
      rw [e1] at e
      cases e2 : travO (toPy h n) ds with
      | none => rw [e2] at e; cases e
      | some qs =>
        rw [e2] at e
        have e' : some (p :: qs) = some ps := e
        cases e'
        obtain ⟨a1, a2, a3⟩ := ih d v p e1 r1
        obtain ⟨b1, b2, b3⟩ := dpAll_of ih ds t qs e2 r2
        refine ⟨.cons a1 b1, by simp only [PyData.plainAll, a2, b2, Bool.and_self], ?_⟩
        simp only [PyData.depthAll]
        omega
theorem dp_of (hr : HRel K cl io H h) : ∀ (n : Nat) (d : D) (v : V) (p : PyData), toPy h n d = some p → Rep K io H d v → Dp K H v p ∧ p.plain = true ∧ p.depth ≤ n
  | 0, _, _, _, e, _ => by simp [toPy] at e
  | n + 1, d, v, p, e, r => by
    have ih := dp_of hr n
    cases d with
    | non => cases r; simp only [toPy] at e; cases e; exact ⟨.non, rfl, by simp [PyData.depth]⟩
    | bl b => cases r; simp only [toPy] at e; cases e; exact ⟨.bl b, rfl, by simp [PyData.depth]⟩
    | int i => cases r; simp only [toPy] at e; cases e; exact ⟨.int i, rfl, by simp [PyData.depth]⟩
    | str x => cases r; simp only [toPy] at e; cases e; exact ⟨.str x, rfl, by simp [PyData.depth]⟩
    | tup xs =>
      obtain ⟨a, vs, rfl, hs, r⟩ := r
      simp only [toPy] at e
      cases e2 : travO (toPy h n) xs with
      | none => rw [e2] at e; cases e
      | some ps =>
        rw [e2] at e; cases e
        obtain ⟨b1, b2, b3⟩ := dpAll_of ih xs vs ps e2 r
        exact ⟨.tup hs.sq b1, by simpa only [PyData.plain] using b2, by simp only [PyData.depth]; omega⟩
    | fro xs =>
      obtain ⟨a, vs, rfl, hs, r⟩ := r
      simp only [toPy] at e
      cases e2 : travO (toPy h n) xs with
      | none => rw [e2] at e; cases e
      | some ps =>
        rw [e2] at e; cases e
        obtain ⟨b1, b2, b3⟩ := dpAll_of ih xs vs ps e2 r
        exact ⟨.lst hs.sq b1, by simpa only [PyData.plain] using b2, by simp only [PyData.depth]; omega⟩
    | ref k =>
      obtain ⟨a, ha, rfl⟩ := r
      simp only [toPy] at e
      cases e1 : h[k]? with
      | none => rw [e1] at e; cases e
      | some c =>
        rw [e1] at e
        cases c with
        | lst xs =>
          cases e2 : travO (toPy h n) xs with
          | none => simp only [e2] at e; cases e
          | some ps =>
            simp only [e2] at e
            cases e
            obtain ⟨vs, hv, r⟩ := hr.cell k a _ ha e1
            obtain ⟨b1, b2, b3⟩ := dpAll_of ih xs vs ps e2 r
            exact ⟨.lst (.of hv) b1, by simpa only [PyData.plain] using b2, by simp only [PyData.depth]; omega⟩
        | dct _ => cases e
        | ins _ _ => cases e
end

/-! ### operations on values -/
/-- what an operation asks (r) is so where its plain word (f) ends as is wished -/
def Op2 (K : PySem.W.Frag) (cl : Nat → Addr) (r : R2) (f : D → D → PHeap → Res D) : Prop :=
  ∀ (W : WX) io sg H h x y v u Q, HRel K cl io H h → Rep K io H x v → Rep K io H y u → postR (RRep K) K cl W io sg H (f x y h) Q → r v u H Q
def Op1 (K : PySem.W.Frag) (cl : Nat → Addr) (r : V → Hp → VK → Prop) (f : D → PHeap → Res D) : Prop :=
  ∀ (W : WX) io sg H h x v Q, HRel K cl io H h → Rep K io H x v → postR (RRep K) K cl W io sg H (f x h) Q → r v H Q
section
variable {X : Cx} {cl : Nat → Addr} {W : WX} {a b c : Expr} {ma mb mc : ME} {pos : Pos}

theorem sd_var (i : Nat) {x : Str} (hN : X.N[i]? = some x := by rfl) (hv : Vis X.env.scope x := by first | exact Or.inl rfl | exact Or.inr (Or.inl rfl) | exact Or.inr (Or.inr rfl)) (hd : (x == ("__debug__" : Str)) = false := by decide)
    (hcd : (x == ("__classdict__" : Str)) = false := by decide) : SE X cl W (.Name x pos) (mVar i) :=
  (pe_var hN hv hd hcd).imp fun sg H Q ⟨env, h, io, E, hr, p⟩ => by
    unfold mVar at p
    cases e : env[i]? with
    | none => rw [e] at p; exact p.elim
    | some o =>
      rw [e] at p
      cases o with
      | none => exact p.elim
      | some d =>
        obtain ⟨v, e1, r⟩ := E.get i d e
        exact ⟨v, e1, p.here hr r⟩
theorem sd_int {i : Int} {j} : SE X cl W (.Constant (.int i) j pos) (mC (.int i)) := pe_int.imp fun sg H Q ⟨env, h, io, E, hr, p⟩ => postR.here p hr rfl
theorem sd_bl {i : Bool} {j} : SE X cl W (.Constant (.bool i) j pos) (mC (.bl i)) := pe_bl.imp fun sg H Q ⟨env, h, io, E, hr, p⟩ => postR.here p hr rfl
theorem sd_non {j} : SE X cl W (.Constant .none j pos) (mC .non) := pe_non.imp fun sg H Q ⟨env, h, io, E, hr, p⟩ => postR.here p hr rfl
theorem sd_str {x : Str} {j} : SE X cl W (.Constant (.str x) j pos) (mC (.str x)) := pe_str.imp fun sg H Q ⟨env, h, io, E, hr, p⟩ => postR.here p hr rfl

theorem rd_bin {r : R2} {f : D → D → PHeap → Res D} (hf : Op2 X.K cl r f) {sg : L2.St} {H : Hp} {Q : VK} (q : rd (RRep X.K) X.K cl W (mBin f ma mb) sg H Q) : tOp r (rd (RRep X.K) X.K cl W ma) (rd (RRep X.K) X.K cl W mb) sg H Q := by
  obtain ⟨env, h, io, E, hr, p⟩ := q
  refine rd_mk E hr (p.bind fun x h1 v io1 H1 e1 s1 r1 q1 p1 => ?_)
  refine rd_mk (E.step s1) r1 (p1.bind fun y h2 u io2 H2 e2 s2 r2 q2 p2 => ?_)
  exact hf W io2 sg H2 h2 x y v u Q r2 (q1.step s2 _ _) q2 p2
theorem sd_op {op : Operator} {r : R2} {f : D → D → PHeap → Res D} (ho : OpR X (binaryOp op) r) (hf : Op2 X.K cl r f) (ha : SE X cl W a ma) (hb : SE X cl W b mb) : SE X cl W (.BinOp a op b pos) (mBin f ma mb) :=
  (pe_op ho ha hb).imp fun sg H Q q => rd_bin hf q
theorem sd_cmp {op : CmpOp} {r : R2} {f : D → D → PHeap → Res D} (ho : OpR X (compareOp op) r) (hf : Op2 X.K cl r f) (ha : SE X cl W a ma) (hb : SE X cl W b mb) (hm : behindInMarks op b = false) : SE X cl W (.Compare a [op] [b] pos) (mBin f ma mb) :=
  (pe_cmpR ho ha hb hm).imp fun sg H Q q => rd_bin hf q
theorem sd_un {op : UnaryOp} {r : V → Hp → VK → Prop} {f : D → PHeap → Res D} (ho : UnR X (unaryOp op) r) (hf : Op1 X.K cl r f) (ha : SE X cl W a ma) : SE X cl W (.UnaryOp op a pos) (mUn f ma) :=
  (pe_un ho ha).imp fun sg H Q ⟨env, h, io, E, hr, p⟩ => rd_mk E hr (p.bind fun x h1 v io1 H1 e1 s1 r1 q1 p1 => hf W io1 sg H1 h1 x v Q r1 q1 p1)
/-- a bool as a test's answer -/
theorem postR.tb {io : List Addr} {sg : L2.St} {H : Hp} {r : Res D} {Q : Bool → Hp → Prop} (p : postR RBool X.K cl W io sg H (r.bind fun d h1 => match d with | .bl b => .ok b h1 | _ => .stuck) Q) :
    postR (RRep X.K) X.K cl W io sg H r fun x H' => ∃ k, x = .bl k ∧ Q k H' := by
  cases r with
  | ok d h =>
    cases d with
    | bl b => exact fun v io1 H1 s r q => ⟨b, q, p b io1 H1 s r rfl⟩
    | _ => exact p.elim
  | exc e h => exact p
  | stuck => exact p
theorem st_cmp {op : CmpOp} {r : R2} {f : D → D → PHeap → Res D} (ho : OpR X (compareOp op) r) (hf : Op2 X.K cl r f) (ha : SE X cl W a ma) (hb : SE X cl W b mb) (hm : behindInMarks op b = false) : ST X cl W (.Compare a [op] [b] pos) (mTB (mBin f ma mb)) :=
  (pt_cmpR ho ha hb hm).imp fun sg H Q ⟨env, h, io, E, hr, p⟩ => rd_bin (W := W) hf (rd_mk E hr (postR.tb p))
theorem rd_chain {r r' : R2} {f g : D → D → PHeap → Res D} (hf : Op2 X.K cl r f) (hg : Op2 X.K cl r' g) {sg : L2.St} {H : Hp} {Q : VK} (q : rd (RRep X.K) X.K cl W (mChain f g ma mb mc) sg H Q) :
    tChain r r' (rd (RRep X.K) X.K cl W ma) (rd (RRep X.K) X.K cl W mb) (rd (RRep X.K) X.K cl W mc) sg H Q := by
  obtain ⟨env, h, io, E, hr, p⟩ := q
  refine rd_mk E hr (p.bind fun x h1 v io1 H1 e1 s1 r1 q1 p1 => ?_)
  refine rd_mk (E.step s1) r1 (p1.bind fun y h2 u io2 H2 e2 s2 r2 q2 p2 => ?_)
  refine hf W io2 sg H2 h2 x y v u _ r2 (q1.step s2 _ _) q2 (p2.bind fun z h3 z' io3 H3 e3 s3 r3 q3 p3 => ?_)
  cases z with
  | bl k =>
    refine ⟨k, q3, ?_⟩
    cases k with
    | true =>
      refine iteT (rd_mk (((E.step s1).step s2).step s3) r3 (p3.bind fun w' h4 u' io4 H4 e4 s4 r4 q4 p4 => ?_))
      exact hg W io4 sg H4 h4 y w' u u' Q r4 ((q2.step s3 _ _).step s4 _ _) q4 p4
    | false => exact iteF (p3.here r3 rfl)
  | _ => exact p3.elim
theorem sd_chain {op op' : CmpOp} {r r' : R2} {f g : D → D → PHeap → Res D} (ho : OpR X (compareOp op) r) (ho' : OpR X (compareOp op') r') (hf : Op2 X.K cl r f) (hg : Op2 X.K cl r' g) (ha : SE X cl W a ma) (hb : SE X cl W b mb) (hc : SE X cl W c mc)
    (hm : lastMarks [op, op'] [b, c] = false := by with_unfolding_all rfl) : SE X cl W (.Compare a [op, op'] [b, c] pos) (mChain f g ma mb mc) :=
  (pe_chain ho ho' ha hb hc hm).imp fun sg H Q q => rd_chain hf hg q
theorem st_chain {op op' : CmpOp} {r r' : R2} {f g : D → D → PHeap → Res D} (ho : OpR X (compareOp op) r) (ho' : OpR X (compareOp op') r') (hf : Op2 X.K cl r f) (hg : Op2 X.K cl r' g) (ha : SE X cl W a ma) (hb : SE X cl W b mb) (hc : SE X cl W c mc)
    (hm : lastMarks [op, op'] [b, c] = false := by with_unfolding_all rfl) : ST X cl W (.Compare a [op, op'] [b, c] pos) (mTB (mChain f g ma mb mc)) :=
  (pt_chain ho ho' ha hb hc hm).imp fun sg H Q ⟨env, h, io, E, hr, p⟩ => rd_chain (W := W) hf hg (rd_mk E hr (postR.tb p))

/-! truth -/
theorem tru_of {io : List Addr} {H : Hp} {h : PHeap} {d : D} {v : V} {k : Bool} {h' : PHeap} (hr : HRel X.K cl io H h) (r : Rep X.K io H d v) (e : truthD d h = .ok k h') : h' = h ∧ TruV X.K v H k := by
  have hz : sizeLine = 16777216 := sizeLine_eq
  cases d with
  | non => cases r; cases e; exact ⟨rfl, rfl⟩
  | bl b => cases r; cases e; exact ⟨rfl, rfl⟩
  | int i => cases r; cases e; exact ⟨rfl, rfl⟩
  | str x =>
    cases r
    simp only [truthD] at e
    split at e
    · cases e; exact ⟨rfl, by omega, rfl⟩
    · cases e
  | tup xs =>
    obtain ⟨a, vs, rfl, hs, r⟩ := r
    cases e
    exact ⟨rfl, .inr (.inl ⟨vs, hs.sq, r.nil_iff⟩)⟩
  | fro xs =>
    obtain ⟨a, vs, rfl, hs, r⟩ := r
    cases e
    exact ⟨rfl, .inl ⟨vs, hs.sq, r.nil_iff⟩⟩
  | ref n =>
    obtain ⟨a, ha, rfl⟩ := r
    simp only [truthD] at e
    split at e
    · rename_i xs q
      cases e
      obtain ⟨vs, hv, r⟩ := hr.cell n a _ ha q
      exact ⟨rfl, .inl ⟨vs, .of hv, r.nil_iff⟩⟩
    · cases e
/-- truthD of a value, as a plain end -/
theorem truthD_cases (d : D) (h : PHeap) : (∃ k, truthD d h = .ok k h) ∨ truthD d h = .stuck := by
  unfold truthD
  split <;> (try split) <;> first | exact .inl ⟨_, rfl⟩ | exact .inr rfl
theorem st_truth (ha : SE X cl W a ma) (he : ∀ whole, isTrue a X.env whole = (do let v ← whole; standAt a.pos; holding [v] (truthy v)) := by intro _; rfl) : ST X cl W a (mTst ma truthD) :=
  (pt_truth ha he).imp fun sg H Q ⟨env, h, io, E, hr, p⟩ => rd_mk E hr (p.bind fun d h1 v io1 H1 e1 s1 r1 q1 p1 => by
    rcases truthD_cases d h1 with ⟨k, e⟩ | e
    · rw [e] at p1
      exact ⟨k, (tru_of r1 q1 e).2, p1.here r1 rfl⟩
    · rw [e] at p1; exact p1.elim)
theorem st_not {m : MT} (ha : ST X cl W a m) : ST X cl W (.UnaryOp .Not a pos) (tNotM m) :=
  (pt_not ha).imp fun sg H Q ⟨env, h, io, E, hr, p⟩ => rd_mk E hr (p.bind fun k h1 b io1 H1 e1 s1 r1 q1 p1 => by
    cases q1; exact p1.here r1 rfl)
variable {rest : List Expr} {ta tb : MT}
theorem sw_and1 (ha : ST X cl W a ta) : SW X cl W (.BoolOp .And [a] pos) ta := pw_and1 ha
theorem sw_or1 (ha : ST X cl W a ta) : SW X cl W (.BoolOp .Or [a] pos) ta := pw_or1 ha
theorem sw_and (ha : ST X cl W a ta) (hb : SW X cl W (.BoolOp .And (b :: rest) pos) tb) : SW X cl W (.BoolOp .And (a :: b :: rest) pos) (tAndM ta tb) :=
  (pw_and ha hb).imp fun sg H Q ⟨env, h, io, E, hr, p⟩ => rd_mk E hr (p.bind fun k h1 b io1 H1 e1 s1 r1 q1 p1 => by
    cases q1
    cases k with
    | true => exact iteT (rd_mk (E.step s1) r1 p1)
    | false => exact iteF (p1.here r1 rfl))
theorem sw_or (ha : ST X cl W a ta) (hb : SW X cl W (.BoolOp .Or (b :: rest) pos) tb) : SW X cl W (.BoolOp .Or (a :: b :: rest) pos) (tOrM ta tb) :=
  (pw_or ha hb).imp fun sg H Q ⟨env, h, io, E, hr, p⟩ => rd_mk E hr (p.bind fun k h1 b io1 H1 e1 s1 r1 q1 p1 => by
    cases q1
    cases k with
    | true => exact iteT (p1.here r1 rfl)
    | false => exact iteF (rd_mk (E.step s1) r1 p1))
theorem st_of {e : Expr} (h : SW X cl W e ta) : ST X cl W e ta := h.pt
theorem sd_one {op} (ha : SE X cl W a ma) : SE X cl W (.BoolOp op [a] pos) ma := pe_one ha
theorem sd_and (ha : SE X cl W a ma) (hb : SE X cl W (.BoolOp .And (b :: rest) pos) mb) : SE X cl W (.BoolOp .And (a :: b :: rest) pos) (mAnd ma mb) :=
  (pe_andT ha hb).imp fun sg H Q ⟨env, h, io, E, hr, p⟩ => rd_mk E hr (p.bind fun d h1 v io1 H1 e1 s1 r1 q1 p1 => by
    rcases truthD_cases d h1 with ⟨k, e⟩ | e
    · rw [e] at p1
      refine ⟨k, (tru_of r1 q1 e).2, ?_⟩
      cases k with
      | true => exact iteT (rd_mk (E.step s1) r1 p1)
      | false => exact iteF (p1.here r1 q1)
    · rw [e] at p1; exact p1.elim)
theorem sd_or (ha : SE X cl W a ma) (hb : SE X cl W (.BoolOp .Or (b :: rest) pos) mb) : SE X cl W (.BoolOp .Or (a :: b :: rest) pos) (mOr ma mb) :=
  (pe_orT ha hb).imp fun sg H Q ⟨env, h, io, E, hr, p⟩ => rd_mk E hr (p.bind fun d h1 v io1 H1 e1 s1 r1 q1 p1 => by
    rcases truthD_cases d h1 with ⟨k, e⟩ | e
    · rw [e] at p1
      refine ⟨k, (tru_of r1 q1 e).2, ?_⟩
      cases k with
      | true => exact iteT (p1.here r1 q1)
      | false => exact iteF (rd_mk (E.step s1) r1 p1)
    · rw [e] at p1; exact p1.elim)
theorem sd_not (ha : SE X cl W a ma) : SE X cl W (.UnaryOp .Not a pos) (mNot ma) :=
  (pe_notT ha).imp fun sg H Q ⟨env, h, io, E, hr, p⟩ => rd_mk E hr (p.bind fun d h1 v io1 H1 e1 s1 r1 q1 p1 => by
    rcases truthD_cases d h1 with ⟨k, e⟩ | e
    · rw [e] at p1
      exact ⟨k, (tru_of r1 q1 e).2, p1.here r1 rfl⟩
    · rw [e] at p1; exact p1.elim)
theorem sd_ifExp {c : Expr} {mt : MT} (hc : ST X cl W c mt) (ha : SE X cl W a ma) (hb : SE X cl W b mb) : SE X cl W (.IfExp c a b pos) (mIf mt ma mb) :=
  (pe_ifExp hc ha hb).imp fun sg H Q ⟨env, h, io, E, hr, p⟩ => rd_mk E hr (p.bind fun k h1 b io1 H1 e1 s1 r1 q1 p1 => by
    cases q1
    cases k with
    | true => exact iteT (rd_mk (E.step s1) r1 p1)
    | false => exact iteF (rd_mk (E.step s1) r1 p1))

/-! arguments, displays -/
variable {es : List Expr} {mas : MA}
theorem sa_nil : SA X cl W [] mNil := pa_nil.imp fun sg H Q ⟨env, h, io, E, hr, p⟩ => postR.here p hr rfl
theorem sa_cons (ha : SE X cl W a ma) (hr : SA X cl W es mas) (hs : starEach (a :: es) X.env = (false, eval a X.env) :: starEach es X.env := by rfl) : SA X cl W (a :: es) (mCons ma mas) :=
  (pa_cons ha hr hs).imp fun sg H Q ⟨env, h, io, E, hr, p⟩ => rd_mk E hr (p.bind fun d h1 v io1 H1 e1 s1 r1 q1 p1 =>
    rd_mk (E.step s1) r1 (p1.bind fun ds h2 vs io2 H2 e2 s2 r2 q2 p2 => p2.here r2 ⟨v, vs, rfl, q1.step s2 _ _, q2⟩))
theorem sd_tup {x1} (ha : SA X cl W es mas) : SE X cl W (.Tuple es x1 pos) (mTup mas) :=
  (pe_tupA ha).imp fun sg H Q ⟨env, h, io, E, hr, p⟩ => rd_mk E hr (p.bind fun ds h1 vs io1 H1 e1 s1 r1 q1 p1 => by
    have hz : sizeLine = 16777216 := sizeLine_eq
    have hl := q1.length
    split at p1
    · refine ⟨by omega, fun a o ha hd => p1 _ io1 _ (Step.laid ha) (r1.laid ha) ⟨a, vs, rfl, .of upd_same hd, q1.step (Step.laid ha) _ _⟩⟩
    · exact p1.elim)
/-- a written list, new -/
def mDisp (a : MA) : MA := fun env h => (a env h).bind fun xs h1 => if xs.length ≤ 16777216 then .ok xs h1 else .stuck
theorem sn_lst (ha : SA X cl W es mas) : SN X cl W (.List es pos) (mDisp mas) :=
  (pe_lst ha).imp fun sg H Q ⟨env, h, io, E, hr, p⟩ => rd_mk E hr (p.bind fun ds h1 vs io1 H1 e1 s1 r1 q1 p1 => by
    have hz : sizeLine = 16777216 := sizeLine_eq
    have hl := q1.length
    split at p1
    · exact ⟨by omega, fun a ha => p1 _ io1 _ (Step.laid ha) (r1.laid ha) ⟨a, vs, rfl, ha, r1.out ha, upd_same, q1.step (Step.laid ha) _ _⟩⟩
    · exact p1.elim)
/-- a new list as a value: a new cell -/
theorem sd_new (ha : SN X cl W a mas) : SE X cl W a (mNew mas) :=
  PE.imp ha fun sg H Q ⟨env, h, io, E, hr, p⟩ => rd_mk E hr (by
    unfold mNew at p
    cases e : mas env h with
    | ok ds h1 =>
      rw [e] at p
      rintro v io1 H1 s1 r1 ⟨b, vs, rfl, h0, hn, hb, q⟩
      exact p _ (io1 ++ [b]) H1 (s1.cell hn h0) (r1.cell1 hn ⟨vs, hb, q⟩) ⟨b, by rw [List.getElem?_append_right (by rw [r1.len]; exact Nat.le_refl _), r1.len]; simp, rfl⟩
    | exc x h1 => rw [e] at p; exact p
    | stuck => rw [e] at p; exact p)
end
end Gb

/-! GbD: operands (a value, or a list that is new), and what is done with them -/
namespace Gb
open PySem L2

/-- an operand: a value; or a list that was just made and that nobody else has -/
inductive LV where
  | val (d : D) | new (xs : List D)
abbrev MO := PEnv → PHeap → Res LV
def mVal (a : ME) : MO := fun env h => (a env h).bind fun d h1 => .ok (.val d) h1
def mNL (a : MA) : MO := fun env h => (a env h).bind fun xs h1 => .ok (.new xs) h1
/-- a list's items -/
def LV.items (h : PHeap) : LV → Option (List D)
  | .new xs => some xs
  | .val (.fro xs) => some xs
  | .val (.ref n) => match h[n]? with
    | some (.lst xs) => some xs
    | _ => none
  | _ => none
/-- a list's or a tuple's items -/
def LV.seq (h : PHeap) : LV → Option (List D)
  | .val (.tup xs) => some xs
  | v => v.items h
def LV.py (h : PHeap) : LV → Option PyData
  | .val d => toPy h 60 d
  | .new xs => (travO (toPy h 60) xs).map .list

section
variable {K : PySem.W.Frag} {cl : Nat → Addr} {io io' : List Addr} {H H' : Hp} {h : PHeap}
/-- an operand's value -/
def OV (K : PySem.W.Frag) (io : List Addr) (H : Hp) : LV → V → Prop
  | .val d, v => Rep K io H d v
  | .new xs, v => ∃ a vs, v = .ref a ∧ a ∉ io ∧ H a = some (.lst vs) ∧ RepL K io H xs vs
def RLV (K : PySem.W.Frag) : Hp → List Addr → Hp → LV → V → Prop := fun H0 io H lv v => match lv with
  | .val d => Rep K io H d v
  | .new xs => RNew K H0 io H xs v
instance : Back K (RLV K) := ⟨fun {io H io1 H1 io' H' lv v} s hl q => by
  cases lv with
  | val d => exact q
  | new xs => exact Back.back (K := K) (R := RNew K) s hl q⟩
theorem RLV.ov {H0 : Hp} {lv : LV} {v : V} (r : RLV K H0 io H lv v) : OV K io H lv v := by
  cases lv with
  | val d => exact r
  | new xs => obtain ⟨a, vs, e, h0, h1, h2, h3⟩ := r; exact ⟨a, vs, e, h1, h2, h3⟩
theorem OV.step {lv : LV} {v : V} (r : OV K io H lv v) (s : Step K io H io' H') : OV K io' H' lv v := by
  cases lv with
  | val d => exact Rep.step s d v r
  | new xs => obtain ⟨a, vs, e, h1, h2, h3⟩ := r; exact ⟨a, vs, e, s.out h2 h1, s.keep _ _ h2 h1, h3.step s _ _⟩
theorem OV.items {lv : LV} {v : V} {xs : List D} (hr : HRel K cl io H h) (r : OV K io H lv v) (e : lv.items h = some xs) : ∃ a vs, v = .ref a ∧ SqL K H a vs ∧ RepL K io H xs vs := by
  cases lv with
  | new ys => cases e; obtain ⟨a, vs, e, h1, h2, h3⟩ := r; exact ⟨a, vs, e, .of h2, h3⟩
  | val d =>
    cases d with
    | fro ys => cases e; obtain ⟨a, vs, e, h1, h2⟩ := r; exact ⟨a, vs, e, h1.sq, h2⟩
    | ref n =>
      obtain ⟨a, ha, rfl⟩ := r
      simp only [LV.items] at e
      split at e
      · rename_i ys q
        cases e
        obtain ⟨vs, hv, r⟩ := hr.cell n a _ ha q
        exact ⟨a, vs, rfl, .of hv, r⟩
      · cases e
    | _ => simp [LV.items] at e
theorem OV.seq {lv : LV} {v : V} {xs : List D} (hr : HRel K cl io H h) (r : OV K io H lv v) (e : lv.seq h = some xs) : ∃ a vs, v = .ref a ∧ (SqL K H a vs ∨ TupA K H a vs) ∧ RepL K io H xs vs := by
  by_cases q : ∃ ys, lv = .val (.tup ys)
  · obtain ⟨ys, rfl⟩ := q
    cases e
    obtain ⟨a, vs, e, h1, h2⟩ := r
    exact ⟨a, vs, e, .inr h1, h2⟩
  · have e' : lv.items h = some xs := by
      cases lv with
      | new ys => exact e
      | val d => cases d with
        | tup ys => exact absurd ⟨ys, rfl⟩ q
        | _ => exact e
    obtain ⟨a, vs, e, h1, h2⟩ := r.items hr e'
    exact ⟨a, vs, e, .inl h1, h2⟩
theorem OV.py {lv : LV} {v : V} {p : PyData} (hr : HRel K cl io H h) (r : OV K io H lv v) (e : lv.py h = some p) : Dp K H v p ∧ p.plain = true ∧ p.depth ≤ 61 := by
  cases lv with
  | val d =>
    obtain ⟨a, b, c⟩ := dp_of hr 60 d v p e r
    exact ⟨a, b, by omega⟩
  | new xs =>
    obtain ⟨a, vs, rfl, h1, h2, h3⟩ := r
    simp only [LV.py] at e
    cases e2 : travO (toPy h 60) xs with
    | none => rw [e2] at e; cases e
    | some ps =>
      rw [e2] at e; cases e
      obtain ⟨b1, b2, b3⟩ := dpAll_of (dp_of hr 60) xs vs ps e2 h3
      exact ⟨.lst (.of h2) b1, by simpa only [PyData.plain] using b2, by simp only [PyData.depth]; omega⟩
end
abbrev SO (X : Cx) (cl : Nat → Addr) (W : WX) (e : Expr) (m : MO) : Prop := PE X e (rd (RLV X.K) X.K cl W m)

section
variable {X : Cx} {cl : Nat → Addr} {W : WX} {a b c e : Expr} {ma mb mc : ME} {ml : MA} {mo mp : MO} {pos : Pos}
theorem so_val (ha : SE X cl W a ma) : SO X cl W a (mVal ma) :=
  PE.imp ha fun sg H Q ⟨env, h, io, E, hr, p⟩ => rd_mk E hr (p.bind fun d h1 v io1 H1 e1 s1 r1 q1 p1 => p1.here r1 q1)
theorem so_new (ha : SN X cl W a ml) : SO X cl W a (mNL ml) :=
  PE.imp ha fun sg H Q ⟨env, h, io, E, hr, p⟩ => rd_mk E hr (by
    unfold mNL at p
    cases e : ml env h with
    | ok ds h1 =>
      rw [e] at p
      rintro v io1 H1 s1 r1 q
      exact p v io1 H1 s1 r1 q
    | exc x h1 => rw [e] at p; exact p
    | stuck => rw [e] at p; exact p)

/-! ### calls of built-ins with operands -/
def Con1 {α β : Type} (R : Hp → List Addr → Hp → α → V → Prop) (K : PySem.W.Frag) (cl : Nat → Addr) (r : List V → Hp → VK → Prop) (f : LV → PHeap → Res α) : Prop :=
  ∀ (W : WX) io sg H h x v Q, HRel K cl io H h → OV K io H x v → postR R K cl W io sg H (f x h) Q → r [v] H Q
def Con2 {α : Type} (R : Hp → List Addr → Hp → α → V → Prop) (K : PySem.W.Frag) (cl : Nat → Addr) (r : List V → Hp → VK → Prop) (f : LV → LV → PHeap → Res α) : Prop :=
  ∀ (W : WX) io sg H h x y v u Q, HRel K cl io H h → OV K io H x v → OV K io H y u → postR R K cl W io sg H (f x y h) Q → r [v, u] H Q
def m1 {α : Type} (f : LV → PHeap → Res α) (a : MO) : PEnv → PHeap → Res α := fun env h => (a env h).bind f
def m2 {α : Type} (f : LV → LV → PHeap → Res α) (a b : MO) : PEnv → PHeap → Res α := fun env h => (a env h).bind fun x h1 => (b env h1).bind fun y h2 => f x y h2
variable {α : Type} {R : Hp → List Addr → Hp → α → V → Prop} {r : List V → Hp → VK → Prop} {f : LV → PHeap → Res α} {g : LV → LV → PHeap → Res α} {x : Str} {p : Pos} {bid T : String}
theorem rd_m1 [Back X.K R] (hf : Con1 (β := V) R X.K cl r f) {sg : L2.St} {H : Hp} {Q : VK} (q : rd R X.K cl W (m1 f mo) sg H Q) : tCB r (tCons (rd (RLV X.K) X.K cl W mo) tNil) sg H Q := by
  obtain ⟨env, h, io, E, hr, p⟩ := q
  exact rd_mk E hr (p.bind fun d h1 v io1 H1 e1 s1 r1 q1 p1 => hf W io1 sg H1 h1 d v Q r1 q1.ov p1)
theorem rd_m2 [Back X.K R] (hf : Con2 R X.K cl r g) {sg : L2.St} {H : Hp} {Q : VK} (q : rd R X.K cl W (m2 g mo mp) sg H Q) : tCB r (tCons (rd (RLV X.K) X.K cl W mo) (tCons (rd (RLV X.K) X.K cl W mp) tNil)) sg H Q := by
  obtain ⟨env, h, io, E, hr, p⟩ := q
  exact rd_mk E hr (p.bind fun d h1 v io1 H1 e1 s1 r1 q1 p1 => rd_mk (E.step s1) r1 (p1.bind fun d2 h2 u io2 H2 e2 s2 r2 q2 p2 =>
    hf W io2 sg H2 h2 d d2 v u Q r2 (q1.ov.step s2) q2.ov p2))
/-- a built-in function of one operand -/
theorem sc_b1 [Back X.K R] (hc : CallR X (.builtin bid) r) (hf : Con1 (β := V) R X.K cl r f) (he : SO X cl W e mo) (hg : Gl X x) (hm : X.mg x = none) (hv : bootBuiltins x = some (.builtin bid)) (hn : x ≠ "__name__" := by decide) (hdb : (x == ("__debug__" : Str)) = false := by decide)
    (hs : starEach [e] X.env = (false, eval e X.env) :: starEach [] X.env := by rfl) (hpl : (backTo pos (starEach [] X.env)).any (·.1) = false := by rfl) : PE X (.Call (.Name x p) [e] [] pos) (rd R X.K cl W (m1 f mo)) :=
  (pe_callB hc hg hm hv (pa_cons he pa_nil hs) hn hdb hs hpl).imp fun sg H Q q => rd_m1 hf q
/-- a built-in type of one operand -/
theorem sc_t1 [Back X.K R] (hc : CallR X (.type T) r) (hf : Con1 (β := V) R X.K cl r f) (he : SO X cl W e mo) (hg : Gl X x) (hm : X.mg x = none) (hv : bootBuiltins x = some (.type T)) (hn : x ≠ "__name__" := by decide) (hdb : (x == ("__debug__" : Str)) = false := by decide)
    (hs : starEach [e] X.env = (false, eval e X.env) :: starEach [] X.env := by rfl) (hpl : (backTo pos (starEach [] X.env)).any (·.1) = false := by rfl) : PE X (.Call (.Name x p) [e] [] pos) (rd R X.K cl W (m1 f mo)) :=
  (pe_callTy hc hg hm hv (pa_cons he pa_nil hs) hn hdb hs hpl).imp fun sg H Q q => rd_m1 hf q
theorem sc_b2 [Back X.K R] (hc : CallR X (.builtin bid) r) (hf : Con2 R X.K cl r g) (ha : SO X cl W a mo) (hb : SO X cl W b mp) (hg : Gl X x) (hm : X.mg x = none) (hv : bootBuiltins x = some (.builtin bid)) (hn : x ≠ "__name__" := by decide) (hdb : (x == ("__debug__" : Str)) = false := by decide)
    (hs : starEach [a, b] X.env = (false, eval a X.env) :: starEach [b] X.env := by rfl) (hs2 : starEach [b] X.env = (false, eval b X.env) :: starEach [] X.env := by rfl) (hpl : (backTo pos (starEach [b] X.env)).any (·.1) = false := by rfl) : PE X (.Call (.Name x p) [a, b] [] pos) (rd R X.K cl W (m2 g mo mp)) :=
  (pe_callB hc hg hm hv (pa_cons ha (pa_cons hb pa_nil hs2) hs) hn hdb hs hpl).imp fun sg H Q q => rd_m2 hf q

/-! len -/
def fLen : LV → PHeap → Res D := fun x h => match x with
  | .val (.str z) => if z.length ≤ 16777216 then .ok (.int z.length) h else .stuck
  | x => match x.seq h with
    | some xs => .ok (.int xs.length) h
    | none => .stuck
theorem con_len : Con1 (β := V) (RRep X.K) X.K cl (fun xs H Q => ∃ x n, xs = [x] ∧ LenV X.K x H n ∧ Q (.int n) H) fLen := by
  intro W io sg H h x v Q hr r p
  have hz : sizeLine = 16777216 := sizeLine_eq
  unfold fLen at p
  split at p
  · cases r
    split at p
    · exact ⟨_, _, rfl, ⟨by omega, rfl⟩, p.here hr rfl⟩
    · exact p.elim
  · split at p
    · rename_i xs e
      obtain ⟨a, vs, rfl, h1, h2⟩ := r.seq hr e
      refine ⟨_, vs.length, rfl, ?_, by rw [← h2.length]; exact p.here hr rfl⟩
      rcases h1 with h1 | h1
      · exact .inl ⟨vs, h1, rfl⟩
      · exact .inr ⟨vs, h1.sq, rfl⟩
    · exact p.elim
theorem sd_len (he : SO X cl W e mo) (hm : X.mg "len" = none) (hg : Gl X "len" := by rfl) (hs : starEach [e] X.env = (false, eval e X.env) :: starEach [] X.env := by rfl) : SE X cl W (.Call (.Name "len" p) [e] [] pos) (m1 fLen mo) :=
  sc_b1 call_len con_len he hg hm PySem.boot_len (by decide) (by decide) hs
/-! tuple -/
def fTuple : LV → PHeap → Res D := fun x h => match x.seq h with
  | some xs => .ok (.tup xs) h
  | none => .stuck
theorem con_tuple : Con1 (β := V) (RRep X.K) X.K cl (fun xs H Q => ∃ p ys, xs = [.ref p] ∧ ((SqL X.K H p ys ∧ NewT H ys Q) ∨ (TupA X.K H p ys ∧ Q (.ref p) H))) fTuple := by
  intro W io sg H h x v Q hr r p
  unfold fTuple at p
  split at p
  · rename_i xs e
    obtain ⟨a, vs, rfl, h1, h2⟩ := r.seq hr e
    refine ⟨a, vs, rfl, ?_⟩
    rcases h1 with h1 | h1
    · exact .inl ⟨h1, fun l o hl hd => p _ io _ (Step.laid hl) (hr.laid hl) ⟨l, vs, rfl, .of upd_same hd, h2.step (Step.laid hl) _ _⟩⟩
    · exact .inr ⟨h1, p.here hr ⟨a, vs, rfl, h1, h2⟩⟩
  · exact p.elim
theorem sd_tuple (he : SO X cl W e mo) (hm : X.mg "tuple" = none) (hg : Gl X "tuple" := by rfl) (hs : starEach [e] X.env = (false, eval e X.env) :: starEach [] X.env := by rfl) : SE X cl W (.Call (.Name "tuple" p) [e] [] pos) (m1 fTuple mo) :=
  sc_t1 call_tupleA con_tuple he hg hm (by decide +kernel) (by decide) (by decide) hs
/-! list -/
def fList : LV → PHeap → Res (List D) := fun x h => match x.seq h with
  | some xs => .ok xs h
  | none => .stuck
theorem con_list : Con1 (β := V) (RNew X.K) X.K cl (fun xs H Q => ∃ p ys, xs = [.ref p] ∧ (SqL X.K H p ys ∨ SqT X.K H p ys) ∧ ∀ l, H l = none → Q (.ref l) (upd H l (.lst ys))) fList := by
  intro W io sg H h x v Q hr r p
  unfold fList at p
  split at p
  · rename_i xs e
    obtain ⟨a, vs, rfl, h1, h2⟩ := r.seq hr e
    exact ⟨a, vs, rfl, h1.imp id TupA.sq, fun l hl => p _ io _ (Step.laid hl) (hr.laid hl) ⟨l, vs, rfl, hl, hr.out hl, upd_same, h2.step (Step.laid hl) _ _⟩⟩
  · exact p.elim
theorem sn_list (he : SO X cl W e mo) (hm : X.mg "list" = none) (hg : Gl X "list" := by rfl) (hs : starEach [e] X.env = (false, eval e X.env) :: starEach [] X.env := by rfl) : SN X cl W (.Call (.Name "list" p) [e] [] pos) (m1 fList mo) :=
  sc_t1 call_list_of con_list he hg hm (by decide +kernel) (by decide) (by decide) hs
/-! all, any -/
def bools : List D → Option (List Bool)
  | [] => some []
  | .bl b :: r => (bools r).map (b :: ·)
  | _ => none
def fAll : LV → PHeap → Res D := fun x h => match x.items h with
  | some xs => match bools xs with
    | some bs => .ok (.bl (bs.all id)) h
    | none => .stuck
  | none => .stuck
def fAny : LV → PHeap → Res D := fun x h => match x.items h with
  | some xs => match bools xs with
    | some bs => .ok (.bl (bs.any id)) h
    | none => .stuck
  | none => .stuck
theorem bools_rep {K : PySem.W.Frag} {io : List Addr} {H : Hp} : ∀ {xs : List D} {vs : List V} {bs : List Bool}, bools xs = some bs → RepL K io H xs vs → vs = bs.map V.bl
  | [], _, _, e, r => by cases e; exact r
  | x :: xs, _, bs, e, ⟨v, t, e1, r1, r2⟩ => by
    subst e1
    cases x with
    | bl b =>
      simp only [bools] at e
      cases q : bools xs with
      | none => rw [q] at e; cases e
      | some cs =>
        rw [q] at e
        cases e
        cases r1
        rw [bools_rep q r2]
        rfl
    | _ => simp [bools] at e
theorem con_all : Con1 (β := V) (RRep X.K) X.K cl (rAll X.K) fAll := by
  intro W io sg H h x v Q hr r p
  unfold fAll at p
  split at p
  · split at p
    · rename_i xs e _ bs e2
      obtain ⟨a, vs, rfl, h1, h2⟩ := r.items hr e
      have := bools_rep e2 h2
      subst this
      exact ⟨a, bs, rfl, h1, p.here hr rfl⟩
    · exact p.elim
  · exact p.elim
theorem con_any : Con1 (β := V) (RRep X.K) X.K cl (rAny X.K) fAny := by
  intro W io sg H h x v Q hr r p
  unfold fAny at p
  split at p
  · split at p
    · rename_i xs e _ bs e2
      obtain ⟨a, vs, rfl, h1, h2⟩ := r.items hr e
      have := bools_rep e2 h2
      subst this
      exact ⟨a, bs, rfl, h1, p.here hr rfl⟩
    · exact p.elim
  · exact p.elim
theorem sd_all (he : SO X cl W e mo) (hm : X.mg "all" = none) (hc : X.calm = true := by rfl) (hg : Gl X "all" := by rfl) (hs : starEach [e] X.env = (false, eval e X.env) :: starEach [] X.env := by rfl) : SE X cl W (.Call (.Name "all" p) [e] [] pos) (m1 fAll mo) :=
  sc_b1 (cr_all hc) con_all he hg hm (by decide +kernel) (by decide) (by decide) hs
theorem sd_any (he : SO X cl W e mo) (hm : X.mg "any" = none) (hc : X.calm = true := by rfl) (hg : Gl X "any" := by rfl) (hs : starEach [e] X.env = (false, eval e X.env) :: starEach [] X.env := by rfl) : SE X cl W (.Call (.Name "any" p) [e] [] pos) (m1 fAny mo) :=
  sc_b1 (cr_any hc) con_any he hg hm (by decide +kernel) (by decide) (by decide) hs
/-! int, abs, max, min of two -/
def fInt : LV → PHeap → Res D := fun x h => match x with
  | .val (.int i) => .ok (.int i) h
  | .val (.bl b) => .ok (.int (if b then 1 else 0)) h
  | _ => .stuck
def fAbs : LV → PHeap → Res D := fun x h => match x with
  | .val (.int i) => .ok (.int (if i < 0 then -i else i)) h
  | _ => .stuck
def fMax2 : LV → LV → PHeap → Res D := fun x y h => match x, y with
  | .val (.int i), .val (.int j) => .ok (.int (if j > i then j else i)) h
  | _, _ => .stuck
def fMin2 : LV → LV → PHeap → Res D := fun x y h => match x, y with
  | .val (.int i), .val (.int j) => .ok (.int (if j < i then j else i)) h
  | _, _ => .stuck
theorem con_int : Con1 (β := V) (RRep X.K) X.K cl (fun xs H Q => (∃ i, xs = [.int i] ∧ Q (.int i) H) ∨ ∃ k, xs = [.bl k] ∧ Q (.int (if k then 1 else 0)) H) fInt := by
  intro W io sg H h x v Q hr r p
  unfold fInt at p
  split at p
  · cases r; exact .inl ⟨_, rfl, p.here hr rfl⟩
  · cases r; exact .inr ⟨_, rfl, p.here hr rfl⟩
  · exact p.elim
theorem con_abs : Con1 (β := V) (RRep X.K) X.K cl (fun xs H Q => ∃ i, xs = [.int i] ∧ Q (.int (if i < 0 then -i else i)) H) fAbs := by
  intro W io sg H h x v Q hr r p
  unfold fAbs at p
  split at p
  · cases r; exact ⟨_, rfl, p.here hr rfl⟩
  · exact p.elim
theorem con_max2 : Con2 (RRep X.K) X.K cl (fun xs H Q => ∃ i j, xs = [.int i, .int j] ∧ Q (.int (if j > i then j else i)) H) fMax2 := by
  intro W io sg H h x y v u Q hr r q p
  unfold fMax2 at p
  split at p
  · cases r; cases q; exact ⟨_, _, rfl, p.here hr rfl⟩
  · exact p.elim
theorem con_min2 : Con2 (RRep X.K) X.K cl (fun xs H Q => ∃ i j, xs = [.int i, .int j] ∧ Q (.int (if j < i then j else i)) H) fMin2 := by
  intro W io sg H h x y v u Q hr r q p
  unfold fMin2 at p
  split at p
  · cases r; cases q; exact ⟨_, _, rfl, p.here hr rfl⟩
  · exact p.elim
theorem sd_intc (he : SO X cl W e mo) (hm : X.mg "int" = none) (hg : Gl X "int" := by rfl) (hs : starEach [e] X.env = (false, eval e X.env) :: starEach [] X.env := by rfl) : SE X cl W (.Call (.Name "int" p) [e] [] pos) (m1 fInt mo) :=
  sc_t1 call_int1 con_int he hg hm (by decide +kernel) (by decide) (by decide) hs
theorem sd_abs (he : SO X cl W e mo) (hm : X.mg "abs" = none) (hg : Gl X "abs" := by rfl) (hs : starEach [e] X.env = (false, eval e X.env) :: starEach [] X.env := by rfl) : SE X cl W (.Call (.Name "abs" p) [e] [] pos) (m1 fAbs mo) :=
  sc_b1 call_abs con_abs he hg hm (by decide +kernel) (by decide) (by decide) hs
theorem sd_max2 (ha : SO X cl W a mo) (hb : SO X cl W b mp) (hm : X.mg "max" = none) (hc : X.calm = true := by rfl) (hg : Gl X "max" := by rfl)
    (hs : starEach [a, b] X.env = (false, eval a X.env) :: starEach [b] X.env := by rfl) (hs2 : starEach [b] X.env = (false, eval b X.env) :: starEach [] X.env := by rfl) (hpl : (backTo pos (starEach [b] X.env)).any (·.1) = false := by rfl) : SE X cl W (.Call (.Name "max" p) [a, b] [] pos) (m2 fMax2 mo mp) :=
  sc_b2 (call_max2 hc) con_max2 ha hb hg hm (by decide +kernel) (by decide) (by decide) hs hs2 hpl
theorem sd_min2 (ha : SO X cl W a mo) (hb : SO X cl W b mp) (hm : X.mg "min" = none) (hc : X.calm = true := by rfl) (hg : Gl X "min" := by rfl)
    (hs : starEach [a, b] X.env = (false, eval a X.env) :: starEach [b] X.env := by rfl) (hs2 : starEach [b] X.env = (false, eval b X.env) :: starEach [] X.env := by rfl) (hpl : (backTo pos (starEach [b] X.env)).any (·.1) = false := by rfl) : SE X cl W (.Call (.Name "min" p) [a, b] [] pos) (m2 fMin2 mo mp) :=
  sc_b2 (call_min2 hc) con_min2 ha hb hg hm (by decide +kernel) (by decide) (by decide) hs hs2 hpl
end

/-! ### arithmetic -/
section
variable {X : Cx} {cl : Nat → Addr}
def fAdd : D → D → PHeap → Res D := fun x y h => match x, y with
  | .int i, .int j => .ok (.int (i + j)) h
  | .tup xs, .tup ys => if xs.length + ys.length ≤ 16777216 then .ok (.tup (xs ++ ys)) h else .stuck
  | .str a, .str b => if a.length + b.length ≤ 16777216 then .ok (.str (a ++ b)) h else .stuck
  | _, _ => .stuck
def rAddM (K : PySem.W.Frag) : R2 := fun x y H Q => rI0 (fun i j => .int (i + j)) x y H Q ∨ rCatAA K x y H Q ∨ ∃ i j, x = .str i ∧ y = .str j ∧ i.length + j.length ≤ sizeLine ∧ Q (.str (i ++ j)) H
theorem op_addM : OpR X (binaryOp .Add) (rAddM X.K) := op_add.or (op_catAA.or op_add_str)
theorem o2_add : Op2 X.K cl (rAddM X.K) fAdd := by
  intro W io sg H h x y v u Q hr r q p
  have hz : sizeLine = 16777216 := sizeLine_eq
  unfold fAdd at p
  split at p
  · cases r; cases q; exact .inl ⟨_, _, rfl, rfl, p.here hr rfl⟩
  · rename_i xs ys
    obtain ⟨a, vs, rfl, ha, ra⟩ := r
    obtain ⟨b, us, rfl, hb, rb⟩ := q
    have l1 := ra.length
    have l2 := rb.length
    split at p
    · refine .inr (.inl ⟨a, b, vs, us, rfl, rfl, ha, hb, by omega, fun e => ?_, fun _ e => ?_, fun _ _ t o ht hd => ?_⟩)
      · subst e
        have e1 : xs = [] := List.eq_nil_of_length_eq_zero (by simpa using l1)
        subst e1
        exact p.here hr ⟨b, us, rfl, hb, rb⟩
      · subst e
        have e1 : ys = [] := List.eq_nil_of_length_eq_zero (by simpa using l2)
        subst e1
        rw [List.append_nil] at p
        exact p.here hr ⟨a, vs, rfl, ha, ra⟩
      · exact p _ io _ (Step.laid ht) (hr.laid ht) ⟨t, vs ++ us, rfl, .of upd_same hd, (ra.append rb).step (Step.laid ht) _ _⟩
    · exact p.elim
  · cases r; cases q
    split at p
    · exact .inr (.inr ⟨_, _, rfl, rfl, by omega, p.here hr rfl⟩)
    · exact p.elim
  · exact p.elim
def fSub : D → D → PHeap → Res D := fun x y h => match x, y with
  | .int i, .int j => .ok (.int (i - j)) h
  | _, _ => .stuck
theorem o2_sub : Op2 X.K cl (rI0 fun i j => .int (i - j)) fSub := by
  intro W io sg H h x y v u Q hr r q p
  unfold fSub at p
  split at p
  · cases r; cases q; exact ⟨_, _, rfl, rfl, p.here hr rfl⟩
  · exact p.elim
def small64 (i : Int) : Bool := decide (-(2 ^ 64) < i ∧ i < 2 ^ 64)
def fMul : D → D → PHeap → Res D := fun x y h => match x, y with
  | .int i, .int j => if small64 i || small64 j then .ok (.int (i * j)) h else .stuck
  | .tup xs, .int k => if -1000 ≤ k ∧ k ≤ 1000 ∧ xs.length ≤ 1000 then .ok (.tup (List.replicate k.toNat xs).flatten) h else .stuck
  | _, _ => .stuck
def rMulM (K : PySem.W.Frag) : R2 := fun x y H Q => rI CMul (fun i j => .int (i * j)) x y H Q ∨ rRepA K x y H Q
theorem op_mulM : OpR X (binaryOp .Mult) (rMulM X.K) := op_mul.or op_repA
theorem RepL.rep {K : PySem.W.Frag} {io : List Addr} {H : Hp} {xs : List D} {vs : List V} (r : RepL K io H xs vs) : ∀ k : Nat, RepL K io H (List.replicate k xs).flatten (List.replicate k vs).flatten
  | 0 => by simp [RepL]
  | k + 1 => by
    rw [List.replicate_succ, List.replicate_succ, List.flatten_cons, List.flatten_cons]
    exact r.append (r.rep k)
theorem o2_mul : Op2 X.K cl (rMulM X.K) fMul := by
  intro W io sg H h x y v u Q hr r q p
  unfold fMul at p
  split at p
  · rename_i i j
    cases r; cases q
    split at p
    · rename_i c
      simp only [small64, Bool.or_eq_true, decide_eq_true_eq] at c
      exact .inl ⟨_, _, rfl, rfl, c, p.here hr rfl⟩
    · exact p.elim
  · rename_i xs kk
    obtain ⟨a, vs, rfl, ha, ra⟩ := r
    cases q
    have l1 := ra.length
    split at p
    · rename_i c
      obtain ⟨c1, c2, c3⟩ := c
      refine .inr ⟨a, _, vs, rfl, rfl, ha, c1, c2, by omega, fun e => ?_, fun _ _ t o ht hd => ?_⟩
      · have e1 : (List.replicate (Int.toNat kk) xs).flatten = xs := by
          rcases e with e | e
          · rw [e] at l1
            have ex : xs = [] := List.eq_nil_of_length_eq_zero (by simpa using l1)
            subst ex
            induction Int.toNat kk with
            | zero => rfl
            | succ n ih => rw [List.replicate_succ, List.flatten_cons, ih]; rfl
          · rw [e]; simp
        rw [e1] at p
        exact p.here hr ⟨a, vs, rfl, ha, ra⟩
      · exact p _ io _ (Step.laid ht) (hr.laid ht) ⟨t, _, rfl, .of upd_same hd, (ra.rep _).step (Step.laid ht) _ _⟩
    · exact p.elim
  · exact p.elim
def fDiv : D → D → PHeap → Res D := fun x y h => match x, y with
  | .int i, .int j => if j ≠ 0 ∧ j.natAbs < 1073741824 then .ok (.int (i.fdiv j)) h else .stuck
  | _, _ => .stuck
theorem o2_div : Op2 X.K cl (rI CDivN fun i j => .int (i.fdiv j)) fDiv := by
  intro W io sg H h x y v u Q hr r q p
  unfold fDiv at p
  split at p
  · cases r; cases q
    split at p
    · rename_i c; exact ⟨_, _, rfl, rfl, c, p.here hr rfl⟩
    · exact p.elim
  · exact p.elim
def fMod : D → D → PHeap → Res D := fun x y h => match x, y with
  | .int i, .int j => if j ≠ 0 then .ok (.int (i.fmod j)) h else .stuck
  | _, _ => .stuck
theorem o2_mod : Op2 X.K cl (rI (fun _ j => j ≠ 0) fun i j => .int (i.fmod j)) fMod := by
  intro W io sg H h x y v u Q hr r q p
  unfold fMod at p
  split at p
  · cases r; cases q
    split at p
    · rename_i c; exact ⟨_, _, rfl, rfl, c, p.here hr rfl⟩
    · exact p.elim
  · exact p.elim
def fPow : D → D → PHeap → Res D := fun x y h => match x, y with
  | .int i, .int j => if 0 ≤ j ∧ j ≤ 1000000 ∧ i.natAbs < 2 ^ 64 then .ok (.int (i ^ j.toNat)) h else .stuck
  | _, _ => .stuck
theorem o2_pow : Op2 X.K cl (rI CPow fun i j => .int (i ^ j.toNat)) fPow := by
  intro W io sg H h x y v u Q hr r q p
  unfold fPow at p
  split at p
  · cases r; cases q
    split at p
    · rename_i c; exact ⟨_, _, rfl, rfl, c, p.here hr rfl⟩
    · exact p.elim
  · exact p.elim
def fNeg : D → PHeap → Res D := fun x h => match x with
  | .int i => .ok (.int (-i)) h
  | _ => .stuck
theorem o1_neg : Op1 X.K cl (rU fun i => .int (-i)) fNeg := by
  intro W io sg H h x v Q hr r p
  unfold fNeg at p
  split at p
  · cases r; exact ⟨_, rfl, p.here hr rfl⟩
  · exact p.elim

/-! ### comparisons -/
def fCmpI (c : Int → Int → Bool) : D → D → PHeap → Res D := fun x y h => match x, y with
  | .int i, .int j => .ok (.bl (c i j)) h
  | _, _ => .stuck
theorem o2_cmpI {c : Int → Int → Bool} : Op2 X.K cl (rI0 fun i j => .bl (c i j)) (fCmpI c) := by
  intro W io sg H h x y v u Q hr r q p
  unfold fCmpI at p
  split at p
  · cases r; cases q; exact ⟨_, _, rfl, rfl, p.here hr rfl⟩
  · exact p.elim
abbrev fLt := fCmpI fun i j => decide (i < j)
abbrev fLe := fCmpI fun i j => decide (i ≤ j)
abbrev fGt := fCmpI fun i j => decide (j < i)
abbrev fGe := fCmpI fun i j => decide (j ≤ i)
/-- is None, is True, is False -/
def fIs : D → D → PHeap → Res D := fun x y h => match y with
  | .non => .ok (.bl (decide (x = .non))) h
  | .bl b => match x with
    | .bl a => .ok (.bl (decide (a = b))) h
    | _ => .stuck
  | _ => .stuck
def fIsNot : D → D → PHeap → Res D := fun x y h => match y with
  | .non => .ok (.bl (!decide (x = .non))) h
  | .bl b => match x with
    | .bl a => .ok (.bl (!decide (a = b))) h
    | _ => .stuck
  | _ => .stuck
theorem rep_non {K : PySem.W.Frag} {io : List Addr} {H : Hp} {d : D} {v : V} (r : Rep K io H d v) : decide (v = .non) = decide (d = .non) := by
  cases d with
  | non => cases r; rfl
  | bl b => cases r; simp
  | int b => cases r; simp
  | str b => cases r; simp
  | tup xs => obtain ⟨a, vs, rfl, _⟩ := r; simp
  | fro xs => obtain ⟨a, vs, rfl, _⟩ := r; simp
  | ref n => obtain ⟨a, _, rfl⟩ := r; simp
theorem o2_is : Op2 X.K cl (fun x y H Q => (y = .non ∧ Q (.bl (decide (x = .non))) H) ∨ ∃ a b, x = .bl a ∧ y = .bl b ∧ Q (.bl (decide (a = b))) H) fIs := by
  intro W io sg H h x y v u Q hr r q p
  unfold fIs at p
  split at p
  · cases q; exact .inl ⟨rfl, by rw [rep_non r]; exact p.here hr rfl⟩
  · split at p
    · cases q; cases r; exact .inr ⟨_, _, rfl, rfl, p.here hr rfl⟩
    · exact p.elim
  · exact p.elim
theorem o2_isnot : Op2 X.K cl (fun x y H Q => (y = .non ∧ Q (.bl (!decide (x = .non))) H) ∨ ∃ a b, x = .bl a ∧ y = .bl b ∧ Q (.bl (!decide (a = b))) H) fIsNot := by
  intro W io sg H h x y v u Q hr r q p
  unfold fIsNot at p
  split at p
  · cases q; exact .inl ⟨rfl, by rw [rep_non r]; exact p.here hr rfl⟩
  · split at p
    · cases q; cases r; exact .inr ⟨_, _, rfl, rfl, p.here hr rfl⟩
    · exact p.elim
  · exact p.elim
theorem op_isM : OpR X (compareOp .Is) (fun x y H Q => (y = .non ∧ Q (.bl (decide (x = .non))) H) ∨ ∃ a b, x = .bl a ∧ y = .bl b ∧ Q (.bl (decide (a = b))) H) := op_isN.or op_is_bl
theorem op_isnotM : OpR X (compareOp .IsNot) (fun x y H Q => (y = .non ∧ Q (.bl (!decide (x = .non))) H) ∨ ∃ a b, x = .bl a ∧ y = .bl b ∧ Q (.bl (!decide (a = b))) H) := op_notN.or op_isnot_bl
end
end Gb

/-! GbZ: zip of two, of three, lists and tuples in any mix -/
namespace Gb
open PySem PySem.Spec PyProof.Rows L2

/-- a list or a tuple that is walked -/
inductive Src where
  | lst (a : Addr) | tup (a : Addr)
def Src.addr : Src → Addr
  | .lst a => a
  | .tup a => a
def Src.obj : Src → Obj
  | .lst a => { cls := .type "list_iterator", data := .fields #[.ref a, .int 0 0] }
  | .tup a => { cls := .type "tuple_iterator", data := .fields #[.ref a, .int 0 0] }
def Src.It (u : Src) (it : Addr) (i : Nat) (h : Heap) : Prop := match u with
  | .lst a => h.IsListIter it a i
  | .tup a => h.IsTupleIter it a i
def Src.At (u : Src) (K : PySem.W.Frag) (H : Hp) (xs : List V) : Prop := match u with
  | .lst a => SqL K H a xs
  | .tup a => SqT K H a xs
theorem Src.It.obj {u : Src} {it : Addr} {i : Nat} {h : Heap} (q : u.It it i h) : ∃ o, h.get? it = some o ∧ ∀ v, o.data ≠ .cell v := by
  cases u with
  | lst a => obtain ⟨o, e, _, d⟩ := q; exact ⟨o, e, fun v z => by rw [d] at z; cases z⟩
  | tup a => obtain ⟨o, e, _, d⟩ := q; exact ⟨o, e, fun v z => by rw [d] at z; cases z⟩
theorem Src.It.at {u : Src} {it : Addr} {i : Nat} {h h' : Heap} (q : u.It it i h) (k : ∀ o, h.get? it = some o → h'.get? it = some o) : u.It it i h' := by
  cases u with
  | lst a => exact Heap.IsListIter.at q k
  | tup a => exact Heap.IsTupleIter.at q k
section
variable {X : Cx} {pins : List (Addr × Obj)} {σ : L2.St} {H : Hp} {s : Shared}
theorem Src.inj {u : Src} {xs ys : List V} (I : Inv X pins σ H s) (h : u.At X.K H xs) (h' : u.At X.K H ys) : xs = ys := by
  cases u with
  | lst a => exact I.list_inj h h'
  | tup a => exact I.tuple_inj h h'
theorem Src.lt {u : Src} {xs : List V} (I : Inv X pins σ H s) (h : u.At X.K H xs) : u.addr < s.heap.objs.size := by
  cases u with
  | lst a => obtain ⟨_, _, p, _⟩ := I.list h; exact p.lt
  | tup a => obtain ⟨_, _, p, _⟩ := I.tuple h; obtain ⟨o, e, _⟩ := p; exact Heap.lt_size e
/-- what its iterator draws now -/
theorem Src.draw {u : Src} {xs : List V} (hc : X.calm = true) (I : Inv X pins σ H s) (h : u.At X.K H xs) (it : Addr) (hne : u.addr ≠ it) :
    ∃ (St : Nat → Heap → Prop) (its : List Value), Vals xs its ∧ Draws X.prog X.w X.A.in1 it [it, u.addr] its.length (fun i v => its[i]? = some v) St ∧ (∀ i, u.It it i s.heap → St i s.heap) ∧ ∀ i h, St i h → u.It it i h := by
  have hh : X.A.in1.handled = none := I.ok.hd hc
  cases u with
  | lst a =>
    obtain ⟨its, rv, p, _⟩ := I.list h
    refine ⟨fun i h => h.IsListIter it a i ∧ h.IsList a its.toArray, its, rv, ?_, fun i st => ⟨st, p.isList⟩, fun i h q => q.1⟩
    have D := Draws.list (prog := X.prog) (w := X.w) (A := X.A.in1) hh it a hne its.toArray
    simpa [Src.addr] using D
  | tup a =>
    obtain ⟨its, rv, p, _⟩ := I.tuple h
    refine ⟨fun i h => h.IsTupleIter it a i ∧ h.IsTuple a its.toArray, its, rv, ?_, fun i st => ⟨st, p⟩, fun i h q => q.1⟩
    have D := Draws.tuple (prog := X.prog) (w := X.w) (A := X.A.in1) hh it a hne its.toArray
    simpa [Src.addr] using D
theorem Src.begins {u : Src} {xs : List V} (I : Inv X pins σ H s) (h : u.At X.K H xs) : ∃ Hq : Heap → Prop, Begins (.ref u.addr) u.obj Hq ∧ Hq s.heap := by
  cases u with
  | lst a => obtain ⟨its, rv, p, _⟩ := I.list h; exact ⟨_, begins_list a its.toArray, p.isList⟩
  | tup a => obtain ⟨its, rv, p, _⟩ := I.tuple h; exact ⟨_, begins_tuple a its.toArray, p⟩
theorem Src.it0 {u : Src} {it : Addr} {h : Heap} (e : h.get? it = some u.obj) : u.It it 0 h := by
  cases u with
  | lst a => exact ⟨_, e, rfl, rfl⟩
  | tup a => exact ⟨_, e, rfl, rfl⟩
end


def ItZ2 (K : PySem.W.Frag) (u v : Src) : It :=
  ⟨fun i H => ∃ (xs ys : List V) (x y : V), u.At K H xs ∧ v.At K H ys ∧ xs[i]? = some x ∧ ys[i]? = some y,
    fun i H z H' => ∃ T o x y, z = .ref T ∧ H T = none ∧ Obj.dict o = none ∧ H' = upd H T (.frz o (.tup [x, y])) ∧ (∀ xs, u.At K H xs → xs[i]? = some x) ∧ (∀ ys, v.At K H ys → ys[i]? = some y),
    fun i H => ∃ xs ys : List V, u.At K H xs ∧ v.At K H ys ∧ i ≤ xs.length ∧ i ≤ ys.length ∧ (i = xs.length ∨ i = ys.length)⟩
theorem turn_z2 {P : Program} {w : World} {K : PySem.W.Frag} {elts : List Expr} {kk : Nat} {tpos : Pos} {u v : Src} {z TI TO i1 i2 : Addr} (S : ZipSep2 z TI TO i1 i2 [i1, u.addr] [i2, v.addr]) (n1 : u.addr ≠ i1) (n2 : v.addr ≠ i2) :
    Turn P w K (.Tuple elts kk tpos) (ItZ2 K u v) [z, TI, TO, i1, i2] z (fun i h => IsZip h z TI TO .none ∧ IsTupOf2 h TI (.ref i1) (.ref i2) ∧ (∃ x y, IsTupOf2 h TO x y) ∧ u.It i1 i h ∧ v.It i2 i h) where
  mem := by simp
  obj := fun i h st c hc => by
    obtain ⟨hz, hTI, ⟨x, y, hTO⟩, h1, h2⟩ := st
    have e' : c = z ∨ c = TI ∨ c = TO ∨ c = i1 ∨ c = i2 := by simpa using hc
    rcases e' with q | q | q | q | q
    · rw [q]; exact ⟨_, hz, fun v q => nomatch q⟩
    · rw [q]; exact ⟨_, hTI, fun v q => nomatch q⟩
    · rw [q]; exact ⟨_, hTO, fun v q => nomatch q⟩
    · rw [q]; exact h1.obj
    · rw [q]; exact h2.obj
  keep := fun i h h' st k => by
    obtain ⟨hz, hTI, ⟨x, y, hTO⟩, h1, h2⟩ := st
    exact ⟨k z (by simp) _ hz, k TI (by simp) _ hTI, ⟨x, y, k TO (by simp) _ hTO⟩, h1.at fun o q => k i1 (by simp) o q, h2.at fun o q => k i2 (by simp) o q⟩
  item := by
    intro X hP hw hK hc i pins s σ H E I hf st hg
    subst hP hw hK
    obtain ⟨hz, hTI, ⟨o1, o2, hTO⟩, h1, h2⟩ := st
    obtain ⟨xs, ys, x, y, hq1, hq2, hx1, hx2⟩ := hg
    obtain ⟨St1, its1, rv1, D1, f1, g1⟩ := Src.draw hc I hq1 i1 n1
    obtain ⟨St2, its2, rv2, D2, f2, g2⟩ := Src.draw hc I hq2 i2 n2
    obtain ⟨u1, hu1, ru1⟩ := rv1.get hx1
    obtain ⟨u2, hu2, ru2⟩ := rv2.get hx2
    have lt1 : i < its1.length := (List.getElem?_eq_some_iff.mp hu1).1
    have lt2 : i < its2.length := (List.getElem?_eq_some_iff.mp hu2).1
    have hzl : z < s.heap.objs.size := Heap.lt_size hz
    have zi1 : i1 ≠ z := fun e => S.zf1 (e ▸ S.mem1)
    have zi2 : i2 ≠ z := fun e => S.zf2 (e ▸ S.mem2)
    refine wpAny_pyNext_zipD2_item S D1 D2 hz hTI hTO (f1 i h1) (f2 i h2) lt1 lt2 fun w1 w2 h' tk p1 p2 z' TO' j1 j2 hT hsz hk => ?_
    have e1 : w1 = u1 := Option.some.inj (p1.symm.trans hu1)
    subst e1
    have e2 : w2 = u2 := Option.some.inj (p2.symm.trans hu2)
    subst e2
    refine ⟨_, rfl, wpAny_letOwnedTupleGo_zip (s := { s with heap := h', toks := tk }) z' fun h'' z'' sb => ?_⟩
    have hT2 : h''.get? s.heap.objs.size = some { cls := .type "tuple", data := .seq #[w1, w2] } := (sb.2 _ (Nat.ne_of_gt hzl)).trans hT
    have new : ObjOk X.prog X.w (upd H s.heap.objs.size (.frz (tupO [w1, w2]) (.tup [x, y]))) h'' s.heap.objs.size (.frz (tupO [w1, w2]) (.tup [x, y])) :=
      ⟨hT2, by show 2 ≤ sizeLine; decide, [w1, w2], (.cons ru1 (.cons ru2 .nil)), ⟨_, hT2, rfl, _, rfl⟩⟩
    have I1 : Inv X pins σ (upd H s.heap.objs.size (.frz (tupO [w1, w2]) (.tup [x, y]))) { s with heap := h'', toks := tk } :=
      I.turnedNew (t' := tk) (ch := [z, TI, TO, i1, i2]) (fun c o hb q => (sb.2 c (fun q' => hb (by simp [q']))).trans (hk c o (fun q' => hb (by simp [q'])) (fun q' => hb (by simp [q'])) (fun q' => hb (by simp [q'])) (fun q' => hb (by simp [q'])) q)) hf (Nat.le_refl _) new
    refine ⟨.ref s.heap.objs.size, _, I1, rfl, ⟨_, _, x, y, rfl, I.hok.fresh (Nat.le_refl _), rfl, rfl, fun l hl => by rw [Src.inj I hl hq1]; exact hx1, fun l hl => by rw [Src.inj I hl hq2]; exact hx2⟩, ⟨z'', ?_, ⟨w1, w2, ?_⟩, (g1 _ _ j1).at fun o q => (sb.2 _ zi1).trans q, (g2 _ _ j2).at fun o q => (sb.2 _ zi2).trans q⟩, fun c hcm => ?_⟩
    · exact (sb.2 _ S.TIz).trans (hk _ _ S.TIz S.TITO S.TIi1 S.TIi2 hTI)
    · exact (sb.2 _ S.TOz).trans TO'
    · have hlt : c < s.heap.objs.size := by
        have e' : c = z ∨ c = TI ∨ c = TO ∨ c = i1 ∨ c = i2 := by simpa using hcm
        rcases e' with q | q | q | q | q
        · rw [q]; exact hzl
        · rw [q]; exact Heap.lt_size hTI
        · rw [q]; exact Heap.lt_size hTO
        · rw [q]; obtain ⟨_, e1, _⟩ := h1.obj; exact Heap.lt_size e1
        · rw [q]; obtain ⟨_, e1, _⟩ := h2.obj; exact Heap.lt_size e1
      rw [upd_ne (Nat.ne_of_lt hlt)]
      exact (hf c hcm).1
  done := by
    intro X hP hw hK hc i pins s σ H E I hf st hg
    subst hP hw hK
    obtain ⟨hz, hTI, ⟨o1, o2, hTO⟩, h1, h2⟩ := st
    obtain ⟨xs, ys, hq1, hq2, le1, le2, hend⟩ := hg
    obtain ⟨St1, its1, rv1, D1, f1, g1⟩ := Src.draw hc I hq1 i1 n1
    obtain ⟨St2, its2, rv2, D2, f2, g2⟩ := Src.draw hc I hq2 i2 n2
    have l1 := rv1.length
    have l2 := rv2.length
    refine wpAny_pyNext_zipD2_end S D1 D2 hz hTI hTO (f1 i h1) (f2 i h2) (by omega) (by omega) (by omega) fun h' tk hk => ⟨rfl, I.turnedL (t' := tk) (ch := [z, TI, TO, i1, i2]) (fun c o hb q =>
      hk c o (fun q' => hb (by simp [q'])) (fun q' => hb (by simp [q'])) (fun q' => hb (by simp [q'])) (fun q' => hb (by simp [q'])) q) hf⟩
  self := fun A i s Q E st h => wpAny_pyIter_zip st.1 h
def ItZ3 (K : PySem.W.Frag) (u v t : Src) : It :=
  ⟨fun i H => ∃ (xs ys zs : List V) (x y x3 : V), u.At K H xs ∧ v.At K H ys ∧ t.At K H zs ∧ xs[i]? = some x ∧ ys[i]? = some y ∧ zs[i]? = some x3,
    fun i H z H' => ∃ T o x y x3, z = .ref T ∧ H T = none ∧ Obj.dict o = none ∧ H' = upd H T (.frz o (.tup [x, y, x3])) ∧ (∀ xs, u.At K H xs → xs[i]? = some x) ∧ (∀ ys, v.At K H ys → ys[i]? = some y) ∧ (∀ zs, t.At K H zs → zs[i]? = some x3),
    fun i H => ∃ xs ys zs : List V, u.At K H xs ∧ v.At K H ys ∧ t.At K H zs ∧ i ≤ xs.length ∧ i ≤ ys.length ∧ i ≤ zs.length ∧ (i = xs.length ∨ i = ys.length ∨ i = zs.length)⟩
theorem turn_z3 {P : Program} {w : World} {K : PySem.W.Frag} {elts : List Expr} {kk : Nat} {tpos : Pos} {u v t : Src} {z TI TO i1 i2 i3 : Addr} (S : ZipSep3 z TI TO i1 i2 i3 [i1, u.addr] [i2, v.addr] [i3, t.addr]) (n1 : u.addr ≠ i1) (n2 : v.addr ≠ i2) (n3 : t.addr ≠ i3) :
    Turn P w K (.Tuple elts kk tpos) (ItZ3 K u v t) [z, TI, TO, i1, i2, i3] z (fun i h => IsZip h z TI TO .none ∧ IsTupOf3 h TI (.ref i1) (.ref i2) (.ref i3) ∧ (∃ x y x3, IsTupOf3 h TO x y x3) ∧ u.It i1 i h ∧ v.It i2 i h ∧ t.It i3 i h) where
  mem := by simp
  obj := fun i h st c hc => by
    obtain ⟨hz, hTI, ⟨x, y, x3, hTO⟩, h1, h2, h3⟩ := st
    have e' : c = z ∨ c = TI ∨ c = TO ∨ c = i1 ∨ c = i2 ∨ c = i3 := by simpa using hc
    rcases e' with q | q | q | q | q | q
    · rw [q]; exact ⟨_, hz, fun v q => nomatch q⟩
    · rw [q]; exact ⟨_, hTI, fun v q => nomatch q⟩
    · rw [q]; exact ⟨_, hTO, fun v q => nomatch q⟩
    · rw [q]; exact h1.obj
    · rw [q]; exact h2.obj
    · rw [q]; exact h3.obj
  keep := fun i h h' st k => by
    obtain ⟨hz, hTI, ⟨x, y, x3, hTO⟩, h1, h2, h3⟩ := st
    exact ⟨k z (by simp) _ hz, k TI (by simp) _ hTI, ⟨x, y, x3, k TO (by simp) _ hTO⟩, h1.at fun o q => k i1 (by simp) o q, h2.at fun o q => k i2 (by simp) o q, h3.at fun o q => k i3 (by simp) o q⟩
  item := by
    intro X hP hw hK hc i pins s σ H E I hf st hg
    subst hP hw hK
    obtain ⟨hz, hTI, ⟨o1, o2, o3, hTO⟩, h1, h2, h3⟩ := st
    obtain ⟨xs, ys, zs, x, y, x3, hq1, hq2, hq3, hx1, hx2, hx3⟩ := hg
    obtain ⟨St1, its1, rv1, D1, f1, g1⟩ := Src.draw hc I hq1 i1 n1
    obtain ⟨St2, its2, rv2, D2, f2, g2⟩ := Src.draw hc I hq2 i2 n2
    obtain ⟨St3, its3, rv3, D3, f3, g3⟩ := Src.draw hc I hq3 i3 n3
    obtain ⟨u1, hu1, ru1⟩ := rv1.get hx1
    obtain ⟨u2, hu2, ru2⟩ := rv2.get hx2
    obtain ⟨u3, hu3, ru3⟩ := rv3.get hx3
    have lt1 : i < its1.length := (List.getElem?_eq_some_iff.mp hu1).1
    have lt2 : i < its2.length := (List.getElem?_eq_some_iff.mp hu2).1
    have lt3 : i < its3.length := (List.getElem?_eq_some_iff.mp hu3).1
    have hzl : z < s.heap.objs.size := Heap.lt_size hz
    have zi1 : i1 ≠ z := fun e => S.zf1 (e ▸ S.mem1)
    have zi2 : i2 ≠ z := fun e => S.zf2 (e ▸ S.mem2)
    have zi3 : i3 ≠ z := fun e => S.zf3 (e ▸ S.mem3)
    refine wpAny_pyNext_zipD3_item S D1 D2 D3 hz hTI hTO (f1 i h1) (f2 i h2) (f3 i h3) lt1 lt2 lt3 fun w1 w2 w3 h' tk p1 p2 p3 z' TO' j1 j2 j3 hT hsz hk => ?_
    have e1 : w1 = u1 := Option.some.inj (p1.symm.trans hu1)
    subst e1
    have e2 : w2 = u2 := Option.some.inj (p2.symm.trans hu2)
    subst e2
    have e3 : w3 = u3 := Option.some.inj (p3.symm.trans hu3)
    subst e3
    refine ⟨_, rfl, wpAny_letOwnedTupleGo_zip (s := { s with heap := h', toks := tk }) z' fun h'' z'' sb => ?_⟩
    have hT2 : h''.get? s.heap.objs.size = some { cls := .type "tuple", data := .seq #[w1, w2, w3] } := (sb.2 _ (Nat.ne_of_gt hzl)).trans hT
    have new : ObjOk X.prog X.w (upd H s.heap.objs.size (.frz (tupO [w1, w2, w3]) (.tup [x, y, x3]))) h'' s.heap.objs.size (.frz (tupO [w1, w2, w3]) (.tup [x, y, x3])) :=
      ⟨hT2, by show 3 ≤ sizeLine; decide, [w1, w2, w3], (.cons ru1 (.cons ru2 (.cons ru3 .nil))), ⟨_, hT2, rfl, _, rfl⟩⟩
    have I1 : Inv X pins σ (upd H s.heap.objs.size (.frz (tupO [w1, w2, w3]) (.tup [x, y, x3]))) { s with heap := h'', toks := tk } :=
      I.turnedNew (t' := tk) (ch := [z, TI, TO, i1, i2, i3]) (fun c o hb q => (sb.2 c (fun q' => hb (by simp [q']))).trans (hk c o (fun q' => hb (by simp [q'])) (fun q' => hb (by simp [q'])) (fun q' => hb (by simp [q'])) (fun q' => hb (by simp [q'])) (fun q' => hb (by simp [q'])) q)) hf (Nat.le_refl _) new
    refine ⟨.ref s.heap.objs.size, _, I1, rfl, ⟨_, _, x, y, x3, rfl, I.hok.fresh (Nat.le_refl _), rfl, rfl, fun l hl => by rw [Src.inj I hl hq1]; exact hx1, fun l hl => by rw [Src.inj I hl hq2]; exact hx2, fun l hl => by rw [Src.inj I hl hq3]; exact hx3⟩, ⟨z'', ?_, ⟨w1, w2, w3, ?_⟩, (g1 _ _ j1).at fun o q => (sb.2 _ zi1).trans q, (g2 _ _ j2).at fun o q => (sb.2 _ zi2).trans q, (g3 _ _ j3).at fun o q => (sb.2 _ zi3).trans q⟩, fun c hcm => ?_⟩
    · exact (sb.2 _ S.TIz).trans (hk _ _ S.TIz S.TITO S.TIi1 S.TIi2 S.TIi3 hTI)
    · exact (sb.2 _ S.TOz).trans TO'
    · have hlt : c < s.heap.objs.size := by
        have e' : c = z ∨ c = TI ∨ c = TO ∨ c = i1 ∨ c = i2 ∨ c = i3 := by simpa using hcm
        rcases e' with q | q | q | q | q | q
        · rw [q]; exact hzl
        · rw [q]; exact Heap.lt_size hTI
        · rw [q]; exact Heap.lt_size hTO
        · rw [q]; obtain ⟨_, e1, _⟩ := h1.obj; exact Heap.lt_size e1
        · rw [q]; obtain ⟨_, e1, _⟩ := h2.obj; exact Heap.lt_size e1
        · rw [q]; obtain ⟨_, e1, _⟩ := h3.obj; exact Heap.lt_size e1
      rw [upd_ne (Nat.ne_of_lt hlt)]
      exact (hf c hcm).1
  done := by
    intro X hP hw hK hc i pins s σ H E I hf st hg
    subst hP hw hK
    obtain ⟨hz, hTI, ⟨o1, o2, o3, hTO⟩, h1, h2, h3⟩ := st
    obtain ⟨xs, ys, zs, hq1, hq2, hq3, le1, le2, le3, hend⟩ := hg
    obtain ⟨St1, its1, rv1, D1, f1, g1⟩ := Src.draw hc I hq1 i1 n1
    obtain ⟨St2, its2, rv2, D2, f2, g2⟩ := Src.draw hc I hq2 i2 n2
    obtain ⟨St3, its3, rv3, D3, f3, g3⟩ := Src.draw hc I hq3 i3 n3
    have l1 := rv1.length
    have l2 := rv2.length
    have l3 := rv3.length
    refine wpAny_pyNext_zipD3_end S D1 D2 D3 hz hTI hTO (f1 i h1) (f2 i h2) (f3 i h3) (by omega) (by omega) (by omega) (by omega) fun h' tk hk => ⟨rfl, I.turnedL (t' := tk) (ch := [z, TI, TO, i1, i2, i3]) (fun c o hb q =>
      hk c o (fun q' => hb (by simp [q'])) (fun q' => hb (by simp [q'])) (fun q' => hb (by simp [q'])) (fun q' => hb (by simp [q'])) (fun q' => hb (by simp [q'])) q) hf⟩
  self := fun A i s Q E st h => wpAny_pyIter_zip st.1 h
/-! ### enumerate -/
theorem meets_enum1 {v : Value} {o : Obj} {H : Heap → Prop} (B : Begins v o H) :
    Meets (Builtin.«enumerate.__new__» ⟨[.type "enumerate", v], []⟩) (fun _ R s => H s.heap ∧
      R (.ok (.ret (.ref (s.heap.push o).objs.size))) { s with heap := (s.heap.push o).push { cls := .type "enumerate", data := .fields #[.none, .bool false, .ref s.heap.objs.size, rawInt 0, .none, .none] } }) :=
  .of_wp fun prog w A R s h => by
    obtain ⟨hp, g, d, tk, os⟩ := s; obtain ⟨h1, h⟩ := h
    have hsub := sub_enumerate
    have q1 : ∀ {A' : Around} {E : Value → Shared → Prop} {Q : Value → Shared → Prop}, Q (.ref hp.objs.size) ⟨hp.push o, g, d, tk, os⟩ → wpAny (model prog w) A' (pyIter v) Q E ⟨hp, g, d, tk, os⟩ :=
      fun q => B.iter prog w _ _ ⟨hp, g, d, tk, os⟩ _ h1 q
    wp_walk using q1
    refine wpAny_stack_any fun st => wpAny_pure ?_
    split
    · rename_i c _ _ _ _ _
      cases (c == Value.type "enumerate")
      · wp_walk using q1
        exact ⟨_, rfl, h⟩
      · wp_walk using q1
        exact ⟨_, rfl, h⟩
    · wp_walk using q1
      exact ⟨_, rfl, h⟩
section
variable {prog : Program} {w : World} {A : Around} {E : Value → Shared → Prop} {s : Shared}
theorem enum_begins1 {v : Value} {o : Obj} {H : Heap → Prop} {Q : Value → Shared → Prop} (B : Begins v o H) (h1 : H s.heap)
    (h : ∀ h', IsEnum h' (s.heap.objs.size + 1) s.heap.objs.size 0 .none → h'.get? s.heap.objs.size = some o → h'.objs.size = s.heap.objs.size + 2 →
      (∀ b o, s.heap.get? b = some o → h'.get? b = some o) → Q (.ref (s.heap.objs.size + 1)) { s with heap := h' }) :
    wpAny (model prog w) A (call (.type "enumerate") [v]) Q E s := by
  refine callType_new F.called_enumerate (by decide) (F.typeCall_enumerate_1 _) (F.newCall_enumerate_1 _) (fun obj => F.args_object_init_2 obj _) F.entry_enumerate_new
    (meets_enum1 B) ⟨h1, ?_⟩
  have hz : (s.heap.push o).objs.size = s.heap.objs.size + 1 := Heap.size_push ..
  show _ ∧ _
  rw [hz]
  have he : IsEnum ((s.heap.push o).push { cls := .type "enumerate", data := .fields #[.none, .bool false, .ref s.heap.objs.size, rawInt 0, .none, .none] }) (s.heap.objs.size + 1) s.heap.objs.size 0 .none := by
    have := Heap.get?_push_size (s.heap.push o) (o := { cls := .type "enumerate", data := .fields #[.none, .bool false, .ref s.heap.objs.size, rawInt 0, .none, .none] }) rfl
    rw [hz] at this; exact this
  refine ⟨⟨_, he, rfl⟩, h _ he (Heap.get?_push_of_some _ (Heap.get?_push_size _ B.free)) (by rw [Heap.size_push, hz]) fun b o x => Heap.get?_push_of_some _ (Heap.get?_push_of_some _ x)⟩
end
def ItE (K : PySem.W.Frag) (u : Src) (k : Int) : It :=
  ⟨fun i H => ∃ (xs : List V) (x : V), u.At K H xs ∧ xs[i]? = some x,
    fun i H z H' => ∃ T o x, z = .ref T ∧ H T = none ∧ Obj.dict o = none ∧ H' = upd H T (.frz o (.tup [.int (k + i), x])) ∧ ∀ xs, u.At K H xs → xs[i]? = some x,
    fun i H => ∃ xs : List V, u.At K H xs ∧ i = xs.length⟩
theorem turn_e {P : Program} {w : World} {K : PySem.W.Frag} {elts : List Expr} {kk : Nat} {tpos : Pos} {u : Src} {k : Int} {e it : Addr} (n1 : u.addr ≠ it) (n2 : e ≠ it) (n3 : e ≠ u.addr) :
    Turn P w K (.Tuple elts kk tpos) (ItE K u k) [e, it] e (fun i h => (∃ old, IsEnum h e it (k + (i : Nat)) old) ∧ u.It it i h) where
  mem := by simp
  obj := fun i h st b hb => by
    obtain ⟨⟨old, he⟩, h1⟩ := st
    have e' : b = e ∨ b = it := by simpa using hb
    rcases e' with z | z
    · rw [z]; exact ⟨_, he, fun v q => nomatch q⟩
    · rw [z]; exact h1.obj
  keep := fun i h h' st k => let ⟨⟨old, he⟩, hi⟩ := st; ⟨⟨old, k e (by simp) _ he⟩, hi.at fun o q => k it (by simp) o q⟩
  item := by
    intro X hP hw hK hc i pins s σ H E I hf st hg
    subst hP hw hK
    obtain ⟨⟨old, he⟩, hit⟩ := st
    obtain ⟨xs, x, hq, hx⟩ := hg
    obtain ⟨St, its, rv, D, f, g⟩ := Src.draw hc I hq it n1
    obtain ⟨u1, hu, ru⟩ := rv.get hx
    have lt : i < its.length := (List.getElem?_eq_some_iff.mp hu).1
    have hel : e < s.heap.objs.size := Heap.lt_size he
    have hil : it < s.heap.objs.size := by obtain ⟨_, q, _⟩ := hit.obj; exact Heap.lt_size q
    refine wpAny_pyNext_enum_itemC D he (f i hit) lt n2 (by simp; exact ⟨n2, n3⟩) fun y h' tk hy ho hit' hT hsz hk => ?_
    have ey : y = u1 := Option.some.inj (hy.symm.trans hu)
    subst ey
    refine ⟨_, rfl, wpAny_letOwnedTupleGo_enum (s := { s with heap := h', toks := tk + 1 }) ho fun h'' he' sb => ?_⟩
    have hT2 : h''.get? s.heap.objs.size = some { cls := .type "tuple", data := .seq #[.int (k + (i : Nat)) tk, y] } := (sb.2 _ (Nat.ne_of_gt hel)).trans hT
    have new : ObjOk X.prog X.w (upd H s.heap.objs.size (.frz (tupO [.int (k + (i : Nat)) tk, y]) (.tup [.int (k + (i : Nat)), x]))) h'' s.heap.objs.size (.frz (tupO [.int (k + (i : Nat)) tk, y]) (.tup [.int (k + (i : Nat)), x])) :=
      ⟨hT2, by show 2 ≤ sizeLine; decide, [.int (k + (i : Nat)) tk, y], .cons ⟨_, rfl⟩ (.cons ru .nil), ⟨_, hT2, rfl, _, rfl⟩⟩
    have I1 : Inv X pins σ (upd H s.heap.objs.size (.frz (tupO [.int (k + (i : Nat)) tk, y]) (.tup [.int (k + (i : Nat)), x]))) { s with heap := h'', toks := tk + 1 } :=
      I.turnedNew (t' := tk + 1) (ch := [e, it]) (fun b ob hb q => (sb.2 b (fun z => hb (by simp [z]))).trans (hk b ob (fun z => hb (by simp [z])) (fun z => hb (by simp [z])) q)) hf (Nat.le_refl _) new
    refine ⟨.ref s.heap.objs.size, _, I1, rfl, ⟨_, _, x, rfl, I.hok.fresh (Nat.le_refl _), rfl, rfl, fun ys hy => by rw [Src.inj I hy hq]; exact hx⟩, ⟨⟨y, ?_⟩, (g _ _ hit').at fun o q => (sb.2 it (Ne.symm n2)).trans q⟩, fun b hb => ?_⟩
    · have e1 : k + ((i + 1 : Nat) : Int) = k + (i : Nat) + 1 := by omega
      rw [e1]; exact he'
    · have hb' : b < s.heap.objs.size := by
        have e' : b = e ∨ b = it := by simpa using hb
        rcases e' with z | z
        · rw [z]; exact hel
        · rw [z]; exact hil
      rw [upd_ne (Nat.ne_of_lt hb')]
      exact (hf b hb).1
  done := by
    intro X hP hw hK hc i pins s σ H E I hf st hg
    subst hP hw hK
    obtain ⟨⟨old, he⟩, hit⟩ := st
    obtain ⟨xs, hq, hx⟩ := hg
    obtain ⟨St, its, rv, D, f, g⟩ := Src.draw hc I hq it n1
    obtain ⟨f0, f1, f2, f3, f4, f5⟩ := hf it (by simp)
    have hl := rv.length
    have ei : i = its.length := hx.trans hl
    subst ei
    exact wpAny_pyNext_enum_endD D he (f _ hit) fun h' eb => ⟨rfl, I.turned (t' := s.toks) (fun b o hb q => eb b o hb q) f0 f1 f3 f4 f5⟩
  self := fun A i s Q E st h => let ⟨⟨_, he⟩, _⟩ := st; wpAny_pyIter_enum he h

/-! ### what is walked, told by lengths alone -/
def Src.J (u : Src) (K : PySem.W.Frag) : L2.It := match u with
  | .lst a => Itl K a
  | .tup a => Itt K a
theorem walk_s {K : PySem.W.Frag} {u : Src} {n : Nat} : Walk (u.J K) n (fun H => ∃ vs, u.At K H vs ∧ vs.length = n) (fun i H x H' => H' = H ∧ ∀ vs, u.At K H vs → vs[i]? = some x) := by
  cases u with
  | lst a => exact ⟨fun i H hi ⟨vs, h1, h2⟩ => ⟨vs, vs[i]'(by omega), h1, by simp [show i < vs.length by omega]⟩, fun H ⟨vs, h1, h2⟩ => ⟨vs, h1, Nat.le_of_eq h2⟩, fun i H x H' _ _ y => y⟩
  | tup a => exact ⟨fun i H hi ⟨vs, h1, h2⟩ => ⟨vs, vs[i]'(by omega), h1, by simp [show i < vs.length by omega]⟩, fun H ⟨vs, h1, h2⟩ => ⟨vs, h1, Nat.le_of_eq h2⟩, fun i H x H' _ _ y => y⟩
theorem walk_e {K : PySem.W.Frag} {u : Src} {k : Int} {n : Nat} : Walk (ItE K u k) n (fun H => ∃ vs, u.At K H vs ∧ vs.length = n)
    (fun i H z H' => ∃ T o x, z = .ref T ∧ H T = none ∧ Obj.dict o = none ∧ H' = upd H T (.frz o (.tup [.int (k + i), x])) ∧ ∀ vs, u.At K H vs → vs[i]? = some x) :=
  ⟨fun i H hi ⟨vs, h1, h2⟩ => ⟨vs, vs[i]'(by omega), h1, by simp [show i < vs.length by omega]⟩, fun H ⟨vs, h1, h2⟩ => ⟨vs, h1, h2.symm⟩, fun i H x H' _ _ y => y⟩
theorem walk_p2 {K : PySem.W.Frag} {u v : Src} {n n1 n2 : Nat} (hn : n = min n1 n2) : Walk (ItZ2 K u v) n (fun H => ∃ xs ys, (u.At K H xs ∧ xs.length = n1) ∧ v.At K H ys ∧ ys.length = n2)
    (fun i H z H' => ∃ T o x y, z = .ref T ∧ H T = none ∧ Obj.dict o = none ∧ H' = upd H T (.frz o (.tup [x, y])) ∧ (∀ xs, u.At K H xs → xs[i]? = some x) ∧ ∀ ys, v.At K H ys → ys[i]? = some y) := by
  refine ⟨fun i H hi ⟨xs, ys, ⟨h1, h2⟩, h3, h4⟩ => ⟨xs, ys, xs[i]'(by omega), ys[i]'(by omega), h1, h3, by simp [show i < xs.length by omega], by simp [show i < ys.length by omega]⟩,
    fun H ⟨xs, ys, ⟨h1, h2⟩, h3, h4⟩ => ⟨xs, ys, h1, h3, by omega, by omega, by omega⟩, fun i H x H' _ _ y => y⟩
theorem walk_p3 {K : PySem.W.Frag} {u v t : Src} {n n1 n2 n3 : Nat} (hn : n = min (min n1 n2) n3) : Walk (ItZ3 K u v t) n (fun H => ∃ xs ys zs, (u.At K H xs ∧ xs.length = n1) ∧ (v.At K H ys ∧ ys.length = n2) ∧ t.At K H zs ∧ zs.length = n3)
    (fun i H z H' => ∃ T o x y x3, z = .ref T ∧ H T = none ∧ Obj.dict o = none ∧ H' = upd H T (.frz o (.tup [x, y, x3])) ∧ (∀ xs, u.At K H xs → xs[i]? = some x) ∧ (∀ ys, v.At K H ys → ys[i]? = some y) ∧ ∀ zs, t.At K H zs → zs[i]? = some x3) := by
  refine ⟨fun i H hi ⟨xs, ys, zs, ⟨h1, h2⟩, ⟨h3, h4⟩, h5, h6⟩ => ⟨xs, ys, zs, xs[i]'(by omega), ys[i]'(by omega), zs[i]'(by omega), h1, h3, h5, by simp [show i < xs.length by omega], by simp [show i < ys.length by omega], by simp [show i < zs.length by omega]⟩,
    fun H ⟨xs, ys, zs, ⟨h1, h2⟩, ⟨h3, h4⟩, h5, h6⟩ => ⟨xs, ys, zs, h1, h3, h5, by omega, by omega, by omega, by omega⟩, fun i H x H' _ _ y => y⟩

/-! ### the for's source -/
section
variable {X : Cx} {tg l : Expr} {tl : TE}
theorem pi_src (hl : PE X l tl) : PI X tg l (fun σ H R => tl σ H fun x H1 => ∃ u : Src, x = .ref u.addr ∧ (∃ xs, u.At X.K H1 xs) ∧ R (u.J X.K) H1) := by
  refine ⟨fun pins s σ H R I h => ?_⟩
  refine thn (hl.run pins s σ H _ I h) fun v s1 ⟨x, H1, I1, r1, q1⟩ => ?_
  obtain ⟨u, e, ⟨xs, hq⟩, q⟩ := q1
  subst e
  cases r1
  cases u with
  | lst a =>
    obtain ⟨its, rv, p, hz⟩ := I1.list hq
    refine wpAny_pyIter_list p.isList ?_
    refine ⟨s1.heap.objs.size, [s1.heap.objs.size], _, _, H1, rfl, I1.kept (t' := s1.toks) fun b o e => Heap.get?_push_of_some _ e, turn_list a _, ⟨_, Heap.get?_push_size _ rfl, rfl, rfl⟩, fun b hb => ?_, q⟩
    have e : b = s1.heap.objs.size := by simpa using hb
    subst e
    exact I1.fpOk (Nat.le_refl _) (I1.hok.fresh (Nat.le_refl _))
  | tup a =>
    obtain ⟨its, rv, p, hz⟩ := I1.tuple hq
    refine wpAny_pyIter_tuple (show s1.heap.IsTuple a its.toArray from p) ?_
    refine ⟨s1.heap.objs.size, [s1.heap.objs.size], _, _, H1, rfl, I1.kept (t' := s1.toks) fun b o e => Heap.get?_push_of_some _ e, turn_tuple a _, ⟨_, Heap.get?_push_size _ rfl, rfl, rfl⟩, fun b hb => ?_, q⟩
    have e : b = s1.heap.objs.size := by simpa using hb
    subst e
    exact I1.fpOk (Nat.le_refl _) (I1.hok.fresh (Nat.le_refl _))
variable {e e2 e3 : Expr} {ta : TA} {p pos tpos : Pos} {elts : List Expr} {kk : Nat}
theorem pi_en (hg : Gl X "enumerate") (hm : X.mg "enumerate" = none) (ha : PA X [e] ta) (hs : starEach [e] X.env = [(false, eval e X.env)] := by rfl) :
    PI X (.Tuple elts kk tpos) (.Call (.Name "enumerate" p) [e] [] pos) (fun σ H R => ta σ H fun vs H1 => ∃ (u : Src) (xs : List V), vs = [.ref u.addr] ∧ u.At X.K H1 xs ∧ R (ItE X.K u 0) H1) := by
  refine ⟨fun pins s σ H R I h => ?_⟩
  refine Call_ (ld_blt I hg hm boot_enumerate (PyProof.Rows.callWith_type1 (thn (ha.run pos pins s σ H _ I h) fun us s1 ⟨vs, H1, I1, r1, q1⟩ => ?_) hs rfl))
  obtain ⟨u, xs, ex, hq, q⟩ := q1
  subst ex
  cases r1 with
  | cons r rr =>
    cases rr
    cases r
    obtain ⟨Hq, B, h1⟩ := Src.begins I1 hq
    have hlt := Src.lt I1 hq
    refine enum_begins1 B h1 fun h' he hit hsz hk => wpAny_pyIter_enum he ?_
    have I2 : Inv X pins σ H1 { s1 with heap := h' } := I1.kept (t' := s1.toks) hk
    refine ⟨s1.heap.objs.size + 1, [s1.heap.objs.size + 1, s1.heap.objs.size], _, _, H1, rfl, I2, turn_e (k := 0) (e := s1.heap.objs.size + 1) (it := s1.heap.objs.size) (Nat.ne_of_lt hlt) (Nat.succ_ne_self _) (Nat.ne_of_gt (Nat.lt_succ_of_lt hlt)), ⟨⟨.none, he⟩, Src.it0 hit⟩, fun b hb => ?_, q⟩
    have e' : b = s1.heap.objs.size + 1 ∨ b = s1.heap.objs.size := by simpa using hb
    have hle : s1.heap.objs.size ≤ b := by
      rcases e' with z | z
      · rw [z]; exact Nat.le_add_right _ _
      · rw [z]; exact Nat.le_refl _
    exact I1.fpOk hle (I1.hok.fresh hle)
theorem pi_z2 (hg : Gl X "zip") (hm : X.mg "zip" = none) (ha : PA X [e, e2] ta)
    (hs : starEach [e, e2] X.env = (false, eval e X.env) :: starEach [e2] X.env := by rfl) (hpl : (backTo pos (starEach [e2] X.env)).any (·.1) = false := by rfl) :
    PI X (.Tuple elts kk tpos) (.Call (.Name "zip" p) [e, e2] [] pos) (fun σ H R => ta σ H fun vs H1 => ∃ (u v : Src) (xs ys : List V), vs = [.ref u.addr, .ref v.addr] ∧ u.At X.K H1 xs ∧ v.At X.K H1 ys ∧ R (ItZ2 X.K u v) H1) := by
  refine ⟨fun pins s σ H R I h => ?_⟩
  refine Call_ (ld_blt I hg hm PyProof.Rows.boot_zip (PyProof.Rows.callWith_type1 (thn (ha.run pos pins s σ H _ I h) fun us s1 ⟨vs, H1, I1, r1, q1⟩ => ?_) hs hpl))
  obtain ⟨u, v, xs, ys, ex, hq1, hq2, q⟩ := q1
  subst ex
  cases r1 with
  | cons r rr =>
    cases rr with
    | cons r' rr =>
      cases rr
      cases r
      cases r'
      obtain ⟨Hq1, B1, h1⟩ := Src.begins I1 hq1
      obtain ⟨Hq2, B2, h2⟩ := Src.begins I1 hq2
      have lt1 := Src.lt I1 hq1
      have lt2 := Src.lt I1 hq2
      refine zip_begins2 B1 B2 h1 h2 fun h' hz hTI hTO g1 g2 hsz hk => wpAny_pyIter_zip hz ?_
      have I2 : Inv X pins σ H1 { s1 with heap := h' } := I1.kept (t' := s1.toks) hk
      refine ⟨s1.heap.objs.size + 4, [s1.heap.objs.size + 4, s1.heap.objs.size + 2, s1.heap.objs.size + 3, s1.heap.objs.size, s1.heap.objs.size + 1], _, _, H1, rfl, I2,
        turn_z2 (zip_sep2 (by simpa using lt1) (by simpa using lt2)) (Nat.ne_of_lt lt1) (Nat.ne_of_lt (Nat.lt_succ_of_lt lt2)), ⟨hz, hTI, ⟨_, _, hTO⟩, Src.it0 g1, Src.it0 g2⟩, fun c hcm => ?_, q⟩
      have hle : s1.heap.objs.size ≤ c := by
        have e' : c = s1.heap.objs.size + 4 ∨ c = s1.heap.objs.size + 2 ∨ c = s1.heap.objs.size + 3 ∨ c = s1.heap.objs.size ∨ c = s1.heap.objs.size + 1 := by simpa using hcm
        rcases e' with z | z | z | z | z <;> rw [z]
        · exact Nat.le_add_right _ _
        · exact Nat.le_add_right _ _
        · exact Nat.le_add_right _ _
        · exact Nat.le_refl _
        · exact Nat.le_add_right _ _
      exact I1.fpOk hle (I1.hok.fresh hle)
theorem pi_z3 (hg : Gl X "zip") (hm : X.mg "zip" = none) (ha : PA X [e, e2, e3] ta)
    (hs : starEach [e, e2, e3] X.env = (false, eval e X.env) :: starEach [e2, e3] X.env := by rfl) (hpl : (backTo pos (starEach [e2, e3] X.env)).any (·.1) = false := by rfl) :
    PI X (.Tuple elts kk tpos) (.Call (.Name "zip" p) [e, e2, e3] [] pos) (fun σ H R => ta σ H fun vs H1 => ∃ (u v t : Src) (xs ys zs : List V), vs = [.ref u.addr, .ref v.addr, .ref t.addr] ∧ u.At X.K H1 xs ∧ v.At X.K H1 ys ∧ t.At X.K H1 zs ∧ R (ItZ3 X.K u v t) H1) := by
  refine ⟨fun pins s σ H R I h => ?_⟩
  refine Call_ (ld_blt I hg hm PyProof.Rows.boot_zip (PyProof.Rows.callWith_type1 (thn (ha.run pos pins s σ H _ I h) fun us s1 ⟨vs, H1, I1, r1, q1⟩ => ?_) hs hpl))
  obtain ⟨u, v, t, xs, ys, zs, ex, hq1, hq2, hq3, q⟩ := q1
  subst ex
  cases r1 with
  | cons r rr =>
    cases rr with
    | cons r' rr =>
      cases rr with
      | cons r'' rr =>
        cases rr
        cases r
        cases r'
        cases r''
        obtain ⟨Hq1, B1, h1⟩ := Src.begins I1 hq1
        obtain ⟨Hq2, B2, h2⟩ := Src.begins I1 hq2
        obtain ⟨Hq3, B3, h3⟩ := Src.begins I1 hq3
        have lt1 := Src.lt I1 hq1
        have lt2 := Src.lt I1 hq2
        have lt3 := Src.lt I1 hq3
        refine zip_begins3 B1 B2 B3 h1 h2 h3 fun h' hz hTI hTO g1 g2 g3 hsz hk => wpAny_pyIter_zip hz ?_
        have I2 : Inv X pins σ H1 { s1 with heap := h' } := I1.kept (t' := s1.toks) hk
        refine ⟨s1.heap.objs.size + 5, [s1.heap.objs.size + 5, s1.heap.objs.size + 3, s1.heap.objs.size + 4, s1.heap.objs.size, s1.heap.objs.size + 1, s1.heap.objs.size + 2], _, _, H1, rfl, I2,
          turn_z3 (zip_sep3 (by simpa using lt1) (by simpa using lt2) (by simpa using lt3)) (Nat.ne_of_lt lt1) (Nat.ne_of_lt (Nat.lt_succ_of_lt lt2)) (Nat.ne_of_lt (Nat.lt_succ_of_lt (Nat.lt_succ_of_lt lt3))), ⟨hz, hTI, ⟨_, _, _, hTO⟩, Src.it0 g1, Src.it0 g2, Src.it0 g3⟩, fun c hcm => ?_, q⟩
        have hle : s1.heap.objs.size ≤ c := by
          have e' : c = s1.heap.objs.size + 5 ∨ c = s1.heap.objs.size + 3 ∨ c = s1.heap.objs.size + 4 ∨ c = s1.heap.objs.size ∨ c = s1.heap.objs.size + 1 ∨ c = s1.heap.objs.size + 2 := by simpa using hcm
          rcases e' with z | z | z | z | z | z <;> rw [z]
          · exact Nat.le_add_right _ _
          · exact Nat.le_add_right _ _
          · exact Nat.le_add_right _ _
          · exact Nat.le_refl _
          · exact Nat.le_add_right _ _
          · exact Nat.le_add_right _ _
        exact I1.fpOk hle (I1.hok.fresh hle)
end
end Gb

/-! GbE: operands further: equality, membership, subscripts, slices, lists added and repeated, methods -/
namespace Gb
open PySem L2

/-- an operand as a value: a new list becomes a cell -/
def mM (a : MO) : ME := fun env h => (a env h).bind fun v h1 => match v with
  | .val d => .ok d h1
  | .new xs => .ok (.ref h1.length) (h1 ++ [.lst xs])
section
variable {X : Cx} {cl : Nat → Addr} {W : WX} {a b c e : Expr} {ma mb mc : ME} {ml : MA} {mo mp : MO} {pos : Pos}
theorem sd_mat (ha : SO X cl W a mo) : SE X cl W a (mM mo) :=
  PE.imp ha fun sg H Q ⟨env, h, io, E, hr, p⟩ => rd_mk E hr (by
    unfold mM at p
    cases e : mo env h with
    | ok d h1 =>
      rw [e] at p
      intro v io1 H1 s1 r1 q
      cases d with
      | val d => exact p v io1 H1 s1 r1 q
      | new ds =>
        obtain ⟨b, vs, rfl, h0, hn, hb, q⟩ := q
        exact p _ (io1 ++ [b]) H1 (s1.cell hn h0) (r1.cell1 hn ⟨vs, hb, q⟩) ⟨b, by rw [List.getElem?_append_right (by rw [r1.len]; exact Nat.le_refl _), r1.len]; simp, rfl⟩
    | exc x h1 => rw [e] at p; exact p
    | stuck => rw [e] at p; exact p)
end

section
variable {X : Cx} {cl : Nat → Addr} {W : WX} {a b c e : Expr} {ma mb mc : ME} {ml : MA} {mo mp : MO} {pos : Pos}
variable {α : Type} {R : Hp → List Addr → Hp → α → V → Prop} {r : R2} {f : LV → LV → PHeap → Res α}
def OpV {α : Type} (R : Hp → List Addr → Hp → α → V → Prop) (K : PySem.W.Frag) (cl : Nat → Addr) (r : R2) (f : LV → LV → PHeap → Res α) : Prop :=
  ∀ (W : WX) io sg H h x y v u Q, HRel K cl io H h → OV K io H x v → OV K io H y u → postR R K cl W io sg H (f x y h) Q → r v u H Q
theorem rd_op2 [Back X.K R] (hf : OpV R X.K cl r f) {sg : L2.St} {H : Hp} {Q : VK} (q : rd R X.K cl W (m2 f mo mp) sg H Q) : tOp r (rd (RLV X.K) X.K cl W mo) (rd (RLV X.K) X.K cl W mp) sg H Q := by
  obtain ⟨env, h, io, E, hr, p⟩ := q
  exact rd_mk E hr (p.bind fun d h1 v io1 H1 e1 s1 r1 q1 p1 => rd_mk (E.step s1) r1 (p1.bind fun d2 h2 u io2 H2 e2 s2 r2 q2 p2 =>
    hf W io2 sg H2 h2 d d2 v u Q r2 (q1.ov.step s2) q2.ov p2))
theorem so_op {op : Operator} [Back X.K R] (ho : OpR X (binaryOp op) r) (hf : OpV R X.K cl r f) (ha : SO X cl W a mo) (hb : SO X cl W b mp) : PE X (.BinOp a op b pos) (rd R X.K cl W (m2 f mo mp)) :=
  (pe_op ho ha hb).imp fun sg H Q q => rd_op2 hf q
theorem so_cmp {op : CmpOp} {f : LV → LV → PHeap → Res D} (ho : OpR X (compareOp op) r) (hf : OpV (RRep X.K) X.K cl r f) (ha : SO X cl W a mo) (hb : SO X cl W b mp) (hm : behindInMarks op b = false) : SE X cl W (.Compare a [op] [b] pos) (m2 f mo mp) :=
  (pe_cmpR ho ha hb hm).imp fun sg H Q q => rd_op2 hf q
theorem st_cmpO {op : CmpOp} {f : LV → LV → PHeap → Res D} (ho : OpR X (compareOp op) r) (hf : OpV (RRep X.K) X.K cl r f) (ha : SO X cl W a mo) (hb : SO X cl W b mp) (hm : behindInMarks op b = false) : ST X cl W (.Compare a [op] [b] pos) (mTB (m2 f mo mp)) :=
  (pt_cmpR ho ha hb hm).imp fun sg H Q ⟨env, h, io, E, hr, p⟩ => rd_op2 (W := W) hf (rd_mk E hr (postR.tb p))

/-! ### == != in -/
def rEqP (K : PySem.W.Frag) (k : Bool → Bool) : R2 := fun x y H Q => ∃ d e, Dp K H x d ∧ Dp K H y e ∧ d.plain = true ∧ e.plain = true ∧ d.depth ≤ 61 ∧ Q (.bl (k (PyData.eqv d e))) H
theorem op_eqP (hu : X.A.units + 65 < cLine) : OpR X (compareOp .Eq) (rEqP X.K id) := by
  intro pins s σ H x y v u Q I rx ry h
  obtain ⟨d, e, hd, he, sd, se, hz, q⟩ := h
  obtain ⟨as, r1⟩ := Dp.reads I d x v hd rx
  obtain ⟨bs, r2⟩ := Dp.reads I e y u he ry
  exact SeqAt.eq_plain r1 r2 sd se (by omega) ⟨.bl _, H, I, rfl, q⟩
theorem op_neP (hu : X.A.units + 65 < cLine) : OpR X (compareOp .NotEq) (rEqP X.K not) := by
  intro pins s σ H x y v u Q I rx ry h
  obtain ⟨d, e, hd, he, sd, se, hz, q⟩ := h
  obtain ⟨as, r1⟩ := Dp.reads I d x v hd rx
  obtain ⟨bs, r2⟩ := Dp.reads I e y u he ry
  exact SeqAt.ne_plain r1 r2 sd se (by omega) ⟨.bl _, H, I, rfl, q⟩
def itemsP : PyData → Option (List PyData)
  | .list ds => some ds
  | .tuple ds => some ds
  | _ => none
def rInP (K : PySem.W.Frag) (k : Bool → Bool) : R2 := fun x y H Q => ∃ d e ds, Dp K H x d ∧ Dp K H y e ∧ itemsP e = some ds ∧ d.plain = true ∧ e.plain = true ∧ d.depth ≤ 61 ∧ Q (.bl (k (ds.any fun z => PyData.eqv z d))) H
theorem op_inP (hu : X.A.units + 65 < cLine) : OpR X (compareOp .In) (rInP X.K id) := by
  intro pins s σ H x y v u Q I rx ry h
  obtain ⟨d, e, ds, hd, he, hi, sd, se, hz, q⟩ := h
  obtain ⟨as, r1⟩ := Dp.reads I d x v hd rx
  obtain ⟨bs, r2⟩ := Dp.reads I e y u he ry
  cases e with
  | list es =>
    cases hi
    exact SeqAt.in_list_data r2 r1 (by simpa only [PyData.plain] using se) sd (by omega) ⟨.bl _, H, I, rfl, q⟩
  | tuple es =>
    cases hi
    exact SeqAt.in_tuple_data r2 r1 (by simpa only [PyData.plain] using se) sd (by omega) ⟨.bl _, H, I, rfl, q⟩
  | _ => cases hi
theorem op_notinP (hu : X.A.units + 65 < cLine) : OpR X (compareOp .NotIn) (rInP X.K not) := by
  intro pins s σ H x y v u Q I rx ry h
  obtain ⟨d, e, ds, hd, he, hi, sd, se, hz, q⟩ := h
  obtain ⟨as, r1⟩ := Dp.reads I d x v hd rx
  obtain ⟨bs, r2⟩ := Dp.reads I e y u he ry
  cases e with
  | list es =>
    cases hi
    exact SeqAt.notIn_list_data r2 r1 (by simpa only [PyData.plain] using se) sd (by omega) ⟨.bl _, H, I, rfl, q⟩
  | tuple es =>
    cases hi
    exact SeqAt.notIn_tuple_data r2 r1 (by simpa only [PyData.plain] using se) sd (by omega) ⟨.bl _, H, I, rfl, q⟩
  | _ => cases hi
/-- k: as it is, or turned about -/
def fEqO (k : Bool → Bool) : LV → LV → PHeap → Res D := fun x y h => match x.py h with
  | some p => match y.py h with
    | some q => .ok (.bl (k (PyData.eqv p q))) h
    | none => .stuck
  | none => .stuck
def fInO (k : Bool → Bool) : LV → LV → PHeap → Res D := fun x y h => match x.py h with
  | some p => match y.py h with
    | some q => match itemsP q with
      | some ds => .ok (.bl (k (ds.any fun z => PyData.eqv z p))) h
      | none => .stuck
    | none => .stuck
  | none => .stuck
theorem py_dep {K : PySem.W.Frag} {io : List Addr} {H : Hp} {h : PHeap} {lv : LV} {v : V} {p : PyData} (hr : HRel K cl io H h) (r : OV K io H lv v) (e : lv.py h = some p) : p.depth ≤ 61 := (r.py hr e).2.2
theorem ov_eq {k : Bool → Bool} : OpV (RRep X.K) X.K cl (rEqP X.K k) (fEqO k) := by
  intro W io sg H h x y v u Q hr r q p
  unfold fEqO at p
  split at p
  · split at p
    · rename_i d e1 _ e e2
      obtain ⟨h1, h2, h3⟩ := r.py hr e1
      obtain ⟨g1, g2, g3⟩ := q.py hr e2
      exact ⟨d, e, h1, g1, h2, g2, h3, p.here hr rfl⟩
    · exact p.elim
  · exact p.elim
theorem ov_in {k : Bool → Bool} : OpV (RRep X.K) X.K cl (rInP X.K k) (fInO k) := by
  intro W io sg H h x y v u Q hr r q p
  unfold fInO at p
  split at p
  · split at p
    · split at p
      · rename_i d e1 _ e e2 _ ds e3
        obtain ⟨h1, h2, h3⟩ := r.py hr e1
        obtain ⟨g1, g2, g3⟩ := q.py hr e2
        exact ⟨d, e, ds, h1, g1, e3, h2, g2, h3, p.here hr rfl⟩
      · exact p.elim
    · exact p.elim
  · exact p.elim

/-! ### a[i] -/
def fIx : LV → LV → PHeap → Res D := fun x y h => match y with
  | .val (.int i) => match x.seq h with
    | some xs => match atI xs i with
      | some d => .ok d h
      | none => .stuck
    | none => match x with
      | .val (.str z) => if z.length ≤ 16777216 then (match atI z.cps.toList i with
        | some c => .ok (.str ⟨#[c]⟩) h
        | none => .stuck) else .stuck
      | _ => .stuck
  | _ => .stuck
theorem RepL.atI {K : PySem.W.Frag} {io : List Addr} {H : Hp} {xs : List D} {vs : List V} {i : Int} {d : D} (r : RepL K io H xs vs) (e : L2.atI xs i = some d) : ∃ v, L2.atI vs i = some v ∧ Rep K io H d v := by
  unfold L2.atI at e ⊢
  rw [← r.length]
  cases q : ixN xs.length i with
  | none => rw [q] at e; cases e
  | some j => rw [q] at e; exact r.get e
theorem ov_ix : OpV (RRep X.K) X.K cl (rIx X.K) fIx := by
  intro W io sg H h x y v u Q hr r q p
  have hz : sizeLine = 16777216 := sizeLine_eq
  unfold fIx at p
  split at p
  · rename_i i
    cases q
    split at p
    · rename_i xs e
      split at p
      · rename_i d e2
        obtain ⟨a, vs, rfl, h1, h2⟩ := r.seq hr e
        obtain ⟨w, e3, rw'⟩ := h2.atI e2
        rcases h1 with h1 | h1
        · exact .inl ⟨a, vs, i, w, rfl, rfl, h1, e3, p.here hr rw'⟩
        · exact .inr (.inl ⟨a, vs, i, w, rfl, rfl, h1.sq, e3, p.here hr rw'⟩)
      · exact p.elim
    · split at p
      · cases r
        split at p
        · split at p
          · rename_i c e2
            exact .inr (.inr ⟨_, i, c, rfl, rfl, by omega, e2, p.here hr rfl⟩)
          · exact p.elim
        · exact p.elim
      · exact p.elim
  · exact p.elim
theorem sd_ix (ha : SO X cl W a mo) (hb : SO X cl W b mp) (hs : PlainIx b) : SE X cl W (.Subscript a b pos) (m2 fIx mo mp) :=
  (pe_ix ix_seq ha hb hs).imp fun sg H Q q => rd_op2 ov_ix q

/-! ### a[lo:hi] -/
def cutD (xs : List D) (lo hi : Option Int) : List D := (xs.drop (HT.sIx xs.length 0 lo)).take (HT.sIx xs.length xs.length hi - HT.sIx xs.length 0 lo)
abbrev MP := PEnv → PHeap → Res (Option Int)
def pNone : MP := fun _ h => .ok none h
def pSome (a : ME) : MP := fun env h => (a env h).bind fun d h1 => match d with
  | .int i => .ok (some i) h1
  | _ => .stuck
def fSl : LV → Option Int → Option Int → PHeap → Res LV := fun x lo hi h => match x with
  | .val (.tup xs) => .ok (.val (.tup (cutD xs lo hi))) h
  | x => match x.items h with
    | some xs => .ok (.new (cutD xs lo hi)) h
    | none => .stuck
def mSl (a : MO) (lo hi : MP) : MO := fun env h => (a env h).bind fun x h1 => (lo env h1).bind fun l h2 => (hi env h2).bind fun u h3 => fSl x l u h3
abbrev RPart : Hp → List Addr → Hp → Option Int → Option Int → Prop := fun _ _ _ a b => a = b
instance {K : PySem.W.Frag} : Back K RPart := ⟨fun _ _ h => h⟩
abbrev SP' (X : Cx) (cl : Nat → Addr) (W : WX) (e : Option Expr) (m : MP) : Prop := PO X e (rd RPart X.K cl W m)
theorem sp_none : SP' X cl W none pNone := ⟨fun pins s σ H Q I ⟨env, h, io, E, hr, p⟩ => po_none.run pins s σ H Q I (p.here hr rfl)⟩
theorem sp_some (ha : SE X cl W a ma) : SP' X cl W (some a) (pSome ma) := ⟨fun pins s σ H Q I ⟨env, h, io, E, hr, p⟩ => (po_some ha).run pins s σ H Q I (rd_mk E hr (p.bind fun d h1 v io1 H1 e1 s1 r1 q1 p1 => by
  cases d with
  | int i => cases q1; exact ⟨i, rfl, p1.here r1 rfl⟩
  | _ => exact p1.elim))⟩
theorem cutV_rep {K : PySem.W.Frag} {io : List Addr} {H : Hp} {xs : List D} {vs : List V} (lo hi : Option Int) (r : RepL K io H xs vs) : RepL K io H (cutD xs lo hi) (cutV vs lo hi) := by
  unfold cutD cutV
  rw [r.length]
  exact (r.drop _).take _
theorem cutD_whole {xs : List D} {lo hi : Option Int} (h : HT.sIx xs.length 0 lo = 0 ∧ HT.sIx xs.length xs.length hi = xs.length) : cutD xs lo hi = xs := by
  unfold cutD
  rw [h.1, h.2]
  simp
def rSlM (K : PySem.W.Frag) : V → Option Int → Option Int → Hp → VK → Prop := fun x lo hi H Q => rSlL K x lo hi H Q ∨ rSlAA K x lo hi H Q
theorem so_slice {lo hi : Option Expr} {ml mh : MP} {p2 : Pos} (ha : SO X cl W a mo) (hl : SP' X cl W lo ml) (hh : SP' X cl W hi mh) : SO X cl W (.Subscript a (.Slice lo hi none p2) pos) (mSl mo ml mh) :=
  (pe_slice (r := rSlM X.K) (SlR.or sl_list sl_tupAA) ha hl hh).imp fun sg H Q ⟨env, h, io, E, hr, p⟩ => rd_mk E hr (p.bind fun d h1 v io1 H1 e1 s1 r1 q1 p1 =>
    rd_mk (E.step s1) r1 (p1.bind fun l h2 l' io2 H2 e2 s2 r2 q2 p2 => rd_mk ((E.step s1).step s2) r2 (p2.bind fun u h3 u' io3 H3 e3 s3 r3 q3 p3 => by
      cases q2; cases q3
      have q := (q1.ov.step s2).step s3
      unfold fSl at p3
      split at p3
      · rename_i xs
        obtain ⟨a, vs, rfl, h1, h2⟩ := q
        refine .inr ⟨a, vs, rfl, h1, fun e => ?_, fun _ t o ht hd => ?_⟩
        · rw [← h2.length] at e
          rw [cutD_whole e] at p3
          exact p3.here r3 ⟨a, vs, rfl, h1, h2⟩
        · exact p3 _ io3 _ (Step.laid ht) (r3.laid ht) ⟨t, _, rfl, .of upd_same hd, (cutV_rep l u h2).step (Step.laid ht) _ _⟩
      · split at p3
        · rename_i xs e
          obtain ⟨a, vs, rfl, h1, h2⟩ := q.items r3 e
          exact .inl ⟨a, vs, rfl, h1, fun t ht => p3 _ io3 _ (Step.laid ht) (r3.laid ht) ⟨t, _, rfl, ht, r3.out ht, upd_same, (cutV_rep l u h2).step (Step.laid ht) _ _⟩⟩
        · exact p3.elim)))

/-! ### + and * -/
/-- a list that may be added to: not the script -/
def LV.own (h : PHeap) : LV → Option (List D)
  | .new xs => some xs
  | .val (.ref n) => match h[n]? with
    | some (.lst xs) => some xs
    | _ => none
  | _ => none
theorem OV.own {K : PySem.W.Frag} {io : List Addr} {H : Hp} {h : PHeap} {lv : LV} {v : V} {xs : List D} (hr : HRel K cl io H h) (r : OV K io H lv v) (e : lv.own h = some xs) : ∃ a vs, v = .ref a ∧ H a = some (.lst vs) ∧ RepL K io H xs vs := by
  cases lv with
  | new ys => cases e; obtain ⟨a, vs, e, h1, h2, h3⟩ := r; exact ⟨a, vs, e, h2, h3⟩
  | val d =>
    cases d with
    | ref n =>
      obtain ⟨a, ha, rfl⟩ := r
      simp only [LV.own] at e
      split at e
      · rename_i ys q
        cases e
        obtain ⟨vs, hv, r⟩ := hr.cell n a _ ha q
        exact ⟨a, vs, rfl, hv, r⟩
      · cases e
    | _ => simp [LV.own] at e
def Res.val (r : Res D) : Res LV := r.bind fun d h => .ok (.val d) h
def fAddO : LV → LV → PHeap → Res LV := fun x y h => match x.own h with
  | some xs => match y.own h with
    | some ys => if xs.length + ys.length ≤ 16777216 then .ok (.new (xs ++ ys)) h else .stuck
    | none => .stuck
  | none => match x, y with
    | .val a, .val b => (fAdd a b h).val
    | _, _ => .stuck
def fMulO : LV → LV → PHeap → Res LV := fun x y h => match x.own h with
  | some xs => match y with
    | .val (.int k) => if -1000000 ≤ k ∧ k ≤ 1000000 ∧ xs.length * k.toNat ≤ 16777216 then .ok (.new (List.replicate k.toNat xs).flatten) h else .stuck
    | _ => .stuck
  | none => match x, y with
    | .val a, .val b => (fMul a b h).val
    | _, _ => .stuck
theorem postR.val {io : List Addr} {sg : L2.St} {H : Hp} {r : Res D} {Q : VK} (p : postR (RLV X.K) X.K cl W io sg H r.val Q) : postR (RRep X.K) X.K cl W io sg H r Q := by
  cases r with
  | ok d h => exact fun v io1 H1 s r q => p v io1 H1 s r q
  | exc e h => exact p
  | stuck => exact p
theorem op_addL : OpR X (binaryOp .Add) (fun x y H Q => rCat x y H Q ∨ rAddM X.K x y H Q) := op_cat.or op_addM
theorem op_mulL : OpR X (binaryOp .Mult) (fun x y H Q => rRep x y H Q ∨ rMulM X.K x y H Q) := op_rep.or op_mulM
theorem ov_add : OpV (RLV X.K) X.K cl (fun x y H Q => rCat x y H Q ∨ rAddM X.K x y H Q) fAddO := by
  intro W io sg H h x y v u Q hr r q p
  have hz : sizeLine = 16777216 := sizeLine_eq
  unfold fAddO at p
  split at p
  · rename_i xs e
    split at p
    · rename_i ys e2
      obtain ⟨a, vs, rfl, h1, h2⟩ := r.own hr e
      obtain ⟨b, us, rfl, g1, g2⟩ := q.own hr e2
      have l1 := h2.length
      have l2 := g2.length
      split at p
      · exact .inl ⟨a, b, vs, us, rfl, rfl, h1, g1, by omega, fun t ht => p _ io _ (Step.laid ht) (hr.laid ht) ⟨t, _, rfl, ht, hr.out ht, upd_same, (h2.append g2).step (Step.laid ht) _ _⟩⟩
      · exact p.elim
    · exact p.elim
  · split at p
    · exact .inr (o2_add W io sg H h _ _ v u Q hr r q p.val)
    · exact p.elim
theorem ov_mul : OpV (RLV X.K) X.K cl (fun x y H Q => rRep x y H Q ∨ rMulM X.K x y H Q) fMulO := by
  intro W io sg H h x y v u Q hr r q p
  have hz : sizeLine = 16777216 := sizeLine_eq
  unfold fMulO at p
  split at p
  · rename_i xs e
    split at p
    · rename_i k
      cases q
      obtain ⟨a, vs, rfl, h1, h2⟩ := r.own hr e
      have l1 := h2.length
      split at p
      · rename_i c
        obtain ⟨c1, c2, c3⟩ := c
        exact .inl ⟨a, k, vs, rfl, rfl, h1, by omega, by omega, by rw [← l1]; omega, fun t ht => p _ io _ (Step.laid ht) (hr.laid ht) ⟨t, _, rfl, ht, hr.out ht, upd_same, (h2.rep _).step (Step.laid ht) _ _⟩⟩
      · exact p.elim
    · exact p.elim
  · split at p
    · exact .inr (o2_mul W io sg H h _ _ v u Q hr r q p.val)
    · exact p.elim
theorem so_add (ha : SO X cl W a mo) (hb : SO X cl W b mp) : SO X cl W (.BinOp a .Add b pos) (m2 fAddO mo mp) := so_op op_addL ov_add ha hb
theorem so_mul (ha : SO X cl W a mo) (hb : SO X cl W b mp) : SO X cl W (.BinOp a .Mult b pos) (m2 fMulO mo mp) := so_op op_mulL ov_mul ha hb
end
end Gb

/-! GbF: isinstance, methods, statements -/
namespace Gb
open PySem L2

/-! ### kinds -/
inductive Kd where
  | non | bl | int | str | tup | lst | dct
  deriving DecidableEq
def Kd.nm : Kd → String
  | .non => "NoneType" | .bl => "bool" | .int => "int" | .str => "str" | .tup => "tuple" | .lst => "list" | .dct => "dict"
def kindD (h : PHeap) : D → Option Kd
  | .non => some .non
  | .bl _ => some .bl
  | .int _ => some .int
  | .str _ => some .str
  | .tup _ => some .tup
  | .fro _ => some .lst
  | .ref n => match h[n]? with
    | some (.lst _) => some .lst
    | _ => none
def Kd.isi (k t : Kd) : Bool := decide (k = t) || (decide (k = .bl) && decide (t = .int))
theorem kitB_isi (k t : Kd) : kitB k.nm t.nm = some (k.isi t) := by
  cases k <;> cases t <;> decide +kernel
def fIsi (t : Kd) : LV → PHeap → Res D := fun x h => match x with
  | .new _ => .ok (.bl (Kd.lst.isi t)) h
  | .val d => match kindD h d with
    | some k => .ok (.bl (k.isi t)) h
    | none => .stuck
section
variable {X : Cx} {cl : Nat → Addr} {W : WX} {a b c e o : Expr} {es : List Expr} {ma mb mc : ME} {ml : MA} {mo mp : MO} {pos p p2 : Pos}
theorem tyx_of {K : PySem.W.Frag} {io : List Addr} {H : Hp} {h : PHeap} {d : D} {v : V} {k : Kd} (hr : HRel K cl io H h) (r : Rep K io H d v) (e : kindD h d = some k) : TyX K H v (.type k.nm) := by
  cases d with
  | non => cases e; cases r; exact .base .non
  | bl b => cases e; cases r; exact .base (.bl _)
  | int i => cases e; cases r; exact .base (.int _)
  | str x => cases e; cases r; exact .base (.str _)
  | tup xs =>
    cases e
    obtain ⟨a, vs, rfl, h1, _⟩ := r
    rcases h1 with ⟨o, h1, _⟩ | ⟨o, its, n, h1, h2, _⟩
    · exact .fTuple h1
    · exact .kTuple h1 h2
  | fro xs =>
    cases e
    obtain ⟨a, vs, rfl, h1, _⟩ := r
    rcases h1 with ⟨o, h1⟩ | ⟨o, its, n, h1, h2, _⟩
    · exact .base (.frz h1)
    · exact .kList h1 h2
  | ref n =>
    obtain ⟨a, ha, rfl⟩ := r
    simp only [kindD] at e
    split at e
    · rename_i xs q
      cases e
      obtain ⟨vs, hv, _⟩ := hr.cell n a _ ha q
      exact .base (.lst hv)
    · cases e
theorem tyx_ov {K : PySem.W.Frag} {io : List Addr} {H : Hp} {h : PHeap} {x : LV} {v : V} {t : Kd} {r' : Res D} (hr : HRel K cl io H h) (r : OV K io H x v) (e : fIsi t x h = r') :
    (∃ k, TyX K H v (.type (Kd.nm k)) ∧ r' = .ok (.bl (k.isi t)) h) ∨ r' = .stuck := by
  subst e
  cases x with
  | new xs =>
    obtain ⟨a, vs, rfl, _, h2, _⟩ := r
    exact .inl ⟨.lst, .base (.lst h2), rfl⟩
  | val d =>
    simp only [fIsi]
    cases q : kindD h d with
    | none => exact .inr rfl
    | some k => exact .inl ⟨k, tyx_of hr r q, rfl⟩
theorem sd_isi {x : Str} {t : Kd} (he : SO X cl W e mo) (hm : X.mg "isinstance" = none) (hmt : X.mg x = none) (hv : bootBuiltins x = some (.type t.nm)) (hn : x ≠ "__name__" := by decide) (hdb : (x == ("__debug__" : Str)) = false := by decide) (hgt : Gl X x := by rfl) (hg : Gl X "isinstance" := by rfl)
    (hs : starEach [e, .Name x p2] X.env = (false, eval e X.env) :: starEach [.Name x p2] X.env := by rfl) (hpl : (backTo pos (starEach [.Name x p2] X.env)).any (·.1) = false := by rfl) :
    SE X cl W (.Call (.Name "isinstance" p) [e, .Name x p2] [] pos) (m1 (fIsi t) mo) :=
  (pe_callB call_isi hg hm (by decide +kernel) (pa_cons he (pa_cons (pe_bltn hgt hmt hv (v := .ty t.nm) rfl hn hdb) pa_nil) hs) (by decide) (by decide) hs hpl).imp fun sg H Q ⟨env, h, io, E, hr, p⟩ =>
    rd_mk E hr (p.bind fun d h1 v io1 H1 e1 s1 r1 q1 p1 => by
      rcases tyx_ov (t := t) r1 q1.ov rfl with ⟨k, ty, e2⟩ | e2
      · rw [e2] at p1
        exact ⟨v, .ty t.nm, _, _, _, rfl, .ty _, ty, kit_ty (kitB_isi k t), p1.here r1 rfl⟩
      · rw [e2] at p1; exact p1.elim)
/-- a name of the module that stands for a value that nobody writes -/
theorem sd_gc {x : Str} {i : Int} (hg : Gl X x) (h : ∃ u, X.mg x = some u ∧ RelV (V.int i) u) (hd : (x == ("__debug__" : Str)) = false := by decide) : SE X cl W (.Name x pos) (mC (.int i)) := by
  obtain ⟨u, h1, h2⟩ := h
  exact (pe_glob hg h1 h2 hd).imp fun sg H Q ⟨env, h, io, E, hr, p⟩ => p.here hr rfl

/-! ### methods -/
/-- a list's method that writes it: f tells its answer and what it becomes -/
def mMt (f : List D → List D → Option (D × List D)) (o : ME) (as : MA) : ME := fun env h => (o env h).bind fun d h1 => match d with
  | .ref n => match h1[n]? with
    | some (.lst _) => (as env h1).bind fun ys h2 => match h2[n]? with
      | some (.lst xs) => match f xs ys with
        | some (z, zs) => .ok z (h2.set n (.lst zs))
        | none => .stuck
      | _ => .stuck
    | _ => .stuck
  | _ => .stuck
def fAppend : List D → List D → Option (D × List D) := fun xs ys => match ys with
  | [y] => if xs.length < 16777216 then some (.non, xs ++ [y]) else none
  | _ => none
def fPop : List D → List D → Option (D × List D) := fun xs ys => match ys with
  | [] => match xs[xs.length - 1]? with
    | some d => some (d, xs.dropLast)
    | none => none
  | _ => none
/-- what the method asks is so where the plain word ends as is wished -/
def MtF (K : PySem.W.Frag) (cl : Nat → Addr) (r : V → List V → Hp → VK → Prop) (f : List D → List D → Option (D × List D)) : Prop :=
  ∀ io H a xs vs ys us z zs Q, RepL K io H xs vs → RepL K io H ys us → H a = some (.lst vs) → f xs ys = some (z, zs) → (∀ v ws, Rep K io H z v → RepL K io H zs ws → Q v (upd H a (.lst ws))) → r (.ref a) us H Q
theorem mtf_append : MtF X.K cl rAppend fAppend := by
  intro io H a xs vs ys us z zs Q r ry e ef q
  have hz : sizeLine = 16777216 := sizeLine_eq
  have hl := r.length
  unfold fAppend at ef
  split at ef
  · split at ef
    · cases ef
      obtain ⟨u, t, rfl, ru, rt⟩ := ry
      have rt' : t = [] := rt
      subst rt'
      exact ⟨a, vs, u, rfl, rfl, e, by omega, q _ _ rfl (r.append ⟨u, [], rfl, ru, rfl⟩)⟩
    · cases ef
  · cases ef
theorem RepL.dropLast {K : PySem.W.Frag} {io : List Addr} {H : Hp} {xs : List D} {vs : List V} (r : RepL K io H xs vs) : RepL K io H xs.dropLast vs.dropLast := by
  rw [List.dropLast_eq_take, List.dropLast_eq_take, r.length]
  exact r.take _
theorem mtf_pop : MtF X.K cl rPop fPop := by
  intro io H a xs vs ys us z zs Q r ry e ef q
  unfold fPop at ef
  split at ef
  · have ry' : us = [] := ry
    subst ry'
    split at ef
    · rename_i d ed
      cases ef
      obtain ⟨v, ev, rv⟩ := r.get ed
      rw [r.length] at ev
      exact ⟨a, vs, v, rfl, rfl, e, ev, q _ _ rv r.dropLast⟩
    · cases ef
  · cases ef
theorem rd_mt {r : V → List V → Hp → VK → Prop} {f : List D → List D → Option (D × List D)} (hf : MtF X.K cl r f) {sg : L2.St} {H : Hp} {Q : VK} (q : rd (RRep X.K) X.K cl W (mMt f ma ml) sg H Q) :
    tBM X.K "list" r (rd (RRep X.K) X.K cl W ma) (rd (RRepL X.K) X.K cl W ml) sg H Q := by
  obtain ⟨env, h, io, E, hr, p⟩ := q
  refine rd_mk E hr (p.bind fun d h1 v io1 H1 e1 s1 r1 q1 p1 => ?_)
  cases d with
  | ref n =>
    obtain ⟨a, ha, rfl⟩ := q1
    simp only at p1
    split at p1
    · rename_i xs0 e0
      obtain ⟨vs0, hv0, _⟩ := r1.cell n a _ ha e0
      refine ⟨.inl ⟨rfl, _, .of hv0⟩, rd_mk (E.step s1) r1 (p1.bind fun ys h2 us io2 H2 e2 s2 r2 q2 p2 => ?_)⟩
      have ha2 := s2.get ha
      split at p2
      · rename_i xs e3
        obtain ⟨vs, hv, r3⟩ := r2.cell n a _ ha2 e3
        split at p2
        · rename_i z zs ef
          exact hf io2 H2 a xs vs ys us z zs Q r3 q2 hv ef fun v ws rz rw' => p2 v io2 _ (Step.write (List.mem_of_getElem? ha2) hv) (r2.write ha2 hv rw') (rz.step (Step.write (List.mem_of_getElem? ha2) hv) _ _)
        · exact p2.elim
      · exact p2.elim
    · exact p1.elim
  | _ => exact p1.elim
/-- o.append(e) -/
theorem sd_append {apos cpos : Pos} (ho : SE X cl W o ma) (ha : SA X cl W [e] ml) (hbase : attributeBase o "append" X.env (eval o X.env) = eval o X.env := by rfl)
    (hfew : ((backTo cpos (starEach [e] X.env)).all (fun x => !x.1) && (backToKw cpos (keywordEach [] X.env)).all (fun x => x.1.isSome)
      && decide ([e].length + ([] : List Keyword).length + (if ([] : List Keyword).isEmpty then 0 else 1) < 30)) = true := by rfl)
    (hline : (apos.endLine == cpos.line) = true := by rfl) (hs : starEach [e] X.env = (false, eval e X.env) :: starEach [] X.env := by rfl) (hplain : (backTo cpos (starEach [] X.env)).any (·.1) = false := by rfl) :
    SE X cl W (.Call (.Attribute o "append" apos) [e] [] cpos) (mMt fAppend ma ml) :=
  (pe_bm PySem.F.plainAttrs_list PySem.F.slot_list_append (by rfl) mt_append ho ha hbase hfew hline hs hplain).imp fun sg H Q q => rd_mt mtf_append q
theorem sd_pop {apos cpos : Pos} (ho : SE X cl W o ma) (hbase : attributeBase o "pop" X.env (eval o X.env) = eval o X.env := by rfl) (hline : (apos.endLine == cpos.line) = true := by rfl) :
    SE X cl W (.Call (.Attribute o "pop" apos) [] [] cpos) (mMt fPop ma mNil) :=
  (pe_bm0 PySem.F.plainAttrs_list PySem.F.slot_list_pop (by rfl) mt_pop ho hbase hline).imp fun sg H Q q => by
    obtain ⟨env, h, io, E, hr, p⟩ := rd_mt mtf_pop q
    exact rd_mk E hr (p.imp fun v H1 ⟨ty, env2, h2, io2, E2, hr2, p2⟩ => ⟨ty, p2.here hr2 rfl⟩)

/-! o.count(e), o a list or a tuple -/
theorem pe_m2 {to : TE} {t : TA} {name : Str} {apos cpos : Pos} {T T' id id' : String} {r r' : V → List V → Hp → VK → Prop} {ty ty' : V → Hp → Prop} (ht : TyOk X T ty) (ht' : TyOk X T' ty') (pa : PlainAttrs T) (pa' : PlainAttrs T') (slot : Slot T name id) (slot' : Slot T' name id')
    (hty : typeOf (.builtin id) = pure (.type "method_descriptor")) (hty' : typeOf (.builtin id') = pure (.type "method_descriptor")) (hm : MtR X id r) (hm' : MtR X id' r') (ho : PE X o to) (ha : PA X (e :: es) t)
    (hbase : attributeBase o name X.env (eval o X.env) = eval o X.env)
    (hfew : ((backTo cpos (starEach (e :: es) X.env)).all (fun x => !x.1) && (backToKw cpos (keywordEach [] X.env)).all (fun x => x.1.isSome)
      && decide ((e :: es).length + ([] : List Keyword).length + (if ([] : List Keyword).isEmpty then 0 else 1) < 30)) = true)
    (hline : (apos.endLine == cpos.line) = true) (hs : starEach (e :: es) X.env = (false, eval e X.env) :: starEach es X.env) (hplain : (backTo cpos (starEach es X.env)).any (·.1) = false) :
    PE X (.Call (.Attribute o name apos) (e :: es) [] cpos) (fun σ H Q => to σ H fun x H1 => (ty x H1 ∧ t σ H1 fun xs H2 => r x xs H2 Q) ∨ (ty' x H1 ∧ t σ H1 fun xs H2 => r' x xs H2 Q)) := by
  refine ⟨fun pins s σ H Q I h => ?_⟩
  refine PySem.wpAny_Call_method_late hbase hfew hline rfl (thn (ho.run pins s σ H _ I h) fun v s1 ⟨x, H1, I1, r1, hh⟩ => ?_)
  rcases hh with ⟨ty1, q1⟩ | ⟨ty1, q1⟩
  · obtain ⟨h1, h2⟩ := ht _ _ _ _ _ _ I1 r1 ty1
    refine ⟨T, id, pa, slot, hty, h1, h2, ?_⟩
    have hA := ha.run cpos pins s1 σ H1 _ I1 q1
    rw [hs] at hA ⊢
    refine Calls.callWith_builtin (by show (false || (backTo cpos (starEach es X.env)).any (·.1)) = false; rw [hplain] <;> rfl) (Calls.evalArgs_plain ?_)
    exact thn hA fun us s2 ⟨vs, H2, I2, r2, q2⟩ => hm pins s2 σ H2 x vs v us Q I2 r1 r2 q2
  · obtain ⟨h1, h2⟩ := ht' _ _ _ _ _ _ I1 r1 ty1
    refine ⟨T', id', pa', slot', hty', h1, h2, ?_⟩
    have hA := ha.run cpos pins s1 σ H1 _ I1 q1
    rw [hs] at hA ⊢
    refine Calls.callWith_builtin (by show (false || (backTo cpos (starEach es X.env)).any (·.1)) = false; rw [hplain] <;> rfl) (Calls.evalArgs_plain ?_)
    exact thn hA fun us s2 ⟨vs, H2, I2, r2, q2⟩ => hm' pins s2 σ H2 x vs v us Q I2 r1 r2 q2

def tyLst (K : PySem.W.Frag) : V → Hp → Prop := fun x H => ∃ a xs, x = .ref a ∧ SqL K H a xs
theorem ty_lst : TyOk X "list" (tyLst X.K) := by
  intro pins σ H s x v I r ty
  obtain ⟨a, xs, rfl, h⟩ := ty
  cases r
  obtain ⟨its, _, pl, _⟩ := I.list h
  refine ⟨pl.isList.typeIs, fun b e => ?_⟩
  cases e
  obtain ⟨o, n, e, c, hd, _⟩ := pl
  exact ⟨o, e, hd⟩
def rCntP (K : PySem.W.Frag) (w : List PyData → PyData) : V → List V → Hp → VK → Prop := fun x xs H Q => ∃ a y d ds, x = .ref a ∧ xs = [y] ∧ Dp K H x (w ds) ∧ Dp K H y d ∧ PyData.plainAll ds = true ∧ d.plain = true ∧ d.depth ≤ 61 ∧
  Q (.int ((ds.countP fun z => PyData.eqv z d : Nat) : Int)) H
theorem mt_cntL (hu : X.A.units + 65 < cLine) : MtR X "list.count" (rCntP X.K .list) := by
  intro pins s σ H x xs v us Q I rx rxs h
  obtain ⟨a, y, d, ds, rfl, rfl, h1, h2, p1, p2, p3, q⟩ := h
  cases rx
  obtain ⟨u, rfl, ru⟩ := rxs.one
  obtain ⟨bs, r2⟩ := Dp.reads I d y u h2 ru
  cases h1 with
  | lst hs ha =>
    obtain ⟨its, rv, pl, hz⟩ := I.list hs
    obtain ⟨as, r1⟩ := Dp.readsAll I ds _ its ha rv
    exact SeqAt.count_list_data pl.isList (by simpa using r1) r2 p1 p2 (by omega) ⟨.int _, H, I.tok _, ⟨_, rfl⟩, q⟩
theorem mt_cntT (hu : X.A.units + 65 < cLine) : MtR X "tuple.count" (rCntP X.K .tuple) := by
  intro pins s σ H x xs v us Q I rx rxs h
  obtain ⟨a, y, d, ds, rfl, rfl, h1, h2, p1, p2, p3, q⟩ := h
  cases rx
  obtain ⟨u, rfl, ru⟩ := rxs.one
  obtain ⟨bs, r2⟩ := Dp.reads I d y u h2 ru
  cases h1 with
  | tup hs ha =>
    obtain ⟨its, rv, pl, hz⟩ := I.tuple hs
    obtain ⟨as, r1⟩ := Dp.readsAll I ds _ its ha rv
    exact SeqAt.count_tuple_data pl (by simpa using r1) r2 p1 p2 (by omega) ⟨.int _, H, I.tok _, ⟨_, rfl⟩, q⟩
/-- items as data, with what they lie in -/
def cntOf (d : LV) (y : D) (h : PHeap) : Option Nat := match toPy h 60 y with
  | some p => match d.py h with
    | some (.list ds) => some (ds.countP fun z => PyData.eqv z p)
    | some (.tuple ds) => some (ds.countP fun z => PyData.eqv z p)
    | _ => none
  | none => none
def mCnt (o : MO) (as : MA) : ME := fun env h => (o env h).bind fun d h1 => match d.seq h1 with
  | some _ => (as env h1).bind fun ys h2 => match ys with
    | [y] => match cntOf d y h2 with
      | some n => .ok (.int n) h2
      | none => .stuck
    | _ => .stuck
  | none => .stuck
theorem toPy_tup {h : PHeap} {ds : List PyData} : ∀ {n : Nat} {d : D}, toPy h n d = some (.tuple ds) → ∃ xs, d = .tup xs
  | 0, d, e => by simp [toPy] at e
  | n + 1, d, e => by
    cases d with
    | tup xs => exact ⟨xs, rfl⟩
    | non => simp [toPy] at e
    | bl b => simp [toPy] at e
    | int b => simp [toPy] at e
    | str b => simp [toPy] at e
    | fro xs => simp [toPy] at e
    | ref k =>
      simp only [toPy] at e
      split at e
      · simp at e
      · cases e
theorem toPy_lst {h : PHeap} {ds : List PyData} : ∀ {n : Nat} {xs : List D}, ¬ toPy h n (.tup xs) = some (.list ds)
  | 0, xs, e => by simp [toPy] at e
  | n + 1, xs, e => by simp [toPy] at e
theorem LV.py_tup {d : LV} {h : PHeap} {ds : List PyData} (e : d.py h = some (.tuple ds)) : ∃ xs, d = .val (.tup xs) := by
  cases d with
  | new xs => unfold LV.py at e; simp only [Option.map_eq_some_iff] at e; obtain ⟨_, _, e⟩ := e; cases e
  | val d => obtain ⟨xs, e⟩ := toPy_tup (show toPy h 60 d = _ from e); exact ⟨xs, by rw [e]⟩
theorem LV.py_lst {d : LV} {h : PHeap} {ds : List PyData} (e : d.py h = some (.list ds)) : ¬ ∃ xs, d = .val (.tup xs) := by
  rintro ⟨xs, rfl⟩
  exact toPy_lst (show toPy h 60 (.tup xs) = _ from e)
theorem OV.tupA {K : PySem.W.Frag} {io : List Addr} {H : Hp} {xs : List D} {v : V} (r : OV K io H (.val (.tup xs)) v) : tyTup K v H := by
  obtain ⟨a, vs, e, h1, _⟩ := r
  exact ⟨a, vs, e, h1⟩
theorem OV.lstA {K : PySem.W.Frag} {io : List Addr} {H : Hp} {h : PHeap} {d : LV} {v : V} {xs : List D} (hr : HRel K cl io H h) (r : OV K io H d v) (e : d.seq h = some xs) (n : ¬ ∃ xs, d = .val (.tup xs)) : tyLst K v H := by
  have e' : d.items h = some xs := by
    cases d with
    | new ys => exact e
    | val d => cases d with
      | tup ys => exact absurd ⟨ys, rfl⟩ n
      | _ => exact e
  obtain ⟨a, vs, e, h1, h2⟩ := r.items hr e'
  exact ⟨a, vs, e, h1⟩
theorem sd_count {apos cpos : Pos} (hu : X.A.units + 65 < cLine) (ho : SO X cl W o mo) (ha : SA X cl W [e] ml) (hbase : attributeBase o "count" X.env (eval o X.env) = eval o X.env := by rfl)
    (hfew : ((backTo cpos (starEach [e] X.env)).all (fun x => !x.1) && (backToKw cpos (keywordEach [] X.env)).all (fun x => x.1.isSome)
      && decide ([e].length + ([] : List Keyword).length + (if ([] : List Keyword).isEmpty then 0 else 1) < 30)) = true := by rfl)
    (hline : (apos.endLine == cpos.line) = true := by rfl) (hs : starEach [e] X.env = (false, eval e X.env) :: starEach [] X.env := by rfl) (hplain : (backTo cpos (starEach [] X.env)).any (·.1) = false := by rfl) :
    SE X cl W (.Call (.Attribute o "count" apos) [e] [] cpos) (mCnt mo ml) :=
  (pe_m2 ty_lst ty_tup PySem.F.plainAttrs_list PySem.F.plainAttrs_tuple PySem.F.slot_list_count PySem.F.slot_tuple_count (by rfl) (by rfl) (mt_cntL hu) (mt_cntT hu) ho ha hbase hfew hline hs hplain).imp fun sg H Q ⟨env, h, io, E, hr, p⟩ =>
    rd_mk E hr (p.bind fun d h1 v io1 H1 e1 s1 r1 q1 p1 => by
      split at p1
      · rename_i xs0 e0
        by_cases ht : ∃ xs, d = .val (.tup xs)
        · refine .inr ⟨?_, rd_mk (E.step s1) r1 (p1.bind fun ys h2 us io2 H2 e2 s2 r2 q2 p2 => ?_)⟩
          · obtain ⟨xs, rfl⟩ := ht; exact q1.ov.tupA
          · split at p2
            · split at p2
              · rename_i y _ n ec
                obtain ⟨u, t, rfl, ru, rt⟩ := q2
                have rt' : t = [] := rt
                subst rt'
                unfold cntOf at ec
                split at ec
                · rename_i pp ep
                  split at ec
                  · rename_i ds e3; exact absurd ht (LV.py_lst e3)
                  · rename_i ds e3
                    cases ec
                    obtain ⟨g1, g2, g3⟩ := (q1.ov.step s2).py r2 e3
                    obtain ⟨k1, k2, k3⟩ := dp_of r2 60 y u pp ep ru
                    obtain ⟨xs, rfl⟩ := ht
                    obtain ⟨a, vs, e5, _⟩ := q1
                    exact ⟨a, u, pp, ds, e5, rfl, g1, k1, by simpa only [PyData.plain] using g2, k2, by omega, p2.here r2 rfl⟩
                  · cases ec
                · cases ec
              · exact p2.elim
            · exact p2.elim
        · refine .inl ⟨q1.ov.lstA r1 e0 ht, rd_mk (E.step s1) r1 (p1.bind fun ys h2 us io2 H2 e2 s2 r2 q2 p2 => ?_)⟩
          obtain ⟨a, vs0, e5, _⟩ := q1.ov.lstA r1 e0 ht
          split at p2
          · split at p2
            · rename_i y _ n ec
              obtain ⟨u, t, rfl, ru, rt⟩ := q2
              have rt' : t = [] := rt
              subst rt'
              unfold cntOf at ec
              split at ec
              · rename_i pp ep
                split at ec
                · rename_i ds e3
                  cases ec
                  obtain ⟨g1, g2, g3⟩ := (q1.ov.step s2).py r2 e3
                  obtain ⟨k1, k2, k3⟩ := dp_of r2 60 y u pp ep ru
                  exact ⟨a, u, pp, ds, e5, rfl, g1, k1, by simpa only [PyData.plain] using g2, k2, by omega, p2.here r2 rfl⟩
                · rename_i ds e3; exact absurd (LV.py_tup e3) ht
                · cases ec
              · cases ec
            · exact p2.elim
          · exact p2.elim
      · exact p1.elim)
end
end Gb

/-! GbG: statements, targets, what is walked -/
namespace Gb
open PySem L2

section
variable {K : PySem.W.Frag} {cl : Nat → Addr} {W : WX} {io io1 : List Addr} {sg : L2.St} {H H1 : Hp}
def postS (K : PySem.W.Frag) (cl : Nat → Addr) (W : WX) (io : List Addr) (H : Hp) (o : Out) (D : Ends) : Prop := match o with
  | .nx e h => ∀ io' sg' H', Step K io H io' H' → ERel K io' H' sg' e → HRel K cl io' H' h → D.nx sg' H'
  | .bk e h => ∀ io' sg' H', Step K io H io' H' → ERel K io' H' sg' e → HRel K cl io' H' h → D.bk sg' H'
  | .ct e h => ∀ io' sg' H', Step K io H io' H' → ERel K io' H' sg' e → HRel K cl io' H' h → D.ct sg' H'
  | .rt d h => ∀ v io' H', Step K io H io' H' → HRel K cl io' H' h → Rep K io' H' d v → D.rt v H'
  | .exc x e h => ∀ cls dd io' sg' H', Step K io H io' H' → ERel K io' H' sg' e → HRel K cl io' H' h → ExcRep cl H' x cls dd → W cls dd sg' H'
  | .stuck => False
def rdS (K : PySem.W.Frag) (cl : Nat → Addr) (W : WX) (m : MS) : TS := fun D sg H => ∃ env h io, ERel K io H sg env ∧ HRel K cl io H h ∧ postS K cl W io H (m env h) D
theorem postS.step {o : Out} {D : Ends} (p : postS K cl W io H o D) (s : Step K io H io1 H1) : postS K cl W io1 H1 o D := by
  cases o with
  | nx e h => exact fun io' sg' H' s2 E r => p io' sg' H' (s.trans s2) E r
  | bk e h => exact fun io' sg' H' s2 E r => p io' sg' H' (s.trans s2) E r
  | ct e h => exact fun io' sg' H' s2 E r => p io' sg' H' (s.trans s2) E r
  | rt d h => exact fun v io' H' s2 r q => p v io' H' (s.trans s2) r q
  | exc x e h => exact fun cls dd io' sg' H' s2 E r q => p cls dd io' sg' H' (s.trans s2) E r q
  | stuck => exact p
theorem postS.out {α β : Type} {R : Hp → List Addr → Hp → α → β → Prop} {r : Res α} {env : PEnv} {f : α → PHeap → Out} {D : Ends} {Q' : β → Hp → Prop} (p : postS K cl W io H (r.out env f) D) (E : ERel K io H sg env)
    (k : ∀ a h1 b io1 H1, r = .ok a h1 → Step K io H io1 H1 → HRel K cl io1 H1 h1 → R H io1 H1 a b → postS K cl W io1 H1 (f a h1) D → Q' b H1) : postR R K cl W io sg H r Q' := by
  cases r with
  | ok a h => exact fun b io1 H1 s r q => k a h b io1 H1 rfl s r q (postS.step (show postS K cl W io H (f a h) D from p) s)
  | exc e h => exact fun cls dd io1 H1 s r q => p cls dd io1 sg H1 s (E.step s) r q
  | stuck => exact p
theorem rdS_mk {m : MS} {D : Ends} {env : PEnv} {h : PHeap} (E : ERel K io H sg env) (r : HRel K cl io H h) (p : postS K cl W io H (m env h) D) : rdS K cl W m D sg H := ⟨env, h, io, E, r, p⟩
/-- a target's reading -/
def rdG (K : PySem.W.Frag) (g : TgM) : TG := fun v sg H Q => ∃ d io env e, Rep K io H d v ∧ ERel K io H sg env ∧ g.set d env = some e ∧
  ∀ sg', ERel K io H sg' e → (∀ vs, (∀ i ∈ g.slots, i ∈ vs) → wipe sg' vs = wipe sg vs) → Q sg' H
def rdGs (K : PySem.W.Frag) (g : List TgM) : TGs := fun v sg H Q => ∃ d io env e, RepL K io H d v ∧ ERel K io H sg env ∧ TgM.sets g d env = some e ∧
  ∀ sg', ERel K io H sg' e → (∀ vs, (∀ i ∈ TgM.slotsL g, i ∈ vs) → wipe sg' vs = wipe sg vs) → Q sg' H
end
abbrev SS (X : Cx) (cl : Nat → Addr) (W : WX) (e : Stmt) (m : MS) : Prop := PS X e (rdS X.K cl W m)
abbrev SB (X : Cx) (cl : Nat → Addr) (W : WX) (e : List Stmt) (m : MS) : Prop := PSs X e (rdS X.K cl W m)
abbrev SG (X : Cx) (e : Expr) (g : TgM) : Prop := PG X e (rdG X.K g)
abbrev SGs (X : Cx) (e : List Expr) (g : List TgM) : Prop := PGs X e (rdGs X.K g)

theorem wipe_set {sg : L2.St} {i : Nat} {o : Option V} : ∀ {vs : List Nat}, i ∈ vs → wipe (sg.set i o) vs = wipe sg vs
  | v :: vs, h => by
    show (wipe (sg.set i o) vs).set v none = (wipe sg vs).set v none
    by_cases hv : i ∈ vs
    · rw [wipe_set hv]
    · have e : i = v := by simpa [hv] using h
      subst e
      have key : ∀ (ws : List Nat) (g : L2.St), i ∉ ws → wipe (g.set i o) ws = (wipe g ws).set i o := by
        intro ws
        induction ws with
        | nil => intro g _; rfl
        | cons w ws ih =>
          intro g hw
          simp only [List.mem_cons, not_or] at hw
          show (wipe (g.set i o) ws).set w none = ((wipe g ws).set w none).set i o
          rw [ih g hw.2, List.set_comm _ _ hw.1]
      rw [key vs sg hv, List.set_set]

section
variable {X : Cx} {cl : Nat → Addr} {W : WX} {a b c e o : Expr} {es : List Expr} {ma mb mc : ME} {ml : MA} {mo mp : MO} {mt : MT} {pos p p2 : Pos} {st : Stmt} {rest sa sb : List Stmt} {m n : MS}
/-! targets -/
theorem sg_name {x : Str} (i : Nat) (hN : X.N.Nodup) (hi : X.N[i]? = some x := by rfl) (hx : Loc X.env.scope x := by first | exact Or.inl rfl | exact Or.inr rfl) (hf : X.fn x = true ∨ X.env.scope.names.lookup x = some .local := by first | exact .inl rfl | exact .inr rfl) : SG X (.Name x pos) (.name i) := by
  refine (pg_name hN hi hx hf).imp fun v sg H Q ⟨d, io, env, e, r, E, hs, q⟩ => ?_
  cases hs
  exact q _ (E.set r) fun vs hv => wipe_set (hv i (by simp [TgM.slots]))
theorem sgs_nil : SGs X [] [] := ⟨fun pins s sg H vs us Q I r ⟨d, io, env, e, rl, E, hs, q⟩ => by
  cases d with
  | nil => have rl' : vs = [] := rl; subst rl'; cases hs; exact pgs_nil.run pins s sg H [] us Q I r ⟨rfl, q _ E fun _ _ => rfl⟩
  | cons _ _ => cases hs⟩
theorem sgs_cons {g : TgM} {gs : List TgM} (h1 : SG X e g) (h2 : SGs X es gs) (hs : (assignEach (e :: es) X.env).map (·.2) = assign e X.env :: (assignEach es X.env).map (·.2) := by rfl) : SGs X (e :: es) (g :: gs) := ⟨fun pins s sg H vs us Q I r ⟨d, io, env, e', rl, E, hs', q⟩ => by
  cases d with
  | nil => cases hs'
  | cons d ds =>
    obtain ⟨v, t, rfl, r1, r2⟩ := rl
    simp only [TgM.sets] at hs'
    cases q1 : g.set d env with
    | none => rw [q1] at hs'; cases hs'
    | some e1 =>
      rw [q1] at hs'
      refine (pgs_cons h1 h2 hs).run pins s sg H _ us Q I r ⟨v, t, rfl, ⟨d, io, env, e1, r1, E, q1, fun sg' E' w1 => ⟨ds, io, e1, e', r2, E', hs', fun sg2 E2 w2 => q sg2 E2 fun vs hv => ?_⟩⟩⟩
      rw [w2 vs fun i hi => hv i (by simp [TgM.slotsL, hi]), w1 vs fun i hi => hv i (by simp [TgM.slotsL, hi])]⟩
theorem sg_tup {gs : List TgM} {k : Nat} {n : Nat} (hc : X.calm = true) (h : SGs X es gs) (hn : (assignEach es X.env).length = n := by rfl) (hst : (assignEach es X.env).findIdx? (·.1) = none := by rfl) (hg : gs.length = n := by rfl) : SG X (.Tuple es k pos) (.tup gs) := by
  refine (pg_tupA hc h hn hst).imp fun v sg H Q ⟨d, io, env, e, r, E, hs, q⟩ => ?_
  cases d with
  | tup xs =>
    obtain ⟨a, vs, rfl, h1, h2⟩ := r
    have hl : ∀ (gs : List TgM) (xs : List D) env e, TgM.sets gs xs env = some e → xs.length = gs.length := by
      intro gs
      induction gs with
      | nil => intro xs env e h; cases xs with
        | nil => rfl
        | cons _ _ => cases h
      | cons g gs ih => intro xs env e h; cases xs with
        | nil => cases h
        | cons x xs =>
          simp only [TgM.sets] at h
          cases q1 : g.set x env with
          | none => rw [q1] at h; cases h
          | some e1 => rw [q1] at h; simp [ih xs e1 e h]
    exact ⟨a, vs, rfl, h1, by rw [← h2.length, hl gs xs env e hs, hg], xs, io, env, e, h2, E, hs, q⟩
  | _ => cases hs

/-! statements -/
theorem ss_cons (h1 : SS X cl W st m) (h2 : SB X cl W rest n) : SB X cl W (st :: rest) (sSeq m n) :=
  (pss_cons h1 h2).imp fun D sg H ⟨env, h, io, E, hr, p⟩ => rdS_mk E hr (by
    unfold sSeq at p
    cases q : m env h with
    | nx e h1 => rw [q] at p; exact fun io' sg' H' s E' r' => rdS_mk E' r' (p.step s)
    | rt d h1 => rw [q] at p; exact p
    | bk e h1 => rw [q] at p; exact p
    | ct e h1 => rw [q] at p; exact p
    | exc x e h1 => rw [q] at p; exact p
    | stuck => rw [q] at p; exact p)
theorem ss_nil : SB X cl W [] sNext := pss_nil.imp fun D sg H ⟨env, h, io, E, hr, p⟩ => p io sg H .refl E hr
theorem ss_one (h1 : SS X cl W st m) : SB X cl W [st] m := pss_one h1
theorem ss_pass : SS X cl W (.Pass pos) sNext := ps_pass.imp fun D sg H ⟨env, h, io, E, hr, p⟩ => p io sg H .refl E hr
theorem ss_break : SS X cl W (.Break pos) sBreak := ps_break.imp fun D sg H ⟨env, h, io, E, hr, p⟩ => p io sg H .refl E hr
theorem ss_cont : SS X cl W (.Continue pos) sCont := ps_continue.imp fun D sg H ⟨env, h, io, E, hr, p⟩ => p io sg H .refl E hr
theorem ss_doc {x j pos'} : SS X cl W (.Expr (.Constant (.str x) j pos) pos') sNext := ps_doc.imp fun D sg H ⟨env, h, io, E, hr, p⟩ => p io sg H .refl E hr
theorem ss_never : SS X cl W st sStuck := ps_never.imp fun D sg H ⟨env, h, io, E, hr, p⟩ => p
theorem ss_nevers : SB X cl W rest sStuck := pss_never.imp fun D sg H ⟨env, h, io, E, hr, p⟩ => p
theorem ss_drop (he : SE X cl W e ma) (hs : swapsWith e none pos.line X.env = pure false := by rfl) : SS X cl W (.Expr e pos) (sDrop ma) :=
  (ps_expr he hs).imp fun D sg H ⟨env, h, io, E, hr, p⟩ => rd_mk E hr (p.out E fun d h1 v io1 H1 e1 s1 r1 q1 p1 => p1 io1 sg H1 .refl (E.step s1) r1)
theorem ss_ret (he : SE X cl W e ma) : SS X cl W (.Return (some e) pos) (sRet ma) :=
  (ps_ret he).imp fun D sg H ⟨env, h, io, E, hr, p⟩ => rd_mk E hr (p.out E fun d h1 v io1 H1 e1 s1 r1 q1 p1 => p1 v io1 H1 .refl r1 q1)
theorem ss_retN : SS X cl W (.Return none pos) sRetN := ps_retN.imp fun D sg H ⟨env, h, io, E, hr, p⟩ => p .non io H .refl hr rfl
theorem ss_if (hc : ST X cl W c mt) (ha : SB X cl W sa m) (hb : SB X cl W sb n) : SS X cl W (.If c sa sb pos) (sIf mt m n) :=
  (ps_if hc ha hb).imp fun D sg H ⟨env, h, io, E, hr, p⟩ => rd_mk E hr (p.out E fun k h1 b io1 H1 e1 s1 r1 q1 p1 => by
    cases q1
    cases k with
    | true => exact iteT (rdS_mk (E.step s1) r1 p1)
    | false => exact iteF (rdS_mk (E.step s1) r1 p1))
theorem rd_asg {g : TgM} {D : Ends} {sg : L2.St} {H : Hp} (q : rdS X.K cl W (sAsg ma g) D sg H) : tAsg (rd (RRep X.K) X.K cl W ma) (rdG X.K g) D sg H := by
  obtain ⟨env, h, io, E, hr, p⟩ := q
  refine rd_mk E hr (p.out E fun d h1 v io1 H1 e1 s1 r1 q1 p1 => ?_)
  cases q2 : g.set d env with
  | none => rw [q2] at p1; exact p1.elim
  | some e2 => rw [q2] at p1; exact ⟨d, io1, env, e2, q1, E.step s1, q2, fun sg' E' _ => p1 io1 sg' H1 .refl E' r1⟩
theorem ss_asg {g : TgM} (he : SE X cl W e ma) (hg : SG X a g) (hs : swapsWithSole [a] e pos.line X.env = pure false := by rfl) (hw : swappedStores [a] e X.env = pure none := by rfl)
    (h1 : (assignEach [a] X.env).map (·.2) = [assign a X.env] := by rfl) : SS X cl W (.Assign [a] e pos) (sAsg ma g) :=
  (ps_asg he hg hs hw h1).imp fun D sg H q => rd_asg q
/-- name = value -/
theorem ss_set {x : Str} {pos' : Pos} (i : Nat) (he : SE X cl W e ma) (hN : X.N.Nodup) (hi : X.N[i]? = some x := by rfl) (hx : Loc X.env.scope x := by first | exact Or.inl rfl | exact Or.inr rfl)
    (hs : swapsWith e (some (.Name x pos')) pos.line X.env = pure false := by rfl) (hf : X.fn x = true ∨ X.env.scope.names.lookup x = some .local := by first | exact .inl rfl | exact .inr rfl) : SS X cl W (.Assign [.Name x pos'] e pos) (sAsg ma (.name i)) :=
  (ps_set hN hi hx he hs hf).imp fun D sg H ⟨env, h, io, E, hr, p⟩ => rd_mk E hr (p.out E fun d h1 v io1 H1 e1 s1 r1 q1 p1 => p1 io1 _ H1 .refl ((E.step s1).set q1) r1)
theorem ss_par {i j : Nat} {x y : Str} {px py pt : Pos} {kt k2 pt2} (hc : X.calm = true) (hN : X.N.Nodup) (ha : SA X cl W [a, b] ml) (hi : X.N[i]? = some x := by rfl) (hj : X.N[j]? = some y := by rfl) (hij : i ≠ j := by decide)
    (hx : X.env.scope.names.lookup x = some .local := by rfl) (hy : X.env.scope.names.lookup y = some .local := by rfl)
    (hw : swappedStores [.Tuple [.Name x px, .Name y py] kt pt] (.Tuple [a, b] k2 pt2) X.env = pure (some [x, y]) := by rfl)
    (hs : swapsWithSole [.Tuple [.Name x px, .Name y py] kt pt] (.Tuple [a, b] k2 pt2) pos.line X.env = pure false := by rfl) :
    SS X cl W (.Assign [.Tuple [.Name x px, .Name y py] kt pt] (.Tuple [a, b] k2 pt2) pos) (sPar [i, j] ml) :=
  (ps_par hc hN hi hj hij hx hy ha hw hs).imp fun D sg H ⟨env, h, io, E, hr, p⟩ => rd_mk E hr (p.out E fun ds h1 vs io1 H1 e1 s1 r1 q1 p1 => by
    split at p1
    · rename_i hl
      match ds, hl, q1, p1 with
      | [d, d2], _, q1, p1 =>
        obtain ⟨v, t, rfl, ra, rt⟩ := q1
        obtain ⟨w, t', rfl, rb, rt'⟩ := rt
        have rt2 : t' = [] := rt'
        subst rt2
        exact ⟨v, w, rfl, p1 io1 _ H1 .refl (((E.step s1).set ra).set rb) r1⟩
    · exact p1.elim)
/-- o[i] = e -/
def sSub (v o i : ME) : MS := fun env h => (v env h).out env fun d h1 => (o env h1).out env fun x h2 => (i env h2).out env fun y h3 => match x, y with
  | .ref n, .int k => match h3[n]? with
    | some (.lst xs) => match ixN xs.length k with
      | some j => .nx env (h3.set n (.lst (xs.set j d)))
      | none => .stuck
    | _ => .stuck
  | _, _ => .stuck
theorem ss_sub {i : Expr} {tp : Pos} (he : SE X cl W e ma) (ho : SE X cl W o mb) (hi : SE X cl W i mc)
    (ha : ∀ v, assign (.Subscript o i tp) X.env v = (do
      let ov ← holding [v] (eval o X.env)
      let iv ← holding [v, ov] (eval i X.env)
      standAt tp
      holding [v, ov, iv] (setItem ov iv v)
      release [v, ov, iv] []) := by intro _; rfl)
    (hs : swapsWithSole [.Subscript o i tp] e pos.line X.env = pure false := by rfl) (hw : swappedStores [.Subscript o i tp] e X.env = pure none := by rfl)
    (h1 : (assignEach [.Subscript o i tp] X.env).map (·.2) = [assign (.Subscript o i tp) X.env] := by rfl) : SS X cl W (.Assign [.Subscript o i tp] e pos) (sSub ma mb mc) :=
  (ps_asg he (pg_sub ho hi set_list ha) hs hw h1).imp fun D sg H ⟨env, h, io, E, hr, p⟩ => rd_mk E hr (p.out E fun d h1 v io1 H1 e1 s1 r1 q1 p1 => by
    refine rd_mk (E.step s1) r1 (p1.out (E.step s1) fun x h2 xv io2 H2 e2 s2 r2 q2 p2 => ?_)
    refine rd_mk ((E.step s1).step s2) r2 (p2.out ((E.step s1).step s2) fun y h3 yv io3 H3 e3 s3 r3 q3 p3 => ?_)
    split at p3
    · rename_i n k
      obtain ⟨ad, ha, rfl⟩ := q2.step s3 _ _
      cases q3
      split at p3
      · rename_i xs e4
        obtain ⟨vs, hv, rv⟩ := r3.cell n ad _ ha e4
        split at p3
        · rename_i j hj
          have E3 := ((E.step s1).step s2).step s3
          have st : Step X.K io3 H3 io3 (upd H3 ad (.lst (vs.set j v))) := Step.write (List.mem_of_getElem? ha) hv
          exact ⟨ad, vs, k, j, rfl, rfl, hv, by rw [← rv.length]; exact hj, p3 io3 sg _ st (E3.step st) (r3.write ha hv (rv.set j ((q1.step s2 _ _).step s3 _ _)))⟩
        · exact p3.elim
      · exact p3.elim
    · exact p3.elim)
end
end Gb

/-! GbH: what is walked, loops, comprehensions -/
namespace Gb
open PySem L2

section
variable {K : PySem.W.Frag} {cl : Nat → Addr} {W : WX} {io io1 : List Addr} {sg : L2.St} {H H1 : Hp} {h : PHeap}
/-- what stands that a walk rests on: the lists at these addresses, all tuples -/
structure Keeps (K : PySem.W.Frag) (as io : List Addr) (H : Hp) (io' : List Addr) (H' : Hp) : Prop where
  pre : ∃ l, io' = io ++ l
  tup : ∀ a vs, TupA K H a vs → TupA K H' a vs
  fro : ∀ a vs, FroL K H a vs → FroL K H' a vs
  same : ∀ a ∈ as, H' a = H a
/-- these stand apart from the cells, and were made behind Hs -/
def Apart (Hs : Hp) (as io : List Addr) (H : Hp) : Prop := ∀ a ∈ as, Hs a = none ∧ a ∉ io ∧ ∃ o, H a = some o
theorem Step.keeps {as : List Addr} {Hs : Hp} {io' : List Addr} {H' : Hp} (s : Step K io H io' H') (ap : Apart Hs as io H) : Keeps K as io H io' H' :=
  ⟨s.pre, s.tup, s.fro, fun a m => by obtain ⟨_, n, o, e⟩ := ap a m; rw [e, s.keep a o e n]⟩
theorem Keeps.sub {as bs io' : List Addr} {H' : Hp} (k : Keeps K as io H io' H') (h : ∀ a ∈ bs, a ∈ as) : Keeps K bs io H io' H' := ⟨k.pre, k.tup, k.fro, fun a m => k.same a (h a m)⟩
theorem Keeps.get {as io' : List Addr} {H' : Hp} (k : Keeps K as io H io' H') {n : Nat} {x : Addr} (h : io[n]? = some x) : io'[n]? = some x := by
  obtain ⟨l, e⟩ := k.pre
  rw [e, List.getElem?_append_left (List.getElem?_eq_some_iff.mp h).1]
  exact h
theorem Keeps.repL {as io' : List Addr} {H' : Hp} (k : Keeps K as io H io' H') {ds : List D} {vs : List V} (r : RepL K io H ds vs) : RepL K io' H' ds vs := r.mono (fun _ _ h => k.get h) k.tup k.fro
theorem Apart.app {Hs : Hp} {as bs : List Addr} (a : Apart Hs as io H) (b : Apart Hs bs io H) : Apart Hs (as ++ bs) io H := fun x m => (List.mem_append.mp m).elim (a x) (b x)
/-- what is walked goes as its plain items say while what it rests on stands -/
def WalkRep (K : PySem.W.Frag) (cl : Nat → Addr) (Hs : Hp) (io0 : List Addr) (H0 : Hp) (t : Itr) (J : It) : Prop := ∃ (as : List Addr) (G : Hp → Prop) (Y : Nat → Hp → V → Hp → Prop), Apart Hs as io0 H0 ∧ Walk J t.items.length G Y ∧
  (∀ io H h, Keeps K as io0 H0 io H → HRel K cl io H h → t.live h = true → G H) ∧
  (∀ i io H h x H' d, Keeps K as io0 H0 io H → HRel K cl io H h → t.live h = true → t.items[i]? = some d → Y i H x H' → Step K io H io H' ∧ HRel K cl io H' h ∧ Rep K io H' d x)
abbrev RIt (K : PySem.W.Frag) (cl : Nat → Addr) : Hp → List Addr → Hp → Itr → It → Prop := fun Hs io H t J => WalkRep K cl Hs io H t J
instance : Back K (RIt K cl) := ⟨fun s hl ⟨as, G, Y, ap, w, g, y⟩ => ⟨as, G, Y, fun a m => by obtain ⟨h0, h1, h2⟩ := ap a m; exact ⟨s.before hl h0 h1, h1, h2⟩, w, g, y⟩⟩
def rdI (K : PySem.W.Frag) (cl : Nat → Addr) (W : WX) (m : MI) : TI := fun sg H R => ∃ env h io, ERel K io H sg env ∧ HRel K cl io H h ∧ postR (RIt K cl) K cl W io sg H (m env h) R
theorem rdI_mk {m : MI} {R : It → Hp → Prop} {env : PEnv} {h : PHeap} (E : ERel K io H sg env) (r : HRel K cl io H h) (p : postR (RIt K cl) K cl W io sg H (m env h) R) : rdI K cl W m sg H R := ⟨env, h, io, E, r, p⟩

/-- the end still told from the start -/
theorem postR.bindAt {α β γ δ : Type} {R : Hp → List Addr → Hp → α → β → Prop} {S : Hp → List Addr → Hp → γ → δ → Prop} {r : Res α} {f : α → PHeap → Res γ} {Q : δ → Hp → Prop} {Q' : β → Hp → Prop} (s0 : Step K io H io1 H1) (p : postR S K cl W io sg H (r.bind f) Q)
    (k : ∀ a h b io2 H2, Step K io1 H1 io2 H2 → HRel K cl io2 H2 h → R H1 io2 H2 a b → postR S K cl W io sg H (f a h) Q → Q' b H2) : postR R K cl W io1 sg H1 r Q' := by
  cases r with
  | ok a h => exact fun b io2 H2 s hr q => k a h b io2 H2 s hr q p
  | exc e h => exact fun cls dd io2 H2 s hr q => p cls dd io2 H2 (s0.trans s) hr q
  | stuck => exact p
/-! a source -/
def srcDeps : LV → List D → List (Nat × List D)
  | .val d, xs => depsOf d xs
  | _, _ => []
def depsLive (h : PHeap) (ds : List (Nat × List D)) : Bool := ds.all fun p => match h[p.1]? with
  | some (.lst xs) => decide (xs = p.2)
  | _ => false
theorem live_eq (t : Itr) (h : PHeap) : t.live h = depsLive h t.deps := rfl
theorem depsLive_app {h : PHeap} {a b : List (Nat × List D)} : depsLive h (a ++ b) = (depsLive h a && depsLive h b) := by simp [depsLive]
theorem RLV.step {Hs : Hp} {lv : LV} {v : V} {io' : List Addr} {H' : Hp} (r : RLV K Hs io H lv v) (s : Step K io H io' H') : RLV K Hs io' H' lv v := by
  cases lv with
  | val d => exact Rep.step s d v r
  | new xs => obtain ⟨a, vs, e, h0, h1, h2, h3⟩ := r; exact ⟨a, vs, e, h0, s.out h2 h1, s.keep _ _ h2 h1, h3.step s _ _⟩
theorem src_of {Hs : Hp} {lv : LV} {v : V} {xs : List D} (hr : HRel K cl io H h) (r : RLV K Hs io H lv v) (e : lv.seq h = some xs) :
    ∃ (u : Src) (vs : List V) (as : List Addr), v = .ref u.addr ∧ u.At K H vs ∧ RepL K io H xs vs ∧ Apart Hs as io H ∧ ∀ io2 H2 h2, Keeps K as io H io2 H2 → HRel K cl io2 H2 h2 → depsLive h2 (srcDeps lv xs) = true → ∃ ws, u.At K H2 ws ∧ RepL K io2 H2 xs ws := by
  have nil : Apart Hs [] io H := fun a m => by simp at m
  cases lv with
  | new ys =>
    cases e
    obtain ⟨a, vs, e, h0, h1, h2, h3⟩ := r
    refine ⟨.lst a, vs, [a], e, .of h2, h3, fun b m => ?_, fun io2 H2 h2' s _ _ => ⟨vs, .of (by rw [s.same a (by simp)]; exact h2), s.repL h3⟩⟩
    rw [List.mem_singleton.mp m]; exact ⟨h0, h1, _, h2⟩
  | val d =>
    cases d with
    | tup ys =>
      cases e
      obtain ⟨a, vs, e, h1, h2⟩ := r
      exact ⟨.tup a, vs, [], e, h1.sq, h2, nil, fun io2 H2 h2' s _ _ => ⟨vs, (s.tup _ _ h1).sq, s.repL h2⟩⟩
    | fro ys =>
      cases e
      obtain ⟨a, vs, e, h1, h2⟩ := r
      exact ⟨.lst a, vs, [], e, h1.sq, h2, nil, fun io2 H2 h2' s _ _ => ⟨vs, (s.fro _ _ h1).sq, s.repL h2⟩⟩
    | ref n =>
      obtain ⟨a, ha, rfl⟩ := r
      simp only [LV.seq, LV.items] at e
      split at e
      · rename_i ys q
        cases e
        obtain ⟨vs, hv, r⟩ := hr.cell n a _ ha q
        refine ⟨.lst a, vs, [], rfl, .of hv, r, nil, fun io2 H2 h2 s r2 lv => ?_⟩
        simp only [depsLive, srcDeps, depsOf, List.all_cons, List.all_nil, Bool.and_true] at lv
        split at lv
        · rename_i zs e2
          have e3 := of_decide_eq_true lv
          subst e3
          obtain ⟨ws, hw, rw'⟩ := r2.cell n a _ (s.get ha) e2
          exact ⟨ws, .of hw, rw'⟩
        · cases lv
      · cases e
    | _ => simp [LV.seq, LV.items] at e
end
abbrev SI (X : Cx) (cl : Nat → Addr) (W : WX) (tg e : Expr) (m : MI) : Prop := PI X tg e (rdI X.K cl W m)
/-- a list or a tuple, walked -/
def iSrc (a : MO) : MI := fun env h => (a env h).bind fun lv h1 => match lv.seq h1 with
  | some xs => .ok ⟨xs, srcDeps lv xs⟩ h1
  | none => .stuck
/-- range(a), range(a, b) -/
def rngD (lo hi : Int) : List D := (List.range (hi - lo).toNat).map fun i => D.int (lo + (i : Nat))
def iR1 (b : ME) : MI := fun env h => (b env h).bind fun y h1 => match y with
  | .int hi => if -(2 ^ 60) ≤ hi ∧ hi ≤ 2 ^ 60 then .ok ⟨rngD 0 hi, []⟩ h1 else .stuck
  | _ => .stuck
def iR2 (a b : ME) : MI := fun env h => (a env h).bind fun x h1 => (b env h1).bind fun y h2 => match x, y with
  | .int lo, .int hi => if (-(2 ^ 60) ≤ lo ∧ lo ≤ 2 ^ 60) ∧ -(2 ^ 60) ≤ hi ∧ hi ≤ 2 ^ 60 then .ok ⟨rngD lo hi, []⟩ h2 else .stuck
  | _, _ => .stuck
/-- enumerate(x) -/
def enuD (xs : List D) : List D := xs.mapIdx fun i d => D.tup [.int (i : Nat), d]
def iEnu (a : MO) : MI := fun env h => (a env h).bind fun lv h1 => match lv.seq h1 with
  | some xs => .ok ⟨enuD xs, srcDeps lv xs⟩ h1
  | none => .stuck
def iZip2 (a b : MO) : MI := fun env h => (a env h).bind fun x h1 => (b env h1).bind fun y h2 => match x.seq h2, y.seq h2 with
  | some xs, some ys => .ok ⟨List.zipWith (fun p q => D.tup [p, q]) xs ys, srcDeps x xs ++ srcDeps y ys⟩ h2
  | _, _ => .stuck
def iZip3 (a b c : MO) : MI := fun env h => (a env h).bind fun x h1 => (b env h1).bind fun y h2 => (c env h2).bind fun z h3 => match x.seq h3, y.seq h3, z.seq h3 with
  | some xs, some ys, some zs => .ok ⟨List.zipWith (fun p q => D.tup [p, q.1, q.2]) xs (ys.zip zs), srcDeps x xs ++ (srcDeps y ys ++ srcDeps z zs)⟩ h3
  | _, _, _ => .stuck
section
variable {X : Cx} {cl : Nat → Addr} {W : WX} {a b c e o tg : Expr} {es : List Expr} {ma mb mc : ME} {ml : MA} {mo mp mq : MO} {mt : MT} {mi : MI} {pos p p2 : Pos} {st : Stmt} {rest sa sb : List Stmt} {m n : MS}
theorem si_src (ha : SO X cl W a mo) : SI X cl W tg a (iSrc mo) :=
  (pi_src ha).imp fun sg H R ⟨env, h, io, E, hr, p⟩ => rd_mk E hr (p.bindAt .refl fun lv h1 v io1 H1 s1 r1 q1 p1 => by
    split at p1
    · rename_i xs e
      obtain ⟨u, vs, as, rfl, h2, h3, ap, h4⟩ := src_of r1 q1 e
      refine ⟨u, rfl, ⟨vs, h2⟩, p1 _ io1 H1 s1 r1 ⟨as, _, _, ap, walk_s, fun io2 H2 h2 s2 r2 l2 => ?_, fun i io2 H2 h2 x H' d s2 r2 l2 hd y => ?_⟩⟩
      · obtain ⟨ws, hw, rw'⟩ := h4 io2 H2 h2 s2 r2 l2
        exact ⟨ws, hw, rw'.length.symm⟩
      · obtain ⟨ws, hw, rw'⟩ := h4 io2 H2 h2 s2 r2 l2
        obtain ⟨rfl, hy⟩ := y
        obtain ⟨w, e2, r3⟩ := rw'.get hd
        rw [hy ws hw] at e2; cases e2
        exact ⟨.refl, r2, r3⟩
    · exact p1.elim)
theorem walk_rng {lo hi : Int} {K : PySem.W.Frag} {io : List Addr} {Hs H : Hp} : WalkRep K cl Hs io H ⟨rngD lo hi, []⟩ (L2.Itr lo (hi - lo).toNat) := by
  refine ⟨[], _, _, fun a m => by simp at m, by simpa [rngD] using walk_range (lo := lo) (n := (hi - lo).toNat), fun _ _ _ _ _ _ => trivial, fun i io2 H2 h2 x H' d s2 r2 l2 hd y => ?_⟩
  obtain ⟨rfl, rfl⟩ := y
  refine ⟨.refl, r2, ?_⟩
  simp only [rngD, List.getElem?_map] at hd
  cases q : (List.range (hi - lo).toNat)[i]? with
  | none => rw [q] at hd; cases hd
  | some j =>
    rw [q] at hd
    cases hd
    obtain ⟨h1, h2⟩ := List.getElem?_eq_some_iff.mp q
    simp at h2
    subst h2
    rfl
theorem si_rng1 (hm : X.mg "range" = none) (ha : SE X cl W a ma) (hg : Gl X "range" := by rfl) (hs : starEach [a] X.env = [(false, eval a X.env)] := by rfl) : SI X cl W tg (.Call (.Name "range" p) [a] [] pos) (iR1 ma) :=
  (pi_range1 hg hm (pa_cons ha pa_nil hs) hs).imp fun sg H R ⟨env, h, io, E, hr, p⟩ => rd_mk E hr (p.bind fun d h1 v io1 H1 e1 s1 r1 q1 p1 => by
    split at p1
    · rename_i hi
      cases q1
      split at p1
      · have := p1 _ io1 H1 .refl r1 walk_rng
        rw [Int.sub_zero] at this
        exact ⟨hi, rfl, by omega, by omega, this⟩
      · exact p1.elim
    · exact p1.elim)
theorem si_rng2 (hm : X.mg "range" = none) (ha : SE X cl W a ma) (hb : SE X cl W b mb) (hg : Gl X "range" := by rfl) (hs : starEach [a, b] X.env = [(false, eval a X.env), (false, eval b X.env)] := by rfl) (hs2 : starEach [b] X.env = [(false, eval b X.env)] := by rfl) : SI X cl W tg (.Call (.Name "range" p) [a, b] [] pos) (iR2 ma mb) :=
  (pi_range2 hg hm (pa_cons ha (pa_cons hb pa_nil hs2) (by rw [hs, hs2])) hs hs2).imp fun sg H R ⟨env, h, io, E, hr, p⟩ => rd_mk E hr (p.bind fun d h1 v io1 H1 e1 s1 r1 q1 p1 => rd_mk (E.step s1) r1 (p1.bind fun d2 h2 u io2 H2 e2 s2 r2 q2 p2 => by
    split at p2
    · rename_i lo hi
      cases q1
      cases q2
      split at p2
      · exact ⟨lo, hi, rfl, by omega, p2 _ io2 H2 .refl r2 walk_rng⟩
      · exact p2.elim
    · exact p2.elim))
variable {elts : List Expr} {kk : Nat} {tpos : Pos}
theorem get_enu {xs : List D} {i : Nat} {d : D} (h : (enuD xs)[i]? = some d) : ∃ x, xs[i]? = some x ∧ d = .tup [.int (i : Nat), x] := by
  simp only [enuD, List.getElem?_mapIdx] at h
  cases q : xs[i]? with
  | none => rw [q] at h; cases h
  | some x => rw [q] at h; cases h; exact ⟨x, rfl, rfl⟩
theorem rep_pair {K : PySem.W.Frag} {io : List Addr} {H : Hp} {T : Addr} {o : Obj} {ds : List D} {vs : List V} (hT : H T = none) (ho : o.dict = none) (r : RepL K io H ds vs) : Rep K io (upd H T (.frz o (.tup vs))) (.tup ds) (.ref T) :=
  ⟨T, vs, rfl, .of upd_same ho, r.step (Step.laid hT) _ _⟩
theorem si_enu (hm : X.mg "enumerate" = none) (ha : SO X cl W a mo) (hg : Gl X "enumerate" := by rfl) (hs : starEach [a] X.env = [(false, eval a X.env)] := by rfl) : SI X cl W (.Tuple elts kk tpos) (.Call (.Name "enumerate" p) [a] [] pos) (iEnu mo) :=
  (pi_en hg hm (pa_cons ha pa_nil hs) hs).imp fun sg H R ⟨env, h, io, E, hr, p⟩ => rd_mk E hr (p.bindAt .refl fun lv h1 v io1 H1 s1 r1 q1 p1 => by
    split at p1
    · rename_i xs e
      obtain ⟨u, vs, as, rfl, h2, h3, ap, h4⟩ := src_of r1 q1 e
      refine ⟨u, vs, rfl, h2, p1 _ io1 H1 s1 r1 ⟨as, _, _, ap, walk_e, fun io2 H2 h2 s2 r2 l2 => ?_, fun i io2 H2 h2 x H' d s2 r2 l2 hd y => ?_⟩⟩
      · obtain ⟨ws, hw, rw'⟩ := h4 io2 H2 h2 s2 r2 l2
        exact ⟨ws, hw, by simp [enuD, rw'.length]⟩
      · obtain ⟨ws, hw, rw'⟩ := h4 io2 H2 h2 s2 r2 l2
        obtain ⟨T, o, z, rfl, hT, ho, rfl, hy⟩ := y
        obtain ⟨dx, e2, rfl⟩ := get_enu hd
        obtain ⟨w, e3, r3⟩ := rw'.get e2
        rw [hy ws hw] at e3; cases e3
        rw [Int.zero_add]
        exact ⟨Step.laid hT, r2.laid hT, rep_pair hT ho ⟨_, _, rfl, rfl, _, _, rfl, r3, rfl⟩⟩
    · exact p1.elim)
theorem get_zip {α β γ : Type} {f : α → β → γ} {xs : List α} {ys : List β} {i : Nat} {d : γ} (h : (List.zipWith f xs ys)[i]? = some d) : ∃ x y, xs[i]? = some x ∧ ys[i]? = some y ∧ d = f x y := by
  rw [List.getElem?_zipWith] at h
  cases q : xs[i]? with
  | none => rw [q] at h; cases h
  | some x =>
    cases q2 : ys[i]? with
    | none => rw [q, q2] at h; cases h
    | some y => rw [q, q2] at h; cases h; exact ⟨x, y, rfl, rfl, rfl⟩
theorem si_zip2 (hm : X.mg "zip" = none) (ha : SO X cl W a mo) (hb : SO X cl W b mp) (hg : Gl X "zip" := by rfl)
    (hs : starEach [a, b] X.env = (false, eval a X.env) :: starEach [b] X.env := by rfl) (hs2 : starEach [b] X.env = (false, eval b X.env) :: starEach [] X.env := by rfl) (hpl : (backTo pos (starEach [b] X.env)).any (·.1) = false := by rfl) :
    SI X cl W (.Tuple elts kk tpos) (.Call (.Name "zip" p) [a, b] [] pos) (iZip2 mo mp) :=
  (pi_z2 hg hm (pa_cons ha (pa_cons hb pa_nil hs2) hs) hs hpl).imp fun sg H R ⟨env, h, io, E, hr, p⟩ => rd_mk E hr (p.bindAt .refl fun lv h1 v io1 H1 s1 r1 q1 p1 => rd_mk (E.step s1) r1 (p1.bindAt s1 fun lv2 h2 v2 io2 H2 s2 r2 q2 p2 => by
    split at p2
    · rename_i xs ys e e'
      obtain ⟨u, vs, as, rfl, g1, g2, ap, g3⟩ := src_of (Hs := H) r2 (Gb.RLV.step (show RLV X.K H io1 H1 lv v from q1) s2) e
      obtain ⟨u', vs', as', rfl, g1', g2', ap', g3'⟩ := src_of (Hs := H) r2 (Back.back s1 s2.pre q2) e'
      refine ⟨u, u', vs, vs', rfl, g1, g1', p2 _ io2 H2 (s1.trans s2) r2 ⟨as ++ as', _, _, ap.app ap', walk_p2 (n1 := xs.length) (n2 := ys.length) (by simp), fun io3 H3 h3 s3 r3 l3 => ?_, fun i io3 H3 h3 x H' d s3 r3 l3 hd y => ?_⟩⟩
      · rw [live_eq, depsLive_app, Bool.and_eq_true] at l3
        obtain ⟨ws, hw, rw'⟩ := g3 io3 H3 h3 (s3.sub fun a m => by simp [m]) r3 l3.1
        obtain ⟨ws', hw', rw2⟩ := g3' io3 H3 h3 (s3.sub fun a m => by simp [m]) r3 l3.2
        exact ⟨ws, ws', ⟨hw, rw'.length.symm⟩, hw', rw2.length.symm⟩
      · rw [live_eq, depsLive_app, Bool.and_eq_true] at l3
        obtain ⟨ws, hw, rw'⟩ := g3 io3 H3 h3 (s3.sub fun a m => by simp [m]) r3 l3.1
        obtain ⟨ws', hw', rw2⟩ := g3' io3 H3 h3 (s3.sub fun a m => by simp [m]) r3 l3.2
        obtain ⟨T, o, z, z', rfl, hT, ho, rfl, hy, hy'⟩ := y
        obtain ⟨dx, dy, e3, e3', rfl⟩ := get_zip hd
        obtain ⟨w, e4, r4⟩ := rw'.get e3
        obtain ⟨w', e4', r4'⟩ := rw2.get e3'
        rw [hy ws hw] at e4; cases e4
        rw [hy' ws' hw'] at e4'; cases e4'
        exact ⟨Step.laid hT, r3.laid hT, rep_pair hT ho ⟨_, _, rfl, r4, _, _, rfl, r4', rfl⟩⟩
    · exact p2.elim))
theorem si_zip3 (hm : X.mg "zip" = none) (ha : SO X cl W a mo) (hb : SO X cl W b mp) (hc : SO X cl W c mq) (hg : Gl X "zip" := by rfl)
    (hs : starEach [a, b, c] X.env = (false, eval a X.env) :: starEach [b, c] X.env := by rfl) (hs2 : starEach [b, c] X.env = (false, eval b X.env) :: starEach [c] X.env := by rfl) (hs3 : starEach [c] X.env = (false, eval c X.env) :: starEach [] X.env := by rfl) (hpl : (backTo pos (starEach [b, c] X.env)).any (·.1) = false := by rfl) :
    SI X cl W (.Tuple elts kk tpos) (.Call (.Name "zip" p) [a, b, c] [] pos) (iZip3 mo mp mq) :=
  (pi_z3 hg hm (pa_cons ha (pa_cons hb (pa_cons hc pa_nil hs3) hs2) hs) hs hpl).imp fun sg H R ⟨env, h, io, E, hr, p⟩ => rd_mk E hr (p.bindAt .refl fun lv h1 v io1 H1 s1 r1 q1 p1 => rd_mk (E.step s1) r1 (p1.bindAt s1 fun lv2 h2 v2 io2 H2 s2 r2 q2 p2 => rd_mk ((E.step s1).step s2) r2 (p2.bindAt (s1.trans s2) fun lv3 h3 v3 io3 H3 s3 r3 q3 p3 => by
    split at p3
    · rename_i xs ys zs e e' e''
      obtain ⟨u, vs, as, rfl, g1, g2, ap, g3⟩ := src_of (Hs := H) r3 (Gb.RLV.step (Gb.RLV.step (show RLV X.K H io1 H1 lv v from q1) s2) s3) e
      have q2' : RLV X.K H io2 H2 lv2 v2 := Back.back s1 s2.pre q2
      obtain ⟨u', vs', as', rfl, g1', g2', ap', g3'⟩ := src_of (Hs := H) r3 (Gb.RLV.step q2' s3) e'
      have q3' : RLV X.K H io3 H3 lv3 v3 := Back.back (s1.trans s2) s3.pre q3
      obtain ⟨u'', vs'', as'', rfl, g1'', g2'', ap'', g3''⟩ := src_of (Hs := H) r3 q3' e''
      refine ⟨u, u', u'', vs, vs', vs'', rfl, g1, g1', g1'', p3 _ io3 H3 ((s1.trans s2).trans s3) r3 ⟨as ++ (as' ++ as''), _, _, ap.app (ap'.app ap''), walk_p3 (n1 := xs.length) (n2 := ys.length) (n3 := zs.length) (by simp), fun io3 H3 h3 s3 r3 l3 => ?_, fun i io3 H3 h3 x H' d s3 r3 l3 hd y => ?_⟩⟩
      · rw [live_eq, depsLive_app, depsLive_app, Bool.and_eq_true, Bool.and_eq_true] at l3
        obtain ⟨ws, hw, rw'⟩ := g3 io3 H3 h3 (s3.sub fun a m => by simp [m]) r3 l3.1
        obtain ⟨ws', hw', rw2⟩ := g3' io3 H3 h3 (s3.sub fun a m => by simp [m]) r3 l3.2.1
        obtain ⟨ws'', hw'', rw3⟩ := g3'' io3 H3 h3 (s3.sub fun a m => by simp [m]) r3 l3.2.2
        exact ⟨ws, ws', ws'', ⟨hw, rw'.length.symm⟩, ⟨hw', rw2.length.symm⟩, hw'', rw3.length.symm⟩
      · rw [live_eq, depsLive_app, depsLive_app, Bool.and_eq_true, Bool.and_eq_true] at l3
        obtain ⟨ws, hw, rw'⟩ := g3 io3 H3 h3 (s3.sub fun a m => by simp [m]) r3 l3.1
        obtain ⟨ws', hw', rw2⟩ := g3' io3 H3 h3 (s3.sub fun a m => by simp [m]) r3 l3.2.1
        obtain ⟨ws'', hw'', rw3⟩ := g3'' io3 H3 h3 (s3.sub fun a m => by simp [m]) r3 l3.2.2
        obtain ⟨T, o, z, z', z'', rfl, hT, ho, rfl, hy, hy', hy''⟩ := y
        obtain ⟨dx, dyz, e3, e3', rfl⟩ := get_zip hd
        obtain ⟨dy, dz, e5, e5', rfl⟩ := get_zip (f := Prod.mk) e3'
        obtain ⟨w, e4, r4⟩ := rw'.get e3
        obtain ⟨w', e4', r4'⟩ := rw2.get e5
        obtain ⟨w'', e4'', r4''⟩ := rw3.get e5'
        rw [hy ws hw] at e4; cases e4
        rw [hy' ws' hw'] at e4'; cases e4'
        rw [hy'' ws'' hw''] at e4''; cases e4''
        exact ⟨Step.laid hT, r3.laid hT, rep_pair hT ho ⟨_, _, rfl, r4, _, _, rfl, r4', _, _, rfl, r4'', rfl⟩⟩
    · exact p3.elim)))

/-! ### for, while -/
theorem ss_for {g : TgM} {kill : List Nat} (hp : PassesOwn (model X.prog X.w) X.A X.env X.xe) (hc : X.calm = true) (hi : SI X cl W tg a mi) (hg : SG X tg g) (hb : SB X cl W sa m) (hs : ∀ x, foldedSetIterable a X.env x = pure x := by intro _; rfl) : SS X cl W (.For tg a sa [] pos) (sFor mi g m kill) :=
  (ps_for hp hc hi hg hb hs).imp fun D sg H ⟨env, h, io, E, hr, p⟩ => rdI_mk E hr (p.out E fun t h1 J io1 H1 e1 s1 r1 q1 p1 => by
    obtain ⟨as, G, Y, ap, w, hG, hY⟩ := q1
    refine for_it w (fun i sg H => ∃ env h io, Step X.K io1 H1 io H ∧ ERel X.K io H sg env ∧ HRel X.K cl io H h ∧ postS X.K cl W io H (forL g m kill t (t.items.drop i) env h) D) ⟨env, h1, io1, .refl, E.step s1, r1, p1⟩ ?_ ?_ ?_
    · rintro i sg2 H2 hi ⟨env2, h2, io2, s2, E2, r2, p2⟩
      refine hG io2 H2 h2 (s2.keeps ap) r2 ?_
      cases q : t.items.drop i with
      | nil =>
        rw [q] at p2
        unfold forL at p2
        split at p2
        · assumption
        · exact p2.elim
      | cons d ds =>
        rw [q] at p2
        unfold forL at p2
        split at p2
        · assumption
        · exact p2.elim
    · rintro i x sg2 H2 H' hi ⟨env2, h2, io2, s2, E2, r2, p2⟩ y
      obtain ⟨d, hd⟩ : ∃ d, t.items[i]? = some d := ⟨t.items[i], List.getElem?_eq_getElem hi⟩
      have ed : t.items.drop i = d :: t.items.drop (i + 1) := by
        rw [List.drop_eq_getElem_cons hi]
        rw [List.getElem?_eq_getElem hi] at hd
        cases hd
        rfl
      rw [ed] at p2
      unfold forL at p2
      split at p2
      · rename_i hl
        obtain ⟨s3, r3, rd⟩ := hY i io2 H2 h2 x H' d (s2.keeps ap) r2 hl hd y
        have E3 := (E2.wipe kill).step s3
        cases q2 : g.set d (wipeE env2 kill) with
        | none => rw [q2] at p2; exact p2.elim
        | some e3 =>
          rw [q2] at p2
          simp only at p2
          refine ⟨d, io2, _, e3, rd, E3, q2, fun sg' E' _ => ⟨e3, h2, io2, E', r3, ?_⟩⟩
          cases q3 : m e3 h2 with
          | nx e h3 =>
            rw [q3] at p2
            simp only at p2
            exact fun io' sg' H3 s4 E4 r4 => ⟨e, h3, io', (s2.trans s3).trans s4, E4, r4, p2.step (s3.trans s4)⟩
          | ct e h3 =>
            rw [q3] at p2
            simp only at p2
            exact fun io' sg' H3 s4 E4 r4 => ⟨e, h3, io', (s2.trans s3).trans s4, E4, r4, p2.step (s3.trans s4)⟩
          | bk e h3 => rw [q3] at p2; exact fun io' sg' H3 s4 E4 r4 => p2 io' sg' H3 (s3.trans s4) E4 r4
          | rt d h3 => rw [q3] at p2; exact fun v io' H3 s4 r4 q4 => p2 v io' H3 (s3.trans s4) r4 q4
          | exc x e h3 => rw [q3] at p2; exact fun cls dd io' sg' H3 s4 E4 r4 q4 => p2 cls dd io' sg' H3 (s3.trans s4) E4 r4 q4
          | stuck => rw [q3] at p2; exact p2.elim
      · exact p2.elim
    · rintro sg2 H2 ⟨env2, h2, io2, s2, E2, r2, p2⟩
      rw [List.drop_length] at p2
      unfold forL at p2
      split at p2
      · exact p2 io2 sg2 H2 .refl (E2.wipe kill) r2
      · exact p2.elim)
theorem ss_while {kill : List Nat} (hp : PassesOwn (model X.prog X.w) X.A X.env X.xe) (hc : ST X cl W c mt) (hb : SB X cl W sa m) : SS X cl W (.While c sa [] pos) (sWhile mt m kill) :=
  (ps_while hp hc hb).imp fun D sg H ⟨env, h, io, E, hr, p⟩ => by
    refine ⟨fun k sg H => ∃ env h io, ERel X.K io H sg env ∧ HRel X.K cl io H h ∧ postS X.K cl W io H (whileL mt m kill k env h) D, ⟨_, env, h, io, E, hr, p⟩, ?_⟩
    rintro k sg2 H2 ⟨env2, h2, io2, E2, r2, p2⟩
    cases k with
    | zero => exact p2.elim
    | succ k =>
      unfold whileL at p2
      have E0 := E2
      have E2 := E2.wipe kill
      refine rd_mk E2 r2 (p2.out E0 fun b h3 b' io3 H3 e3 s3 r3 q3 p3 => ?_)
      cases q3
      have E3 := E2.step s3
      cases b with
      | false => exact iteF (p3 io3 sg2 H3 .refl E3 r3)
      | true =>
        refine iteT ⟨fun sg H => ∃ env h io, ERel X.K io H sg env ∧ HRel X.K cl io H h ∧ postS X.K cl W io H (whileL mt m kill k env h) D, fun sg' H' hh => ⟨k, Nat.lt_succ_self k, hh⟩, rdS_mk E3 r3 ?_⟩
        simp only at p3
        cases q4 : m (wipeE env2 kill) h3 with
        | nx e h4 => rw [q4] at p3; exact fun io' sg' H' s4 E4 r4 => ⟨e, h4, io', E4, r4, p3.step s4⟩
        | ct e h4 => rw [q4] at p3; exact fun io' sg' H' s4 E4 r4 => ⟨e, h4, io', E4, r4, p3.step s4⟩
        | bk e h4 => rw [q4] at p3; exact p3
        | rt d h4 => rw [q4] at p3; exact p3
        | exc x e h4 => rw [q4] at p3; exact p3
        | stuck => rw [q4] at p3; exact p3.elim
end
end Gb

/-! GbI: comprehensions -/
namespace Gb
open PySem L2
/-- within a comprehension nothing may be raised -/
def WF : WX := fun _ _ _ _ => False
theorem takesF (X : Cx) : Takes X WF := fun _ _ ⟨_, _, _, _, _, _, _, _, _, _, _, _, _, _, _, _, w⟩ => w.elim
theorem wipe_none {sg : L2.St} : ∀ {vs ws : List Nat}, (∀ i ∈ vs, i ∈ ws) → wipe (wipe sg vs) ws = wipe sg ws
  | [], _, _ => rfl
  | v :: vs, ws, h => by
    show wipe ((wipe sg vs).set v none) ws = _
    rw [wipe_set (h v (by simp)), wipe_none fun i m => h i (by simp [m])]
section
variable {K : PySem.W.Frag} {cl : Nat → Addr} {W : WX} {io io1 : List Addr} {sg sg1 : L2.St} {H H1 : Hp} {h : PHeap} {Dd : Addr} {av ws : List V}
theorem postR.calm {α β γ δ : Type} {R : Hp → List Addr → Hp → α → β → Prop} {S : Hp → List Addr → Hp → γ → δ → Prop} {r : Res α} {f : α → PHeap → Res γ} {Q : δ → Hp → Prop} {Q' : β → Hp → Prop} (p : postR S K cl W io1 sg1 H1 (r.calm.bind f) Q)
    (k : ∀ a h b io2 H2, Step K io H io2 H2 → HRel K cl io2 H2 h → R H io2 H2 a b → postR S K cl W io1 sg1 H1 (f a h) Q → Q' b H2) : postR R K cl WF io sg H r Q' := by
  cases r with
  | ok a h => exact fun b io2 H2 s hr q => k a h b io2 H2 s hr q p
  | exc e h => exact p.elim
  | stuck => exact p
/-! a list that stands apart is written -/
theorem tup_over (e : H Dd = some (.lst av)) {a : Addr} {vs : List V} (s : TupA K H a vs) : TupA K (upd H Dd (.lst ws)) a vs :=
  sqT_keep (fun b o u q => by rw [upd_ne (fun z => by rw [z, e] at q; cases q)]; exact q) s
theorem fro_over (e : H Dd = some (.lst av)) {a : Addr} {vs : List V} (s : FroL K H a vs) : FroL K (upd H Dd (.lst ws)) a vs :=
  fro_keep (fun b o u q => by rw [upd_ne (fun z => by rw [z, e] at q; cases q)]; exact q) s
theorem Rep.over (e : H Dd = some (.lst av)) {d : D} {v : V} (r : Rep K io H d v) : Rep K io (upd H Dd (.lst ws)) d v := r.mono (fun _ _ h => h) (fun _ _ => tup_over e) fun _ _ => fro_over e
theorem RepL.over (e : H Dd = some (.lst av)) {d : List D} {v : List V} (r : RepL K io H d v) : RepL K io (upd H Dd (.lst ws)) d v := r.mono (fun _ _ h => h) (fun _ _ => tup_over e) fun _ _ => fro_over e
theorem HRel.over (e : H Dd = some (.lst av)) (n : Dd ∉ io) (r : HRel K cl io H h) : HRel K cl io (upd H Dd (.lst ws)) h := by
  refine ⟨r.len, r.nd, fun i a c h1 h2 => ?_⟩
  have na : a ≠ Dd := fun z => n (by rw [← z]; exact List.mem_of_getElem? h1)
  have q := r.cell i a c h1 h2
  cases c with
  | lst xs => obtain ⟨vs, g1, g2⟩ := q; exact ⟨vs, by rw [upd_ne na]; exact g1, g2.over e⟩
  | dct kvs => exact q
  | ins c fs => obtain ⟨dx, vs, g1, g2⟩ := q; exact ⟨dx, vs, by rw [upd_ne na]; exact g1, g2.1, g2.2.over e⟩
theorem Step.over (s : Step K io1 H1 io H) (n1 : H1 Dd = none) (e : H Dd = some (.lst av)) : Step K io1 H1 io (upd H Dd (.lst ws)) :=
  ⟨s.pre, s.new, fun b o h m => by rw [upd_ne (fun z => by rw [z, n1] at h; cases h)]; exact s.keep b o h m, fun a vs h => tup_over e (s.tup a vs h), fun a vs h => fro_over e (s.fro a vs h)⟩
theorem Keeps.over {as : List Addr} (s : Keeps K as io1 H1 io H) (n1 : Dd ∉ as) (e : H Dd = some (.lst av)) : Keeps K as io1 H1 io (upd H Dd (.lst ws)) :=
  ⟨s.pre, fun a vs h => tup_over e (s.tup a vs h), fun a vs h => fro_over e (s.fro a vs h), fun a m => by rw [upd_ne (fun z => n1 (by rw [← z]; exact m))]; exact s.same a m⟩
theorem Keeps.trans {as : List Addr} {io2 : List Addr} {H2 : Hp} {Hs : Hp} (s : Keeps K as io1 H1 io H) (ap : Apart Hs as io1 H1) (t : Step K io H io2 H2) (hn : ∀ a ∈ as, a ∉ io) : Keeps K as io1 H1 io2 H2 := by
  obtain ⟨l, e⟩ := s.pre
  obtain ⟨l2, e2⟩ := t.pre
  refine ⟨⟨l ++ l2, by rw [e2, e, List.append_assoc]⟩, fun a vs h => t.tup a vs (s.tup a vs h), fun a vs h => t.fro a vs (s.fro a vs h), fun a m => ?_⟩
  obtain ⟨_, _, o, eo⟩ := ap a m
  rw [eo]
  exact t.keep a o (by rw [s.same a m]; exact eo) (hn a m)
end
section
variable {X : Cx} {cl : Nat → Addr} {W : WX} {a b c e o tg elt iter : Expr} {ifs : List Expr} {es : List Expr} {ma mb mc me : ME} {ml : MA} {mo mp mq : MO} {mt : MT} {mi : MI} {pos p p2 : Pos} {scope : Scope} {own : List (Str × Nat)} {g : TgM}
theorem st_yes : PTs X [] (rd RBool X.K cl W tYesM) := ⟨fun pins s sg H Q I ⟨env, h, io, E, hr, p⟩ => pts_nil.run pins s sg H Q I (p.here hr rfl)⟩
theorem st_oneT (h : ST X cl W c mt) : PTs X [c] (rd RBool X.K cl W mt) := pts_one h
theorem lc_read {vs : List Nat} (hsl : ∀ i ∈ g.slots, i ∈ vs) {sg : L2.St} {H : Hp} {Q : VK} (q : rd (RNew X.K) X.K cl W (mLc mi g mt me vs) sg H Q) : tLc (rdI X.K cl W mi) (rdG X.K g) (rd RBool X.K cl WF mt) (rd (RRep X.K) X.K cl WF me) vs sg H Q := by
  obtain ⟨env, h, io, E, hr, p⟩ := q
  exact rdI_mk E hr (p.bind fun t h1 J io1 H1 e1 s1 r1 q1 p1 => by
    obtain ⟨as, G, Y, ap, w, hG, hY⟩ := q1
    intro Dd hD
    have hz : sizeLine = 16777216 := sizeLine_eq
    have E1 := (E.step s1).wipe2 vs
    refine lc_it (g := rdG X.K g) (tt := rd RBool X.K cl WF mt) (te := rd (RRep X.K) X.K cl WF me) w (fun i Hc => ∃ h io acc av, Step X.K io1 H1 io Hc ∧ HRel X.K cl io Hc h ∧ Hc Dd = some (.lst av) ∧ Dd ∉ io ∧ RepL X.K io Hc acc av ∧
      postR (RNew X.K) X.K cl W io1 sg H1 (lcL g mt me t (wipeE env vs) (t.items.drop i) acc h) Q) ⟨h1, io1, [], [], Step.laid hD, r1.laid hD, upd_same, r1.out hD, rfl, p1⟩ ?_ ?_ ?_
    · rintro i Hc hi ⟨h2, io2, acc, av, s2, r2, d2, n2, rl, p2⟩
      refine hG io2 Hc h2 (s2.keeps ap) r2 ?_
      cases q : t.items.drop i with
      | nil =>
        rw [q] at p2
        unfold lcL at p2
        split at p2
        · assumption
        · exact p2.elim
      | cons d ds =>
        rw [q] at p2
        unfold lcL at p2
        split at p2
        · assumption
        · exact p2.elim
    · rintro i x Hc H' hi ⟨h2, io2, acc, av, s2, r2, d2, n2, rl, p2⟩ y
      obtain ⟨d, hd⟩ : ∃ d, t.items[i]? = some d := ⟨t.items[i], List.getElem?_eq_getElem hi⟩
      have ed : t.items.drop i = d :: t.items.drop (i + 1) := by
        rw [List.drop_eq_getElem_cons hi]
        rw [List.getElem?_eq_getElem hi] at hd
        cases hd
        rfl
      rw [ed] at p2
      unfold lcL at p2
      split at p2
      · rename_i hl
        obtain ⟨s3, r3, rd'⟩ := hY i io2 Hc h2 x H' d (s2.keeps ap) r2 hl hd y
        have E3 := (E1.step s2).step s3
        have d3 := s3.keep Dd _ d2 n2
        cases q2 : g.set d (wipeE env vs) with
        | none => rw [q2] at p2; exact p2.elim
        | some e3 =>
          rw [q2] at p2
          simp only at p2
          refine ⟨d, io2, _, e3, rd', E3, q2, fun sg' E' hw => ⟨by rw [hw _ hsl, wipe_none fun i m => m], ⟨e3, h2, io2, E', r3, p2.calm fun k h4 b io4 H4 s4 r4 q4 p4 => ?_⟩⟩⟩
          cases q4
          have d4 := s4.keep Dd _ d3 n2
          have n4 := s4.out d3 n2
          cases k with
          | false => exact iteF ⟨h4, io4, acc, av, (s2.trans s3).trans s4, r4, d4, n4, (rl.step s3 _ _).step s4 _ _, p4⟩
          | true =>
            refine iteT ⟨e3, h4, io4, E'.step s4, r4, p4.calm fun y h5 yv io5 H5 s5 r5 q5 p5 => ?_⟩
            have d5 := s5.keep Dd _ d4 n4
            have n5 := s5.out d4 n4
            have rl5 := ((rl.step s3 _ _).step s4 _ _).step s5 _ _
            have l5 := rl5.length
            split at p5
            · exact ⟨av, d5, by omega, h5, io5, acc ++ [y], av ++ [yv], (((s2.trans s3).trans s4).trans s5).over hD d5, r5.over d5 n5, upd_same, n5, (rl5.append (show RepL X.K io5 H5 [y] [yv] from ⟨yv, [], rfl, q5, rfl⟩)).over d5, p5⟩
            · exact p5.elim
      · exact p2.elim
    · rintro Hc ⟨h2, io2, acc, av, s2, r2, d2, n2, rl, p2⟩
      rw [List.drop_length] at p2
      unfold lcL at p2
      split at p2
      · exact p2 _ io2 Hc s2 r2 ⟨Dd, av, rfl, hD, n2, d2, rl⟩
      · exact p2.elim)
theorem sn_lc (hc : X.calm = true) (hN : X.N.Nodup) (hi : SI X cl W tg iter mi) (ok : BlkOk X.N X.env.scope scope own)
    (hg : ∀ (s : Shared) (H : Hp) (C : Addr) (cl' : List (Str × Addr)) (fp : List Addr), SG (X.blk s H scope (compEnvC scope cl' C X.env) fp) tg g)
    (ht : ∀ (s : Shared) (H : Hp) (C : Addr) (cl' : List (Str × Addr)) (fp : List Addr), PTs (X.blk s H scope (compEnvC scope cl' C X.env) fp) ifs (rd RBool X.K cl WF mt))
    (he : ∀ (s : Shared) (H : Hp) (C : Addr) (cl' : List (Str × Addr)) (fp : List Addr), SE (X.blk s H scope (compEnvC scope cl' C X.env) fp) cl WF elt me)
    (hsl : ∀ i ∈ g.slots, i ∈ own.map (·.2) := by decide) (hs : ∀ x, foldedSetIterable iter X.env x = pure x := by intro _; rfl) : SN X cl W (.ListComp elt [⟨tg, iter, ifs, 0⟩] scope pos) (mLc mi g mt me (own.map (·.2))) :=
  (pe_lc (g := rdG X.K g) (wi := rdI X.K cl W mi) (tt := rd RBool X.K cl WF mt) (te := rd (RRep X.K) X.K cl WF me) hc hN hi ok hg ht he hs).imp fun sg H Q q => lc_read hsl q
theorem lc2_read {mi1 : MI} {mt1 : MT} {g1 : TgM} {vs vs1 : List Nat} (hsl : ∀ i ∈ g.slots, i ∈ vs) (hsl1 : ∀ i ∈ g1.slots, i ∈ vs1) {sg : L2.St} {H : Hp} {Q : VK} (q : rd (RNew X.K) X.K cl W (mLc2 mi g mt mi1 g1 mt1 me vs vs1) sg H Q) :
    tLc2 (rdI X.K cl W mi) (rdG X.K g) (rd RBool X.K cl WF mt) (rdI X.K cl WF mi1) (rdG X.K g1) (rd RBool X.K cl WF mt1) (rd (RRep X.K) X.K cl WF me) vs vs1 sg H Q := by
  obtain ⟨env, h, io, E, hr, p⟩ := q
  exact rdI_mk E hr (p.bind fun t h1 J io1 H1 e1 s1 r1 q1 p1 => by
    obtain ⟨as, G, Y, ap, w, hG, hY⟩ := q1
    intro Dd hD
    have hz : sizeLine = 16777216 := sizeLine_eq
    have E1 := (E.step s1).wipe2 vs
    have alive : ∀ {i : Nat} {acc : List D} {h : PHeap}, i ≤ t.items.length → postR (RNew X.K) X.K cl W io1 sg H1 (lc2L g mt mi1 g1 mt1 me vs1 t (wipeE env vs) (t.items.drop i) acc h) Q → t.live h = true := by
      intro i acc h _ p2
      cases q : t.items.drop i with
      | nil =>
        rw [q] at p2
        unfold lc2L at p2
        split at p2
        · assumption
        · exact p2.elim
      | cons d ds =>
        rw [q] at p2
        unfold lc2L at p2
        split at p2
        · assumption
        · exact p2.elim
    refine ⟨fun i m Hc => m = t.items.length - i ∧ i ≤ t.items.length ∧ ∃ h io acc av, Step X.K io1 H1 io Hc ∧ HRel X.K cl io Hc h ∧ Hc Dd = some (.lst av) ∧ Dd ∉ io ∧ RepL X.K io Hc acc av ∧
      postR (RNew X.K) X.K cl W io1 sg H1 (lc2L g mt mi1 g1 mt1 me vs1 t (wipeE env vs) (t.items.drop i) acc h) Q, ⟨_, rfl, Nat.zero_le _, h1, io1, [], [], Step.laid hD, r1.laid hD, upd_same, r1.out hD, rfl, p1⟩, ?_⟩
    rintro i m Hc ⟨rfl, hile, h2, io2, acc, av, s2, r2, d2, n2, rl, p2⟩
    have lv := alive hile p2
    have GG := hG io2 Hc h2 (s2.keeps ap) r2 lv
    rcases Nat.lt_or_ge i t.items.length with hi | hge
    · refine .inr ⟨w.goes i Hc hi GG, fun Hn => ∃ h io acc av, Step X.K io1 H1 io Hn ∧ HRel X.K cl io Hn h ∧ Hn Dd = some (.lst av) ∧ Dd ∉ io ∧ RepL X.K io Hn acc av ∧
        postR (RNew X.K) X.K cl W io1 sg H1 (lc2L g mt mi1 g1 mt1 me vs1 t (wipeE env vs) (t.items.drop (i + 1)) acc h) Q, fun H' hh => ⟨t.items.length - (i + 1), by omega, rfl, hi, hh⟩, fun x H' y => ?_⟩
      have y := w.yields i Hc x H' hi GG y
      obtain ⟨d, hd⟩ : ∃ d, t.items[i]? = some d := ⟨t.items[i], List.getElem?_eq_getElem hi⟩
      have ed : t.items.drop i = d :: t.items.drop (i + 1) := by
        rw [List.drop_eq_getElem_cons hi]
        rw [List.getElem?_eq_getElem hi] at hd
        cases hd
        rfl
      rw [ed] at p2
      unfold lc2L at p2
      rw [if_pos lv] at p2
      obtain ⟨s3, r3, rd'⟩ := hY i io2 Hc h2 x H' d (s2.keeps ap) r2 lv hd y
      have E3 := (E1.step s2).step s3
      have d3 := s3.keep Dd _ d2 n2
      cases q2 : g.set d (wipeE env vs) with
      | none => rw [q2] at p2; exact p2.elim
      | some e3 =>
        rw [q2] at p2
        simp only at p2
        refine ⟨d, io2, _, e3, rd', E3, q2, fun sg' E' hw => ⟨by rw [hw _ hsl, wipe_none fun i m => m], ⟨e3, h2, io2, E', r3, p2.calm fun k h4 b io4 H4 s4 r4 q4 p4 => ?_⟩⟩⟩
        cases q4
        have d4 := s4.keep Dd _ d3 n2
        have n4 := s4.out d3 n2
        have s14 := (s2.trans s3).trans s4
        have rl4 := (rl.step s3 _ _).step s4 _ _
        cases k with
        | false => exact iteF ⟨h4, io4, acc, av, s14, r4, d4, n4, rl4, p4⟩
        | true =>
          refine iteT ⟨e3, h4, io4, E'.step s4, r4, p4.calm fun t1 h5 J1 io5 H5 s5 r5 q5 p5 => ?_⟩
          obtain ⟨as1, G1, Y1, ap1, w1, hG1, hY1⟩ := q5
          have nD1 : Dd ∉ as1 := fun m => by
            obtain ⟨z, _⟩ := ap1 Dd m
            rw [d4] at z; cases z
          have d5 := s5.keep Dd _ d4 n4
          have n5 := s5.out d4 n4
          have E5 := ((E'.step s4).step s5).wipe2 vs1
          have K5 : Keeps X.K as1 io5 H5 io5 H5 := (Step.refl).keeps ap1
          -- the inner walk
          have alive1 : ∀ {j : Nat} {acc : List D} {h : PHeap}, postR (RNew X.K) X.K cl W io1 sg H1 ((lc2In g1 mt1 me t1 (wipeE e3 vs1) (t1.items.drop j) acc h).bind fun acc' h3 => lc2L g mt mi1 g1 mt1 me vs1 t (wipeE env vs) (t.items.drop (i + 1)) acc' h3) Q → t1.live h = true := by
            intro j acc h p2
            cases q : t1.items.drop j with
            | nil =>
              rw [q] at p2
              unfold lc2In at p2
              split at p2
              · assumption
              · exact p2.elim
            | cons d ds =>
              rw [q] at p2
              unfold lc2In at p2
              split at p2
              · assumption
              · exact p2.elim
          refine ⟨fun j m Hc => m = t1.items.length - j ∧ j ≤ t1.items.length ∧ ∃ h io acc av, Keeps X.K as1 io5 H5 io Hc ∧ (∀ a ∈ as1, a ∉ io) ∧ Step X.K io1 H1 io Hc ∧ ERel X.K io Hc (wipe sg' vs1) (wipeE e3 vs1) ∧ HRel X.K cl io Hc h ∧ Hc Dd = some (.lst av) ∧ Dd ∉ io ∧ RepL X.K io Hc acc av ∧
            postR (RNew X.K) X.K cl W io1 sg H1 ((lc2In g1 mt1 me t1 (wipeE e3 vs1) (t1.items.drop j) acc h).bind fun acc' h3 => lc2L g mt mi1 g1 mt1 me vs1 t (wipeE env vs) (t.items.drop (i + 1)) acc' h3) Q,
            ⟨_, rfl, Nat.zero_le _, h5, io5, acc, av, K5, fun a m => (ap1 a m).2.1, s14.trans s5, E5, r5, d5, n5, rl4.step s5 _ _, p5⟩, ?_⟩
          rintro j m Hj ⟨rfl, hjle, h6, io6, acc6, av6, k6, o6, s6, E6, r6, d6, n6, rl6, p6⟩
          have lv1 := alive1 p6
          have GG1 := hG1 io6 Hj h6 k6 r6 lv1
          rcases Nat.lt_or_ge j t1.items.length with hj | hge
          · refine .inr ⟨w1.goes j Hj hj GG1, fun Hn => ∃ h io acc av, Keeps X.K as1 io5 H5 io Hn ∧ (∀ a ∈ as1, a ∉ io) ∧ Step X.K io1 H1 io Hn ∧ ERel X.K io Hn (wipe sg' vs1) (wipeE e3 vs1) ∧ HRel X.K cl io Hn h ∧ Hn Dd = some (.lst av) ∧ Dd ∉ io ∧ RepL X.K io Hn acc av ∧
              postR (RNew X.K) X.K cl W io1 sg H1 ((lc2In g1 mt1 me t1 (wipeE e3 vs1) (t1.items.drop (j + 1)) acc h).bind fun acc' h3 => lc2L g mt mi1 g1 mt1 me vs1 t (wipeE env vs) (t.items.drop (i + 1)) acc' h3) Q,
              fun H' hh => ⟨t1.items.length - (j + 1), by omega, rfl, hj, hh⟩, fun x1 H' y1 => ?_⟩
            have y1 := w1.yields j Hj x1 H' hj GG1 y1
            obtain ⟨d', hd'⟩ : ∃ d, t1.items[j]? = some d := ⟨t1.items[j], List.getElem?_eq_getElem hj⟩
            have ed' : t1.items.drop j = d' :: t1.items.drop (j + 1) := by
              rw [List.drop_eq_getElem_cons hj]
              rw [List.getElem?_eq_getElem hj] at hd'
              cases hd'
              rfl
            rw [ed'] at p6
            unfold lc2In at p6
            rw [if_pos lv1] at p6
            obtain ⟨s7, r7, rd7⟩ := hY1 j io6 Hj h6 x1 H' d' k6 r6 lv1 hd' y1
            have E7 := E6.step s7
            have d7 := s7.keep Dd _ d6 n6
            have k7 := k6.trans ap1 s7 o6
            cases q7 : g1.set d' (wipeE e3 vs1) with
            | none => rw [q7] at p6; exact p6.elim
            | some e8 =>
              rw [q7] at p6
              simp only at p6
              refine ⟨d', io6, _, e8, rd7, E7, q7, fun sg8 E8 hw8 => ⟨by rw [hw8 _ hsl1, wipe_none fun i m => m], ⟨e8, h6, io6, E8, r7, ?_⟩⟩⟩
              have p6' : postR (RNew X.K) X.K cl W io1 sg H1 ((mt1 e8 h6).calm.bind fun k h1 => ((match k with
                | false => lc2In g1 mt1 me t1 (wipeE e3 vs1) (t1.items.drop (j + 1)) acc6 h1
                | true => (me e8 h1).calm.bind fun y h2 => if acc6.length < 16777216 then lc2In g1 mt1 me t1 (wipeE e3 vs1) (t1.items.drop (j + 1)) (acc6 ++ [y]) h2 else .stuck).bind fun acc' h3 => lc2L g mt mi1 g1 mt1 me vs1 t (wipeE env vs) (t.items.drop (i + 1)) acc' h3)) Q := by
                cases q9 : (mt1 e8 h6).calm with
                | ok k h9 => rw [q9] at p6; exact p6
                | exc e h9 => rw [q9] at p6; exact p6
                | stuck => rw [q9] at p6; exact p6
              refine p6'.calm fun k h9 b9 io9 H9 s9 r9 q9 p9 => ?_
              cases q9
              have d9 := s9.keep Dd _ d7 n6
              have n9 := s9.out d7 n6
              have o9 : ∀ a ∈ as1, a ∉ io9 := fun a m => by
                obtain ⟨_, _, o, eo⟩ := ap1 a m
                exact s9.out (show H' a = some o by rw [k7.same a m, eo]) (o6 a m)
              have k9 := k7.trans ap1 s9 o6
              cases k with
              | false => exact iteF ⟨h9, io9, acc6, av6, k9, o9, (s6.trans s7).trans s9, E7.step s9, r9, d9, n9, (rl6.step s7 _ _).step s9 _ _, p9⟩
              | true =>
                refine iteT ⟨e8, h9, io9, E8.step s9, r9, ?_⟩
                have p9' : postR (RNew X.K) X.K cl W io1 sg H1 ((me e8 h9).calm.bind fun y h2 => ((if acc6.length < 16777216 then lc2In g1 mt1 me t1 (wipeE e3 vs1) (t1.items.drop (j + 1)) (acc6 ++ [y]) h2 else .stuck).bind fun acc' h3 => lc2L g mt mi1 g1 mt1 me vs1 t (wipeE env vs) (t.items.drop (i + 1)) acc' h3)) Q := by
                  cases q10 : (me e8 h9).calm with
                  | ok k h10 => simp only [q10] at p9; exact p9
                  | exc e h10 => simp only [q10] at p9; exact p9
                  | stuck => simp only [q10] at p9; exact p9
                refine p9'.calm fun z h10 zv io10 H10 s10 r10 q10 p10 => ?_
                have d10 := s10.keep Dd _ d9 n9
                have n10 := s10.out d9 n9
                have rl10 := ((rl6.step s7 _ _).step s9 _ _).step s10 _ _
                have l10 := rl10.length
                have o10 : ∀ a ∈ as1, a ∉ io10 := fun a m => by
                  obtain ⟨_, _, o, eo⟩ := ap1 a m
                  exact s10.out (show H9 a = some o by rw [k9.same a m, eo]) (o9 a m)
                have k10 := k9.trans ap1 s10 o9
                split at p10
                · exact ⟨av6, d10, by omega, h10, io10, acc6 ++ [z], av6 ++ [zv], k10.over nD1 d10, o10, (((s6.trans s7).trans s9).trans s10).over hD d10,
                    ⟨((E7.step s9).step s10).len, fun i d hd => by obtain ⟨v, g1, g2⟩ := ((E7.step s9).step s10).get i d hd; exact ⟨v, g1, g2.over d10⟩⟩, HRel.over d10 n10 r10, upd_same, n10, RepL.over d10 (RepL.append rl10 (show RepL X.K io10 H10 [z] [zv] from ⟨zv, [], rfl, q10, rfl⟩)), p10⟩
                · exact p10.elim
          · have ej : j = t1.items.length := by omega
            subst ej
            rw [List.drop_length] at p6
            unfold lc2In at p6
            rw [if_pos lv1] at p6
            exact .inl ⟨w1.stops Hj GG1, h6, io6, acc6, av6, s6, r6, d6, n6, rl6, p6⟩
    · have ei : i = t.items.length := by omega
      subst ei
      rw [List.drop_length] at p2
      unfold lc2L at p2
      rw [if_pos lv] at p2
      exact .inl ⟨w.stops Hc GG, p2 _ io2 Hc s2 r2 ⟨Dd, av, rfl, hD, n2, d2, rl⟩⟩)
/-- two generators -/
theorem sn_lc2 {tg1 iter1 : Expr} {ifs1 : List Expr} {mi1 : MI} {mt1 : MT} {g1 : TgM} {vs1 : List Nat} (hc : X.calm = true) (hN : X.N.Nodup) (hi : SI X cl W tg iter mi) (ok : BlkOk X.N X.env.scope scope own)
    (hg : ∀ (s : Shared) (H : Hp) (C : Addr) (cl' : List (Str × Addr)) (fp : List Addr), SG (X.blk s H scope (compEnvC scope cl' C X.env) fp) tg g)
    (ht : ∀ (s : Shared) (H : Hp) (C : Addr) (cl' : List (Str × Addr)) (fp : List Addr), PTs (X.blk s H scope (compEnvC scope cl' C X.env) fp) ifs (rd RBool X.K cl WF mt))
    (hi1 : ∀ (s : Shared) (H : Hp) (C : Addr) (cl' : List (Str × Addr)) (fp : List Addr), SI (X.blk s H scope (compEnvC scope cl' C X.env) fp) cl WF tg1 iter1 mi1)
    (hg1 : ∀ (s : Shared) (H : Hp) (C : Addr) (cl' : List (Str × Addr)) (fp : List Addr), SG (X.blk s H scope (compEnvC scope cl' C X.env) fp) tg1 g1)
    (ht1 : ∀ (s : Shared) (H : Hp) (C : Addr) (cl' : List (Str × Addr)) (fp : List Addr), PTs (X.blk s H scope (compEnvC scope cl' C X.env) fp) ifs1 (rd RBool X.K cl WF mt1))
    (he : ∀ (s : Shared) (H : Hp) (C : Addr) (cl' : List (Str × Addr)) (fp : List Addr), SE (X.blk s H scope (compEnvC scope cl' C X.env) fp) cl WF elt me)
    (hsl : ∀ i ∈ g.slots, i ∈ own.map (·.2) := by decide) (hsl1 : ∀ i ∈ g1.slots, i ∈ vs1 := by decide) (hv : ∀ i ∈ vs1, i ∈ own.map (·.2) := by decide)
    (hs : ∀ x, foldedSetIterable iter X.env x = pure x := by intro _; rfl) (hs1 : ∀ env x, foldedSetIterable iter1 env x = pure x := by intro _ _; rfl) :
    SN X cl W (.ListComp elt [⟨tg, iter, ifs, 0⟩, ⟨tg1, iter1, ifs1, 0⟩] scope pos) (mLc2 mi g mt mi1 g1 mt1 me (own.map (·.2)) vs1) :=
  (pe_lc2 (g := rdG X.K g) (g1 := rdG X.K g1) (wi1 := rdI X.K cl WF mi1) (tt := rd RBool X.K cl WF mt) (tt1 := rd RBool X.K cl WF mt1) (te := rd (RRep X.K) X.K cl WF me) hc hN hi ok hv hg ht hi1 hg1 ht1 he hs hs1).imp fun sg H Q q => lc2_read hsl hsl1 q

/-- name = [..] -/
theorem asg_new {m : MA} {i : Nat} {D : Ends} {sg : L2.St} {H : Hp} (q : rdS X.K cl W (sAsg (mM (mNL m)) (.name i)) D sg H) : rd (RNew X.K) X.K cl W m sg H fun x H1 => D.nx (sg.set i (some x)) H1 := by
  obtain ⟨env, h, io, E, hr, p⟩ := q
  refine rd_mk E hr ?_
  unfold sAsg mM mNL at p
  cases e : m env h with
  | ok ds h1 =>
    rw [e] at p
    rintro v io1 H1 s1 r1 ⟨b, vs, rfl, h0, hn, hb, q⟩
    have st : Step X.K io H (io1 ++ [b]) H1 := s1.cell hn h0
    exact p _ _ H1 st ((E.step st).set ⟨b, by rw [List.getElem?_append_right (by rw [r1.len]; exact Nat.le_refl _), r1.len]; simp, rfl⟩) (r1.cell1 hn ⟨vs, hb, q⟩)
  | exc x h1 => rw [e] at p; exact fun cls dd io1 H1 s r q => p cls dd io1 sg H1 s (E.step s) r q
  | stuck => rw [e] at p; exact p
theorem ss_setLc {y : Str} {py spos : Pos} (i : Nat) (hc : X.calm = true) (hN : X.N.Nodup) (hi : SI X cl W tg iter mi) (ok : BlkOk X.N X.env.scope scope own)
    (hg : ∀ (s : Shared) (H : Hp) (C : Addr) (cl' : List (Str × Addr)) (fp : List Addr), SG (X.blk s H scope (compEnvC scope cl' C X.env) fp) tg g)
    (ht : ∀ (s : Shared) (H : Hp) (C : Addr) (cl' : List (Str × Addr)) (fp : List Addr), PTs (X.blk s H scope (compEnvC scope cl' C X.env) fp) ifs (rd RBool X.K cl WF mt))
    (he : ∀ (s : Shared) (H : Hp) (C : Addr) (cl' : List (Str × Addr)) (fp : List Addr), SE (X.blk s H scope (compEnvC scope cl' C X.env) fp) cl WF elt me)
    (hy : X.N[i]? = some y := by rfl) (hyl : X.env.scope.names.lookup y = some .local := by rfl)
    (hsw : swapsWith (.ListComp elt [⟨tg, iter, ifs, 0⟩] scope pos) (some (.Name y py)) spos.line X.env = pure true := by rfl)
    (hsl : ∀ i ∈ g.slots, i ∈ own.map (·.2) := by decide) (hs : ∀ x, foldedSetIterable iter X.env x = pure x := by intro _; rfl) :
    SS X cl W (.Assign [.Name y py] (.ListComp elt [⟨tg, iter, ifs, 0⟩] scope pos) spos) (sAsg (mM (mNL (mLc mi g mt me (own.map (·.2))))) (.name i)) :=
  (ps_setLc (g := rdG X.K g) (wi := rdI X.K cl W mi) (tt := rd RBool X.K cl WF mt) (te := rd (RRep X.K) X.K cl WF me) hc hN hy hyl hsw hi ok hg ht he hs).imp fun D sg H q => lc_read hsl (asg_new q)
theorem ss_setLc2 {y : Str} {py spos : Pos} {tg1 iter1 : Expr} {ifs1 : List Expr} {mi1 : MI} {mt1 : MT} {g1 : TgM} {vs1 : List Nat} (i : Nat) (hc : X.calm = true) (hN : X.N.Nodup) (hi : SI X cl W tg iter mi) (ok : BlkOk X.N X.env.scope scope own)
    (hg : ∀ (s : Shared) (H : Hp) (C : Addr) (cl' : List (Str × Addr)) (fp : List Addr), SG (X.blk s H scope (compEnvC scope cl' C X.env) fp) tg g)
    (ht : ∀ (s : Shared) (H : Hp) (C : Addr) (cl' : List (Str × Addr)) (fp : List Addr), PTs (X.blk s H scope (compEnvC scope cl' C X.env) fp) ifs (rd RBool X.K cl WF mt))
    (hi1 : ∀ (s : Shared) (H : Hp) (C : Addr) (cl' : List (Str × Addr)) (fp : List Addr), SI (X.blk s H scope (compEnvC scope cl' C X.env) fp) cl WF tg1 iter1 mi1)
    (hg1 : ∀ (s : Shared) (H : Hp) (C : Addr) (cl' : List (Str × Addr)) (fp : List Addr), SG (X.blk s H scope (compEnvC scope cl' C X.env) fp) tg1 g1)
    (ht1 : ∀ (s : Shared) (H : Hp) (C : Addr) (cl' : List (Str × Addr)) (fp : List Addr), PTs (X.blk s H scope (compEnvC scope cl' C X.env) fp) ifs1 (rd RBool X.K cl WF mt1))
    (he : ∀ (s : Shared) (H : Hp) (C : Addr) (cl' : List (Str × Addr)) (fp : List Addr), SE (X.blk s H scope (compEnvC scope cl' C X.env) fp) cl WF elt me)
    (hy : X.N[i]? = some y := by rfl) (hyl : X.env.scope.names.lookup y = some .local := by rfl)
    (hsw : swapsWith (.ListComp elt [⟨tg, iter, ifs, 0⟩, ⟨tg1, iter1, ifs1, 0⟩] scope pos) (some (.Name y py)) spos.line X.env = pure true := by rfl)
    (hsl : ∀ i ∈ g.slots, i ∈ own.map (·.2) := by decide) (hsl1 : ∀ i ∈ g1.slots, i ∈ vs1 := by decide) (hv : ∀ i ∈ vs1, i ∈ own.map (·.2) := by decide)
    (hs : ∀ x, foldedSetIterable iter X.env x = pure x := by intro _; rfl) (hs1 : ∀ env x, foldedSetIterable iter1 env x = pure x := by intro _ _; rfl) :
    SS X cl W (.Assign [.Name y py] (.ListComp elt [⟨tg, iter, ifs, 0⟩, ⟨tg1, iter1, ifs1, 0⟩] scope pos) spos) (sAsg (mM (mNL (mLc2 mi g mt mi1 g1 mt1 me (own.map (·.2)) vs1))) (.name i)) :=
  (ps_setLc2 (g := rdG X.K g) (g1 := rdG X.K g1) (wi := rdI X.K cl W mi) (wi1 := rdI X.K cl WF mi1) (tt := rd RBool X.K cl WF mt) (tt1 := rd RBool X.K cl WF mt1) (te := rd (RRep X.K) X.K cl WF me) hc hN hy hyl hsw hi ok hv hg ht hi1 hg1 ht1 he hs hs1).imp fun D sg H q => lc2_read hsl hsl1 (asg_new q)
end
end Gb

/-! GbJ: defs, calls, the law's end -/
namespace Gb
open PySem PySem.Spec PyProof.Rows L2

section
variable {K : PySem.W.Frag} {cl : Nat → Addr} {io l : List Addr} {H : Hp} {h : PHeap}
mutual
theorem Rep.small : ∀ (d : D) (v : V), d.small io.length = true → Rep K (io ++ l) H d v → Rep K io H d v
  | .non, _, _, h => h
  | .bl _, _, _, h => h
  | .int _, _, _, h => h
  | .str _, _, _, h => h
  | .ref n, _, s, ⟨a, h, e⟩ => ⟨a, by
      have s' : n < io.length := of_decide_eq_true s
      rw [List.getElem?_append_left s'] at h; exact h, e⟩
  | .tup xs, _, s, ⟨a, vs, e, h, r⟩ => ⟨a, vs, e, h, RepL.small xs vs s r⟩
  | .fro xs, _, s, ⟨a, vs, e, h, r⟩ => ⟨a, vs, e, h, RepL.small xs vs s r⟩
theorem RepL.small : ∀ (ds : List D) (vs : List V), D.smallL io.length ds = true → RepL K (io ++ l) H ds vs → RepL K io H ds vs
  | [], _, _, h => h
  | d :: ds, _, s, ⟨v, r, e, h, t⟩ => by
    simp only [D.smallL, Bool.and_eq_true] at s
    exact ⟨v, r, e, Rep.small d v s.1 h, RepL.small ds r s.2 t⟩
end
theorem smallL_map {n : Nat} : ∀ {fs : List (Str × D)}, (fs.all fun p => p.2.small n) = true → D.smallL n (fs.map (·.2)) = true
  | [], _ => rfl
  | p :: fs, s => by
    simp only [List.all_cons, Bool.and_eq_true] at s
    simp only [List.map_cons, D.smallL, s.1, smallL_map s.2, Bool.and_self]
theorem CellRep.small {a : Addr} {c : Cell} (s : c.small io.length = true) (r : CellRep K cl (io ++ l) H a c) : CellRep K cl io H a c := by
  cases c with
  | lst xs => obtain ⟨vs, h1, h2⟩ := r; exact ⟨vs, h1, RepL.small xs vs s h2⟩
  | dct kvs => exact r
  | ins c fs => obtain ⟨dx, vs, h1, h2⟩ := r; exact ⟨dx, vs, h1, h2.1, RepL.small _ _ (smallL_map s) h2.2⟩
theorem gc_rep {io0 io1 : List Addr} {H0 H1 : Hp} {h1 : PHeap} {d : D} {v : V} (h0 : io0.length = h.length) (s : Step K io0 H0 io1 H1) (hr : HRel K cl io1 H1 h1) (r : Rep K io1 H1 d v) :
    ∃ io2, Step K io0 H0 io2 H1 ∧ HRel K cl io2 H1 (gc h.length d h1) ∧ Rep K io2 H1 d v := by
  unfold gc
  split
  · exact ⟨io1, s, hr, r⟩
  · rename_i hl
    split
    · rename_i hc
      simp only [Bool.and_eq_true] at hc
      obtain ⟨l, e⟩ := s.pre
      subst e
      refine ⟨io0, ⟨⟨[], by simp⟩, fun b m n => absurd m n, fun b o e n => ?_, s.tup, s.fro⟩, ⟨?_, ?_, fun n a c g1 g2 => ?_⟩, Rep.small d v (by rw [h0]; exact hc.1) r⟩
      · by_cases m : b ∈ io0 ++ l
        · rw [s.new b m n] at e; cases e
        · exact s.keep b o e n
      · rw [List.length_take, h0]; omega
      · exact (List.nodup_append.mp hr.nd).1
      · have hn : n < io0.length := (List.getElem?_eq_some_iff.mp g1).1
        have hn2 : n < h.length := by rw [← h0]; exact hn
        rw [List.getElem?_take, if_pos hn2] at g2
        refine CellRep.small ?_ (hr.cell n a c (by rw [List.getElem?_append_left hn]; exact g1) g2)
        have m : c ∈ h1.take h.length := by
          refine List.mem_of_getElem? (i := n) ?_
          rw [List.getElem?_take, if_pos hn2]; exact g2
        rw [h0]
        exact List.all_eq_true.mp hc.2 c m
    · exact ⟨io1, s, hr, r⟩
end
/-- what a def promises, by its plain word -/
def spOf (K : PySem.W.Frag) (cl : Nat → Addr) (f : List D → PHeap → Res D) : Sp := fun vs H Q E => ∃ ds h io, RepL K io H ds vs ∧ HRel K cl io H h ∧ postR (RRep K) K cl (fun c d _ H => E c d H) io [] H (f ds h) Q
section
variable {P : Program} {w : World} {K : PySem.W.Frag} {mg : Str → Option Value} {base : Heap} {cl : Nat → Addr}
theorem env_start {io : List Addr} {H : Hp} {ds : List D} {vs : List V} (N : List Str) (r : RepL K io H ds vs) : ERel K io H (L2.start N vs) (ds.map some ++ List.replicate (N.length - ds.length) none) := by
  have hl := r.length
  refine ⟨by simp [L2.start, hl], fun i d e => ?_⟩
  by_cases hi : i < ds.length
  · rw [List.getElem?_append_left (by simpa using hi), List.getElem?_map] at e
    cases q : ds[i]? with
    | none => rw [q] at e; cases e
    | some x =>
      rw [q] at e
      cases e
      obtain ⟨v, h1, h2⟩ := r.get q
      refine ⟨v, ?_, h2⟩
      unfold L2.start
      rw [List.getElem?_append_left (by simpa [← hl] using hi), List.getElem?_map, h1]
      rfl
  · rw [List.getElem?_append_right (by simpa using hi)] at e
    have := List.mem_of_getElem? e
    simp at this
theorem fn_ok {x qual : Str} {st : Stmt} {f : Addr} {fd : FuncData} {N ps : List Str} {k np ns : Nat} {m : MS} (F : Fun K x qual st f fd) (S : FnScope N ps (defScope st)) (hN : N.length = ns) (hps : ps.length = np)
    (hb : ∀ (cdv : Value) (A : Around) (outer : List Env) (s : Shared) (H : Hp) (E : XK), Room k (A.deeper (envOfC qual (defScope st) s.heap.objs.size f cdv)) →
      Takes (cxOf (L2.CX P w) P w K mg base N qual (defScope st) f cdv A outer s H E) (fun c d _ H => E c d H) →
      SB (cxOf (L2.CX P w) P w K mg base N qual (defScope st) f cdv A outer s H E) cl (fun c d _ H => E c d H) (defBody st) m) : FnOk P w K mg base (L2.CX P w) (k + 1) f fd ps (spOf K cl (runFn np ns m)) := by
  refine F.okX S (fun vs H Q E h => ?_) (fun cdv A outer s H vs Q E hr h => ⟨_, hb cdv A outer s H E hr (takes_of rfl rfl rfl rfl), ?_⟩)
  · obtain ⟨ds, h, io, r, hr, p⟩ := h
    unfold runFn at p
    split at p
    · rename_i hl; rw [← r.length, hl, hps]
    · exact p.elim
  · obtain ⟨ds, h, io, r, hr, p⟩ := h
    unfold runFn at p
    split at p
    · rename_i hl
      have E0 := env_start N r
      rw [hN, hl] at E0
      refine rdS_mk E0 hr ?_
      cases q : m (ds.map some ++ List.replicate (ns - np) none) h with
      | nx e h1 =>
        rw [q] at p
        intro io' sg' H' s' E' r'
        obtain ⟨io2, g1, g2, g3⟩ := gc_rep (d := .non) (v := .non) hr.len s' r' rfl
        exact p _ io2 H' g1 g2 g3
      | rt d h1 =>
        rw [q] at p
        intro v io' H' s' r' rd
        obtain ⟨io2, g1, g2, g3⟩ := gc_rep hr.len s' r' rd
        exact p _ io2 H' g1 g2 g3
      | exc e e2 h1 => rw [q] at p; exact fun cls dd io' sg' H' s' E' r' x => p cls dd io' H' s' r' x
      | bk e h1 => rw [q] at p; exact p.elim
      | ct e h1 => rw [q] at p; exact p.elim
      | stuck => rw [q] at p; exact p.elim
    · exact p.elim
end
section
variable {X : Cx} {cl : Nat → Addr} {W : WX} {k : Nat} {f : Addr} {fd : FuncData} {ps : List Str} {g : List D → PHeap → Res D} {x : Str} {p pos : Pos} {e : Expr} {es : List Expr} {ml : MA}
theorem sp_use {sg : L2.St} {io : List Addr} {H : Hp} {Q : VK} {ds : List D} {vs : List V} {h : PHeap} (r : RepL X.K io H ds vs) (hr : HRel X.K cl io H h) (p : postR (RRep X.K) X.K cl W io sg H (g ds h) Q) : spOf X.K cl g vs H Q (WE W sg) := by
  refine ⟨ds, h, io, r, hr, ?_⟩
  cases q : g ds h with
  | ok d h1 => rw [q] at p; exact p
  | exc e h1 => rw [q] at p; exact p
  | stuck => rw [q] at p; exact p
/-- f(a, ..), f a def of the text -/
theorem sd_call (F : FnOk X.prog X.w X.K X.mg X.base (L2.CX X.prog X.w) k f fd ps (spOf X.K cl g)) (hr : Room k X.A) (hm : X.mg x = some (.ref f)) (hk : PySem.W.keepIn X.K (.ref f) = true) (hb : Binds X.K fd ps []) (tk : Takes X W) (ha : SA X cl W (e :: es) ml)
    (hg : Gl X x := by rfl) (hdb : (x == ("__debug__" : Str)) = false := by decide) (he : starEach (e :: es) X.env = (false, eval e X.env) :: starEach es X.env := by rfl) (hpl : (backTo pos (starEach es X.env)).any (·.1) = false := by rfl) : SE X cl W (.Call (.Name x p) (e :: es) [] pos) (mCall g ml) :=
  (pe_callS (E := WE W) F hr hg hm hk hb (passAt tk) ha hdb he hpl).imp fun sg H Q ⟨env, h, io, E, hr, p⟩ => rd_mk E hr (p.bind fun ds h1 vs io1 H1 e1 s1 r1 q1 p1 => sp_use q1 r1 p1)
end
/-- the law's end -/
theorem walk {l : PySem.W.OpenLaw} {q : Program} {loose : List Str} {XP : (Str → Option Value) → Heap → Prop} {YP : World → Heap → Prop} {d : DefRec} {K : Params → PySem.W.Frag} {x : Str} {kk : Nat} {cl : Nat → Addr} {g : List D → PHeap → Res D} (hn : l.most = some 63) (hdf : d.params.defaults = []) (hr : Room kk callerA)
    (hY : ∀ (w : World) (h : Heap), YP w h → (K w.params).In h)
    (F : ∀ (w : World) (mg : Str → Option Value) (fa : Addr) (h : Heap), (K w.params).In h → h.Ns mainGlobals mg → mg d.name = some (.ref fa) →
      ∃ fd : FuncData, (∀ (s : Shared) (u : Value), BindsTo s fd ⟨[u], []⟩ [(x, u)]) ∧ ∀ base : Heap, (K w.params).In base → base.Ns mainGlobals mg → FnOk l.prog w (K w.params) mg base (L2.CX l.prog w) kk fa fd [x] (spOf (K w.params) cl g))
    (hlaw : ∀ ns : List Int, ns.length ≤ 63 → ∃ h, g [.fro (ns.map .int)] [] = .ok (.bl true) h) :
    PySem.W.WalkO q loose XP YP l.row.toRowW d [] (fun f vs => PySem.call f vs) :=
  L2.walk_of (n := 63) (k := kk) (x := x) (CX := fun w => L2.CX l.prog w) (sp := fun w => spOf (K w.params) cl g) hn (by decide) hdf hr hY F (fun w H a ns hl hO hS => by
    obtain ⟨h, e⟩ := hlaw ns hl
    refine ⟨[.fro (ns.map .int)], [], [], ⟨_, [], rfl, ⟨a, ns.map V.int, rfl, ?_, ?_⟩, rfl⟩, ⟨rfl, List.nodup_nil, fun n a c h1 _ => by simp at h1⟩, ?_⟩
    · rcases hS with (hS | hS) | hS
      · rcases hO a with z | ⟨o, xs, z⟩
        · rw [hS] at z; cases z
        · rw [hS] at z; cases z
      · exact .inl hS
      · exact .inr hS
    · have : ∀ ns : List Int, RepL (K w.params) [] H (ns.map D.int) (ns.map V.int) := fun ns => by
        induction ns with
        | nil => rfl
        | cons n ns ih => exact ⟨_, _, rfl, rfl, ih⟩
      exact this ns
    · rw [e]
      exact fun v io' H' s r q => q) fun w H s e s' z => by
    obtain ⟨_, _, _, _, _, _, _, _, _, _, _, _, z⟩ := z
    exact z
end Gb

/-! GbK: odds and ends for printed walks -/
namespace Gb
open PySem PySem.Spec PyProof.Rows L2
theorem hu65 {k : Nat} {A : Around} (r : Room k A) : A.units + 65 < cLine := by have := r.un; omega
section
variable {X : Cx} {cl : Nat → Addr} {W : WX} {a b c e : Expr} {ma mb mc : ME} {ml : MA} {mo mp : MO} {pos p p2 : Pos}
theorem sd_sub (ha : SE X cl W a ma) (hb : SE X cl W b mb) : SE X cl W (.BinOp a .Sub b pos) (mBin fSub ma mb) := sd_op op_sub o2_sub ha hb
theorem sd_div (ha : SE X cl W a ma) (hb : SE X cl W b mb) : SE X cl W (.BinOp a .FloorDiv b pos) (mBin fDiv ma mb) := sd_op op_fdivN o2_div ha hb
theorem sd_mod (ha : SE X cl W a ma) (hb : SE X cl W b mb) : SE X cl W (.BinOp a .Mod b pos) (mBin fMod ma mb) := sd_op op_modN o2_mod ha hb
theorem sd_pow (ha : SE X cl W a ma) (hb : SE X cl W b mb) : SE X cl W (.BinOp a .Pow b pos) (mBin fPow ma mb) := sd_op op_pow o2_pow ha hb
theorem sd_neg (ha : SE X cl W a ma) : SE X cl W (.UnaryOp .USub a pos) (mUn fNeg ma) := sd_un un_neg o1_neg ha
theorem sd_eq (hu : X.A.units + 65 < cLine) (ha : SO X cl W a mo) (hb : SO X cl W b mp) : SE X cl W (.Compare a [.Eq] [b] pos) (m2 (fEqO id) mo mp) := so_cmp (op_eqP hu) ov_eq ha hb (nomark _)
theorem sd_ne (hu : X.A.units + 65 < cLine) (ha : SO X cl W a mo) (hb : SO X cl W b mp) : SE X cl W (.Compare a [.NotEq] [b] pos) (m2 (fEqO not) mo mp) := so_cmp (op_neP hu) ov_eq ha hb (nomark _)
theorem sd_in (hu : X.A.units + 65 < cLine) (ha : SO X cl W a mo) (hb : SO X cl W b mp) (hm : behindInMarks .In b = false := by rfl) : SE X cl W (.Compare a [.In] [b] pos) (m2 (fInO id) mo mp) := so_cmp (op_inP hu) ov_in ha hb hm
theorem sd_notin (hu : X.A.units + 65 < cLine) (ha : SO X cl W a mo) (hb : SO X cl W b mp) (hm : behindInMarks .NotIn b = false := by rfl) : SE X cl W (.Compare a [.NotIn] [b] pos) (m2 (fInO not) mo mp) := so_cmp (op_notinP hu) ov_in ha hb hm
theorem st_eq (hu : X.A.units + 65 < cLine) (ha : SO X cl W a mo) (hb : SO X cl W b mp) : ST X cl W (.Compare a [.Eq] [b] pos) (mTB (m2 (fEqO id) mo mp)) := st_cmpO (op_eqP hu) ov_eq ha hb (nomark _)
theorem st_ne (hu : X.A.units + 65 < cLine) (ha : SO X cl W a mo) (hb : SO X cl W b mp) : ST X cl W (.Compare a [.NotEq] [b] pos) (mTB (m2 (fEqO not) mo mp)) := st_cmpO (op_neP hu) ov_eq ha hb (nomark _)
theorem st_in (hu : X.A.units + 65 < cLine) (ha : SO X cl W a mo) (hb : SO X cl W b mp) (hm : behindInMarks .In b = false := by rfl) : ST X cl W (.Compare a [.In] [b] pos) (mTB (m2 (fInO id) mo mp)) := st_cmpO (op_inP hu) ov_in ha hb hm
theorem st_notin (hu : X.A.units + 65 < cLine) (ha : SO X cl W a mo) (hb : SO X cl W b mp) (hm : behindInMarks .NotIn b = false := by rfl) : ST X cl W (.Compare a [.NotIn] [b] pos) (mTB (m2 (fInO not) mo mp)) := st_cmpO (op_notinP hu) ov_in ha hb hm
theorem sd_lt (ha : SE X cl W a ma) (hb : SE X cl W b mb) : SE X cl W (.Compare a [.Lt] [b] pos) (mBin fLt ma mb) := sd_cmp op_lt o2_cmpI ha hb (nomark _)
theorem sd_le (ha : SE X cl W a ma) (hb : SE X cl W b mb) : SE X cl W (.Compare a [.LtE] [b] pos) (mBin fLe ma mb) := sd_cmp op_le o2_cmpI ha hb (nomark _)
theorem sd_gt (ha : SE X cl W a ma) (hb : SE X cl W b mb) : SE X cl W (.Compare a [.Gt] [b] pos) (mBin fGt ma mb) := sd_cmp op_gt o2_cmpI ha hb (nomark _)
theorem sd_ge (ha : SE X cl W a ma) (hb : SE X cl W b mb) : SE X cl W (.Compare a [.GtE] [b] pos) (mBin fGe ma mb) := sd_cmp op_ge o2_cmpI ha hb (nomark _)
theorem st_lt (ha : SE X cl W a ma) (hb : SE X cl W b mb) : ST X cl W (.Compare a [.Lt] [b] pos) (mTB (mBin fLt ma mb)) := st_cmp op_lt o2_cmpI ha hb (nomark _)
theorem st_le (ha : SE X cl W a ma) (hb : SE X cl W b mb) : ST X cl W (.Compare a [.LtE] [b] pos) (mTB (mBin fLe ma mb)) := st_cmp op_le o2_cmpI ha hb (nomark _)
theorem st_gt (ha : SE X cl W a ma) (hb : SE X cl W b mb) : ST X cl W (.Compare a [.Gt] [b] pos) (mTB (mBin fGt ma mb)) := st_cmp op_gt o2_cmpI ha hb (nomark _)
theorem st_ge (ha : SE X cl W a ma) (hb : SE X cl W b mb) : ST X cl W (.Compare a [.GtE] [b] pos) (mTB (mBin fGe ma mb)) := st_cmp op_ge o2_cmpI ha hb (nomark _)
theorem sd_is (ha : SE X cl W a ma) (hb : SE X cl W b mb) : SE X cl W (.Compare a [.Is] [b] pos) (mBin fIs ma mb) := sd_cmp op_isM o2_is ha hb (nomark _)
theorem sd_isnot (ha : SE X cl W a ma) (hb : SE X cl W b mb) : SE X cl W (.Compare a [.IsNot] [b] pos) (mBin fIsNot ma mb) := sd_cmp op_isnotM o2_isnot ha hb (nomark _)
theorem st_is (ha : SE X cl W a ma) (hb : SE X cl W b mb) : ST X cl W (.Compare a [.Is] [b] pos) (mTB (mBin fIs ma mb)) := st_cmp op_isM o2_is ha hb (nomark _)
theorem st_isnot (ha : SE X cl W a ma) (hb : SE X cl W b mb) : ST X cl W (.Compare a [.IsNot] [b] pos) (mTB (mBin fIsNot ma mb)) := st_cmp op_isnotM o2_isnot ha hb (nomark _)
theorem sd_lele (ha : SE X cl W a ma) (hb : SE X cl W b mb) (hc : SE X cl W c mc) : SE X cl W (.Compare a [.LtE, .LtE] [b, c] pos) (mChain fLe fLe ma mb mc) := sd_chain op_le op_le o2_cmpI o2_cmpI ha hb hc (nomark c)
theorem st_lele (ha : SE X cl W a ma) (hb : SE X cl W b mb) (hc : SE X cl W c mc) : ST X cl W (.Compare a [.LtE, .LtE] [b, c] pos) (mTB (mChain fLe fLe ma mb mc)) := st_chain op_le op_le o2_cmpI o2_cmpI ha hb hc (nomark c)
theorem sd_lelt (ha : SE X cl W a ma) (hb : SE X cl W b mb) (hc : SE X cl W c mc) : SE X cl W (.Compare a [.LtE, .Lt] [b, c] pos) (mChain fLe fLt ma mb mc) := sd_chain op_le op_lt o2_cmpI o2_cmpI ha hb hc (nomark c)
theorem st_lelt (ha : SE X cl W a ma) (hb : SE X cl W b mb) (hc : SE X cl W c mc) : ST X cl W (.Compare a [.LtE, .Lt] [b, c] pos) (mTB (mChain fLe fLt ma mb mc)) := st_chain op_le op_lt o2_cmpI o2_cmpI ha hb hc (nomark c)
end
end Gb

/-! GbS: the plain words told by equations: no Python in sight -/
namespace Gb
open PySem L2
section
variable {α β : Type} {env : PEnv} {h : PHeap} {a b c : ME} {t u : MT} {r : MA} {mo mp mq : MO} {s s2 : MS} {d x y : D}
@[simp] theorem s_var0 : mVar 0 (some d :: env) h = .ok d h := rfl
@[simp] theorem s_varS {i : Nat} {o : Option D} : mVar (i + 1) (o :: env) h = mVar i env h := by simp [mVar]
@[simp] theorem s_c : mC d env h = .ok d h := rfl
@[simp] theorem s_bin {f : D → D → PHeap → Res D} : mBin f a b env h = (a env h).bind fun x h1 => (b env h1).bind fun y h2 => f x y h2 := rfl
@[simp] theorem s_un {f : D → PHeap → Res D} : mUn f a env h = (a env h).bind f := rfl
def pick {α : Type} (k : Bool) (x y : α) : α := match k with
  | true => x
  | false => y
@[simp] theorem pick_t {x y : α} : pick true x y = x := rfl
@[simp] theorem pick_f {x y : α} : pick false x y = y := rfl
theorem pick_if {k : Bool} {x y : α} : pick k x y = if k = true then x else y := by cases k <;> rfl
@[simp] theorem pick_dec {p : Prop} [Decidable p] {x y : α} : pick (decide p) x y = if p then x else y := by by_cases h : p <;> simp [h]
@[simp] theorem s_if : mIf t a b env h = (t env h).bind fun k h1 => pick k (a env h1) (b env h1) := rfl
@[simp] theorem s_nil : mNil env h = .ok [] h := rfl
@[simp] theorem s_cons : mCons a r env h = (a env h).bind fun x h1 => (r env h1).bind fun xs h2 => .ok (x :: xs) h2 := rfl
@[simp] theorem s_tup : mTup r env h = (r env h).bind fun xs h1 => if xs.length ≤ 16777216 then .ok (.tup xs) h1 else .stuck := rfl
@[simp] theorem s_call {f : List D → PHeap → Res D} : mCall f r env h = (r env h).bind f := rfl
@[simp] theorem s_tst {f : D → PHeap → Res Bool} : mTst a f env h = (a env h).bind f := rfl
def tbD (d : D) (h : PHeap) : Res Bool := match d with
  | .bl b => .ok b h
  | _ => .stuck
@[simp] theorem s_tbD {k : Bool} : tbD (.bl k) h = .ok k h := rfl
@[simp] theorem s_tb : mTB a env h = (a env h).bind tbD := rfl
@[simp] theorem s_not : tNotM t env h = (t env h).bind fun k h1 => .ok (!k) h1 := rfl
@[simp] theorem s_and : tAndM t u env h = (t env h).bind fun k h1 => pick k (u env h1) (.ok false h1) := rfl
@[simp] theorem s_or : tOrM t u env h = (t env h).bind fun k h1 => pick k (.ok true h1) (u env h1) := rfl
@[simp] theorem tr_bl {k : Bool} : truthD (.bl k) h = .ok k h := rfl
@[simp] theorem tr_int {i : Int} : truthD (.int i) h = .ok (i != 0) h := rfl
@[simp] theorem tr_non : truthD .non h = .ok false h := rfl
@[simp] theorem tr_tup {xs : List D} : truthD (.tup xs) h = .ok (!xs.isEmpty) h := rfl
@[simp] theorem s_mand : mAnd a b env h = (a env h).bind fun d h1 => (truthD d h1).bind fun k h2 => pick k (b env h2) (.ok d h2) := rfl
@[simp] theorem s_mor : mOr a b env h = (a env h).bind fun d h1 => (truthD d h1).bind fun k h2 => pick k (.ok d h2) (b env h2) := rfl
@[simp] theorem s_mnot : mNot a env h = (a env h).bind fun d h1 => (truthD d h1).bind fun k h2 => .ok (.bl (!k)) h2 := rfl
@[simp] theorem s_chain {f g : D → D → PHeap → Res D} : mChain f g a b c env h = (a env h).bind fun x h1 => (b env h1).bind fun y h2 => (f x y h2).bind fun z h3 => (tbD z h3).bind fun k h4 => pick k ((c env h4).bind fun w h5 => g y w h5) (.ok (.bl false) h4) := by
  unfold mChain
  congr 1
  funext x h1
  congr 1
  funext y h2
  congr 1
  funext z h3
  cases z with
  | bl k => cases k <;> rfl
  | _ => rfl
/-! operands -/
@[simp] theorem s_val : mVal a env h = (a env h).bind fun d h1 => .ok (.val d) h1 := rfl
@[simp] theorem s_nl : mNL r env h = (r env h).bind fun xs h1 => .ok (.new xs) h1 := rfl
@[simp] theorem s_disp : mDisp r env h = (r env h).bind fun xs h1 => if xs.length ≤ 16777216 then .ok xs h1 else .stuck := rfl
@[simp] theorem s_m1 {f : LV → PHeap → Res α} : m1 f mo env h = (mo env h).bind f := rfl
@[simp] theorem s_m2 {f : LV → LV → PHeap → Res α} : m2 f mo mp env h = (mo env h).bind fun x h1 => (mp env h1).bind fun y h2 => f x y h2 := rfl
def matD (v : LV) (h : PHeap) : Res D := match v with
  | .val d => .ok d h
  | .new xs => .ok (.ref h.length) (h ++ [.lst xs])
@[simp] theorem matD_val : matD (.val d) h = .ok d h := rfl
@[simp] theorem matD_new {xs : List D} : matD (.new xs) h = .ok (.ref h.length) (h ++ [.lst xs]) := rfl
@[simp] theorem s_m : mM mo env h = (mo env h).bind matD := rfl
@[simp] theorem it_new {xs : List D} : (LV.new xs).items h = some xs := rfl
@[simp] theorem it_fro {xs : List D} : (LV.val (.fro xs)).items h = some xs := rfl
@[simp] theorem sq_new {xs : List D} : (LV.new xs).seq h = some xs := rfl
@[simp] theorem sq_fro {xs : List D} : (LV.val (.fro xs)).seq h = some xs := rfl
@[simp] theorem sq_tup {xs : List D} : (LV.val (.tup xs)).seq h = some xs := rfl
@[simp] theorem sq_int {i : Int} : (LV.val (.int i)).seq h = none := rfl
@[simp] theorem sq_bl {i : Bool} : (LV.val (.bl i)).seq h = none := rfl
@[simp] theorem sq_non : (LV.val .non).seq h = none := rfl
@[simp] theorem sq_str {z : Str} : (LV.val (.str z)).seq h = none := rfl
theorem sq_ref {n : Nat} {xs : List D} (e : h[n]? = some (.lst xs)) : (LV.val (.ref n)).seq h = some xs := by simp [LV.seq, LV.items, e]
theorem it_ref {n : Nat} {xs : List D} (e : h[n]? = some (.lst xs)) : (LV.val (.ref n)).items h = some xs := by simp [LV.items, e]
@[simp] theorem ow_new {xs : List D} : (LV.new xs).own h = some xs := rfl
@[simp] theorem ow_int {i : Int} : (LV.val (.int i)).own h = none := rfl
@[simp] theorem ow_tup {i : List D} : (LV.val (.tup i)).own h = none := rfl
@[simp] theorem ow_str {i : Str} : (LV.val (.str i)).own h = none := rfl
theorem ow_ref {n : Nat} {xs : List D} (e : h[n]? = some (.lst xs)) : (LV.val (.ref n)).own h = some xs := by simp [LV.own, e]
/-! operations -/
@[simp] theorem f_add {i j : Int} : fAddO (.val (.int i)) (.val (.int j)) h = .ok (.val (.int (i + j))) h := rfl
@[simp] theorem f_addT {i j : List D} : fAddO (.val (.tup i)) (.val (.tup j)) h = if i.length + j.length ≤ 16777216 then .ok (.val (.tup (i ++ j))) h else .stuck := by
  simp only [fAddO, ow_tup, fAdd, Res.val]
  split <;> rfl
@[simp] theorem f_mul {i j : Int} : fMulO (.val (.int i)) (.val (.int j)) h = if small64 i || small64 j then .ok (.val (.int (i * j))) h else .stuck := by
  simp only [fMulO, ow_int, fMul, Res.val]
  split <;> rfl
@[simp] theorem f_mulT {i : List D} {k : Int} : fMulO (.val (.tup i)) (.val (.int k)) h = if -1000 ≤ k ∧ k ≤ 1000 ∧ i.length ≤ 1000 then .ok (.val (.tup (List.replicate k.toNat i).flatten)) h else .stuck := by
  simp only [fMulO, ow_tup, fMul, Res.val]
  split <;> rfl
theorem f_addL {v w : LV} {xs ys : List D} (e : v.own h = some xs) (e2 : w.own h = some ys) (hl : xs.length + ys.length ≤ 16777216) : fAddO v w h = .ok (.new (xs ++ ys)) h := by
  simp only [fAddO, e, e2]
  rw [if_pos hl]
@[simp] theorem f_addNN {xs ys : List D} : fAddO (.new xs) (.new ys) h = if xs.length + ys.length ≤ 16777216 then .ok (.new (xs ++ ys)) h else .stuck := rfl
@[simp] theorem f_mulN {xs : List D} {k : Int} : fMulO (.new xs) (.val (.int k)) h = if -1000000 ≤ k ∧ k ≤ 1000000 ∧ xs.length * k.toNat ≤ 16777216 then .ok (.new (List.replicate k.toNat xs).flatten) h else .stuck := rfl
@[simp] theorem f_sub {i j : Int} : fSub (.int i) (.int j) h = .ok (.int (i - j)) h := rfl
@[simp] theorem f_div {i j : Int} : fDiv (.int i) (.int j) h = if j ≠ 0 ∧ j.natAbs < 1073741824 then .ok (.int (i.fdiv j)) h else .stuck := rfl
@[simp] theorem f_mod {i j : Int} : fMod (.int i) (.int j) h = if j ≠ 0 then .ok (.int (i.fmod j)) h else .stuck := rfl
@[simp] theorem f_pow {i j : Int} : fPow (.int i) (.int j) h = if 0 ≤ j ∧ j ≤ 1000000 ∧ i.natAbs < 2 ^ 64 then .ok (.int (i ^ j.toNat)) h else .stuck := rfl
@[simp] theorem f_neg {i : Int} : fNeg (.int i) h = .ok (.int (-i)) h := rfl
@[simp] theorem f_cmp {p : Int → Int → Bool} {i j : Int} : fCmpI p (.int i) (.int j) h = .ok (.bl (p i j)) h := rfl
@[simp] theorem f_isN : fIs d .non h = .ok (.bl (decide (d = .non))) h := rfl
@[simp] theorem f_isNN : fIsNot d .non h = .ok (.bl (!decide (d = .non))) h := rfl
@[simp] theorem f_isB {p q : Bool} : fIs (.bl p) (.bl q) h = .ok (.bl (decide (p = q))) h := rfl
@[simp] theorem f_lenT {xs : List D} : fLen (.val (.tup xs)) h = .ok (.int xs.length) h := rfl
@[simp] theorem f_lenF {xs : List D} : fLen (.val (.fro xs)) h = .ok (.int xs.length) h := rfl
@[simp] theorem f_lenN {xs : List D} : fLen (.new xs) h = .ok (.int xs.length) h := rfl
theorem f_lenR {xs : List D} {n : Nat} (e : h[n]? = some (.lst xs)) : fLen (.val (.ref n)) h = .ok (.int xs.length) h := by simp [fLen, sq_ref e]
@[simp] theorem f_tuple {v : LV} : fTuple v h = match v.seq h with | some xs => .ok (.tup xs) h | none => .stuck := rfl
@[simp] theorem f_list {v : LV} : fList v h = match v.seq h with | some xs => .ok xs h | none => .stuck := rfl
@[simp] theorem f_int {i : Int} : fInt (.val (.int i)) h = .ok (.int i) h := rfl
@[simp] theorem f_intB {i : Bool} : fInt (.val (.bl i)) h = .ok (.int (if i then 1 else 0)) h := rfl
@[simp] theorem f_abs {i : Int} : fAbs (.val (.int i)) h = .ok (.int (if i < 0 then -i else i)) h := rfl
@[simp] theorem f_max {i j : Int} : fMax2 (.val (.int i)) (.val (.int j)) h = .ok (.int (if j > i then j else i)) h := rfl
@[simp] theorem f_min {i j : Int} : fMin2 (.val (.int i)) (.val (.int j)) h = .ok (.int (if j < i then j else i)) h := rfl
@[simp] theorem f_isiN {k : Kd} {xs : List D} : fIsi k (.new xs) h = .ok (.bl (Kd.lst.isi k)) h := rfl
@[simp] theorem f_isiI {k : Kd} {i : Int} : fIsi k (.val (.int i)) h = .ok (.bl (Kd.int.isi k)) h := rfl
@[simp] theorem f_isiB {k : Kd} {i : Bool} : fIsi k (.val (.bl i)) h = .ok (.bl (Kd.bl.isi k)) h := rfl
@[simp] theorem f_isiS {k : Kd} {i : Str} : fIsi k (.val (.str i)) h = .ok (.bl (Kd.str.isi k)) h := rfl
@[simp] theorem f_isiT {k : Kd} {i : List D} : fIsi k (.val (.tup i)) h = .ok (.bl (Kd.tup.isi k)) h := rfl
@[simp] theorem f_isi0 {k : Kd} : fIsi k (.val .non) h = .ok (.bl (Kd.non.isi k)) h := rfl
@[simp] theorem k1 : Kd.isi .int .int = true := rfl
@[simp] theorem k2 : Kd.isi .int .bl = false := rfl
@[simp] theorem k3 : Kd.isi .bl .int = true := rfl
@[simp] theorem k4 : Kd.isi .bl .bl = true := rfl
@[simp] theorem k5 : Kd.isi .tup .tup = true := rfl
@[simp] theorem k6 : Kd.isi .int .tup = false := rfl
def ixD (xs : List D) (i : Int) (h : PHeap) : Res D := match atI xs i with
  | some d => .ok d h
  | none => .stuck
@[simp] theorem f_ixT {xs : List D} {i : Int} : fIx (.val (.tup xs)) (.val (.int i)) h = ixD xs i h := rfl
@[simp] theorem f_ixF {xs : List D} {i : Int} : fIx (.val (.fro xs)) (.val (.int i)) h = ixD xs i h := rfl
@[simp] theorem f_ixN {xs : List D} {i : Int} : fIx (.new xs) (.val (.int i)) h = ixD xs i h := rfl
theorem f_ixR {xs : List D} {n : Nat} {i : Int} (e : h[n]? = some (.lst xs)) : fIx (.val (.ref n)) (.val (.int i)) h = ixD xs i h := by
  simp only [fIx, sq_ref e]
  rfl
theorem atI_nat {α : Type} {xs : List α} (i : Nat) (hi : i < xs.length) : atI xs (i : Int) = xs[i]? := by
  unfold atI ixN
  rw [if_pos (by omega), if_pos (by omega)]
  simp
@[simp] theorem ix0 {x : D} {xs : List D} : ixD (x :: xs) 0 h = .ok x h := by
  have := atI_nat (xs := x :: xs) 0 (by simp)
  simp only [Int.natCast_zero] at this
  simp [ixD, show atI (x :: xs) 0 = (x :: xs)[0]? from this]
@[simp] theorem ix1 {x y : D} {xs : List D} : ixD (x :: y :: xs) 1 h = .ok y h := by
  have := atI_nat (xs := x :: y :: xs) 1 (by simp)
  simp [ixD, show atI (x :: y :: xs) 1 = (x :: y :: xs)[1]? from this]
@[simp] theorem ix2 {x y z : D} {xs : List D} : ixD (x :: y :: z :: xs) 2 h = .ok z h := by
  have := atI_nat (xs := x :: y :: z :: xs) 2 (by simp)
  simp [ixD, show atI (x :: y :: z :: xs) 2 = (x :: y :: z :: xs)[2]? from this]
@[simp] theorem ix3 {x y z u : D} {xs : List D} : ixD (x :: y :: z :: u :: xs) 3 h = .ok u h := by
  have := atI_nat (xs := x :: y :: z :: u :: xs) 3 (by simp)
  simp [ixD, show atI (x :: y :: z :: u :: xs) 3 = (x :: y :: z :: u :: xs)[3]? from this]
@[simp] theorem ix4 {x y z u v : D} {xs : List D} : ixD (x :: y :: z :: u :: v :: xs) 4 h = .ok v h := by
  have := atI_nat (xs := x :: y :: z :: u :: v :: xs) 4 (by simp)
  simp [ixD, show atI (x :: y :: z :: u :: v :: xs) 4 = (x :: y :: z :: u :: v :: xs)[4]? from this]
@[simp] theorem ix5 {x y z u v w : D} {xs : List D} : ixD (x :: y :: z :: u :: v :: w :: xs) 5 h = .ok w h := by
  have := atI_nat (xs := x :: y :: z :: u :: v :: w :: xs) 5 (by simp)
  simp [ixD, show atI (x :: y :: z :: u :: v :: w :: xs) 5 = (x :: y :: z :: u :: v :: w :: xs)[5]? from this]
@[simp] theorem ix6 {x y z u v w p : D} {xs : List D} : ixD (x :: y :: z :: u :: v :: w :: p :: xs) 6 h = .ok p h := by
  have := atI_nat (xs := x :: y :: z :: u :: v :: w :: p :: xs) 6 (by simp)
  simp [ixD, show atI (x :: y :: z :: u :: v :: w :: p :: xs) 6 = (x :: y :: z :: u :: v :: w :: p :: xs)[6]? from this]
@[simp] theorem ix7 {x y z u v w p q : D} {xs : List D} : ixD (x :: y :: z :: u :: v :: w :: p :: q :: xs) 7 h = .ok q h := by
  have := atI_nat (xs := x :: y :: z :: u :: v :: w :: p :: q :: xs) 7 (by simp)
  simp [ixD, show atI (x :: y :: z :: u :: v :: w :: p :: q :: xs) 7 = (x :: y :: z :: u :: v :: w :: p :: q :: xs)[7]? from this]
theorem ix_some {xs : List D} {i : Int} (h0 : 0 ≤ i) (h1 : i < xs.length) : ∃ d, xs[i.toNat]? = some d ∧ ixD xs i h = .ok d h := by
  have hi : i.toNat < xs.length := by omega
  have := atI_nat (xs := xs) i.toNat hi
  rw [Int.toNat_of_nonneg h0] at this
  exact ⟨xs[i.toNat], List.getElem?_eq_getElem hi, by simp [ixD, this, List.getElem?_eq_getElem hi]⟩
@[simp] theorem f_slT {xs : List D} {l u : Option Int} : fSl (.val (.tup xs)) l u h = .ok (.val (.tup (cutD xs l u))) h := rfl
@[simp] theorem s_sl {l u : MP} : mSl mo l u env h = (mo env h).bind fun x h1 => (l env h1).bind fun l h2 => (u env h2).bind fun u h3 => fSl x l u h3 := rfl
@[simp] theorem s_pn : pNone env h = .ok none h := rfl
def partD (d : D) (h : PHeap) : Res (Option Int) := match d with
  | .int i => .ok (some i) h
  | _ => .stuck
@[simp] theorem s_partD {i : Int} : partD (.int i) h = .ok (some i) h := rfl
@[simp] theorem s_ps : pSome a env h = (a env h).bind partD := rfl
/-! statements -/
def Out.thn (o : Out) (s : MS) : Out := match o with
  | .nx e h1 => s e h1
  | o => o
@[simp] theorem thn_nx : (Out.nx env h).thn s = s env h := rfl
@[simp] theorem thn_rt : (Out.rt d h).thn s = .rt d h := rfl
@[simp] theorem thn_bk : (Out.bk env h).thn s = .bk env h := rfl
@[simp] theorem thn_ct : (Out.ct env h).thn s = .ct env h := rfl
@[simp] theorem thn_ex : (Out.exc d env h).thn s = .exc d env h := rfl
@[simp] theorem thn_st : Out.stuck.thn s = .stuck := rfl
@[simp] theorem s_seq : sSeq s s2 env h = (s env h).thn s2 := rfl
@[simp] theorem s_next : sNext env h = .nx env h := rfl
@[simp] theorem s_brk : sBreak env h = .bk env h := rfl
@[simp] theorem s_cont : sCont env h = .ct env h := rfl
@[simp] theorem s_stk : sStuck env h = .stuck := rfl
def setO (g : TgM) (env : PEnv) (d : D) (h : PHeap) : Out := match g.set d env with
  | some e => .nx e h
  | none => .stuck
@[simp] theorem s_asg {g : TgM} : sAsg a g env h = (a env h).out env (setO g env) := rfl
@[simp] theorem set_name {i : Nat} : setO (.name i) env d h = .nx (env.set i (some d)) h := rfl
@[simp] theorem set_tup {gs : List TgM} {xs : List D} : setO (.tup gs) env (.tup xs) h = match TgM.sets gs xs env with | some e => .nx e h | none => .stuck := by
  unfold setO
  rw [TgM.set]
@[simp] theorem tg_name {i : Nat} : TgM.set (.name i) d env = some (env.set i (some d)) := by rw [TgM.set]
@[simp] theorem tg_tup {gs : List TgM} {xs : List D} : TgM.set (.tup gs) (.tup xs) env = TgM.sets gs xs env := by rw [TgM.set]
@[simp] theorem tg_nil : TgM.sets [] [] env = some env := by rw [TgM.sets]
@[simp] theorem tg_cons {g : TgM} {gs : List TgM} {xs : List D} : TgM.sets (g :: gs) (d :: xs) env = (g.set d env).bind (TgM.sets gs xs) := by
  rw [TgM.sets]
  cases g.set d env <;> rfl
@[simp] theorem s_par {is : List Nat} : sPar is r env h = (r env h).out env fun xs h1 => if xs.length = is.length then .nx ((is.zip xs).foldl (fun e p => e.set p.1 (some p.2)) env) h1 else .stuck := rfl
@[simp] theorem s_drop : sDrop a env h = (a env h).out env fun _ h1 => .nx env h1 := rfl
@[simp] theorem s_ret : sRet a env h = (a env h).out env fun d h1 => .rt d h1 := rfl
@[simp] theorem s_retN : sRetN env h = .rt .non h := rfl
@[simp] theorem s_sif : sIf t s s2 env h = (t env h).out env fun k h1 => pick k (s env h1) (s2 env h1) := rfl
@[simp] theorem s_while {kill : List Nat} : sWhile t s kill env h = whileL t s kill 1000000000000 env h := rfl
@[simp] theorem s_for {i : MI} {g : TgM} {kill : List Nat} : sFor i g s kill env h = (i env h).out env fun t h1 => forL g s kill t t.items env h1 := rfl
@[simp] theorem s_lc {i : MI} {g : TgM} {own : List Nat} : mLc i g t a own env h = (i env h).bind fun t' h1 => lcL g t a t' (wipeE env own) t'.items [] h1 := rfl
@[simp] theorem s_yes : tYesM env h = .ok true h := rfl
@[simp] theorem w_nil : wipeE env [] = env := rfl
@[simp] theorem w_cons {v : Nat} {vs : List Nat} : wipeE env (v :: vs) = (wipeE env vs).set v none := rfl
def retO (n : Nat) (o : Out) : Res D := match o with
  | .nx _ h1 => .ok .non (gc n .non h1)
  | .rt d h1 => .ok d (gc n d h1)
  | .exc e _ h1 => .exc e h1
  | _ => .stuck
@[simp] theorem ret_nx {n : Nat} : retO n (.nx env h) = .ok .non (gc n .non h) := rfl
@[simp] theorem ret_rt {n : Nat} : retO n (.rt d h) = .ok d (gc n d h) := rfl
@[simp] theorem ret_ex {n : Nat} : retO n (.exc d env h) = .exc d h := rfl
theorem s_fn {np ns : Nat} {as : List D} (hl : as.length = np) : runFn np ns s as h = retO h.length (s (as.map some ++ List.replicate (ns - np) none) h) := by
  unfold runFn
  rw [if_pos hl]
  cases s (as.map some ++ List.replicate (ns - np) none) h <;> rfl
@[simp] theorem s_fnS {np ns : Nat} {as : List D} : runFn np ns s as h = if as.length = np then retO h.length (s (as.map some ++ List.replicate (ns - np) none) h) else .stuck := by
  split
  · rename_i hl; exact s_fn hl
  · rename_i hl; unfold runFn; rw [if_neg hl]
theorem gc_same {n : Nat} (hl : h.length ≤ n) : gc n d h = h := by
  unfold gc
  rw [if_pos hl]
theorem gc_self : gc h.length d h = h := gc_same (Nat.le_refl _)
def storeO (d x y : D) (env : PEnv) (h : PHeap) : Out := match x, y with
  | .ref n, .int k => match h[n]? with
    | some (.lst xs) => match ixN xs.length k with
      | some j => .nx env (h.set n (.lst (xs.set j d)))
      | none => .stuck
    | _ => .stuck
  | _, _ => .stuck
@[simp] theorem s_sub {v o i : ME} : sSub v o i env h = (v env h).out env fun d h1 => (o env h1).out env fun x h2 => (i env h2).out env fun y h3 => storeO d x y env h3 := rfl
theorem store_ref {n : Nat} {k : Int} {xs : List D} {j : Nat} (e : h[n]? = some (.lst xs)) (hj : ixN xs.length k = some j) : storeO d (.ref n) (.int k) env h = .nx env (h.set n (.lst (xs.set j d))) := by
  simp only [storeO, e, hj]
def mtE (f : List D → List D → Option (D × List D)) (n : Nat) (ys : List D) (h2 : PHeap) : Res D := match h2[n]? with
  | some (.lst xs) => match f xs ys with
    | some (z, zs) => .ok z (h2.set n (.lst zs))
    | none => .stuck
  | _ => .stuck
def mtD (f : List D → List D → Option (D × List D)) (as : MA) (env : PEnv) (d : D) (h1 : PHeap) : Res D := match d with
  | .ref n => match h1[n]? with
    | some (.lst _) => (as env h1).bind (mtE f n)
    | _ => .stuck
  | _ => .stuck
@[simp] theorem s_mt {f : List D → List D → Option (D × List D)} {o : ME} : mMt f o r env h = (o env h).bind (mtD f r env) := rfl
@[simp] theorem mtD_ref {f : List D → List D → Option (D × List D)} {n : Nat} : mtD f r env (.ref n) h = match h[n]? with | some (.lst _) => (r env h).bind (mtE f n) | _ => .stuck := rfl
theorem mtE_append {n : Nat} {xs : List D} (e : h[n]? = some (.lst xs)) (hl : xs.length < 16777216) : mtE fAppend n [d] h = .ok .non (h.set n (.lst (xs ++ [d]))) := by
  simp only [mtE, e, fAppend]
  rw [if_pos hl]
theorem mtE_pop {n : Nat} {xs : List D} (e : h[n]? = some (.lst xs)) (hd : xs[xs.length - 1]? = some d) : mtE fPop n [] h = .ok d (h.set n (.lst xs.dropLast)) := by
  simp only [mtE, e, fPop, hd]
/-! what is walked -/
@[simp] theorem s_src : iSrc mo env h = (mo env h).bind fun lv h1 => match lv.seq h1 with | some xs => .ok ⟨xs, srcDeps lv xs⟩ h1 | none => .stuck := rfl
@[simp] theorem s_z2 : iZip2 mo mp env h = (mo env h).bind fun x h1 => (mp env h1).bind fun y h2 => match x.seq h2, y.seq h2 with | some xs, some ys => .ok ⟨List.zipWith (fun p q => D.tup [p, q]) xs ys, srcDeps x xs ++ srcDeps y ys⟩ h2 | _, _ => .stuck := rfl
@[simp] theorem s_z3 : iZip3 mo mp mq env h = (mo env h).bind fun x h1 => (mp env h1).bind fun y h2 => (mq env h2).bind fun z h3 => match x.seq h3, y.seq h3, z.seq h3 with | some xs, some ys, some zs => .ok ⟨List.zipWith (fun p q => D.tup [p, q.1, q.2]) xs (ys.zip zs), srcDeps x xs ++ (srcDeps y ys ++ srcDeps z zs)⟩ h3 | _, _, _ => .stuck := rfl
@[simp] theorem s_enu : iEnu mo env h = (mo env h).bind fun lv h1 => match lv.seq h1 with | some xs => .ok ⟨enuD xs, srcDeps lv xs⟩ h1 | none => .stuck := rfl
@[simp] theorem s_r1 : iR1 a env h = (a env h).bind fun y h1 => match y with | .int hi => if -(2 ^ 60) ≤ hi ∧ hi ≤ 2 ^ 60 then .ok ⟨rngD 0 hi, []⟩ h1 else .stuck | _ => .stuck := rfl
@[simp] theorem s_r2 : iR2 a b env h = (a env h).bind fun x h1 => (b env h1).bind fun y h2 => match x, y with | .int lo, .int hi => if (-(2 ^ 60) ≤ lo ∧ lo ≤ 2 ^ 60) ∧ -(2 ^ 60) ≤ hi ∧ hi ≤ 2 ^ 60 then .ok ⟨rngD lo hi, []⟩ h2 else .stuck | _, _ => .stuck := rfl
@[simp] theorem sd_tup' {xs ys : List D} : srcDeps (.val (.tup xs)) ys = [] := rfl
@[simp] theorem sd_fro' {xs ys : List D} : srcDeps (.val (.fro xs)) ys = [] := rfl
@[simp] theorem sd_new' {xs ys : List D} : srcDeps (.new xs) ys = [] := rfl
@[simp] theorem sd_ref' {n : Nat} {ys : List D} : srcDeps (.val (.ref n)) ys = [(n, ys)] := rfl
@[simp] theorem lv_nil {xs : List D} : Itr.live ⟨xs, []⟩ h = true := rfl
/-! loops -/
/-- a for whose body goes on at each turn -/
theorem for_inv {g : TgM} {kill : List Nat} {t : Itr} {I : Nat → PEnv → PHeap → Prop} (h0 : I 0 env h) (hl : ∀ i env h, I i env h → t.live h = true)
    (hs : ∀ i d env h, t.items[i]? = some d → I i env h → ∃ e1, g.set d (wipeE env kill) = some e1 ∧ ∃ e h', (s e1 h = .nx e h' ∨ s e1 h = .ct e h') ∧ I (i + 1) e h') :
    ∃ e h', forL g s kill t t.items env h = .nx (wipeE e kill) h' ∧ I t.items.length e h' := by
  have key : ∀ (ds : List D) (i : Nat) (env : PEnv) (h : PHeap), t.items.drop i = ds → i + ds.length = t.items.length → I i env h → ∃ e h', forL g s kill t ds env h = .nx (wipeE e kill) h' ∧ I t.items.length e h' := by
    intro ds
    induction ds with
    | nil =>
      intro i env h _ el q
      have ei : i = t.items.length := by simpa using el
      subst ei
      exact ⟨env, h, by unfold forL; rw [if_pos (hl _ _ _ q)], q⟩
    | cons d ds ih =>
      intro i env h e0 el q
      have hi : i < t.items.length := by rw [List.length_cons] at el; omega
      rw [List.drop_eq_getElem_cons hi] at e0
      injection e0 with e1 e2
      obtain ⟨e3, g1, e4, h4, g2, q4⟩ := hs i d env h (by rw [List.getElem?_eq_getElem hi, e1]) q
      obtain ⟨e5, h5, g5, q5⟩ := ih (i + 1) e4 h4 e2 (by rw [List.length_cons] at el; omega) q4
      refine ⟨e5, h5, ?_, q5⟩
      unfold forL
      rw [if_pos (hl i env h q), g1]
      rcases g2 with g2 | g2 <;> simp only [g2] <;> exact g5
  exact key t.items 0 env h rfl (by omega) h0
/-- a comprehension: the items made one by one -/
theorem lc_inv {g : TgM} {t' : Itr} {I : Nat → List D → PHeap → Prop} (h0 : I 0 [] h) (hn : t'.items.length ≤ 16777216) (hl : ∀ i acc h, I i acc h → t'.live h = true)
    (hs : ∀ i acc d h, acc.length ≤ i → i < 16777216 → t'.items[i]? = some d → I i acc h → ∃ e1, g.set d env = some e1 ∧ ∃ k h1, t e1 h = .ok k h1 ∧ ((k = false ∧ I (i + 1) acc h1) ∨ (k = true ∧ ∃ y h2, a e1 h1 = .ok y h2 ∧ I (i + 1) (acc ++ [y]) h2))) :
    ∃ acc h', lcL g t a t' env t'.items [] h = .ok acc h' ∧ I t'.items.length acc h' := by
  have key : ∀ (ds : List D) (i : Nat) (acc : List D) (h : PHeap), t'.items.drop i = ds → i + ds.length = t'.items.length → acc.length ≤ i → I i acc h → ∃ acc' h', lcL g t a t' env ds acc h = .ok acc' h' ∧ I t'.items.length acc' h' := by
    intro ds
    induction ds with
    | nil =>
      intro i acc h _ el _ q
      have ei : i = t'.items.length := by simpa using el
      subst ei
      exact ⟨acc, h, by unfold lcL; rw [if_pos (hl _ _ _ q)], q⟩
    | cons d ds ih =>
      intro i acc h e0 el ea q
      have hi : i < t'.items.length := by rw [List.length_cons] at el; omega
      rw [List.drop_eq_getElem_cons hi] at e0
      injection e0 with e1 e2
      obtain ⟨e3, g1, k, h1, g2, g3⟩ := hs i acc d h ea (by omega) (by rw [List.getElem?_eq_getElem hi, e1]) q
      unfold lcL
      rw [if_pos (hl i acc h q), g1]
      simp only [g2, Res.calm_ok, Res.bind_ok]
      rcases g3 with ⟨rfl, q3⟩ | ⟨rfl, y, h2, g4, q3⟩
      · exact ih (i + 1) acc h1 e2 (by rw [List.length_cons] at el; omega) (by omega) q3
      · simp only [g4, Res.calm_ok, Res.bind_ok]
        rw [if_pos (by omega)]
        exact ih (i + 1) (acc ++ [y]) h2 e2 (by rw [List.length_cons] at el; omega) (by simp; omega) q3
  exact key t'.items 0 [] h rfl (by omega) (Nat.zero_le _) h0
/-- a comprehension that touches nothing: a map with a filter -/
theorem lc_pure {g : TgM} {t' : Itr} {p : D → Bool} {f : D → D} (hn : t'.items.length ≤ 16777216) (hl : t'.live h = true) (hs : ∀ d ∈ t'.items, ∃ e1, g.set d env = some e1 ∧ t e1 h = .ok (p d) h ∧ (p d = true → a e1 h = .ok (f d) h)) :
    lcL g t a t' env t'.items [] h = .ok ((t'.items.filter p).map f) h := by
  obtain ⟨acc, h', e, q⟩ := lc_inv (env := env) (h := h) (g := g) (t := t) (a := a) (t' := t') (I := fun i acc h' => h' = h ∧ acc = ((t'.items.take i).filter p).map f) ⟨rfl, rfl⟩ hn (fun i acc h' q => by rw [q.1]; exact hl) (by
    rintro i acc d h' ha hi hd ⟨rfl, rfl⟩
    obtain ⟨e1, g1, g2, g3⟩ := hs d (List.mem_of_getElem? hd)
    obtain ⟨hi2, hd2⟩ := List.getElem?_eq_some_iff.mp hd
    have et : t'.items.take (i + 1) = t'.items.take i ++ [d] := by rw [List.take_succ, hd]; rfl
    refine ⟨e1, g1, p d, _, g2, ?_⟩
    cases hp : p d with
    | false => exact .inl ⟨rfl, rfl, by rw [et]; simp [hp]⟩
    | true => exact .inr ⟨rfl, f d, _, g3 hp, rfl, by rw [et]; simp [hp]⟩)
  obtain ⟨rfl, rfl⟩ := q
  rw [e, List.take_length]

/-! == and in, of ints -/
theorem toPy_int {n : Nat} {i : Int} : toPy h (n + 1) (.int i) = some (.int i) := by rw [toPy]
theorem toPy_bl {n : Nat} {i : Bool} : toPy h (n + 1) (.bl i) = some (.bool i) := by rw [toPy]
theorem toPy_non {n : Nat} : toPy h (n + 1) .non = some .none := by rw [toPy]
theorem toPy_tupE {n : Nat} {xs : List D} : toPy h (n + 1) (.tup xs) = (travO (toPy h n) xs).map .tuple := by rw [toPy]
@[simp] theorem py_int {i : Int} : (LV.val (.int i)).py h = some (.int i) := show toPy h (59 + 1) (.int i) = _ from toPy_int
@[simp] theorem py_bl {i : Bool} : (LV.val (.bl i)).py h = some (.bool i) := show toPy h (59 + 1) (.bl i) = _ from toPy_bl
@[simp] theorem py_non : (LV.val .non).py h = some .none := show toPy h (59 + 1) .non = _ from toPy_non
@[simp] theorem f_eqI {k : Bool → Bool} {i j : Int} : fEqO k (.val (.int i)) (.val (.int j)) h = .ok (.bl (k (decide (i = j)))) h := by
  simp only [fEqO, py_int, PyData.eqv]
  congr 3
theorem trav_ints {n : Nat} : ∀ (xs : List Int), travO (toPy h (n + 1)) (xs.map D.int) = some (xs.map PyData.int)
  | [] => rfl
  | x :: xs => by simp only [List.map_cons, travO, toPy_int, trav_ints xs]
theorem py_ints {xs : List Int} : (LV.val (.tup (xs.map D.int))).py h = some (.tuple (xs.map PyData.int)) := by
  show toPy h (59 + 1) (.tup (xs.map D.int)) = _
  rw [toPy_tupE, trav_ints (n := 58)]
  rfl
theorem f_inI {k : Bool → Bool} {i : Int} {xs : List Int} : fInO k (.val (.int i)) (.val (.tup (xs.map D.int))) h = .ok (.bl (k (decide (i ∈ xs)))) h := by
  simp only [fInO, py_int, py_ints, itemsP]
  congr 3
  rw [List.any_map]
  rw [Bool.eq_iff_iff]
  simp only [List.any_eq_true, Function.comp, PyData.eqv, decide_eq_true_eq, beq_iff_eq]
  exact ⟨fun ⟨x, m, e⟩ => e ▸ m, fun m => ⟨i, m, rfl⟩⟩
@[simp] theorem f_in2 {k : Bool → Bool} {i a b : Int} : fInO k (.val (.int i)) (.val (.tup [.int a, .int b])) h = .ok (.bl (k (decide (i ∈ [a, b])))) h := f_inI (xs := [a, b])
@[simp] theorem f_in3 {k : Bool → Bool} {i a b c : Int} : fInO k (.val (.int i)) (.val (.tup [.int a, .int b, .int c])) h = .ok (.bl (k (decide (i ∈ [a, b, c])))) h := f_inI (xs := [a, b, c])
theorem cnt_ints {xs : List Int} {k : Int} : cntOf (.val (.tup (xs.map D.int))) (.int k) h = some (xs.countP fun x => decide (x = k)) := by
  unfold cntOf
  rw [show toPy h 60 (.int k) = some (.int k) from toPy_int (n := 59), py_ints]
  simp only [List.countP_map]
  congr 2
def cntD (as : MA) (env : PEnv) (d : LV) (h1 : PHeap) : Res D := match d.seq h1 with
  | some _ => (as env h1).bind fun ys h2 => match ys with
    | [y] => match cntOf d y h2 with
      | some n => .ok (.int n) h2
      | none => .stuck
    | _ => .stuck
  | none => .stuck
@[simp] theorem s_cnt : mCnt mo r env h = (mo env h).bind (cntD r env) := rfl
theorem cnt_tup {xs : List Int} {k : Int} (er : r env h = .ok [.int k] h) : cntD r env (.val (.tup (xs.map D.int))) h = .ok (.int (xs.countP fun x => decide (x = k) : Nat)) h := by
  simp only [cntD, sq_tup, er, Res.bind_ok, cnt_ints]
/-! heaps whose cells point within -/
def Tidy (h : PHeap) : Prop := ∀ c ∈ h, Cell.small h.length c = true
theorem gc_drop {h1 : PHeap} {l : List Cell} (hl : h1.length = h.length) (w : Tidy h1) (hd : d.small h.length = true) : gc h.length d (h1 ++ l) = h1 := by
  unfold gc
  rw [List.length_append]
  split
  · rename_i q
    have : l = [] := List.eq_nil_of_length_eq_zero (by omega)
    rw [this, List.append_nil]
  · rw [if_pos ?_, ← hl, List.take_left]
    rw [hd, Bool.true_and, ← hl, List.take_left]
    exact List.all_eq_true.mpr w
theorem gc_drop0 {l : List Cell} (w : Tidy h) (hd : d.small h.length = true) : gc h.length d (h ++ l) = h := gc_drop rfl w hd
theorem smallL_all {n : Nat} : ∀ {xs : List D}, (∀ x ∈ xs, x.small n = true) → D.smallL n xs = true
  | [], _ => rfl
  | x :: xs, q => by rw [D.smallL, q x (List.mem_cons_self ..), smallL_all fun y m => q y (List.mem_cons_of_mem _ m)]; rfl
@[simp] theorem sm_int {n : Nat} {i : Int} : (D.int i).small n = true := rfl
@[simp] theorem sm_bl {n : Nat} {i : Bool} : (D.bl i).small n = true := rfl
@[simp] theorem sm_non {n : Nat} : D.non.small n = true := rfl
@[simp] theorem sm_str {n : Nat} {z : Str} : (D.str z).small n = true := rfl
@[simp] theorem sm_tup {n : Nat} {xs : List D} : (D.tup xs).small n = D.smallL n xs := rfl
@[simp] theorem sm_ref {n k : Nat} : (D.ref k).small n = decide (k < n) := rfl
@[simp] theorem sm_nilL {n : Nat} : D.smallL n [] = true := rfl
@[simp] theorem sm_consL {n : Nat} {x : D} {xs : List D} : D.smallL n (x :: xs) = (x.small n && D.smallL n xs) := rfl

theorem lcL_nil {g : TgM} {t' : Itr} {acc : List D} : lcL g t a t' env [] acc h = if t'.live h then .ok acc h else .stuck := by rw [lcL]
theorem lcL_cons {g : TgM} {t' : Itr} {ds acc : List D} : lcL g t a t' env (d :: ds) acc h = if t'.live h then (match g.set d env with
    | none => .stuck
    | some e1 => (t e1 h).calm.bind fun k h1 => pick k ((a e1 h1).calm.bind fun y h2 => if acc.length < 16777216 then lcL g t a t' env ds (acc ++ [y]) h2 else .stuck) (lcL g t a t' env ds acc h1)) else .stuck := by
  rw [lcL]
  congr 1
  cases g.set d env with
  | none => rfl
  | some e1 =>
    simp only
    congr 1
    funext k h1
    cases k <;> rfl
theorem py_newI {xs : List Int} : (LV.new (xs.map D.int)).py h = some (.list (xs.map PyData.int)) := by
  show (travO (toPy h (59 + 1)) (xs.map D.int)).map PyData.list = _
  rw [trav_ints]
  rfl
theorem py_refI {n : Nat} {xs : List Int} (e : h[n]? = some (.lst (xs.map D.int))) : (LV.val (.ref n)).py h = some (.list (xs.map PyData.int)) := by
  show toPy h (59 + 1) (.ref n) = _
  rw [toPy]
  simp only [e]
  rw [trav_ints (n := 58)]
  rfl
theorem eqv_ints : ∀ xs ys : List Int, PyData.eqvAll (xs.map PyData.int) (ys.map PyData.int) = decide (xs = ys)
  | [], [] => rfl
  | [], y :: ys => by simp [PyData.eqvAll]
  | x :: xs, [] => by simp [PyData.eqvAll]
  | x :: xs, y :: ys => by
    simp only [List.map_cons, PyData.eqvAll, PyData.eqv, eqv_ints xs ys, List.cons.injEq, Bool.decide_and]
    rfl
theorem f_eqRN {k : Bool → Bool} {n : Nat} {xs ys : List Int} (e : h[n]? = some (.lst (xs.map D.int))) : fEqO k (.val (.ref n)) (.new (ys.map D.int)) h = .ok (.bl (k (decide (xs = ys)))) h := by
  simp only [fEqO, py_refI e, py_newI, PyData.eqv, eqv_ints]
end
end Gb

namespace Gb
open PySem PySem.Spec PyProof.Rows L2
def b_is_whole : MS := sRet (mAnd (m1 (fIsi .int) (mVal (mVar 0))) (mNot (m1 (fIsi .bl) (mVal (mVar 0)))))
def p_is_whole : List D → PHeap → Res D := runFn 1 1 b_is_whole
def b_may_do : MS := sRet (mAnd (mBin fLe (mCnt (mVal (mVar 1)) (mCons (mC (.int (2))) (mNil))) (m2 fIx (mVal (mVar 0)) (mVal (mC (.int 1))))) (mOr (m2 (fEqO id) (mVal (m2 fIx (mVal (mVar 0)) (mVal (mC (.int 2))))) (mVal (mC (.int 0)))) (mBin fLe (mCnt (mVal (mVar 1)) (mCons (mC (.int (1))) (mNil))) (mC (.int 1)))))
def p_may_do : List D → PHeap → Res D := runFn 2 2 b_may_do
def b_within : MS := sRet (m2 fMax2 (mVal (mVar 1)) (mVal (m2 fMin2 (mVal (mVar 0)) (mVal (mVar 2)))))
def p_within : List D → PHeap → Res D := runFn 3 3 b_within
def b__law_cell_at : MS := sSeq (sIf (mTB (mBin fLt (mVar 1) (m1 fLen (mVal (mVar 0))))) (sRet (m2 fIx (mVal (mVar 0)) (mVal (mVar 1)))) (sNext)) (sRet (mC (.int 0)))
def p__law_cell_at : List D → PHeap → Res D := runFn 2 2 b__law_cell_at
def b__law_take : MS := sSeq (sIf (mTB (mBin fGt (m2 fIx (mVal (mVar 0)) (mVal (mC (.int 0)))) (mC (.int 0)))) (sSeq (sAsg (mBin fMod (m2 fIx (mVal (mVar 0)) (mVal (mC (.int 0)))) (mVar 1)) (.name 2)) (sSeq (sSub (mBin fDiv (m2 fIx (mVal (mVar 0)) (mVal (mC (.int 0)))) (mVar 1)) (mVar 0) (mC (.int 0))) (sRet (mVar 2)))) (sNext)) (sSeq (sSub (mBin fMod (mM (m2 fAddO (m2 fMulO (mVal (m2 fIx (mVal (mVar 0)) (mVal (mC (.int 1))))) (mVal (mC (.int 48271)))) (mVal (mC (.int 29))))) (mC (.int 2147483647))) (mVar 0) (mC (.int 1))) (sSeq (sAsg (mBin fMod (mM (m2 fAddO (m2 fAddO (m2 fMulO (mVal (m2 fIx (mVal (mVar 0)) (mVal (mC (.int 1))))) (mVal (m2 fIx (mVal (mVar 0)) (mVal (mC (.int 1)))))) (m2 fMulO (mVal (mC (.int 39373))) (mVal (m2 fIx (mVal (mVar 0)) (mVal (mC (.int 1))))))) (mVal (mC (.int 7))))) (mC (.int 2147483629))) (.name 3)) (sSeq (sAsg (mBin fMod (mM (m2 fAddO (m2 fMulO (mVal (mVar 3)) (mVal (mVar 3))) (m2 fMulO (mVal (mC (.int 16807))) (mVal (mVar 3))))) (mC (.int 2147483587))) (.name 3)) (sRet (mBin fMod (mBin fDiv (mVar 3) (mC (.int 8))) (mVar 1))))))
def p__law_take : List D → PHeap → Res D := runFn 2 4 b__law_take
def b_is_among : MS := sRet (mAnd (mCall p_is_whole (mCons (mVar 0) (mNil))) (mChain fLe fLe (mVar 1) (mVar 0) (mVar 2)))
def p_is_among : List D → PHeap → Res D := runFn 3 3 b_is_among
def b_bay_behind : MS := sSeq (sAsg (mVar 0) (.tup [.tup [.name 4, .name 5, .name 6, .name 7], .name 8, .tup [.name 9, .name 10]])) (sSeq (sAsg (mVar 1) (.tup [.name 11, .name 12, .name 13])) (sSeq (sAsg (mVar 3) (.tup [.name 14, .name 15])) (sSeq (sAsg (mBin fDiv (mM (m2 fMulO (mVal (mBin fSub (mVar 14) (mVar 11))) (mVal (mIf (mTB (m2 (fEqO id) (mVal (mVar 2)) (mVal (mC (.int (1)))))) (mC (.int 2)) (mC (.int 1)))))) (mVar 4)) (.name 16)) (sSeq (sAsg (mM (m2 fAddO (m2 fAddO (m2 fAddO (mVal (mVar 11)) (mVal (mVar 16))) (mVal (mIf (mTB (m2 (fEqO id) (mVal (mVar 2)) (mVal (mC (.int (2)))))) (mVar 7) (mC (.int 0))))) (mVal (mBin fDiv (mM (m2 fMulO (mVal (mVar 15)) (mVal (mVar 5)))) (mC (.int 4)))))) (.name 17)) (sSeq (sAsg (mCall p_within (mCons (mVar 17) (mCons (mC (.int (-40))) (mCons (mC (.int (60))) (mNil))))) (.name 18)) (sSeq (sAsg (mM (m2 fAddO (mVal (mBin fSub (mBin fSub (mVar 12) (mC (.int 1))) (m1 fInt (mVal (m2 (fInO id) (mVal (mVar 2)) (mVal (mTup (mCons (mC (.int (1))) (mCons (mC (.int (2))) (mNil)))))))))) (mVal (mIf (mTB (m2 (fEqO id) (mVal (mVar 2)) (mVal (mC (.int (3)))))) (mVar 6) (mC (.int 0)))))) (.name 19)) (sSeq (sAsg (mIf (mTB (mBin fGe (mVar 15) (mVar 10))) (mCall p_within (mCons (mBin fSub (mVar 18) (mVar 9)) (mCons (mC (.int 0)) (mCons (mC (.int (2))) (mNil))))) (mC (.int 0))) (.name 20)) (sRet (mTup (mCons (mVar 18) (mCons (mCall p_within (mCons (mVar 19) (mCons (mC (.int 0)) (mCons (mC (.int (9))) (mNil))))) (mCons (m2 fMin2 (m2 fAddO (mVal (mVar 13)) (mVal (mVar 20))) (mVal (mC (.int (4))))) (mNil)))))))))))))
def p_bay_behind : List D → PHeap → Res D := runFn 4 21 b_bay_behind
def b__law_state : MS := sSeq (sAsg (mCall p__law_cell_at (mCons (mVar 0) (mCons (mVar 1) (mNil)))) (.name 2)) (sRet (mM (mNL (mDisp (mCons (m2 fMax2 (mVal (mC (.int 0))) (mVal (mBin fSub (mVar 2) (mBin fPow (mC (.int 10)) (mC (.int 18)))))) (mCons (mBin fMod (mVar 2) (mC (.int 2147483647))) (mNil)))))))
def p__law_state : List D → PHeap → Res D := runFn 2 3 b__law_state
def b__law_bay : MS := sSeq (sAsg (mTup (mCons (mM (m2 fAddO (mVal (mC (.int 2))) (mVal (mCall p__law_take (mCons (mVar 0) (mCons (mC (.int 5)) (mNil))))))) (mCons (mCall p__law_take (mCons (mVar 0) (mCons (mC (.int 4)) (mNil)))) (mCons (mM (m2 fAddO (mVal (mC (.int 1))) (mVal (mCall p__law_take (mCons (mVar 0) (mCons (mC (.int 4)) (mNil))))))) (mCons (mCall p__law_take (mCons (mVar 0) (mCons (mC (.int 5)) (mNil)))) (mNil)))))) (.name 1)) (sSeq (sAsg (mCall p__law_take (mCons (mVar 0) (mCons (mC (.int 21)) (mNil)))) (.name 2)) (sSeq (sPar [3, 4] (mCons (mBin fSub (mVar 2) (mCall p__law_take (mCons (mVar 0) (mCons (mC (.int 7)) (mNil))))) (mCons (mM (m2 fAddO (mVal (mVar 2)) (mVal (mCall p__law_take (mCons (mVar 0) (mCons (mC (.int 9)) (mNil))))))) (mNil)))) (sSeq (sAsg (mTup (mCons (mVar 3) (mCons (mVar 4) (mCons (mCall p__law_take (mCons (mVar 0) (mCons (mC (.int 4)) (mNil)))) (mCons (mM (m2 fAddO (mVal (mC (.int 5))) (mVal (mCall p__law_take (mCons (mVar 0) (mCons (mC (.int 5)) (mNil))))))) (mNil)))))) (.name 5)) (sRet (mTup (mCons (mVar 1) (mCons (mVar 5) (mCons (mTup (mCons (mBin fSub (mVar 2) (mCall p__law_take (mCons (mVar 0) (mCons (mC (.int 9)) (mNil))))) (mCons (m2 fIx (mNL (mDisp (mCons (mC (.int 0)) (mCons (mC (.int 5)) (mCons (mCall p__law_take (mCons (mVar 0) (mCons (mC (.int 10)) (mNil)))) (mNil)))))) (mVal (mCall p__law_take (mCons (mVar 0) (mCons (mC (.int 3)) (mNil)))))) (mNil)))) (mNil)))))))))
def p__law_bay : List D → PHeap → Res D := runFn 1 6 b__law_bay
def l__law_standing_0 : MS := sSeq (sAsg (mM (m2 fAddO (mVal (mBin fSub (mVar 4) (mC (.int 2)))) (mVal (mCall p__law_take (mCons (mVar 0) (mCons (mM (m2 fAddO (mVal (mBin fSub (mVar 5) (mVar 4))) (mVal (mC (.int 5))))) (mNil))))))) (.name 9)) (sSeq (sAsg (m2 fIx (mNL (mDisp (mCons (mVar 9) (mCons (mVar 9) (mCons (mVar 9) (mCons (mBin fSub (mCall p__law_take (mCons (mVar 0) (mCons (mC (.int 101)) (mNil)))) (mC (.int 40))) (mNil))))))) (mVal (mCall p__law_take (mCons (mVar 0) (mCons (mC (.int 4)) (mNil)))))) (.name 10)) (sDrop (mMt fAppend (mVar 2) (mCons (mTup (mCons (mVar 10) (mCons (mCall p__law_take (mCons (mVar 0) (mCons (mC (.int 10)) (mNil)))) (mCons (mCall p__law_take (mCons (mVar 0) (mCons (mC (.int 5)) (mNil)))) (mNil))))) (mNil)))))
def b__law_standing : MS := sSeq (sAsg (mM (mNL (mDisp (mNil)))) (.name 2)) (sSeq (sFor (iSrc (mVal (m2 fIx (mVal (mVar 1)) (mVal (mC (.int 0)))))) (.tup [.name 3, .tup [.name 4, .name 5, .name 6, .name 7], .name 8]) (l__law_standing_0) [3, 4, 5, 6, 7, 8, 9, 10]) (sRet (m1 fTuple (mVal (mVar 2)))))
def p__law_standing : List D → PHeap → Res D := runFn 2 11 b__law_standing
def b__law_sky : MS := sSeq (sAsg (m2 fIx (mNL (mDisp (mCons (mBin fSub (mCall p__law_take (mCons (mVar 0) (mCons (mC (.int 31)) (mNil)))) (mC (.int 5))) (mCons (mBin fSub (mCall p__law_take (mCons (mVar 0) (mCons (mC (.int 31)) (mNil)))) (mC (.int 5))) (mCons (mBin fSub (mCall p__law_take (mCons (mVar 0) (mCons (mC (.int 81)) (mNil)))) (mC (.int 30))) (mNil)))))) (mVal (mCall p__law_take (mCons (mVar 0) (mCons (mC (.int 3)) (mNil)))))) (.name 1)) (sRet (mTup (mCons (mVar 1) (mCons (mCall p__law_take (mCons (mVar 0) (mCons (mC (.int 10)) (mNil)))) (mNil)))))
def p__law_sky : List D → PHeap → Res D := runFn 1 2 b__law_sky
def b_is_row : MS := sSeq (sIf (tOrM (tNotM (mTst (m1 (fIsi .tup) (mVal (mVar 0))) truthD)) (mTB (m2 (fEqO not) (mVal (m1 fLen (mVal (mVar 0)))) (mVal (m1 fLen (mVal (mVar 1))))))) (sRet (mC (.bl false))) (sNext)) (sRet (m1 fAll (mNL (mLc (iZip2 (mVal (mVar 0)) (mVal (mVar 1))) (.tup [.name 2, .tup [.name 3, .name 4]]) (tYesM) (mCall p_is_among (mCons (mVar 2) (mCons (mVar 3) (mCons (mVar 4) (mNil))))) [2, 3, 4]))))
def p_is_row : List D → PHeap → Res D := runFn 2 5 b_is_row
def b_behind_in : MS := sRet (m1 fTuple (mNL (mLc (iZip3 (mVal (m2 fIx (mVal (mVar 0)) (mVal (mC (.int 0))))) (mVal (mVar 1)) (mVal (mVar 2))) (.tup [.name 4, .name 5, .name 6]) (tYesM) (mCall p_bay_behind (mCons (mVar 4) (mCons (mVar 5) (mCons (mVar 6) (mCons (mVar 3) (mNil)))))) [4, 5, 6])))
def p_behind_in : List D → PHeap → Res D := runFn 4 7 b_behind_in
def b__law_house : MS := sSeq (sAsg (m1 fTuple (mNL (mLc (iR1 (mM (m2 fAddO (mVal (mC (.int 1))) (mVal (mCall p__law_take (mCons (mVar 0) (mCons (mVar 1) (mNil)))))))) (.name 3) (tYesM) (mCall p__law_bay (mCons (mVar 0) (mNil))) [3]))) (.name 2)) (sRet (mTup (mCons (mVar 2) (mCons (mCall p__law_take (mCons (mVar 0) (mCons (mC (.int 3)) (mNil)))) (mCons (mCall p__law_take (mCons (mVar 0) (mCons (mC (.int 2)) (mNil)))) (mNil))))))
def p__law_house : List D → PHeap → Res D := runFn 2 4 b__law_house
def b_is_needs : MS := sSeq (sIf (tNotM (mTst (mCall p_is_row (mCons (mVar 0) (mCons (mTup (mCons (mTup (mCons (mUn fNeg (mC (.int 20))) (mCons (mC (.int 40)) (mNil)))) (mCons (mTup (mCons (mUn fNeg (mC (.int 20))) (mCons (mC (.int 40)) (mNil)))) (mCons (mTup (mCons (mC (.int 0)) (mCons (mC (.int (9))) (mNil)))) (mCons (mTup (mCons (mC (.int 0)) (mCons (mC (.int (9))) (mNil)))) (mNil)))))) (mNil)))) truthD)) (sRet (mC (.bl false))) (sNext)) (sRet (mAnd (mBin fLe (m2 fIx (mVal (mVar 0)) (mVal (mC (.int 0)))) (m2 fIx (mVal (mVar 0)) (mVal (mC (.int 1))))) (mBin fLe (m2 fIx (mVal (mVar 0)) (mVal (mC (.int 2)))) (m2 fIx (mVal (mVar 0)) (mVal (mC (.int 3)))))))
def p_is_needs : List D → PHeap → Res D := runFn 1 1 b_is_needs
def b_is_sky : MS := sRet (mCall p_is_row (mCons (mVar 0) (mCons (mTup (mCons (mTup (mCons (mUn fNeg (mC (.int 30))) (mCons (mC (.int 50)) (mNil)))) (mCons (mTup (mCons (mC (.int 0)) (mCons (mC (.int 9)) (mNil)))) (mNil)))) (mNil))))
def p_is_sky : List D → PHeap → Res D := runFn 1 1 b_is_sky
def b_is_standing_of : MS := sSeq (sIf (tOrM (tNotM (mTst (m1 (fIsi .tup) (mVal (mVar 1))) truthD)) (mTB (m2 (fEqO not) (mVal (m1 fLen (mVal (mVar 1)))) (mVal (m1 fLen (mVal (m2 fIx (mVal (mVar 0)) (mVal (mC (.int 0)))))))))) (sRet (mC (.bl false))) (sNext)) (sRet (m1 fAll (mNL (mLc (iSrc (mVal (mVar 1))) (.name 2) (tYesM) (mCall p_is_row (mCons (mVar 2) (mCons (mTup (mCons (mTup (mCons (mC (.int (-40))) (mCons (mC (.int (60))) (mNil)))) (mCons (mTup (mCons (mC (.int 0)) (mCons (mC (.int (9))) (mNil)))) (mCons (mTup (mCons (mC (.int 0)) (mCons (mC (.int (4))) (mNil)))) (mNil))))) (mNil)))) [2]))))
def p_is_standing_of : List D → PHeap → Res D := runFn 2 3 b_is_standing_of
def b_is_act_of : MS := sRet (mAnd (mCall p_is_row (mCons (mVar 1) (mCons (mM (m2 fMulO (mVal (mTup (mCons (mTup (mCons (mC (.int (0))) (mCons (mC (.int (3))) (mNil)))) (mNil)))) (mVal (m1 fLen (mVal (m2 fIx (mVal (mVar 0)) (mVal (mC (.int 0))))))))) (mNil)))) (mCall p_may_do (mCons (mVar 0) (mCons (mVar 1) (mNil)))))
def p_is_act_of : List D → PHeap → Res D := runFn 2 2 b_is_act_of
def b_is_bay : MS := sSeq (sIf (tOrM (tNotM (mTst (m1 (fIsi .tup) (mVal (mVar 0))) truthD)) (tOrM (mTB (m2 (fEqO not) (mVal (m1 fLen (mVal (mVar 0)))) (mVal (mC (.int 3))))) (tNotM (mTst (mCall p_is_row (mCons (m2 fIx (mVal (mVar 0)) (mVal (mC (.int 0)))) (mCons (mTup (mCons (mTup (mCons (mC (.int 2)) (mCons (mC (.int 6)) (mNil)))) (mCons (mTup (mCons (mC (.int 0)) (mCons (mC (.int 3)) (mNil)))) (mCons (mTup (mCons (mC (.int 1)) (mCons (mC (.int 4)) (mNil)))) (mCons (mTup (mCons (mC (.int 0)) (mCons (mC (.int 4)) (mNil)))) (mNil)))))) (mNil)))) truthD)))) (sRet (mC (.bl false))) (sNext)) (sRet (mAnd (mCall p_is_needs (mCons (m2 fIx (mVal (mVar 0)) (mVal (mC (.int 1)))) (mNil))) (mCall p_is_row (mCons (m2 fIx (mVal (mVar 0)) (mVal (mC (.int 2)))) (mCons (mTup (mCons (mTup (mCons (mUn fNeg (mC (.int 20))) (mCons (mC (.int 40)) (mNil)))) (mCons (mTup (mCons (mC (.int 0)) (mCons (mC (.int 9)) (mNil)))) (mNil)))) (mNil))))))
def p_is_bay : List D → PHeap → Res D := runFn 1 1 b_is_bay
def b_is_house : MS := sSeq (sIf (tOrM (tNotM (mTst (m1 (fIsi .tup) (mVal (mVar 0))) truthD)) (tOrM (mTB (m2 (fEqO not) (mVal (m1 fLen (mVal (mVar 0)))) (mVal (mC (.int 3))))) (tNotM (mTst (m1 (fIsi .tup) (mVal (m2 fIx (mVal (mVar 0)) (mVal (mC (.int 0)))))) truthD)))) (sRet (mC (.bl false))) (sNext)) (sSeq (sIf (tOrM (tNotM (mTB (mChain fLe fLe (mC (.int 1)) (m1 fLen (mVal (m2 fIx (mVal (mVar 0)) (mVal (mC (.int 0)))))) (mC (.int (2)))))) (tNotM (mTst (m1 fAll (mNL (mLc (iSrc (mVal (m2 fIx (mVal (mVar 0)) (mVal (mC (.int 0)))))) (.name 1) (tYesM) (mCall p_is_bay (mCons (mVar 1) (mNil))) [1]))) truthD))) (sRet (mC (.bl false))) (sNext)) (sRet (mAnd (mCall p_is_among (mCons (m2 fIx (mVal (mVar 0)) (mVal (mC (.int 1)))) (mCons (mC (.int 0)) (mCons (mC (.int (2))) (mNil))))) (mCall p_is_among (mCons (m2 fIx (mVal (mVar 0)) (mVal (mC (.int 2)))) (mCons (mC (.int 0)) (mCons (mC (.int 1)) (mNil))))))))
def p_is_house : List D → PHeap → Res D := runFn 1 2 b_is_house
def b_need_house : MS := sIf (tNotM (mTst (mCall p_is_house (mCons (mVar 0) (mNil))) truthD)) (sStuck) (sNext)
def p_need_house : List D → PHeap → Res D := runFn 1 1 b_need_house
def b_need_standing : MS := sSeq (sDrop (mCall p_need_house (mCons (mVar 0) (mNil)))) (sIf (tNotM (mTst (mCall p_is_standing_of (mCons (mVar 0) (mCons (mVar 1) (mNil)))) truthD)) (sStuck) (sNext))
def p_need_standing : List D → PHeap → Res D := runFn 2 2 b_need_standing
def b_behind : MS := sSeq (sDrop (mCall p_need_standing (mCons (mVar 0) (mCons (mVar 1) (mNil))))) (sSeq (sIf (tNotM (mTst (mCall p_is_act_of (mCons (mVar 0) (mCons (mVar 2) (mNil)))) truthD)) (sStuck) (sNext)) (sSeq (sIf (tNotM (mTst (mCall p_is_sky (mCons (mVar 3) (mNil))) truthD)) (sStuck) (sNext)) (sRet (mCall p_behind_in (mCons (mVar 0) (mCons (mVar 1) (mCons (mVar 2) (mCons (mVar 3) (mNil)))))))))
def p_behind : List D → PHeap → Res D := runFn 4 4 b_behind
def b__law_by : MS := sRet (m2 fIx (mVal (mCall p_behind (mCons (mTup (mCons (mTup (mCons (mM (m2 fAddO (mVal (mTup (mCons (mVar 1) (mNil)))) (mSl (mVal (mVar 0)) (pSome (mC (.int 1))) (pNone)))) (mNil))) (mCons (mC (.int 1)) (mCons (mC (.int 0)) (mNil))))) (mCons (mTup (mCons (mVar 2) (mNil))) (mCons (mTup (mCons (mVar 3) (mNil))) (mCons (mVar 4) (mNil))))))) (mVal (mC (.int 0))))
def p__law_by : List D → PHeap → Res D := runFn 5 5 b__law_by
def l__law_right_0 : MS := sSeq (sAsg (mCall p__law_by (mCons (mVar 0) (mCons (m2 fIx (mVal (mVar 0)) (mVal (mC (.int 0)))) (mCons (mVar 1) (mCons (mVar 7) (mCons (mVar 2) (mNil))))))) (.name 8)) (sSeq (sAsg (mCall p__law_by (mCons (mVar 0) (mCons (mTup (mCons (mVar 3) (mCons (mVar 4) (mCons (mVar 5) (mCons (mBin fMod (mM (m2 fAddO (mVal (mVar 6)) (mVal (mC (.int 1))))) (mC (.int 5))) (mNil)))))) (mCons (mVar 1) (mCons (mVar 7) (mCons (mVar 2) (mNil))))))) (.name 9)) (sSeq (sAsg (mIf (mTB (mBin fLt (mVar 6) (mC (.int 4)))) (mM (m2 fAddO (mVal (m2 fIx (mVal (mVar 8)) (mVal (mC (.int 0))))) (mVal (m1 fInt (mVal (m2 (fEqO id) (mVal (mVar 7)) (mVal (mC (.int 2))))))))) (mBin fSub (m2 fIx (mVal (mVar 8)) (mVal (mC (.int 0)))) (mM (m2 fMulO (mVal (mC (.int 4))) (mVal (m1 fInt (mVal (m2 (fEqO id) (mVal (mVar 7)) (mVal (mC (.int 2))))))))))) (.name 10)) (sSeq (sIf (tOrM (mTB (m2 (fEqO not) (mVal (m2 fIx (mVal (mVar 9)) (mVal (mC (.int 1))))) (mVal (m2 fIx (mVal (mVar 8)) (mVal (mC (.int 1))))))) (tAndM (mTB (mBin fLt (mUn fNeg (mC (.int 40))) (m2 fMin2 (mVal (m2 fIx (mVal (mVar 9)) (mVal (mC (.int 0))))) (mVal (m2 fIx (mVal (mVar 8)) (mVal (mC (.int 0)))))))) (tAndM (mTB (mBin fLt (m2 fMax2 (mVal (m2 fIx (mVal (mVar 9)) (mVal (mC (.int 0))))) (mVal (m2 fIx (mVal (mVar 8)) (mVal (mC (.int 0)))))) (mC (.int 60)))) (mTB (m2 (fEqO not) (mVal (m2 fIx (mVal (mVar 9)) (mVal (mC (.int 0))))) (mVal (mVar 10))))))) (sRet (mC (.bl false))) (sNext)) (sIf (mTB (mBin fLt (mVar 5) (mC (.int 4)))) (sSeq (sAsg (mCall p__law_by (mCons (mVar 0) (mCons (mTup (mCons (mVar 3) (mCons (mVar 4) (mCons (mM (m2 fAddO (mVal (mVar 5)) (mVal (mC (.int 1))))) (mCons (mVar 6) (mNil)))))) (mCons (mVar 1) (mCons (mVar 7) (mCons (mVar 2) (mNil))))))) (.name 11)) (sIf (tOrM (mTB (m2 (fEqO not) (mVal (m2 fIx (mVal (mVar 11)) (mVal (mC (.int 0))))) (mVal (m2 fIx (mVal (mVar 8)) (mVal (mC (.int 0))))))) (tOrM (mTB (m2 (fEqO not) (mVal (m2 fIx (mVal (mVar 11)) (mVal (mC (.int 2))))) (mVal (m2 fIx (mVal (mVar 8)) (mVal (mC (.int 2))))))) (mTB (m2 (fEqO not) (mVal (m2 fIx (mVal (mVar 11)) (mVal (mC (.int 1))))) (mVal (m2 fMin2 (mVal (mC (.int 9))) (m2 fAddO (mVal (m2 fIx (mVal (mVar 8)) (mVal (mC (.int 1))))) (mVal (m1 fInt (mVal (m2 (fEqO id) (mVal (mVar 7)) (mVal (mC (.int 3)))))))))))))) (sRet (mC (.bl false))) (sNext))) (sNext)))))
def b__law_right : MS := sSeq (sAsg (m2 fIx (mVal (mVar 0)) (mVal (mC (.int 0)))) (.tup [.name 3, .name 4, .name 5, .name 6])) (sSeq (sFor (iR1 (mC (.int 4))) (.name 7) (l__law_right_0) [7, 8, 9, 10, 11]) (sSeq (sAsg (mM (mNL (mLc (iSrc (mVal (mTup (mCons (mC (.int 0)) (mCons (mC (.int 2)) (mNil)))))) (.name 7) (tYesM) (mCall p__law_by (mCons (mVar 0) (mCons (mTup (mCons (mVar 3) (mCons (mVar 4) (mCons (mVar 5) (mCons (mC (.int 0)) (mNil)))))) (mCons (mVar 1) (mCons (mVar 7) (mCons (mVar 2) (mNil))))))) [7]))) (.name 12)) (sSeq (sIf (tOrM (mTB (m2 (fEqO not) (mVal (m2 fIx (mVal (m2 fIx (mVal (mVar 12)) (mVal (mC (.int 0))))) (mVal (mC (.int 0))))) (mVal (m2 fIx (mVal (m2 fIx (mVal (mVar 12)) (mVal (mC (.int 1))))) (mVal (mC (.int 0))))))) (tOrM (mTB (m2 (fEqO not) (mVal (m2 fIx (mVal (m2 fIx (mVal (mVar 12)) (mVal (mC (.int 0))))) (mVal (mC (.int 2))))) (mVal (m2 fIx (mVal (m2 fIx (mVal (mVar 12)) (mVal (mC (.int 1))))) (mVal (mC (.int 2))))))) (mTB (m2 (fEqO not) (mVal (m2 fIx (mVal (m2 fIx (mVal (mVar 12)) (mVal (mC (.int 1))))) (mVal (mC (.int 1))))) (mVal (m2 fMax2 (mVal (mC (.int 0))) (mVal (mBin fSub (m2 fIx (mVal (m2 fIx (mVal (mVar 12)) (mVal (mC (.int 0))))) (mVal (mC (.int 1)))) (mC (.int 1)))))))))) (sRet (mC (.bl false))) (sNext)) (sSeq (sAsg (mM (mNL (mLc (iSrc (mVal (mTup (mCons (mC (.int 0)) (mCons (m2 fIx (mVal (mVar 2)) (mVal (mC (.int 1)))) (mCons (mC (.int 9)) (mNil))))))) (.name 15) (tYesM) (m2 fIx (mVal (mCall p__law_by (mCons (mVar 0) (mCons (mTup (mCons (mVar 3) (mCons (mC (.int 0)) (mCons (mVar 5) (mCons (mVar 6) (mNil)))))) (mCons (mVar 1) (mCons (mC (.int 2)) (mCons (mTup (mCons (m2 fIx (mVal (mVar 2)) (mVal (mC (.int 0)))) (mCons (mVar 15) (mNil)))) (mNil)))))))) (mVal (mC (.int 0)))) [15]))) (.name 13)) (sSeq (sAsg (mCall p__law_by (mCons (mVar 0) (mCons (mTup (mCons (mC (.int 2)) (mCons (mC (.int 0)) (mCons (mVar 5) (mCons (mVar 6) (mNil)))))) (mCons (mVar 1) (mCons (mC (.int 1)) (mCons (mVar 2) (mNil))))))) (.name 14)) (sRet (mAnd (m2 (fEqO id) (mVal (mVar 13)) (m2 fMulO (mNL (mDisp (mCons (m2 fIx (mVal (mVar 13)) (mVal (mC (.int 0)))) (mNil)))) (mVal (mC (.int 3))))) (m2 (fEqO id) (mVal (m2 fIx (mVal (mVar 14)) (mVal (mC (.int 0))))) (mVal (m2 fIx (mVal (mVar 2)) (mVal (mC (.int 0)))))))))))))
def p__law_right : List D → PHeap → Res D := runFn 3 16 b__law_right
def l_law_0 : MS := sIf (tNotM (mTst (mCall p__law_right (mCons (m2 fIx (mVal (m2 fIx (mVal (mVar 4)) (mVal (mC (.int 0))))) (mVal (mC (.int 0)))) (mCons (mVar 5) (mCons (mCall p__law_sky (mCons (mVar 2) (mNil))) (mNil))))) truthD)) (sRet (mC (.bl false))) (sNext)
def l_law_1 : MS := sSeq (sAsg (mCall p__law_house (mCons (mVar 2) (mCons (mC (.int 1)) (mNil)))) (.name 4)) (sFor (iSrc (m2 fAddO (mVal (mCall p__law_standing (mCons (mVar 2) (mCons (mVar 4) (mNil))))) (mVal (mCall p__law_standing (mCons (mVar 2) (mCons (mVar 4) (mNil))))))) (.name 5) (l_law_0) [5])
def l_law_2 : MS := sSeq (sAsg (mCall p__law_state (mCons (mVar 0) (mCons (mVar 1) (mNil)))) (.name 2)) (sFor (iR1 (mC (.int 5))) (.name 3) (l_law_1) [3, 4, 5])
def b_law : MS := sSeq (sFor (iR1 (m2 fMax2 (mVal (mC (.int 1))) (mVal (m2 fMin2 (mVal (m1 fLen (mVal (mVar 0)))) (mVal (mC (.int 4))))))) (.name 1) (l_law_2) [1, 2, 3, 4, 5]) (sRet (mC (.bl true)))
def p_law : List D → PHeap → Res D := runFn 1 6 b_law
def top (i : Nat) : Stmt := PySem.Challenge.pw_glassbays_k15_whole_walls_one_by_one.main.body.getD i (.Pass ⟨0, 0, 0, 0⟩)
abbrev t_is_whole : Stmt := top 18
abbrev t_may_do : Stmt := top 27
abbrev t_within : Stmt := top 30
abbrev t__law_cell_at : Stmt := top 35
abbrev t__law_take : Stmt := top 37
abbrev t_is_among : Stmt := top 19
abbrev t_bay_behind : Stmt := top 31
abbrev t__law_state : Stmt := top 36
abbrev t__law_bay : Stmt := top 38
abbrev t__law_standing : Stmt := top 40
abbrev t__law_sky : Stmt := top 41
abbrev t_is_row : Stmt := top 20
abbrev t_behind_in : Stmt := top 32
abbrev t__law_house : Stmt := top 39
abbrev t_is_needs : Stmt := top 21
abbrev t_is_sky : Stmt := top 24
abbrev t_is_standing_of : Stmt := top 26
abbrev t_is_act_of : Stmt := top 28
abbrev t_is_bay : Stmt := top 22
abbrev t_is_house : Stmt := top 23
abbrev t_need_house : Stmt := top 25
abbrev t_need_standing : Stmt := top 29
abbrev t_behind : Stmt := top 33
abbrev t__law_by : Stmt := top 42
abbrev t__law_right : Stmt := top 43
abbrev t_law : Stmt := top 44
/-- what the top has made -/
structure Top (K : PySem.W.Frag) (mg : Str → Option Value) : Prop where
  b_all : mg "all" = none
  b_bool : mg "bool" = none
  b_int : mg "int" = none
  b_isinstance : mg "isinstance" = none
  b_len : mg "len" = none
  b_max : mg "max" = none
  b_min : mg "min" = none
  b_range : mg "range" = none
  b_tuple : mg "tuple" = none
  b_zip : mg "zip" = none
  c_HEAT : ∃ u, mg "HEAT" = some u ∧ RelV (V.int (2)) u
  c_LEAST_WARMTH : ∃ u, mg "LEAST_WARMTH" = some u ∧ RelV (V.int (-40)) u
  c_MOST_BAYS : ∃ u, mg "MOST_BAYS" = some u ∧ RelV (V.int (2)) u
  c_MOST_DAMP : ∃ u, mg "MOST_DAMP" = some u ∧ RelV (V.int (9)) u
  c_MOST_GROWTH : ∃ u, mg "MOST_GROWTH" = some u ∧ RelV (V.int (2)) u
  c_MOST_POWER : ∃ u, mg "MOST_POWER" = some u ∧ RelV (V.int (2)) u
  c_MOST_SIZE : ∃ u, mg "MOST_SIZE" = some u ∧ RelV (V.int (4)) u
  c_MOST_WARMTH : ∃ u, mg "MOST_WARMTH" = some u ∧ RelV (V.int (60)) u
  c_NOTHING : ∃ u, mg "NOTHING" = some u ∧ RelV (V.int (0)) u
  c_VENT : ∃ u, mg "VENT" = some u ∧ RelV (V.int (1)) u
  c_WATER : ∃ u, mg "WATER" = some u ∧ RelV (V.int (3)) u
  d_is_whole : ∃ f fd, Fun K "is_whole" "is_whole" t_is_whole f fd ∧ mg "is_whole" = some (.ref f)
  d_may_do : ∃ f fd, Fun K "may_do" "may_do" t_may_do f fd ∧ mg "may_do" = some (.ref f)
  d_within : ∃ f fd, Fun K "within" "within" t_within f fd ∧ mg "within" = some (.ref f)
  d__law_cell_at : ∃ f fd, Fun K "_law_cell_at" "_law_cell_at" t__law_cell_at f fd ∧ mg "_law_cell_at" = some (.ref f)
  d__law_take : ∃ f fd, Fun K "_law_take" "_law_take" t__law_take f fd ∧ mg "_law_take" = some (.ref f)
  d_is_among : ∃ f fd, Fun K "is_among" "is_among" t_is_among f fd ∧ mg "is_among" = some (.ref f)
  d_bay_behind : ∃ f fd, Fun K "bay_behind" "bay_behind" t_bay_behind f fd ∧ mg "bay_behind" = some (.ref f)
  d__law_state : ∃ f fd, Fun K "_law_state" "_law_state" t__law_state f fd ∧ mg "_law_state" = some (.ref f)
  d__law_bay : ∃ f fd, Fun K "_law_bay" "_law_bay" t__law_bay f fd ∧ mg "_law_bay" = some (.ref f)
  d__law_standing : ∃ f fd, Fun K "_law_standing" "_law_standing" t__law_standing f fd ∧ mg "_law_standing" = some (.ref f)
  d__law_sky : ∃ f fd, Fun K "_law_sky" "_law_sky" t__law_sky f fd ∧ mg "_law_sky" = some (.ref f)
  d_is_row : ∃ f fd, Fun K "is_row" "is_row" t_is_row f fd ∧ mg "is_row" = some (.ref f)
  d_behind_in : ∃ f fd, Fun K "behind_in" "behind_in" t_behind_in f fd ∧ mg "behind_in" = some (.ref f)
  d__law_house : ∃ f fd, Fun K "_law_house" "_law_house" t__law_house f fd ∧ mg "_law_house" = some (.ref f)
  d_is_needs : ∃ f fd, Fun K "is_needs" "is_needs" t_is_needs f fd ∧ mg "is_needs" = some (.ref f)
  d_is_sky : ∃ f fd, Fun K "is_sky" "is_sky" t_is_sky f fd ∧ mg "is_sky" = some (.ref f)
  d_is_standing_of : ∃ f fd, Fun K "is_standing_of" "is_standing_of" t_is_standing_of f fd ∧ mg "is_standing_of" = some (.ref f)
  d_is_act_of : ∃ f fd, Fun K "is_act_of" "is_act_of" t_is_act_of f fd ∧ mg "is_act_of" = some (.ref f)
  d_is_bay : ∃ f fd, Fun K "is_bay" "is_bay" t_is_bay f fd ∧ mg "is_bay" = some (.ref f)
  d_is_house : ∃ f fd, Fun K "is_house" "is_house" t_is_house f fd ∧ mg "is_house" = some (.ref f)
  d_need_house : ∃ f fd, Fun K "need_house" "need_house" t_need_house f fd ∧ mg "need_house" = some (.ref f)
  d_need_standing : ∃ f fd, Fun K "need_standing" "need_standing" t_need_standing f fd ∧ mg "need_standing" = some (.ref f)
  d_behind : ∃ f fd, Fun K "behind" "behind" t_behind f fd ∧ mg "behind" = some (.ref f)
  d__law_by : ∃ f fd, Fun K "_law_by" "_law_by" t__law_by f fd ∧ mg "_law_by" = some (.ref f)
  d__law_right : ∃ f fd, Fun K "_law_right" "_law_right" t__law_right f fd ∧ mg "_law_right" = some (.ref f)
  d_law : ∃ f fd, Fun K "law" "law" t_law f fd ∧ mg "law" = some (.ref f)
section
variable {P : Program} {w : World} {K : PySem.W.Frag} {mg : Str → Option Value} {base : Heap} {cl : Nat → Addr} {f : Addr} {fd : FuncData}
theorem sc_is_whole : FnScope ["thing"] ["thing"] (defScope t_is_whole) := ⟨rfl, rfl, rfl, by decide +kernel, rfl, by decide +kernel, by decide +kernel⟩
theorem bind_is_whole (F : Fun K "is_whole" "is_whole" t_is_whole f fd) : Binds K fd ["thing"] [] := F.binds (ps := ["thing"]) fun _ _ _ _ _ _ us hl => match us, hl with | [_], _ => rfl
theorem ok_is_whole (T : Top K mg) (F : Fun K "is_whole" "is_whole" t_is_whole f fd) : FnOk P w K mg base (L2.CX P w) 1 f fd ["thing"] (spOf K cl p_is_whole) := by
  refine fn_ok (np := 1) (ns := 1) F sc_is_whole rfl rfl (fun cdv A outer s H E hr tk => ?_)
  have hu := hu65 hr
  exact (ss_one (ss_ret (sd_and (sd_isi (t := .int) (so_val (sd_var 0)) T.b_isinstance T.b_int (by decide +kernel)) (sd_one (sd_not (sd_isi (t := .bl) (so_val (sd_var 0)) T.b_isinstance T.b_bool (by decide +kernel)))))))
theorem sc_may_do : FnScope ["house", "act"] ["house", "act"] (defScope t_may_do) := ⟨rfl, rfl, rfl, by decide +kernel, rfl, by decide +kernel, by decide +kernel⟩
theorem bind_may_do (F : Fun K "may_do" "may_do" t_may_do f fd) : Binds K fd ["house", "act"] [] := F.binds (ps := ["house", "act"]) fun _ _ _ _ _ _ us hl => match us, hl with | [_, _], _ => rfl
theorem ok_may_do (T : Top K mg) (F : Fun K "may_do" "may_do" t_may_do f fd) : FnOk P w K mg base (L2.CX P w) 1 f fd ["house", "act"] (spOf K cl p_may_do) := by
  refine fn_ok (np := 2) (ns := 2) F sc_may_do rfl rfl (fun cdv A outer s H E hr tk => ?_)
  have hu := hu65 hr
  exact (ss_one (ss_ret (sd_and (sd_le (sd_count hu (so_val (sd_var 1)) (sa_cons (sd_gc rfl T.c_HEAT) sa_nil)) (sd_ix (so_val (sd_var 0)) (so_val sd_int) (by intro _ _; rfl))) (sd_one (sd_or (sd_eq hu (so_val (sd_ix (so_val (sd_var 0)) (so_val sd_int) (by intro _ _; rfl))) (so_val sd_int)) (sd_one (sd_le (sd_count hu (so_val (sd_var 1)) (sa_cons (sd_gc rfl T.c_VENT) sa_nil)) sd_int)))))))
theorem sc_within : FnScope ["number", "low", "high"] ["number", "low", "high"] (defScope t_within) := ⟨rfl, rfl, rfl, by decide +kernel, rfl, by decide +kernel, by decide +kernel⟩
theorem bind_within (F : Fun K "within" "within" t_within f fd) : Binds K fd ["number", "low", "high"] [] := F.binds (ps := ["number", "low", "high"]) fun _ _ _ _ _ _ us hl => match us, hl with | [_, _, _], _ => rfl
theorem ok_within (T : Top K mg) (F : Fun K "within" "within" t_within f fd) : FnOk P w K mg base (L2.CX P w) 1 f fd ["number", "low", "high"] (spOf K cl p_within) := by
  refine fn_ok (np := 3) (ns := 3) F sc_within rfl rfl (fun cdv A outer s H E hr tk => ?_)
  have hu := hu65 hr
  exact (ss_one (ss_ret (sd_max2 (so_val (sd_var 1)) (so_val (sd_min2 (so_val (sd_var 0)) (so_val (sd_var 2)) T.b_min)) T.b_max)))
theorem sc__law_cell_at : FnScope ["_law_script", "_law_k"] ["_law_script", "_law_k"] (defScope t__law_cell_at) := ⟨rfl, rfl, rfl, by decide +kernel, rfl, by decide +kernel, by decide +kernel⟩
theorem bind__law_cell_at (F : Fun K "_law_cell_at" "_law_cell_at" t__law_cell_at f fd) : Binds K fd ["_law_script", "_law_k"] [] := F.binds (ps := ["_law_script", "_law_k"]) fun _ _ _ _ _ _ us hl => match us, hl with | [_, _], _ => rfl
theorem ok__law_cell_at (T : Top K mg) (F : Fun K "_law_cell_at" "_law_cell_at" t__law_cell_at f fd) : FnOk P w K mg base (L2.CX P w) 1 f fd ["_law_script", "_law_k"] (spOf K cl p__law_cell_at) := by
  refine fn_ok (np := 2) (ns := 2) F sc__law_cell_at rfl rfl (fun cdv A outer s H E hr tk => ?_)
  have hu := hu65 hr
  exact (ss_cons (ss_if (st_lt (sd_var 1) (sd_len (so_val (sd_var 0)) T.b_len)) (ss_one (ss_ret (sd_ix (so_val (sd_var 0)) (so_val (sd_var 1)) (by intro _ _; rfl)))) ss_nil)
    (ss_one (ss_ret sd_int)))
theorem sc__law_take : FnScope ["_law_state_here", "_law_bound", "_law_found", "_law_stirred"] ["_law_state_here", "_law_bound"] (defScope t__law_take) := ⟨rfl, rfl, rfl, by decide +kernel, rfl, by decide +kernel, by decide +kernel⟩
theorem bind__law_take (F : Fun K "_law_take" "_law_take" t__law_take f fd) : Binds K fd ["_law_state_here", "_law_bound"] [] := F.binds (ps := ["_law_state_here", "_law_bound"]) fun _ _ _ _ _ _ us hl => match us, hl with | [_, _], _ => rfl
theorem ok__law_take (T : Top K mg) (F : Fun K "_law_take" "_law_take" t__law_take f fd) : FnOk P w K mg base (L2.CX P w) 1 f fd ["_law_state_here", "_law_bound"] (spOf K cl p__law_take) := by
  refine fn_ok (np := 2) (ns := 4) F sc__law_take rfl rfl (fun cdv A outer s H E hr tk => ?_)
  have hu := hu65 hr
  exact (ss_cons (ss_if (st_gt (sd_ix (so_val (sd_var 0)) (so_val sd_int) (by intro _ _; rfl)) sd_int) (ss_cons (ss_set 2 (sd_mod (sd_ix (so_val (sd_var 0)) (so_val sd_int) (by intro _ _; rfl)) (sd_var 1)) sc__law_take.nd)
    (ss_cons (ss_sub (sd_div (sd_ix (so_val (sd_var 0)) (so_val sd_int) (by intro _ _; rfl)) (sd_var 1)) (sd_var 0) sd_int)
    (ss_one (ss_ret (sd_var 2))))) ss_nil)
    (ss_cons (ss_sub (sd_mod (sd_mat (so_add (so_mul (so_val (sd_ix (so_val (sd_var 0)) (so_val sd_int) (by intro _ _; rfl))) (so_val sd_int)) (so_val sd_int))) sd_int) (sd_var 0) sd_int)
    (ss_cons (ss_set 3 (sd_mod (sd_mat (so_add (so_add (so_mul (so_val (sd_ix (so_val (sd_var 0)) (so_val sd_int) (by intro _ _; rfl))) (so_val (sd_ix (so_val (sd_var 0)) (so_val sd_int) (by intro _ _; rfl)))) (so_mul (so_val sd_int) (so_val (sd_ix (so_val (sd_var 0)) (so_val sd_int) (by intro _ _; rfl))))) (so_val sd_int))) sd_int) sc__law_take.nd)
    (ss_cons (ss_set 3 (sd_mod (sd_mat (so_add (so_mul (so_val (sd_var 3)) (so_val (sd_var 3))) (so_mul (so_val sd_int) (so_val (sd_var 3))))) sd_int) sc__law_take.nd)
    (ss_one (ss_ret (sd_mod (sd_div (sd_var 3) sd_int) (sd_var 1))))))))
theorem sc_is_among : FnScope ["thing", "low", "high"] ["thing", "low", "high"] (defScope t_is_among) := ⟨rfl, rfl, rfl, by decide +kernel, rfl, by decide +kernel, by decide +kernel⟩
theorem bind_is_among (F : Fun K "is_among" "is_among" t_is_among f fd) : Binds K fd ["thing", "low", "high"] [] := F.binds (ps := ["thing", "low", "high"]) fun _ _ _ _ _ _ us hl => match us, hl with | [_, _, _], _ => rfl
theorem ok_is_among (T : Top K mg) (F : Fun K "is_among" "is_among" t_is_among f fd) : FnOk P w K mg base (L2.CX P w) 2 f fd ["thing", "low", "high"] (spOf K cl p_is_among) := by
  obtain ⟨f_is_whole, fd_is_whole, F_is_whole, g_is_whole⟩ := T.d_is_whole
  have h_is_whole := (ok_is_whole (P := P) (w := w) (base := base) (cl := cl) T F_is_whole).mono (show 1 ≤ 1 by decide)
  refine fn_ok (np := 3) (ns := 3) F sc_is_among rfl rfl (fun cdv A outer s H E hr tk => ?_)
  have hu := hu65 hr
  exact (ss_one (ss_ret (sd_and (sd_call h_is_whole hr g_is_whole F_is_whole.kp (bind_is_whole F_is_whole) tk (sa_cons (sd_var 0) sa_nil)) (sd_one (sd_lele (sd_var 1) (sd_var 0) (sd_var 2))))))
theorem sc_bay_behind : FnScope ["bay", "one", "done", "sky", "tight", "glass", "soak", "heater", "needs", "base", "shade", "warmth", "damp", "size", "cold", "light", "pull", "heated", "later", "dried", "grown"] ["bay", "one", "done", "sky"] (defScope t_bay_behind) := ⟨rfl, rfl, rfl, by decide +kernel, rfl, by decide +kernel, by decide +kernel⟩
theorem bind_bay_behind (F : Fun K "bay_behind" "bay_behind" t_bay_behind f fd) : Binds K fd ["bay", "one", "done", "sky"] [] := F.binds (ps := ["bay", "one", "done", "sky"]) fun _ _ _ _ _ _ us hl => match us, hl with | [_, _, _, _], _ => rfl
theorem ok_bay_behind (T : Top K mg) (F : Fun K "bay_behind" "bay_behind" t_bay_behind f fd) : FnOk P w K mg base (L2.CX P w) 2 f fd ["bay", "one", "done", "sky"] (spOf K cl p_bay_behind) := by
  obtain ⟨f_within, fd_within, F_within, g_within⟩ := T.d_within
  have h_within := (ok_within (P := P) (w := w) (base := base) (cl := cl) T F_within).mono (show 1 ≤ 1 by decide)
  refine fn_ok (np := 4) (ns := 21) F sc_bay_behind rfl rfl (fun cdv A outer s H E hr tk => ?_)
  have hu := hu65 hr
  exact (ss_cons (ss_asg (sd_var 0) (sg_tup rfl (sgs_cons (sg_tup rfl (sgs_cons (sg_name 4 sc_bay_behind.nd) (sgs_cons (sg_name 5 sc_bay_behind.nd) (sgs_cons (sg_name 6 sc_bay_behind.nd) (sgs_cons (sg_name 7 sc_bay_behind.nd) sgs_nil))))) (sgs_cons (sg_name 8 sc_bay_behind.nd) (sgs_cons (sg_tup rfl (sgs_cons (sg_name 9 sc_bay_behind.nd) (sgs_cons (sg_name 10 sc_bay_behind.nd) sgs_nil))) sgs_nil)))))
    (ss_cons (ss_asg (sd_var 1) (sg_tup rfl (sgs_cons (sg_name 11 sc_bay_behind.nd) (sgs_cons (sg_name 12 sc_bay_behind.nd) (sgs_cons (sg_name 13 sc_bay_behind.nd) sgs_nil)))))
    (ss_cons (ss_asg (sd_var 3) (sg_tup rfl (sgs_cons (sg_name 14 sc_bay_behind.nd) (sgs_cons (sg_name 15 sc_bay_behind.nd) sgs_nil))))
    (ss_cons (ss_set 16 (sd_div (sd_mat (so_mul (so_val (sd_sub (sd_var 14) (sd_var 11))) (so_val (sd_ifExp (st_eq hu (so_val (sd_var 2)) (so_val (sd_gc rfl T.c_VENT))) sd_int sd_int)))) (sd_var 4)) sc_bay_behind.nd)
    (ss_cons (ss_set 17 (sd_mat (so_add (so_add (so_add (so_val (sd_var 11)) (so_val (sd_var 16))) (so_val (sd_ifExp (st_eq hu (so_val (sd_var 2)) (so_val (sd_gc rfl T.c_HEAT))) (sd_var 7) sd_int))) (so_val (sd_div (sd_mat (so_mul (so_val (sd_var 15)) (so_val (sd_var 5)))) sd_int)))) sc_bay_behind.nd)
    (ss_cons (ss_set 18 (sd_call h_within hr g_within F_within.kp (bind_within F_within) tk (sa_cons (sd_var 17) (sa_cons (sd_gc rfl T.c_LEAST_WARMTH) (sa_cons (sd_gc rfl T.c_MOST_WARMTH) sa_nil)))) sc_bay_behind.nd)
    (ss_cons (ss_set 19 (sd_mat (so_add (so_val (sd_sub (sd_sub (sd_var 12) sd_int) (sd_intc (so_val (sd_in hu (so_val (sd_var 2)) (so_val (sd_tup (sa_cons (sd_gc rfl T.c_VENT) (sa_cons (sd_gc rfl T.c_HEAT) sa_nil)))))) T.b_int))) (so_val (sd_ifExp (st_eq hu (so_val (sd_var 2)) (so_val (sd_gc rfl T.c_WATER))) (sd_var 6) sd_int)))) sc_bay_behind.nd)
    (ss_cons (ss_set 20 (sd_ifExp (st_ge (sd_var 15) (sd_var 10)) (sd_call h_within hr g_within F_within.kp (bind_within F_within) tk (sa_cons (sd_sub (sd_var 18) (sd_var 9)) (sa_cons sd_int (sa_cons (sd_gc rfl T.c_MOST_GROWTH) sa_nil)))) sd_int) sc_bay_behind.nd)
    (ss_one (ss_ret (sd_tup (sa_cons (sd_var 18) (sa_cons (sd_call h_within hr g_within F_within.kp (bind_within F_within) tk (sa_cons (sd_var 19) (sa_cons sd_int (sa_cons (sd_gc rfl T.c_MOST_DAMP) sa_nil)))) (sa_cons (sd_min2 (so_add (so_val (sd_var 13)) (so_val (sd_var 20))) (so_val (sd_gc rfl T.c_MOST_SIZE)) T.b_min) sa_nil))))))))))))))
theorem sc__law_state : FnScope ["_law_script", "_law_k", "_law_cell"] ["_law_script", "_law_k"] (defScope t__law_state) := ⟨rfl, rfl, rfl, by decide +kernel, rfl, by decide +kernel, by decide +kernel⟩
theorem bind__law_state (F : Fun K "_law_state" "_law_state" t__law_state f fd) : Binds K fd ["_law_script", "_law_k"] [] := F.binds (ps := ["_law_script", "_law_k"]) fun _ _ _ _ _ _ us hl => match us, hl with | [_, _], _ => rfl
theorem ok__law_state (T : Top K mg) (F : Fun K "_law_state" "_law_state" t__law_state f fd) : FnOk P w K mg base (L2.CX P w) 2 f fd ["_law_script", "_law_k"] (spOf K cl p__law_state) := by
  obtain ⟨f__law_cell_at, fd__law_cell_at, F__law_cell_at, g__law_cell_at⟩ := T.d__law_cell_at
  have h__law_cell_at := (ok__law_cell_at (P := P) (w := w) (base := base) (cl := cl) T F__law_cell_at).mono (show 1 ≤ 1 by decide)
  refine fn_ok (np := 2) (ns := 3) F sc__law_state rfl rfl (fun cdv A outer s H E hr tk => ?_)
  have hu := hu65 hr
  exact (ss_cons (ss_set 2 (sd_call h__law_cell_at hr g__law_cell_at F__law_cell_at.kp (bind__law_cell_at F__law_cell_at) tk (sa_cons (sd_var 0) (sa_cons (sd_var 1) sa_nil))) sc__law_state.nd)
    (ss_one (ss_ret (sd_mat (so_new (sn_lst (sa_cons (sd_max2 (so_val sd_int) (so_val (sd_sub (sd_var 2) (sd_pow sd_int sd_int))) T.b_max) (sa_cons (sd_mod (sd_var 2) sd_int) sa_nil))))))))
theorem sc__law_bay : FnScope ["_law_state_here", "_law_shuts", "_law_middle", "_law_low", "_law_high", "_law_needs"] ["_law_state_here"] (defScope t__law_bay) := ⟨rfl, rfl, rfl, by decide +kernel, rfl, by decide +kernel, by decide +kernel⟩
theorem bind__law_bay (F : Fun K "_law_bay" "_law_bay" t__law_bay f fd) : Binds K fd ["_law_state_here"] [] := F.binds (ps := ["_law_state_here"]) fun _ _ _ _ _ _ us hl => match us, hl with | [_], _ => rfl
theorem ok__law_bay (T : Top K mg) (F : Fun K "_law_bay" "_law_bay" t__law_bay f fd) : FnOk P w K mg base (L2.CX P w) 2 f fd ["_law_state_here"] (spOf K cl p__law_bay) := by
  obtain ⟨f__law_take, fd__law_take, F__law_take, g__law_take⟩ := T.d__law_take
  have h__law_take := (ok__law_take (P := P) (w := w) (base := base) (cl := cl) T F__law_take).mono (show 1 ≤ 1 by decide)
  refine fn_ok (np := 1) (ns := 6) F sc__law_bay rfl rfl (fun cdv A outer s H E hr tk => ?_)
  have hu := hu65 hr
  exact (ss_cons (ss_set 1 (sd_tup (sa_cons (sd_mat (so_add (so_val sd_int) (so_val (sd_call h__law_take hr g__law_take F__law_take.kp (bind__law_take F__law_take) tk (sa_cons (sd_var 0) (sa_cons sd_int sa_nil)))))) (sa_cons (sd_call h__law_take hr g__law_take F__law_take.kp (bind__law_take F__law_take) tk (sa_cons (sd_var 0) (sa_cons sd_int sa_nil))) (sa_cons (sd_mat (so_add (so_val sd_int) (so_val (sd_call h__law_take hr g__law_take F__law_take.kp (bind__law_take F__law_take) tk (sa_cons (sd_var 0) (sa_cons sd_int sa_nil)))))) (sa_cons (sd_call h__law_take hr g__law_take F__law_take.kp (bind__law_take F__law_take) tk (sa_cons (sd_var 0) (sa_cons sd_int sa_nil))) sa_nil))))) sc__law_bay.nd)
    (ss_cons (ss_set 2 (sd_call h__law_take hr g__law_take F__law_take.kp (bind__law_take F__law_take) tk (sa_cons (sd_var 0) (sa_cons sd_int sa_nil))) sc__law_bay.nd)
    (ss_cons (ss_par (i := 3) (j := 4) rfl sc__law_bay.nd (sa_cons (sd_sub (sd_var 2) (sd_call h__law_take hr g__law_take F__law_take.kp (bind__law_take F__law_take) tk (sa_cons (sd_var 0) (sa_cons sd_int sa_nil)))) (sa_cons (sd_mat (so_add (so_val (sd_var 2)) (so_val (sd_call h__law_take hr g__law_take F__law_take.kp (bind__law_take F__law_take) tk (sa_cons (sd_var 0) (sa_cons sd_int sa_nil)))))) sa_nil)))
    (ss_cons (ss_set 5 (sd_tup (sa_cons (sd_var 3) (sa_cons (sd_var 4) (sa_cons (sd_call h__law_take hr g__law_take F__law_take.kp (bind__law_take F__law_take) tk (sa_cons (sd_var 0) (sa_cons sd_int sa_nil))) (sa_cons (sd_mat (so_add (so_val sd_int) (so_val (sd_call h__law_take hr g__law_take F__law_take.kp (bind__law_take F__law_take) tk (sa_cons (sd_var 0) (sa_cons sd_int sa_nil)))))) sa_nil))))) sc__law_bay.nd)
    (ss_one (ss_ret (sd_tup (sa_cons (sd_var 1) (sa_cons (sd_var 5) (sa_cons (sd_tup (sa_cons (sd_sub (sd_var 2) (sd_call h__law_take hr g__law_take F__law_take.kp (bind__law_take F__law_take) tk (sa_cons (sd_var 0) (sa_cons sd_int sa_nil)))) (sa_cons (sd_ix (so_new (sn_lst (sa_cons sd_int (sa_cons sd_int (sa_cons (sd_call h__law_take hr g__law_take F__law_take.kp (bind__law_take F__law_take) tk (sa_cons (sd_var 0) (sa_cons sd_int sa_nil))) sa_nil))))) (so_val (sd_call h__law_take hr g__law_take F__law_take.kp (bind__law_take F__law_take) tk (sa_cons (sd_var 0) (sa_cons sd_int sa_nil)))) (by intro _ _; rfl)) sa_nil))) sa_nil))))))))))
theorem sc__law_standing : FnScope ["_law_state_here", "_law_house_here", "_law_found", "_law_shuts", "_law_low", "_law_high", "_law_dry", "_law_wet", "_law_plant", "_law_near", "_law_warmth"] ["_law_state_here", "_law_house_here"] (defScope t__law_standing) := ⟨rfl, rfl, rfl, by decide +kernel, rfl, by decide +kernel, by decide +kernel⟩
theorem bind__law_standing (F : Fun K "_law_standing" "_law_standing" t__law_standing f fd) : Binds K fd ["_law_state_here", "_law_house_here"] [] := F.binds (ps := ["_law_state_here", "_law_house_here"]) fun _ _ _ _ _ _ us hl => match us, hl with | [_, _], _ => rfl
theorem ok__law_standing (T : Top K mg) (F : Fun K "_law_standing" "_law_standing" t__law_standing f fd) : FnOk P w K mg base (L2.CX P w) 2 f fd ["_law_state_here", "_law_house_here"] (spOf K cl p__law_standing) := by
  obtain ⟨f__law_take, fd__law_take, F__law_take, g__law_take⟩ := T.d__law_take
  have h__law_take := (ok__law_take (P := P) (w := w) (base := base) (cl := cl) T F__law_take).mono (show 1 ≤ 1 by decide)
  refine fn_ok (np := 2) (ns := 11) F sc__law_standing rfl rfl (fun cdv A outer s H E hr tk => ?_)
  have hu := hu65 hr
  exact (ss_cons (ss_set 2 (sd_mat (so_new (sn_lst sa_nil))) sc__law_standing.nd)
    (ss_cons (ss_for (passes_of rfl) rfl (si_src (so_val (sd_ix (so_val (sd_var 1)) (so_val sd_int) (by intro _ _; rfl)))) (sg_tup rfl (sgs_cons (sg_name 3 sc__law_standing.nd) (sgs_cons (sg_tup rfl (sgs_cons (sg_name 4 sc__law_standing.nd) (sgs_cons (sg_name 5 sc__law_standing.nd) (sgs_cons (sg_name 6 sc__law_standing.nd) (sgs_cons (sg_name 7 sc__law_standing.nd) sgs_nil))))) (sgs_cons (sg_name 8 sc__law_standing.nd) sgs_nil)))) (ss_cons (ss_set 9 (sd_mat (so_add (so_val (sd_sub (sd_var 4) sd_int)) (so_val (sd_call h__law_take hr g__law_take F__law_take.kp (bind__law_take F__law_take) tk (sa_cons (sd_var 0) (sa_cons (sd_mat (so_add (so_val (sd_sub (sd_var 5) (sd_var 4))) (so_val sd_int))) sa_nil)))))) sc__law_standing.nd)
    (ss_cons (ss_set 10 (sd_ix (so_new (sn_lst (sa_cons (sd_var 9) (sa_cons (sd_var 9) (sa_cons (sd_var 9) (sa_cons (sd_sub (sd_call h__law_take hr g__law_take F__law_take.kp (bind__law_take F__law_take) tk (sa_cons (sd_var 0) (sa_cons sd_int sa_nil))) sd_int) sa_nil)))))) (so_val (sd_call h__law_take hr g__law_take F__law_take.kp (bind__law_take F__law_take) tk (sa_cons (sd_var 0) (sa_cons sd_int sa_nil)))) (by intro _ _; rfl)) sc__law_standing.nd)
    (ss_one (ss_drop (sd_append (sd_var 2) (sa_cons (sd_tup (sa_cons (sd_var 10) (sa_cons (sd_call h__law_take hr g__law_take F__law_take.kp (bind__law_take F__law_take) tk (sa_cons (sd_var 0) (sa_cons sd_int sa_nil))) (sa_cons (sd_call h__law_take hr g__law_take F__law_take.kp (bind__law_take F__law_take) tk (sa_cons (sd_var 0) (sa_cons sd_int sa_nil))) sa_nil)))) sa_nil)))))))
    (ss_one (ss_ret (sd_tuple (so_val (sd_var 2)) T.b_tuple)))))
theorem sc__law_sky : FnScope ["_law_state_here", "_law_cold"] ["_law_state_here"] (defScope t__law_sky) := ⟨rfl, rfl, rfl, by decide +kernel, rfl, by decide +kernel, by decide +kernel⟩
theorem bind__law_sky (F : Fun K "_law_sky" "_law_sky" t__law_sky f fd) : Binds K fd ["_law_state_here"] [] := F.binds (ps := ["_law_state_here"]) fun _ _ _ _ _ _ us hl => match us, hl with | [_], _ => rfl
theorem ok__law_sky (T : Top K mg) (F : Fun K "_law_sky" "_law_sky" t__law_sky f fd) : FnOk P w K mg base (L2.CX P w) 2 f fd ["_law_state_here"] (spOf K cl p__law_sky) := by
  obtain ⟨f__law_take, fd__law_take, F__law_take, g__law_take⟩ := T.d__law_take
  have h__law_take := (ok__law_take (P := P) (w := w) (base := base) (cl := cl) T F__law_take).mono (show 1 ≤ 1 by decide)
  refine fn_ok (np := 1) (ns := 2) F sc__law_sky rfl rfl (fun cdv A outer s H E hr tk => ?_)
  have hu := hu65 hr
  exact (ss_cons (ss_set 1 (sd_ix (so_new (sn_lst (sa_cons (sd_sub (sd_call h__law_take hr g__law_take F__law_take.kp (bind__law_take F__law_take) tk (sa_cons (sd_var 0) (sa_cons sd_int sa_nil))) sd_int) (sa_cons (sd_sub (sd_call h__law_take hr g__law_take F__law_take.kp (bind__law_take F__law_take) tk (sa_cons (sd_var 0) (sa_cons sd_int sa_nil))) sd_int) (sa_cons (sd_sub (sd_call h__law_take hr g__law_take F__law_take.kp (bind__law_take F__law_take) tk (sa_cons (sd_var 0) (sa_cons sd_int sa_nil))) sd_int) sa_nil))))) (so_val (sd_call h__law_take hr g__law_take F__law_take.kp (bind__law_take F__law_take) tk (sa_cons (sd_var 0) (sa_cons sd_int sa_nil)))) (by intro _ _; rfl)) sc__law_sky.nd)
    (ss_one (ss_ret (sd_tup (sa_cons (sd_var 1) (sa_cons (sd_call h__law_take hr g__law_take F__law_take.kp (bind__law_take F__law_take) tk (sa_cons (sd_var 0) (sa_cons sd_int sa_nil))) sa_nil))))))
theorem sc_is_row : FnScope ["thing", "bounds", "one", "low", "high"] ["thing", "bounds"] (defScope t_is_row) := ⟨rfl, rfl, rfl, by decide +kernel, rfl, by decide +kernel, by decide +kernel⟩
theorem bind_is_row (F : Fun K "is_row" "is_row" t_is_row f fd) : Binds K fd ["thing", "bounds"] [] := F.binds (ps := ["thing", "bounds"]) fun _ _ _ _ _ _ us hl => match us, hl with | [_, _], _ => rfl
theorem ok_is_row (T : Top K mg) (F : Fun K "is_row" "is_row" t_is_row f fd) : FnOk P w K mg base (L2.CX P w) 3 f fd ["thing", "bounds"] (spOf K cl p_is_row) := by
  obtain ⟨f_is_among, fd_is_among, F_is_among, g_is_among⟩ := T.d_is_among
  have h_is_among := (ok_is_among (P := P) (w := w) (base := base) (cl := cl) T F_is_among).mono (show 2 ≤ 2 by decide)
  refine fn_ok (np := 2) (ns := 5) F sc_is_row rfl rfl (fun cdv A outer s H E hr tk => ?_)
  have hu := hu65 hr
  exact (ss_cons (ss_if (st_of (sw_or (st_not (st_truth (sd_isi (t := .tup) (so_val (sd_var 0)) T.b_isinstance T.b_tuple (by decide +kernel)))) (sw_or1 (st_ne hu (so_val (sd_len (so_val (sd_var 0)) T.b_len)) (so_val (sd_len (so_val (sd_var 1)) T.b_len)))))) (ss_one (ss_ret sd_bl)) ss_nil)
    (ss_one (ss_ret (sd_all (so_new (sn_lc (own := [("one", 2), ("low", 3), ("high", 4)]) rfl sc_is_row.nd (si_zip2 T.b_zip (so_val (sd_var 0)) (so_val (sd_var 1))) (show BlkOk ["thing", "bounds", "one", "low", "high"] (defScope t_is_row) _ [("one", 2), ("low", 3), ("high", 4)] from ⟨rfl, by decide +kernel, by decide +kernel, by decide +kernel, by decide +kernel⟩) (fun _ _ _ _ _ => (sg_tup rfl (sgs_cons (sg_name 2 sc_is_row.nd) (sgs_cons (sg_tup rfl (sgs_cons (sg_name 3 sc_is_row.nd) (sgs_cons (sg_name 4 sc_is_row.nd) sgs_nil))) sgs_nil)))) (fun _ _ _ _ _ => st_yes) (fun _ _ _ _ _ => (sd_call h_is_among hr g_is_among F_is_among.kp (bind_is_among F_is_among) (takesF _) (sa_cons (sd_var 2) (sa_cons (sd_var 3) (sa_cons (sd_var 4) sa_nil))))))) T.b_all))))
theorem sc_behind_in : FnScope ["house", "standing", "act", "sky", "bay", "one", "done"] ["house", "standing", "act", "sky"] (defScope t_behind_in) := ⟨rfl, rfl, rfl, by decide +kernel, rfl, by decide +kernel, by decide +kernel⟩
theorem bind_behind_in (F : Fun K "behind_in" "behind_in" t_behind_in f fd) : Binds K fd ["house", "standing", "act", "sky"] [] := F.binds (ps := ["house", "standing", "act", "sky"]) fun _ _ _ _ _ _ us hl => match us, hl with | [_, _, _, _], _ => rfl
theorem ok_behind_in (T : Top K mg) (F : Fun K "behind_in" "behind_in" t_behind_in f fd) : FnOk P w K mg base (L2.CX P w) 3 f fd ["house", "standing", "act", "sky"] (spOf K cl p_behind_in) := by
  obtain ⟨f_bay_behind, fd_bay_behind, F_bay_behind, g_bay_behind⟩ := T.d_bay_behind
  have h_bay_behind := (ok_bay_behind (P := P) (w := w) (base := base) (cl := cl) T F_bay_behind).mono (show 2 ≤ 2 by decide)
  refine fn_ok (np := 4) (ns := 7) F sc_behind_in rfl rfl (fun cdv A outer s H E hr tk => ?_)
  have hu := hu65 hr
  exact (ss_one (ss_ret (sd_tuple (so_new (sn_lc (own := [("bay", 4), ("one", 5), ("done", 6)]) rfl sc_behind_in.nd (si_zip3 T.b_zip (so_val (sd_ix (so_val (sd_var 0)) (so_val sd_int) (by intro _ _; rfl))) (so_val (sd_var 1)) (so_val (sd_var 2))) (show BlkOk ["house", "standing", "act", "sky", "bay", "one", "done"] (defScope t_behind_in) _ [("bay", 4), ("one", 5), ("done", 6)] from ⟨rfl, by decide +kernel, by decide +kernel, by decide +kernel, by decide +kernel⟩) (fun _ _ _ _ _ => (sg_tup rfl (sgs_cons (sg_name 4 sc_behind_in.nd) (sgs_cons (sg_name 5 sc_behind_in.nd) (sgs_cons (sg_name 6 sc_behind_in.nd) sgs_nil))))) (fun _ _ _ _ _ => st_yes) (fun _ _ _ _ _ => (sd_call h_bay_behind hr g_bay_behind F_bay_behind.kp (bind_bay_behind F_bay_behind) (takesF _) (sa_cons (sd_var 4) (sa_cons (sd_var 5) (sa_cons (sd_var 6) (sa_cons (sd_var 3) sa_nil)))))))) T.b_tuple)))
theorem sc__law_house : FnScope ["_law_state_here", "_law_most", "_law_bays", "_law_turn"] ["_law_state_here", "_law_most"] (defScope t__law_house) := ⟨rfl, rfl, rfl, by decide +kernel, rfl, by decide +kernel, by decide +kernel⟩
theorem bind__law_house (F : Fun K "_law_house" "_law_house" t__law_house f fd) : Binds K fd ["_law_state_here", "_law_most"] [] := F.binds (ps := ["_law_state_here", "_law_most"]) fun _ _ _ _ _ _ us hl => match us, hl with | [_, _], _ => rfl
theorem ok__law_house (T : Top K mg) (F : Fun K "_law_house" "_law_house" t__law_house f fd) : FnOk P w K mg base (L2.CX P w) 3 f fd ["_law_state_here", "_law_most"] (spOf K cl p__law_house) := by
  obtain ⟨f__law_take, fd__law_take, F__law_take, g__law_take⟩ := T.d__law_take
  have h__law_take := (ok__law_take (P := P) (w := w) (base := base) (cl := cl) T F__law_take).mono (show 1 ≤ 2 by decide)
  obtain ⟨f__law_bay, fd__law_bay, F__law_bay, g__law_bay⟩ := T.d__law_bay
  have h__law_bay := (ok__law_bay (P := P) (w := w) (base := base) (cl := cl) T F__law_bay).mono (show 2 ≤ 2 by decide)
  refine fn_ok (np := 2) (ns := 4) F sc__law_house rfl rfl (fun cdv A outer s H E hr tk => ?_)
  have hu := hu65 hr
  exact (ss_cons (ss_set 2 (sd_tuple (so_new (sn_lc (own := [("_law_turn", 3)]) rfl sc__law_house.nd (si_rng1 T.b_range (sd_mat (so_add (so_val sd_int) (so_val (sd_call h__law_take hr g__law_take F__law_take.kp (bind__law_take F__law_take) tk (sa_cons (sd_var 0) (sa_cons (sd_var 1) sa_nil))))))) (show BlkOk ["_law_state_here", "_law_most", "_law_bays", "_law_turn"] (defScope t__law_house) _ [("_law_turn", 3)] from ⟨rfl, by decide +kernel, by decide +kernel, by decide +kernel, by decide +kernel⟩) (fun _ _ _ _ _ => (sg_name 3 sc__law_house.nd)) (fun _ _ _ _ _ => st_yes) (fun _ _ _ _ _ => (sd_call h__law_bay hr g__law_bay F__law_bay.kp (bind__law_bay F__law_bay) (takesF _) (sa_cons (sd_var 0) sa_nil))))) T.b_tuple) sc__law_house.nd)
    (ss_one (ss_ret (sd_tup (sa_cons (sd_var 2) (sa_cons (sd_call h__law_take hr g__law_take F__law_take.kp (bind__law_take F__law_take) tk (sa_cons (sd_var 0) (sa_cons sd_int sa_nil))) (sa_cons (sd_call h__law_take hr g__law_take F__law_take.kp (bind__law_take F__law_take) tk (sa_cons (sd_var 0) (sa_cons sd_int sa_nil))) sa_nil)))))))
theorem sc_is_needs : FnScope ["thing"] ["thing"] (defScope t_is_needs) := ⟨rfl, rfl, rfl, by decide +kernel, rfl, by decide +kernel, by decide +kernel⟩
theorem bind_is_needs (F : Fun K "is_needs" "is_needs" t_is_needs f fd) : Binds K fd ["thing"] [] := F.binds (ps := ["thing"]) fun _ _ _ _ _ _ us hl => match us, hl with | [_], _ => rfl
theorem ok_is_needs (T : Top K mg) (F : Fun K "is_needs" "is_needs" t_is_needs f fd) : FnOk P w K mg base (L2.CX P w) 4 f fd ["thing"] (spOf K cl p_is_needs) := by
  obtain ⟨f_is_row, fd_is_row, F_is_row, g_is_row⟩ := T.d_is_row
  have h_is_row := (ok_is_row (P := P) (w := w) (base := base) (cl := cl) T F_is_row).mono (show 3 ≤ 3 by decide)
  refine fn_ok (np := 1) (ns := 1) F sc_is_needs rfl rfl (fun cdv A outer s H E hr tk => ?_)
  have hu := hu65 hr
  exact (ss_cons (ss_if (st_not (st_truth (sd_call h_is_row hr g_is_row F_is_row.kp (bind_is_row F_is_row) tk (sa_cons (sd_var 0) (sa_cons (sd_tup (sa_cons (sd_tup (sa_cons (sd_neg sd_int) (sa_cons sd_int sa_nil))) (sa_cons (sd_tup (sa_cons (sd_neg sd_int) (sa_cons sd_int sa_nil))) (sa_cons (sd_tup (sa_cons sd_int (sa_cons (sd_gc rfl T.c_MOST_DAMP) sa_nil))) (sa_cons (sd_tup (sa_cons sd_int (sa_cons (sd_gc rfl T.c_MOST_DAMP) sa_nil))) sa_nil))))) sa_nil))))) (ss_one (ss_ret sd_bl)) ss_nil)
    (ss_one (ss_ret (sd_and (sd_le (sd_ix (so_val (sd_var 0)) (so_val sd_int) (by intro _ _; rfl)) (sd_ix (so_val (sd_var 0)) (so_val sd_int) (by intro _ _; rfl))) (sd_one (sd_le (sd_ix (so_val (sd_var 0)) (so_val sd_int) (by intro _ _; rfl)) (sd_ix (so_val (sd_var 0)) (so_val sd_int) (by intro _ _; rfl))))))))
theorem sc_is_sky : FnScope ["thing"] ["thing"] (defScope t_is_sky) := ⟨rfl, rfl, rfl, by decide +kernel, rfl, by decide +kernel, by decide +kernel⟩
theorem bind_is_sky (F : Fun K "is_sky" "is_sky" t_is_sky f fd) : Binds K fd ["thing"] [] := F.binds (ps := ["thing"]) fun _ _ _ _ _ _ us hl => match us, hl with | [_], _ => rfl
theorem ok_is_sky (T : Top K mg) (F : Fun K "is_sky" "is_sky" t_is_sky f fd) : FnOk P w K mg base (L2.CX P w) 4 f fd ["thing"] (spOf K cl p_is_sky) := by
  obtain ⟨f_is_row, fd_is_row, F_is_row, g_is_row⟩ := T.d_is_row
  have h_is_row := (ok_is_row (P := P) (w := w) (base := base) (cl := cl) T F_is_row).mono (show 3 ≤ 3 by decide)
  refine fn_ok (np := 1) (ns := 1) F sc_is_sky rfl rfl (fun cdv A outer s H E hr tk => ?_)
  have hu := hu65 hr
  exact (ss_one (ss_ret (sd_call h_is_row hr g_is_row F_is_row.kp (bind_is_row F_is_row) tk (sa_cons (sd_var 0) (sa_cons (sd_tup (sa_cons (sd_tup (sa_cons (sd_neg sd_int) (sa_cons sd_int sa_nil))) (sa_cons (sd_tup (sa_cons sd_int (sa_cons sd_int sa_nil))) sa_nil))) sa_nil)))))
theorem sc_is_standing_of : FnScope ["house", "thing", "one"] ["house", "thing"] (defScope t_is_standing_of) := ⟨rfl, rfl, rfl, by decide +kernel, rfl, by decide +kernel, by decide +kernel⟩
theorem bind_is_standing_of (F : Fun K "is_standing_of" "is_standing_of" t_is_standing_of f fd) : Binds K fd ["house", "thing"] [] := F.binds (ps := ["house", "thing"]) fun _ _ _ _ _ _ us hl => match us, hl with | [_, _], _ => rfl
theorem ok_is_standing_of (T : Top K mg) (F : Fun K "is_standing_of" "is_standing_of" t_is_standing_of f fd) : FnOk P w K mg base (L2.CX P w) 4 f fd ["house", "thing"] (spOf K cl p_is_standing_of) := by
  obtain ⟨f_is_row, fd_is_row, F_is_row, g_is_row⟩ := T.d_is_row
  have h_is_row := (ok_is_row (P := P) (w := w) (base := base) (cl := cl) T F_is_row).mono (show 3 ≤ 3 by decide)
  refine fn_ok (np := 2) (ns := 3) F sc_is_standing_of rfl rfl (fun cdv A outer s H E hr tk => ?_)
  have hu := hu65 hr
  exact (ss_cons (ss_if (st_of (sw_or (st_not (st_truth (sd_isi (t := .tup) (so_val (sd_var 1)) T.b_isinstance T.b_tuple (by decide +kernel)))) (sw_or1 (st_ne hu (so_val (sd_len (so_val (sd_var 1)) T.b_len)) (so_val (sd_len (so_val (sd_ix (so_val (sd_var 0)) (so_val sd_int) (by intro _ _; rfl))) T.b_len)))))) (ss_one (ss_ret sd_bl)) ss_nil)
    (ss_one (ss_ret (sd_all (so_new (sn_lc (own := [("one", 2)]) rfl sc_is_standing_of.nd (si_src (so_val (sd_var 1))) (show BlkOk ["house", "thing", "one"] (defScope t_is_standing_of) _ [("one", 2)] from ⟨rfl, by decide +kernel, by decide +kernel, by decide +kernel, by decide +kernel⟩) (fun _ _ _ _ _ => (sg_name 2 sc_is_standing_of.nd)) (fun _ _ _ _ _ => st_yes) (fun _ _ _ _ _ => (sd_call h_is_row hr g_is_row F_is_row.kp (bind_is_row F_is_row) (takesF _) (sa_cons (sd_var 2) (sa_cons (sd_tup (sa_cons (sd_tup (sa_cons (sd_gc rfl T.c_LEAST_WARMTH) (sa_cons (sd_gc rfl T.c_MOST_WARMTH) sa_nil))) (sa_cons (sd_tup (sa_cons sd_int (sa_cons (sd_gc rfl T.c_MOST_DAMP) sa_nil))) (sa_cons (sd_tup (sa_cons sd_int (sa_cons (sd_gc rfl T.c_MOST_SIZE) sa_nil))) sa_nil)))) sa_nil)))))) T.b_all))))
theorem sc_is_act_of : FnScope ["house", "thing"] ["house", "thing"] (defScope t_is_act_of) := ⟨rfl, rfl, rfl, by decide +kernel, rfl, by decide +kernel, by decide +kernel⟩
theorem bind_is_act_of (F : Fun K "is_act_of" "is_act_of" t_is_act_of f fd) : Binds K fd ["house", "thing"] [] := F.binds (ps := ["house", "thing"]) fun _ _ _ _ _ _ us hl => match us, hl with | [_, _], _ => rfl
theorem ok_is_act_of (T : Top K mg) (F : Fun K "is_act_of" "is_act_of" t_is_act_of f fd) : FnOk P w K mg base (L2.CX P w) 4 f fd ["house", "thing"] (spOf K cl p_is_act_of) := by
  obtain ⟨f_is_row, fd_is_row, F_is_row, g_is_row⟩ := T.d_is_row
  have h_is_row := (ok_is_row (P := P) (w := w) (base := base) (cl := cl) T F_is_row).mono (show 3 ≤ 3 by decide)
  obtain ⟨f_may_do, fd_may_do, F_may_do, g_may_do⟩ := T.d_may_do
  have h_may_do := (ok_may_do (P := P) (w := w) (base := base) (cl := cl) T F_may_do).mono (show 1 ≤ 3 by decide)
  refine fn_ok (np := 2) (ns := 2) F sc_is_act_of rfl rfl (fun cdv A outer s H E hr tk => ?_)
  have hu := hu65 hr
  exact (ss_one (ss_ret (sd_and (sd_call h_is_row hr g_is_row F_is_row.kp (bind_is_row F_is_row) tk (sa_cons (sd_var 1) (sa_cons (sd_mat (so_mul (so_val (sd_tup (sa_cons (sd_tup (sa_cons (sd_gc rfl T.c_NOTHING) (sa_cons (sd_gc rfl T.c_WATER) sa_nil))) sa_nil))) (so_val (sd_len (so_val (sd_ix (so_val (sd_var 0)) (so_val sd_int) (by intro _ _; rfl))) T.b_len)))) sa_nil))) (sd_one (sd_call h_may_do hr g_may_do F_may_do.kp (bind_may_do F_may_do) tk (sa_cons (sd_var 0) (sa_cons (sd_var 1) sa_nil)))))))
theorem sc_is_bay : FnScope ["thing"] ["thing"] (defScope t_is_bay) := ⟨rfl, rfl, rfl, by decide +kernel, rfl, by decide +kernel, by decide +kernel⟩
theorem bind_is_bay (F : Fun K "is_bay" "is_bay" t_is_bay f fd) : Binds K fd ["thing"] [] := F.binds (ps := ["thing"]) fun _ _ _ _ _ _ us hl => match us, hl with | [_], _ => rfl
theorem ok_is_bay (T : Top K mg) (F : Fun K "is_bay" "is_bay" t_is_bay f fd) : FnOk P w K mg base (L2.CX P w) 5 f fd ["thing"] (spOf K cl p_is_bay) := by
  obtain ⟨f_is_row, fd_is_row, F_is_row, g_is_row⟩ := T.d_is_row
  have h_is_row := (ok_is_row (P := P) (w := w) (base := base) (cl := cl) T F_is_row).mono (show 3 ≤ 4 by decide)
  obtain ⟨f_is_needs, fd_is_needs, F_is_needs, g_is_needs⟩ := T.d_is_needs
  have h_is_needs := (ok_is_needs (P := P) (w := w) (base := base) (cl := cl) T F_is_needs).mono (show 4 ≤ 4 by decide)
  refine fn_ok (np := 1) (ns := 1) F sc_is_bay rfl rfl (fun cdv A outer s H E hr tk => ?_)
  have hu := hu65 hr
  exact (ss_cons (ss_if (st_of (sw_or (st_not (st_truth (sd_isi (t := .tup) (so_val (sd_var 0)) T.b_isinstance T.b_tuple (by decide +kernel)))) (sw_or (st_ne hu (so_val (sd_len (so_val (sd_var 0)) T.b_len)) (so_val sd_int)) (sw_or1 (st_not (st_truth (sd_call h_is_row hr g_is_row F_is_row.kp (bind_is_row F_is_row) tk (sa_cons (sd_ix (so_val (sd_var 0)) (so_val sd_int) (by intro _ _; rfl)) (sa_cons (sd_tup (sa_cons (sd_tup (sa_cons sd_int (sa_cons sd_int sa_nil))) (sa_cons (sd_tup (sa_cons sd_int (sa_cons sd_int sa_nil))) (sa_cons (sd_tup (sa_cons sd_int (sa_cons sd_int sa_nil))) (sa_cons (sd_tup (sa_cons sd_int (sa_cons sd_int sa_nil))) sa_nil))))) sa_nil))))))))) (ss_one (ss_ret sd_bl)) ss_nil)
    (ss_one (ss_ret (sd_and (sd_call h_is_needs hr g_is_needs F_is_needs.kp (bind_is_needs F_is_needs) tk (sa_cons (sd_ix (so_val (sd_var 0)) (so_val sd_int) (by intro _ _; rfl)) sa_nil)) (sd_one (sd_call h_is_row hr g_is_row F_is_row.kp (bind_is_row F_is_row) tk (sa_cons (sd_ix (so_val (sd_var 0)) (so_val sd_int) (by intro _ _; rfl)) (sa_cons (sd_tup (sa_cons (sd_tup (sa_cons (sd_neg sd_int) (sa_cons sd_int sa_nil))) (sa_cons (sd_tup (sa_cons sd_int (sa_cons sd_int sa_nil))) sa_nil))) sa_nil))))))))
theorem sc_is_house : FnScope ["thing", "bay"] ["thing"] (defScope t_is_house) := ⟨rfl, rfl, rfl, by decide +kernel, rfl, by decide +kernel, by decide +kernel⟩
theorem bind_is_house (F : Fun K "is_house" "is_house" t_is_house f fd) : Binds K fd ["thing"] [] := F.binds (ps := ["thing"]) fun _ _ _ _ _ _ us hl => match us, hl with | [_], _ => rfl
theorem ok_is_house (T : Top K mg) (F : Fun K "is_house" "is_house" t_is_house f fd) : FnOk P w K mg base (L2.CX P w) 6 f fd ["thing"] (spOf K cl p_is_house) := by
  obtain ⟨f_is_bay, fd_is_bay, F_is_bay, g_is_bay⟩ := T.d_is_bay
  have h_is_bay := (ok_is_bay (P := P) (w := w) (base := base) (cl := cl) T F_is_bay).mono (show 5 ≤ 5 by decide)
  obtain ⟨f_is_among, fd_is_among, F_is_among, g_is_among⟩ := T.d_is_among
  have h_is_among := (ok_is_among (P := P) (w := w) (base := base) (cl := cl) T F_is_among).mono (show 2 ≤ 5 by decide)
  refine fn_ok (np := 1) (ns := 2) F sc_is_house rfl rfl (fun cdv A outer s H E hr tk => ?_)
  have hu := hu65 hr
  exact (ss_cons (ss_if (st_of (sw_or (st_not (st_truth (sd_isi (t := .tup) (so_val (sd_var 0)) T.b_isinstance T.b_tuple (by decide +kernel)))) (sw_or (st_ne hu (so_val (sd_len (so_val (sd_var 0)) T.b_len)) (so_val sd_int)) (sw_or1 (st_not (st_truth (sd_isi (t := .tup) (so_val (sd_ix (so_val (sd_var 0)) (so_val sd_int) (by intro _ _; rfl))) T.b_isinstance T.b_tuple (by decide +kernel)))))))) (ss_one (ss_ret sd_bl)) ss_nil)
    (ss_cons (ss_if (st_of (sw_or (st_not (st_lele sd_int (sd_len (so_val (sd_ix (so_val (sd_var 0)) (so_val sd_int) (by intro _ _; rfl))) T.b_len) (sd_gc rfl T.c_MOST_BAYS))) (sw_or1 (st_not (st_truth (sd_all (so_new (sn_lc (own := [("bay", 1)]) rfl sc_is_house.nd (si_src (so_val (sd_ix (so_val (sd_var 0)) (so_val sd_int) (by intro _ _; rfl)))) (show BlkOk ["thing", "bay"] (defScope t_is_house) _ [("bay", 1)] from ⟨rfl, by decide +kernel, by decide +kernel, by decide +kernel, by decide +kernel⟩) (fun _ _ _ _ _ => (sg_name 1 sc_is_house.nd)) (fun _ _ _ _ _ => st_yes) (fun _ _ _ _ _ => (sd_call h_is_bay hr g_is_bay F_is_bay.kp (bind_is_bay F_is_bay) (takesF _) (sa_cons (sd_var 1) sa_nil))))) T.b_all)))))) (ss_one (ss_ret sd_bl)) ss_nil)
    (ss_one (ss_ret (sd_and (sd_call h_is_among hr g_is_among F_is_among.kp (bind_is_among F_is_among) tk (sa_cons (sd_ix (so_val (sd_var 0)) (so_val sd_int) (by intro _ _; rfl)) (sa_cons sd_int (sa_cons (sd_gc rfl T.c_MOST_POWER) sa_nil)))) (sd_one (sd_call h_is_among hr g_is_among F_is_among.kp (bind_is_among F_is_among) tk (sa_cons (sd_ix (so_val (sd_var 0)) (so_val sd_int) (by intro _ _; rfl)) (sa_cons sd_int (sa_cons sd_int sa_nil))))))))))
theorem sc_need_house : FnScope ["thing"] ["thing"] (defScope t_need_house) := ⟨rfl, rfl, rfl, by decide +kernel, rfl, by decide +kernel, by decide +kernel⟩
theorem bind_need_house (F : Fun K "need_house" "need_house" t_need_house f fd) : Binds K fd ["thing"] [] := F.binds (ps := ["thing"]) fun _ _ _ _ _ _ us hl => match us, hl with | [_], _ => rfl
theorem ok_need_house (T : Top K mg) (F : Fun K "need_house" "need_house" t_need_house f fd) : FnOk P w K mg base (L2.CX P w) 7 f fd ["thing"] (spOf K cl p_need_house) := by
  obtain ⟨f_is_house, fd_is_house, F_is_house, g_is_house⟩ := T.d_is_house
  have h_is_house := (ok_is_house (P := P) (w := w) (base := base) (cl := cl) T F_is_house).mono (show 6 ≤ 6 by decide)
  refine fn_ok (np := 1) (ns := 1) F sc_need_house rfl rfl (fun cdv A outer s H E hr tk => ?_)
  have hu := hu65 hr
  exact (ss_one (ss_if (st_not (st_truth (sd_call h_is_house hr g_is_house F_is_house.kp (bind_is_house F_is_house) tk (sa_cons (sd_var 0) sa_nil)))) (ss_one ss_never) ss_nil))
theorem sc_need_standing : FnScope ["house", "thing"] ["house", "thing"] (defScope t_need_standing) := ⟨rfl, rfl, rfl, by decide +kernel, rfl, by decide +kernel, by decide +kernel⟩
theorem bind_need_standing (F : Fun K "need_standing" "need_standing" t_need_standing f fd) : Binds K fd ["house", "thing"] [] := F.binds (ps := ["house", "thing"]) fun _ _ _ _ _ _ us hl => match us, hl with | [_, _], _ => rfl
theorem ok_need_standing (T : Top K mg) (F : Fun K "need_standing" "need_standing" t_need_standing f fd) : FnOk P w K mg base (L2.CX P w) 8 f fd ["house", "thing"] (spOf K cl p_need_standing) := by
  obtain ⟨f_need_house, fd_need_house, F_need_house, g_need_house⟩ := T.d_need_house
  have h_need_house := (ok_need_house (P := P) (w := w) (base := base) (cl := cl) T F_need_house).mono (show 7 ≤ 7 by decide)
  obtain ⟨f_is_standing_of, fd_is_standing_of, F_is_standing_of, g_is_standing_of⟩ := T.d_is_standing_of
  have h_is_standing_of := (ok_is_standing_of (P := P) (w := w) (base := base) (cl := cl) T F_is_standing_of).mono (show 4 ≤ 7 by decide)
  refine fn_ok (np := 2) (ns := 2) F sc_need_standing rfl rfl (fun cdv A outer s H E hr tk => ?_)
  have hu := hu65 hr
  exact (ss_cons (ss_drop (sd_call h_need_house hr g_need_house F_need_house.kp (bind_need_house F_need_house) tk (sa_cons (sd_var 0) sa_nil)))
    (ss_one (ss_if (st_not (st_truth (sd_call h_is_standing_of hr g_is_standing_of F_is_standing_of.kp (bind_is_standing_of F_is_standing_of) tk (sa_cons (sd_var 0) (sa_cons (sd_var 1) sa_nil))))) (ss_one ss_never) ss_nil)))
theorem sc_behind : FnScope ["house", "standing", "act", "sky"] ["house", "standing", "act", "sky"] (defScope t_behind) := ⟨rfl, rfl, rfl, by decide +kernel, rfl, by decide +kernel, by decide +kernel⟩
theorem bind_behind (F : Fun K "behind" "behind" t_behind f fd) : Binds K fd ["house", "standing", "act", "sky"] [] := F.binds (ps := ["house", "standing", "act", "sky"]) fun _ _ _ _ _ _ us hl => match us, hl with | [_, _, _, _], _ => rfl
theorem ok_behind (T : Top K mg) (F : Fun K "behind" "behind" t_behind f fd) : FnOk P w K mg base (L2.CX P w) 9 f fd ["house", "standing", "act", "sky"] (spOf K cl p_behind) := by
  obtain ⟨f_need_standing, fd_need_standing, F_need_standing, g_need_standing⟩ := T.d_need_standing
  have h_need_standing := (ok_need_standing (P := P) (w := w) (base := base) (cl := cl) T F_need_standing).mono (show 8 ≤ 8 by decide)
  obtain ⟨f_is_act_of, fd_is_act_of, F_is_act_of, g_is_act_of⟩ := T.d_is_act_of
  have h_is_act_of := (ok_is_act_of (P := P) (w := w) (base := base) (cl := cl) T F_is_act_of).mono (show 4 ≤ 8 by decide)
  obtain ⟨f_is_sky, fd_is_sky, F_is_sky, g_is_sky⟩ := T.d_is_sky
  have h_is_sky := (ok_is_sky (P := P) (w := w) (base := base) (cl := cl) T F_is_sky).mono (show 4 ≤ 8 by decide)
  obtain ⟨f_behind_in, fd_behind_in, F_behind_in, g_behind_in⟩ := T.d_behind_in
  have h_behind_in := (ok_behind_in (P := P) (w := w) (base := base) (cl := cl) T F_behind_in).mono (show 3 ≤ 8 by decide)
  refine fn_ok (np := 4) (ns := 4) F sc_behind rfl rfl (fun cdv A outer s H E hr tk => ?_)
  have hu := hu65 hr
  exact (ss_cons (ss_drop (sd_call h_need_standing hr g_need_standing F_need_standing.kp (bind_need_standing F_need_standing) tk (sa_cons (sd_var 0) (sa_cons (sd_var 1) sa_nil))))
    (ss_cons (ss_if (st_not (st_truth (sd_call h_is_act_of hr g_is_act_of F_is_act_of.kp (bind_is_act_of F_is_act_of) tk (sa_cons (sd_var 0) (sa_cons (sd_var 2) sa_nil))))) (ss_one ss_never) ss_nil)
    (ss_cons (ss_if (st_not (st_truth (sd_call h_is_sky hr g_is_sky F_is_sky.kp (bind_is_sky F_is_sky) tk (sa_cons (sd_var 3) sa_nil)))) (ss_one ss_never) ss_nil)
    (ss_one (ss_ret (sd_call h_behind_in hr g_behind_in F_behind_in.kp (bind_behind_in F_behind_in) tk (sa_cons (sd_var 0) (sa_cons (sd_var 1) (sa_cons (sd_var 2) (sa_cons (sd_var 3) sa_nil))))))))))
theorem sc__law_by : FnScope ["_law_bay_here", "_law_shuts", "_law_one", "_law_done", "_law_sky_here"] ["_law_bay_here", "_law_shuts", "_law_one", "_law_done", "_law_sky_here"] (defScope t__law_by) := ⟨rfl, rfl, rfl, by decide +kernel, rfl, by decide +kernel, by decide +kernel⟩
theorem bind__law_by (F : Fun K "_law_by" "_law_by" t__law_by f fd) : Binds K fd ["_law_bay_here", "_law_shuts", "_law_one", "_law_done", "_law_sky_here"] [] := F.binds (ps := ["_law_bay_here", "_law_shuts", "_law_one", "_law_done", "_law_sky_here"]) fun _ _ _ _ _ _ us hl => match us, hl with | [_, _, _, _, _], _ => rfl
theorem ok__law_by (T : Top K mg) (F : Fun K "_law_by" "_law_by" t__law_by f fd) : FnOk P w K mg base (L2.CX P w) 10 f fd ["_law_bay_here", "_law_shuts", "_law_one", "_law_done", "_law_sky_here"] (spOf K cl p__law_by) := by
  obtain ⟨f_behind, fd_behind, F_behind, g_behind⟩ := T.d_behind
  have h_behind := (ok_behind (P := P) (w := w) (base := base) (cl := cl) T F_behind).mono (show 9 ≤ 9 by decide)
  refine fn_ok (np := 5) (ns := 5) F sc__law_by rfl rfl (fun cdv A outer s H E hr tk => ?_)
  have hu := hu65 hr
  exact (ss_one (ss_ret (sd_ix (so_val (sd_call h_behind hr g_behind F_behind.kp (bind_behind F_behind) tk (sa_cons (sd_tup (sa_cons (sd_tup (sa_cons (sd_mat (so_add (so_val (sd_tup (sa_cons (sd_var 1) sa_nil))) (so_slice (so_val (sd_var 0)) (sp_some sd_int) sp_none))) sa_nil)) (sa_cons sd_int (sa_cons sd_int sa_nil)))) (sa_cons (sd_tup (sa_cons (sd_var 2) sa_nil)) (sa_cons (sd_tup (sa_cons (sd_var 3) sa_nil)) (sa_cons (sd_var 4) sa_nil)))))) (so_val sd_int) (by intro _ _; rfl))))
theorem sc__law_right : FnScope ["_law_bay_here", "_law_one", "_law_sky_here", "_law_tight", "_law_glass", "_law_soak", "_law_heater", "_law_done", "_law_first", "_law_hot", "_law_more", "_law_wet", "_law_cold", "_law_dark", "_law_open_one", "_law_light"] ["_law_bay_here", "_law_one", "_law_sky_here"] (defScope t__law_right) := ⟨rfl, rfl, rfl, by decide +kernel, rfl, by decide +kernel, by decide +kernel⟩
theorem bind__law_right (F : Fun K "_law_right" "_law_right" t__law_right f fd) : Binds K fd ["_law_bay_here", "_law_one", "_law_sky_here"] [] := F.binds (ps := ["_law_bay_here", "_law_one", "_law_sky_here"]) fun _ _ _ _ _ _ us hl => match us, hl with | [_, _, _], _ => rfl
theorem ok__law_right (T : Top K mg) (F : Fun K "_law_right" "_law_right" t__law_right f fd) : FnOk P w K mg base (L2.CX P w) 11 f fd ["_law_bay_here", "_law_one", "_law_sky_here"] (spOf K cl p__law_right) := by
  obtain ⟨f__law_by, fd__law_by, F__law_by, g__law_by⟩ := T.d__law_by
  have h__law_by := (ok__law_by (P := P) (w := w) (base := base) (cl := cl) T F__law_by).mono (show 10 ≤ 10 by decide)
  refine fn_ok (np := 3) (ns := 16) F sc__law_right rfl rfl (fun cdv A outer s H E hr tk => ?_)
  have hu := hu65 hr
  exact (ss_cons (ss_asg (sd_ix (so_val (sd_var 0)) (so_val sd_int) (by intro _ _; rfl)) (sg_tup rfl (sgs_cons (sg_name 3 sc__law_right.nd) (sgs_cons (sg_name 4 sc__law_right.nd) (sgs_cons (sg_name 5 sc__law_right.nd) (sgs_cons (sg_name 6 sc__law_right.nd) sgs_nil))))))
    (ss_cons (ss_for (passes_of rfl) rfl (si_rng1 T.b_range sd_int) (sg_name 7 sc__law_right.nd) (ss_cons (ss_set 8 (sd_call h__law_by hr g__law_by F__law_by.kp (bind__law_by F__law_by) tk (sa_cons (sd_var 0) (sa_cons (sd_ix (so_val (sd_var 0)) (so_val sd_int) (by intro _ _; rfl)) (sa_cons (sd_var 1) (sa_cons (sd_var 7) (sa_cons (sd_var 2) sa_nil)))))) sc__law_right.nd)
    (ss_cons (ss_set 9 (sd_call h__law_by hr g__law_by F__law_by.kp (bind__law_by F__law_by) tk (sa_cons (sd_var 0) (sa_cons (sd_tup (sa_cons (sd_var 3) (sa_cons (sd_var 4) (sa_cons (sd_var 5) (sa_cons (sd_mod (sd_mat (so_add (so_val (sd_var 6)) (so_val sd_int))) sd_int) sa_nil))))) (sa_cons (sd_var 1) (sa_cons (sd_var 7) (sa_cons (sd_var 2) sa_nil)))))) sc__law_right.nd)
    (ss_cons (ss_set 10 (sd_ifExp (st_lt (sd_var 6) sd_int) (sd_mat (so_add (so_val (sd_ix (so_val (sd_var 8)) (so_val sd_int) (by intro _ _; rfl))) (so_val (sd_intc (so_val (sd_eq hu (so_val (sd_var 7)) (so_val sd_int))) T.b_int)))) (sd_sub (sd_ix (so_val (sd_var 8)) (so_val sd_int) (by intro _ _; rfl)) (sd_mat (so_mul (so_val sd_int) (so_val (sd_intc (so_val (sd_eq hu (so_val (sd_var 7)) (so_val sd_int))) T.b_int)))))) sc__law_right.nd)
    (ss_cons (ss_if (st_of (sw_or (st_ne hu (so_val (sd_ix (so_val (sd_var 9)) (so_val sd_int) (by intro _ _; rfl))) (so_val (sd_ix (so_val (sd_var 8)) (so_val sd_int) (by intro _ _; rfl)))) (sw_or1 (st_of (sw_and (st_lt (sd_neg sd_int) (sd_min2 (so_val (sd_ix (so_val (sd_var 9)) (so_val sd_int) (by intro _ _; rfl))) (so_val (sd_ix (so_val (sd_var 8)) (so_val sd_int) (by intro _ _; rfl))) T.b_min)) (sw_and (st_lt (sd_max2 (so_val (sd_ix (so_val (sd_var 9)) (so_val sd_int) (by intro _ _; rfl))) (so_val (sd_ix (so_val (sd_var 8)) (so_val sd_int) (by intro _ _; rfl))) T.b_max) sd_int) (sw_and1 (st_ne hu (so_val (sd_ix (so_val (sd_var 9)) (so_val sd_int) (by intro _ _; rfl))) (so_val (sd_var 10)))))))))) (ss_one (ss_ret sd_bl)) ss_nil)
    (ss_one (ss_if (st_lt (sd_var 5) sd_int) (ss_cons (ss_set 11 (sd_call h__law_by hr g__law_by F__law_by.kp (bind__law_by F__law_by) tk (sa_cons (sd_var 0) (sa_cons (sd_tup (sa_cons (sd_var 3) (sa_cons (sd_var 4) (sa_cons (sd_mat (so_add (so_val (sd_var 5)) (so_val sd_int))) (sa_cons (sd_var 6) sa_nil))))) (sa_cons (sd_var 1) (sa_cons (sd_var 7) (sa_cons (sd_var 2) sa_nil)))))) sc__law_right.nd)
    (ss_one (ss_if (st_of (sw_or (st_ne hu (so_val (sd_ix (so_val (sd_var 11)) (so_val sd_int) (by intro _ _; rfl))) (so_val (sd_ix (so_val (sd_var 8)) (so_val sd_int) (by intro _ _; rfl)))) (sw_or (st_ne hu (so_val (sd_ix (so_val (sd_var 11)) (so_val sd_int) (by intro _ _; rfl))) (so_val (sd_ix (so_val (sd_var 8)) (so_val sd_int) (by intro _ _; rfl)))) (sw_or1 (st_ne hu (so_val (sd_ix (so_val (sd_var 11)) (so_val sd_int) (by intro _ _; rfl))) (so_val (sd_min2 (so_val sd_int) (so_add (so_val (sd_ix (so_val (sd_var 8)) (so_val sd_int) (by intro _ _; rfl))) (so_val (sd_intc (so_val (sd_eq hu (so_val (sd_var 7)) (so_val sd_int))) T.b_int))) T.b_min))))))) (ss_one (ss_ret sd_bl)) ss_nil))) ss_nil)))))))
    (ss_cons (ss_setLc 12 (own := [("_law_done", 7)]) rfl sc__law_right.nd (si_src (so_val (sd_tup (sa_cons sd_int (sa_cons sd_int sa_nil))))) (show BlkOk ["_law_bay_here", "_law_one", "_law_sky_here", "_law_tight", "_law_glass", "_law_soak", "_law_heater", "_law_done", "_law_first", "_law_hot", "_law_more", "_law_wet", "_law_cold", "_law_dark", "_law_open_one", "_law_light"] (defScope t__law_right) _ [("_law_done", 7)] from ⟨rfl, by decide +kernel, by decide +kernel, by decide +kernel, by decide +kernel⟩) (fun _ _ _ _ _ => (sg_name 7 sc__law_right.nd)) (fun _ _ _ _ _ => st_yes) (fun _ _ _ _ _ => (sd_call h__law_by hr g__law_by F__law_by.kp (bind__law_by F__law_by) (takesF _) (sa_cons (sd_var 0) (sa_cons (sd_tup (sa_cons (sd_var 3) (sa_cons (sd_var 4) (sa_cons (sd_var 5) (sa_cons sd_int sa_nil))))) (sa_cons (sd_var 1) (sa_cons (sd_var 7) (sa_cons (sd_var 2) sa_nil))))))))
    (ss_cons (ss_if (st_of (sw_or (st_ne hu (so_val (sd_ix (so_val (sd_ix (so_val (sd_var 12)) (so_val sd_int) (by intro _ _; rfl))) (so_val sd_int) (by intro _ _; rfl))) (so_val (sd_ix (so_val (sd_ix (so_val (sd_var 12)) (so_val sd_int) (by intro _ _; rfl))) (so_val sd_int) (by intro _ _; rfl)))) (sw_or (st_ne hu (so_val (sd_ix (so_val (sd_ix (so_val (sd_var 12)) (so_val sd_int) (by intro _ _; rfl))) (so_val sd_int) (by intro _ _; rfl))) (so_val (sd_ix (so_val (sd_ix (so_val (sd_var 12)) (so_val sd_int) (by intro _ _; rfl))) (so_val sd_int) (by intro _ _; rfl)))) (sw_or1 (st_ne hu (so_val (sd_ix (so_val (sd_ix (so_val (sd_var 12)) (so_val sd_int) (by intro _ _; rfl))) (so_val sd_int) (by intro _ _; rfl))) (so_val (sd_max2 (so_val sd_int) (so_val (sd_sub (sd_ix (so_val (sd_ix (so_val (sd_var 12)) (so_val sd_int) (by intro _ _; rfl))) (so_val sd_int) (by intro _ _; rfl)) sd_int)) T.b_max))))))) (ss_one (ss_ret sd_bl)) ss_nil)
    (ss_cons (ss_setLc 13 (own := [("_law_light", 15)]) rfl sc__law_right.nd (si_src (so_val (sd_tup (sa_cons sd_int (sa_cons (sd_ix (so_val (sd_var 2)) (so_val sd_int) (by intro _ _; rfl)) (sa_cons sd_int sa_nil)))))) (show BlkOk ["_law_bay_here", "_law_one", "_law_sky_here", "_law_tight", "_law_glass", "_law_soak", "_law_heater", "_law_done", "_law_first", "_law_hot", "_law_more", "_law_wet", "_law_cold", "_law_dark", "_law_open_one", "_law_light"] (defScope t__law_right) _ [("_law_light", 15)] from ⟨rfl, by decide +kernel, by decide +kernel, by decide +kernel, by decide +kernel⟩) (fun _ _ _ _ _ => (sg_name 15 sc__law_right.nd)) (fun _ _ _ _ _ => st_yes) (fun _ _ _ _ _ => (sd_ix (so_val (sd_call h__law_by hr g__law_by F__law_by.kp (bind__law_by F__law_by) (takesF _) (sa_cons (sd_var 0) (sa_cons (sd_tup (sa_cons (sd_var 3) (sa_cons sd_int (sa_cons (sd_var 5) (sa_cons (sd_var 6) sa_nil))))) (sa_cons (sd_var 1) (sa_cons sd_int (sa_cons (sd_tup (sa_cons (sd_ix (so_val (sd_var 2)) (so_val sd_int) (by intro _ _; rfl)) (sa_cons (sd_var 15) sa_nil))) sa_nil))))))) (so_val sd_int) (by intro _ _; rfl))))
    (ss_cons (ss_set 14 (sd_call h__law_by hr g__law_by F__law_by.kp (bind__law_by F__law_by) tk (sa_cons (sd_var 0) (sa_cons (sd_tup (sa_cons sd_int (sa_cons sd_int (sa_cons (sd_var 5) (sa_cons (sd_var 6) sa_nil))))) (sa_cons (sd_var 1) (sa_cons sd_int (sa_cons (sd_var 2) sa_nil)))))) sc__law_right.nd)
    (ss_one (ss_ret (sd_and (sd_eq hu (so_val (sd_var 13)) (so_mul (so_new (sn_lst (sa_cons (sd_ix (so_val (sd_var 13)) (so_val sd_int) (by intro _ _; rfl)) sa_nil))) (so_val sd_int))) (sd_one (sd_eq hu (so_val (sd_ix (so_val (sd_var 14)) (so_val sd_int) (by intro _ _; rfl))) (so_val (sd_ix (so_val (sd_var 2)) (so_val sd_int) (by intro _ _; rfl))))))))))))))
theorem sc_law : FnScope ["_law_script", "_law_k", "_law_state_here", "_law_turn", "_law_house_here", "_law_one"] ["_law_script"] (defScope t_law) := ⟨rfl, rfl, rfl, by decide +kernel, rfl, by decide +kernel, by decide +kernel⟩
theorem bind_law (F : Fun K "law" "law" t_law f fd) : Binds K fd ["_law_script"] [] := F.binds (ps := ["_law_script"]) fun _ _ _ _ _ _ us hl => match us, hl with | [_], _ => rfl
theorem ok_law (T : Top K mg) (F : Fun K "law" "law" t_law f fd) : FnOk P w K mg base (L2.CX P w) 12 f fd ["_law_script"] (spOf K cl p_law) := by
  obtain ⟨f__law_state, fd__law_state, F__law_state, g__law_state⟩ := T.d__law_state
  have h__law_state := (ok__law_state (P := P) (w := w) (base := base) (cl := cl) T F__law_state).mono (show 2 ≤ 11 by decide)
  obtain ⟨f__law_house, fd__law_house, F__law_house, g__law_house⟩ := T.d__law_house
  have h__law_house := (ok__law_house (P := P) (w := w) (base := base) (cl := cl) T F__law_house).mono (show 3 ≤ 11 by decide)
  obtain ⟨f__law_standing, fd__law_standing, F__law_standing, g__law_standing⟩ := T.d__law_standing
  have h__law_standing := (ok__law_standing (P := P) (w := w) (base := base) (cl := cl) T F__law_standing).mono (show 2 ≤ 11 by decide)
  obtain ⟨f__law_right, fd__law_right, F__law_right, g__law_right⟩ := T.d__law_right
  have h__law_right := (ok__law_right (P := P) (w := w) (base := base) (cl := cl) T F__law_right).mono (show 11 ≤ 11 by decide)
  obtain ⟨f__law_sky, fd__law_sky, F__law_sky, g__law_sky⟩ := T.d__law_sky
  have h__law_sky := (ok__law_sky (P := P) (w := w) (base := base) (cl := cl) T F__law_sky).mono (show 2 ≤ 11 by decide)
  refine fn_ok (np := 1) (ns := 6) F sc_law rfl rfl (fun cdv A outer s H E hr tk => ?_)
  have hu := hu65 hr
  exact (ss_cons (ss_for (passes_of rfl) rfl (si_rng1 T.b_range (sd_max2 (so_val sd_int) (so_val (sd_min2 (so_val (sd_len (so_val (sd_var 0)) T.b_len)) (so_val sd_int) T.b_min)) T.b_max)) (sg_name 1 sc_law.nd) (ss_cons (ss_set 2 (sd_call h__law_state hr g__law_state F__law_state.kp (bind__law_state F__law_state) tk (sa_cons (sd_var 0) (sa_cons (sd_var 1) sa_nil))) sc_law.nd)
    (ss_one (ss_for (passes_of rfl) rfl (si_rng1 T.b_range sd_int) (sg_name 3 sc_law.nd) (ss_cons (ss_set 4 (sd_call h__law_house hr g__law_house F__law_house.kp (bind__law_house F__law_house) tk (sa_cons (sd_var 2) (sa_cons sd_int sa_nil))) sc_law.nd)
    (ss_one (ss_for (passes_of rfl) rfl (si_src (so_add (so_val (sd_call h__law_standing hr g__law_standing F__law_standing.kp (bind__law_standing F__law_standing) tk (sa_cons (sd_var 2) (sa_cons (sd_var 4) sa_nil)))) (so_val (sd_call h__law_standing hr g__law_standing F__law_standing.kp (bind__law_standing F__law_standing) tk (sa_cons (sd_var 2) (sa_cons (sd_var 4) sa_nil)))))) (sg_name 5 sc_law.nd) (ss_one (ss_if (st_not (st_truth (sd_call h__law_right hr g__law_right F__law_right.kp (bind__law_right F__law_right) tk (sa_cons (sd_ix (so_val (sd_ix (so_val (sd_var 4)) (so_val sd_int) (by intro _ _; rfl))) (so_val sd_int) (by intro _ _; rfl)) (sa_cons (sd_var 5) (sa_cons (sd_call h__law_sky hr g__law_sky F__law_sky.kp (bind__law_sky F__law_sky) tk (sa_cons (sd_var 2) sa_nil)) sa_nil)))))) (ss_one (ss_ret sd_bl)) ss_nil)))))))))
    (ss_one (ss_ret sd_bl)))
end
end Gb

namespace Gb
open PySem L2
/-! ### drawing -/
/-- the drawer's state stands at s -/
def St (s : Nat) (h : PHeap) : Prop := ∃ a c : Int, h[s]? = some (.lst [.int a, .int c]) ∧ 0 ≤ a ∧ 0 ≤ c ∧ c < 2147483647
/-- nothing but s was written -/
structure OnlyS (s : Nat) (h h' : PHeap) : Prop where
  len : h'.length = h.length
  get : ∀ n, n ≠ s → h'[n]? = h[n]?
theorem OnlyS.refl {s : Nat} {h : PHeap} : OnlyS s h h := ⟨rfl, fun _ _ => rfl⟩
theorem OnlyS.trans {s : Nat} {h h1 h2 : PHeap} (a : OnlyS s h h1) (b : OnlyS s h1 h2) : OnlyS s h h2 := ⟨b.len.trans a.len, fun n hn => (b.get n hn).trans (a.get n hn)⟩
theorem OnlyS.set {s : Nat} {h : PHeap} {c : Cell} : OnlyS s h (h.set s c) := ⟨by simp, fun n hn => by rw [List.getElem?_set_ne (fun e => hn e.symm)]⟩
theorem ix_two0 : ixN 2 (0 : Int) = some 0 := rfl
theorem ix_two1 : ixN 2 (1 : Int) = some 1 := rfl
theorem get_set {s : Nat} {h : PHeap} {c c' : Cell} (e : h[s]? = some c') : (h.set s c)[s]? = some c := by
  have hl := (List.getElem?_eq_some_iff.mp e).1
  exact List.getElem?_set_self hl
theorem fmod_bound (x b : Int) (hb : 0 < b) : 0 ≤ x.fmod b ∧ x.fmod b < b := ⟨Int.fmod_nonneg_of_pos x hb, Int.fmod_lt_of_pos x hb⟩
theorem sm {i : Int} (h0 : 0 ≤ i) (h1 : i < 18446744073709551616) : small64 i = true := by
  unfold small64
  exact decide_eq_true ⟨by omega, by omega⟩
theorem fdiv_nn {x b : Int} (hx : 0 ≤ x) (hb : 0 < b) : 0 ≤ x.fdiv b := by
  rw [Int.fdiv_eq_ediv_of_nonneg _ (Int.le_of_lt hb)]
  exact Int.ediv_nonneg hx (Int.le_of_lt hb)
theorem take_spec {s : Nat} {h : PHeap} {b : Int} (hs : St s h) (h1 : 1 ≤ b) (h2 : b < 1000000000) :
    ∃ r h', p__law_take [.ref s, .int b] h = .ok (.int r) h' ∧ 0 ≤ r ∧ r < b ∧ OnlyS s h h' ∧ St s h' := by
  obtain ⟨a, c, e, ha, hc, hc2⟩ := hs
  unfold p__law_take b__law_take
  have b0 : b ≠ 0 := by omega
  have bn : b.natAbs < 1073741824 := by omega
  have q1 := fmod_bound (c * 48271 + 29) 2147483647 (by decide)
  have s0 := sm hc (by omega)
  by_cases h0 : 0 < a
  · simp [f_ixR e, h0, b0, bn, store_ref e ix_two0, gc_same]
    exact ⟨_, _, ⟨rfl, rfl⟩, (fmod_bound a b (by omega)).1, (fmod_bound a b (by omega)).2, .set, _, _, get_set e, fdiv_nn ha (by omega), hc, hc2⟩
  · generalize hc1 : (c * 48271 + 29).fmod 2147483647 = c1 at q1
    have s1 := sm q1.1 (by omega)
    have q2 := fmod_bound (c1 * c1 + 39373 * c1 + 7) 2147483629 (by decide)
    generalize hz1 : (c1 * c1 + 39373 * c1 + 7).fmod 2147483629 = z1 at q2
    have s2 := sm q2.1 (by omega)
    have s3 : small64 39373 = true := by decide
    have s4 : small64 16807 = true := by decide
    simp [f_ixR e, h0, b0, bn, s0, s1, s2, s3, s4, hc1, hz1, store_ref e ix_two1, gc_same, f_ixR (get_set e)]
    exact ⟨_, _, ⟨rfl, rfl⟩, (fmod_bound _ b (by omega)).1, (fmod_bound _ b (by omega)).2, .set, _, _, get_set e, ha, q1.1, q1.2⟩

/-! ### what is drawn -/
theorem Tidy.only {s : Nat} {h h' : PHeap} (w : Tidy h) (o : OnlyS s h h') (q : St s h') : Tidy h' := by
  obtain ⟨a, c, e, _⟩ := q
  intro x m
  obtain ⟨n, hn⟩ := List.mem_iff_getElem?.mp m
  by_cases hs : n = s
  · subst hs
    rw [e] at hn; cases hn
    rfl
  · rw [o.get n hs] at hn
    rw [o.len]
    exact w x (List.mem_of_getElem? hn)
theorem St.lt {s : Nat} {h : PHeap} (q : St s h) : s < h.length := by
  obtain ⟨a, c, e, _⟩ := q
  exact (List.getElem?_eq_some_iff.mp e).1
theorem St.app {s : Nat} {h : PHeap} {l : List Cell} (q : St s h) : St s (h ++ l) := by
  have hl := q.lt
  obtain ⟨a, c, e, r⟩ := q
  exact ⟨a, c, by rw [List.getElem?_append_left hl]; exact e, r⟩
def bayD (t g so he lo hi dr we ba sh : Int) : D := .tup [.tup [.int t, .int g, .int so, .int he], .tup [.int lo, .int hi, .int dr, .int we], .tup [.int ba, .int sh]]
def IsBay (b : D) : Prop := ∃ t g so he lo hi dr we ba sh : Int, b = bayD t g so he lo hi dr we ba sh ∧ (2 ≤ t ∧ t ≤ 6) ∧ (0 ≤ g ∧ g ≤ 3) ∧ (1 ≤ so ∧ so ≤ 4) ∧ (0 ≤ he ∧ he ≤ 4) ∧ (-6 ≤ lo ∧ lo ≤ hi ∧ hi ≤ 28 ∧ hi - lo ≤ 14) ∧ (0 ≤ dr ∧ dr ≤ 3) ∧ (5 ≤ we ∧ we ≤ 9) ∧ (-8 ≤ ba ∧ ba ≤ 20) ∧ 0 ≤ sh ∧ sh ≤ 9
theorem bay_spec {s : Nat} {h : PHeap} (hs : St s h) : ∃ b h', p__law_bay [.ref s] h = .ok b h' ∧ IsBay b ∧ OnlyS s h h' ∧ St s h' := by
  obtain ⟨r1, h1, e1, a1, b1, o1, q1⟩ := take_spec (b := 5) hs (by decide) (by decide)
  obtain ⟨r2, h2, e2, a2, b2, o2, q2⟩ := take_spec (b := 4) q1 (by decide) (by decide)
  obtain ⟨r3, h3, e3, a3, b3, o3, q3⟩ := take_spec (b := 4) q2 (by decide) (by decide)
  obtain ⟨r4, h4, e4, a4, b4, o4, q4⟩ := take_spec (b := 5) q3 (by decide) (by decide)
  obtain ⟨r5, h5, e5, a5, b5, o5, q5⟩ := take_spec (b := 21) q4 (by decide) (by decide)
  obtain ⟨r6, h6, e6, a6, b6, o6, q6⟩ := take_spec (b := 7) q5 (by decide) (by decide)
  obtain ⟨r7, h7, e7, a7, b7, o7, q7⟩ := take_spec (b := 9) q6 (by decide) (by decide)
  obtain ⟨r8, h8, e8, a8, b8, o8, q8⟩ := take_spec (b := 4) q7 (by decide) (by decide)
  obtain ⟨r9, h9, e9, a9, b9, o9, q9⟩ := take_spec (b := 5) q8 (by decide) (by decide)
  obtain ⟨r10, h10, e10, a10, b10, o10, q10⟩ := take_spec (b := 9) q9 (by decide) (by decide)
  obtain ⟨r11, h11, e11, a11, b11, o11, q11⟩ := take_spec (b := 10) q10 (by decide) (by decide)
  obtain ⟨r12, h12, e12, a12, b12, o12, q12⟩ := take_spec (b := 3) q11 (by decide) (by decide)
  have o := ((((((((((o1.trans o2).trans o3).trans o4).trans o5).trans o6).trans o7).trans o8).trans o9).trans o10).trans o11).trans o12
  have hl : h12.length ≤ h.length := by rw [o.len]; exact Nat.le_refl _
  unfold p__law_bay b__law_bay
  have hc : r12 = 0 ∨ r12 = 1 ∨ r12 = 2 := by omega
  rcases hc with rfl | rfl | rfl <;> simp [e1, e2, e3, e4, e5, e6, e7, e8, e9, e10, e11, e12, gc_same hl]
  all_goals
    refine ⟨_, h12, ⟨rfl, rfl⟩, ⟨_, _, _, _, _, _, _, _, _, _, rfl, ?_⟩, o, q12⟩
    omega

def houseD (bays : List D) (pw ap : Int) : D := .tup [.tup bays, .int pw, .int ap]
theorem rngD_length {lo hi : Int} : (rngD lo hi).length = (hi - lo).toNat := by simp [rngD]
/-- so many bays drawn -/
theorem bays_spec {s n j : Nat} {h : PHeap} {t' : Itr} {rest : PEnv} (hs : St s h) (ht : t'.deps = []) (hn : t'.items.length = n) (h2 : n ≤ 2) :
    ∃ bs h', lcL (.name (j + 1)) tYesM (mCall p__law_bay (mCons (mVar 0) mNil)) t' (some (.ref s) :: rest) t'.items [] h = .ok bs h' ∧ bs.length = n ∧ (∀ b ∈ bs, IsBay b) ∧ OnlyS s h h' ∧ St s h' := by
  obtain ⟨bs, h', e, q1, q2, q3, q4⟩ := lc_inv (env := some (.ref s) :: rest) (h := h) (g := .name (j + 1)) (t := tYesM) (a := mCall p__law_bay (mCons (mVar 0) mNil)) (t' := t')
    (I := fun i acc h' => acc.length = i ∧ (∀ b ∈ acc, IsBay b) ∧ OnlyS s h h' ∧ St s h') ⟨rfl, fun b m => by simp at m, .refl, hs⟩ (by omega)
    (fun i acc h _ => by cases t'; simp only at ht; subst ht; rfl) (by
      rintro i acc d h1 _ _ hd ⟨g1, g2, g3, g4⟩
      obtain ⟨b, h2, e1, ib, o1, s1⟩ := bay_spec g4
      refine ⟨_, tg_name, true, h1, rfl, .inr ⟨rfl, b, h2, by simp [e1], by simp [g1], ?_, g3.trans o1, s1⟩⟩
      intro b' m
      rcases List.mem_append.mp m with m | m
      · exact g2 b' m
      · rw [List.mem_singleton.mp m]; exact ib)
  exact ⟨bs, h', e, by rw [q1, hn], q2, q3, q4⟩
def IsHouse (d : D) : Prop := ∃ bays pw ap, d = houseD bays pw ap ∧ (1 ≤ bays.length ∧ bays.length ≤ 2) ∧ (∀ b ∈ bays, IsBay b) ∧ (0 ≤ pw ∧ pw ≤ 2) ∧ 0 ≤ ap ∧ ap ≤ 1
theorem house_spec {s : Nat} {h : PHeap} {m : Int} (hs : St s h) (hm : 1 ≤ m ∧ m ≤ 2) : ∃ bays pw ap h', p__law_house [.ref s, .int m] h = .ok (houseD bays pw ap) h' ∧ (1 ≤ bays.length ∧ bays.length ≤ m.toNat) ∧ (∀ b ∈ bays, IsBay b) ∧ (0 ≤ pw ∧ pw ≤ 2) ∧ (0 ≤ ap ∧ ap ≤ 1) ∧ OnlyS s h h' ∧ St s h' := by
  obtain ⟨r1, h1, e1, a1, b1, o1, q1⟩ := take_spec (b := m) hs (by omega) (by omega)
  obtain ⟨bs, h2, e2, l2, g2, o2, q2⟩ := bays_spec (j := 2) (rest := [some (.int m), none, none]) (t' := ⟨rngD 0 (1 + r1), []⟩) (n := (1 + r1).toNat) q1 rfl (by simp [rngD_length]) (by omega)
  obtain ⟨r3, h3, e3, a3, b3, o3, q3⟩ := take_spec (b := 3) q2 (by decide) (by decide)
  obtain ⟨r4, h4, e4, a4, b4, o4, q4⟩ := take_spec (b := 2) q3 (by decide) (by decide)
  have o := ((o1.trans o2).trans o3).trans o4
  have hl : h4.length ≤ h.length := by rw [o.len]; exact Nat.le_refl _
  have c1 : -1152921504606846976 ≤ 1 + r1 ∧ 1 + r1 ≤ 1152921504606846976 := by omega
  simp only [Nat.reduceAdd] at e2
  refine ⟨bs, r3, r4, h4, ?_, by omega, g2, by omega, by omega, o, q4⟩
  unfold p__law_house b__law_house
  simp only [s_fnS]
  simp [e1, c1, e2, e3, e4, gc_same hl, houseD]

theorem OnlyS.split {s : Nat} {h h3 : PHeap} {c : Cell} (o : OnlyS s (h ++ [c]) h3) (hs : s < h.length) : ∃ h', h3 = h' ++ [c] ∧ OnlyS s h h' ∧ (St s h3 → St s h') := by
  have hl : h3.length = h.length + 1 := by rw [o.len]; simp
  have e : h3 = h3.take h.length ++ [c] := by
    apply List.ext_getElem?
    intro n
    by_cases hn : n < h.length
    · rw [List.getElem?_append_left (by simp; omega), List.getElem?_take, if_pos hn]
    · by_cases h2 : n = h.length
      · subst h2
        rw [o.get _ (by omega), List.getElem?_append_right (by simp), List.getElem?_append_right (by simp; omega)]
        simp [hl]
      · rw [List.getElem?_eq_none (by omega), List.getElem?_eq_none (by simp; omega)]
  refine ⟨h3.take h.length, e, ⟨by rw [List.length_take]; omega, fun n hn => ?_⟩, fun ⟨a, b, g, r⟩ => ⟨a, b, by rw [List.getElem?_take, if_pos hs]; exact g, r⟩⟩
  by_cases h2 : n < h.length
  · rw [List.getElem?_take, if_pos h2, o.get n hn, List.getElem?_append_left h2]
  · rw [List.getElem?_eq_none (by simp; omega), List.getElem?_eq_none (by omega)]
theorem set_last {h : PHeap} {c c' : Cell} {n : Nat} (hn : n = h.length) : (h ++ [c]).set n c' = h ++ [c'] := by
  subst hn
  rw [List.set_append_right _ _ (Nat.le_refl _)]
  simp
theorem get_last {h : PHeap} {c : Cell} {n : Nat} (hn : n = h.length) : (h ++ [c])[n]? = some c := by
  subst hn
  simp
def oneD (w d z : Int) : D := .tup [.int w, .int d, .int z]
def IsOne (y : D) : Prop := ∃ w d z : Int, y = oneD w d z ∧ (-40 ≤ w ∧ w ≤ 60) ∧ (0 ≤ d ∧ d ≤ 9) ∧ 0 ≤ z ∧ z ≤ 4
theorem standing_spec {s : Nat} {h : PHeap} {bays : List D} {pw ap : Int} (hs : St s h) (w : Tidy h) (hb : ∀ b ∈ bays, IsBay b) (hn : bays.length ≤ 2) :
    ∃ ys h', p__law_standing [.ref s, houseD bays pw ap] h = .ok (.tup ys) h' ∧ ys.length = bays.length ∧ (∀ y ∈ ys, IsOne y) ∧ OnlyS s h h' ∧ St s h' := by
  have loop := fun (m : MS) (hm : ∀ (h2 : PHeap) (ys : List D) (b : D), IsBay b → St s h2 → h2.length = h.length → ys.length < 16777216 → ∃ e1, TgM.set (.tup [.name 3, .tup [.name 4, .name 5, .name 6, .name 7], .name 8]) b [some (.ref s), some (houseD bays pw ap), some (.ref h.length), none, none, none, none, none, none, none, none] = some e1 ∧
      ∃ e h3 y, m e1 (h2 ++ [.lst ys]) = .nx e (h3 ++ [.lst (ys ++ [y])]) ∧ wipeE e [3, 4, 5, 6, 7, 8, 9, 10] = [some (.ref s), some (houseD bays pw ap), some (.ref h.length), none, none, none, none, none, none, none, none] ∧ IsOne y ∧ OnlyS s h2 h3 ∧ St s h3) =>
    for_inv (env := [some (.ref s), some (houseD bays pw ap), some (.ref h.length), none, none, none, none, none, none, none, none]) (h := h ++ [.lst []]) (s := m) (g := .tup [.name 3, .tup [.name 4, .name 5, .name 6, .name 7], .name 8]) (kill := [3, 4, 5, 6, 7, 8, 9, 10]) (t := ⟨bays, []⟩)
      (I := fun i env h' => wipeE env [3, 4, 5, 6, 7, 8, 9, 10] = [some (.ref s), some (houseD bays pw ap), some (.ref h.length), none, none, none, none, none, none, none, none] ∧ ∃ h2 ys, h' = h2 ++ [.lst ys] ∧ OnlyS s h h2 ∧ St s h2 ∧ ys.length = i ∧ ∀ y ∈ ys, IsOne y)
      ⟨by simp, h, [], rfl, .refl, hs, rfl, fun y m => by simp at m⟩ (fun _ _ _ _ => rfl) (by
        rintro i d env h' hd ⟨ew, h2, ys, rfl, o2, q2, hl, hy⟩
        have hi := (List.getElem?_eq_some_iff.mp hd).1
        obtain ⟨e1, g1, e, h3, y, g2, g3, g4, g5, g6⟩ := hm h2 ys d (hb d (List.mem_of_getElem? hd)) q2 o2.len (by rw [hl]; simp only at hi; omega)
        refine ⟨e1, by rw [ew]; exact g1, e, _, .inl g2, g3, h3, ys ++ [y], rfl, o2.trans g5, g6, by simp [hl], ?_⟩
        intro y' m
        rcases List.mem_append.mp m with m | m
        · exact hy y' m
        · rw [List.mem_singleton.mp m]; exact g4)
  have hm : ∀ (h2 : PHeap) (ys : List D) (b : D), IsBay b → St s h2 → h2.length = h.length → ys.length < 16777216 → ∃ e1, TgM.set (.tup [.name 3, .tup [.name 4, .name 5, .name 6, .name 7], .name 8]) b [some (.ref s), some (houseD bays pw ap), some (.ref h.length), none, none, none, none, none, none, none, none] = some e1 ∧
      ∃ e h3 y, l__law_standing_0 e1 (h2 ++ [.lst ys]) = .nx e (h3 ++ [.lst (ys ++ [y])]) ∧ wipeE e [3, 4, 5, 6, 7, 8, 9, 10] = [some (.ref s), some (houseD bays pw ap), some (.ref h.length), none, none, none, none, none, none, none, none] ∧ IsOne y ∧ OnlyS s h2 h3 ∧ St s h3 := by
    rintro h2 ys b ⟨t, g, so, he, lo, hi, dr, we, ba, sh, rfl, _, _, _, _, hlo, _⟩ q2 hl2 hly
    have hlt : s < h2.length := q2.lt
    obtain ⟨r1, k1, e1, a1, b1, o1, p1⟩ := take_spec (b := hi - lo + 5) (h := h2 ++ [.lst ys]) q2.app (by omega) (by omega)
    obtain ⟨r2, k2, e2, a2, b2, o2, p2⟩ := take_spec (b := 101) p1 (by decide) (by decide)
    obtain ⟨r3, k3, e3, a3, b3, o3, p3⟩ := take_spec (b := 4) p2 (by decide) (by decide)
    obtain ⟨r4, k4, e4, a4, b4, o4, p4⟩ := take_spec (b := 10) p3 (by decide) (by decide)
    obtain ⟨r5, k5, e5, a5, b5, o5, p5⟩ := take_spec (b := 5) p4 (by decide) (by decide)
    obtain ⟨j3, rfl, w3, z3⟩ := ((o1.trans o2).trans o3).split hlt
    obtain ⟨j5, rfl, w5, z5⟩ := (((((o1.trans o2).trans o3).trans o4).trans o5)).split hlt
    refine ⟨_, by simp [bayD]; rfl, ?_⟩
    have hc : r3 = 0 ∨ r3 = 1 ∨ r3 = 2 ∨ r3 = 3 := by omega
    have n3 : h.length = j3.length := by rw [w3.len, hl2]
    have n5 : h.length = j5.length := by rw [w5.len, hl2]
    have g3 := get_last (c := .lst ys) n3
    have g5 := get_last (c := .lst ys) n5
    unfold l__law_standing_0
    rcases hc with rfl | rfl | rfl | rfl <;> simp [e1, e2, e3, e4, e5, g3, mtE_append g5 hly, set_last n5]
    all_goals
      refine ⟨_, j5, _, ⟨rfl, rfl, rfl⟩, rfl, ⟨_, _, _, rfl, ?_⟩, w5, z5 p5⟩
      omega
  unfold p__law_standing b__law_standing
  have hd : ∀ (xs : List D) (m : MS), sFor (iSrc (mVal (m2 fIx (mVal (mVar 1)) (mVal (mC (.int 0)))))) (.tup [.name 3, .tup [.name 4, .name 5, .name 6, .name 7], .name 8]) m [3, 4, 5, 6, 7, 8, 9, 10] [some (.ref s), some (houseD bays pw ap), some (.ref h.length), none, none, none, none, none, none, none, none] (h ++ [.lst []]) =
      forL (.tup [.name 3, .tup [.name 4, .name 5, .name 6, .name 7], .name 8]) m [3, 4, 5, 6, 7, 8, 9, 10] ⟨bays, []⟩ bays [some (.ref s), some (houseD bays pw ap), some (.ref h.length), none, none, none, none, none, none, none, none] (h ++ [.lst []]) := fun xs m => by
    simp [houseD]
  simp only [s_fnS]
  simp only [List.length_cons, List.length_nil, Nat.reduceAdd, if_true, List.map_cons, List.map_nil, Nat.reduceSub, List.replicate, List.cons_append, List.nil_append, s_seq, s_asg, s_m, s_nl, s_disp, s_nil, Res.bind_ok, Nat.zero_le, matD_new, Res.out_ok, set_name, List.set_cons_succ, List.set_cons_zero, thn_nx]
  rw [hd []]
  obtain ⟨e, h', g1, g2, h2, ys, rfl, o2, q2, hl, hy⟩ := loop l__law_standing_0 hm
  · rw [g1, g2]
    refine ⟨ys, h2, ?_, hl, hy, o2, q2⟩
    have sy : D.smallL h.length ys = true := smallL_all fun y m => by
      obtain ⟨_, _, _, rfl, _⟩ := hy y m
      rfl
    simp [sq_ref (get_last (c := .lst ys) o2.len.symm), gc_drop o2.len (w.only o2 q2) (d := .tup ys) sy]

def skyD (c l : Int) : D := .tup [.int c, .int l]
theorem sky_spec {s : Nat} {h : PHeap} (hs : St s h) : ∃ c l h', p__law_sky [.ref s] h = .ok (skyD c l) h' ∧ (-30 ≤ c ∧ c ≤ 50) ∧ (0 ≤ l ∧ l ≤ 9) ∧ OnlyS s h h' ∧ St s h' := by
  obtain ⟨r1, h1, e1, a1, b1, o1, q1⟩ := take_spec (b := 31) hs (by decide) (by decide)
  obtain ⟨r2, h2, e2, a2, b2, o2, q2⟩ := take_spec (b := 31) q1 (by decide) (by decide)
  obtain ⟨r3, h3, e3, a3, b3, o3, q3⟩ := take_spec (b := 81) q2 (by decide) (by decide)
  obtain ⟨r4, h4, e4, a4, b4, o4, q4⟩ := take_spec (b := 3) q3 (by decide) (by decide)
  obtain ⟨r5, h5, e5, a5, b5, o5, q5⟩ := take_spec (b := 10) q4 (by decide) (by decide)
  have o := (((o1.trans o2).trans o3).trans o4).trans o5
  have hl : h5.length ≤ h.length := by rw [o.len]; exact Nat.le_refl _
  have hc : r4 = 0 ∨ r4 = 1 ∨ r4 = 2 := by omega
  unfold p__law_sky b__law_sky
  rcases hc with rfl | rfl | rfl <;> simp [e1, e2, e3, e4, e5, gc_same hl, skyD]
  all_goals
    refine ⟨_, _, h5, ⟨⟨rfl, rfl⟩, rfl⟩, ?_, ?_, o, q5⟩ <;> omega
end Gb

namespace Gb
open PySem L2
/-! ### the program's houses -/
theorem whole_int {i : Int} {h : PHeap} : p_is_whole [.int i] h = .ok (.bl true) h := by
  unfold p_is_whole b_is_whole
  simp [gc_self]
theorem among_int {x lo hi : Int} {h : PHeap} : p_is_among [.int x, .int lo, .int hi] h = .ok (.bl (decide (lo ≤ x) && decide (x ≤ hi))) h := by
  unfold p_is_among b_is_among
  by_cases h1 : lo ≤ x <;> simp [whole_int, h1, gc_self]
def rowB (xs : List Int) (bs : List (Int × Int)) : Bool := decide (xs.length = bs.length) && (List.zipWith (fun x (p : Int × Int) => decide (p.1 ≤ x) && decide (x ≤ p.2)) xs bs).all id
theorem bools_map : ∀ (bs : List Bool), bools (bs.map D.bl) = some bs
  | [] => rfl
  | b :: bs => by simp [bools, bools_map bs]
theorem f_allB {bs : List Bool} {h : PHeap} : fAll (.new (bs.map D.bl)) h = .ok (.bl (bs.all id)) h := by
  simp [fAll, bools_map]
def bndD (p : Int × Int) : D := .tup [.int p.1, .int p.2]
theorem zip_rows (xs : List Int) (bs : List (Int × Int)) : List.zipWith (fun p q => D.tup [p, q]) (xs.map D.int) (bs.map bndD) = List.zipWith (fun x p => D.tup [.int x, bndD p]) xs bs := by
  rw [List.zipWith_map]
theorem row_spec {xs : List Int} {bs : List (Int × Int)} {h : PHeap} (hx : xs.length ≤ 1000) : p_is_row [.tup (xs.map D.int), .tup (bs.map bndD)] h = .ok (.bl (rowB xs bs)) h := by
  unfold p_is_row b_is_row
  by_cases hl : xs.length = bs.length
  · have hl' : ((xs.length : Nat) : Int) = ((bs.length : Nat) : Int) := by rw [hl]
    have key := lc_pure (env := [some (.tup (xs.map D.int)), some (.tup (bs.map bndD)), none, none, none]) (h := h) (g := .tup [.name 2, .tup [.name 3, .name 4]]) (t := tYesM)
      (a := mCall p_is_among (mCons (mVar 2) (mCons (mVar 3) (mCons (mVar 4) mNil)))) (t' := ⟨List.zipWith (fun x p => D.tup [.int x, bndD p]) xs bs, []⟩) (p := fun _ => true)
      (f := fun d => match d with | .tup [.int x, .tup [.int lo, .int hi]] => .bl (decide (lo ≤ x) && decide (x ≤ hi)) | _ => .non) (by simp; omega) rfl (by
        intro d hd
        obtain ⟨i, hi⟩ := List.mem_iff_getElem?.mp hd
        obtain ⟨x, p, _, _, rfl⟩ := get_zip hi
        refine ⟨_, by simp [bndD]; rfl, rfl, fun _ => ?_⟩
        simp [among_int, bndD])
    have e2 : ((List.zipWith (fun x p => D.tup [.int x, bndD p]) xs bs).filter fun _ => true).map (fun d => match d with | .tup [.int x, .tup [.int lo, .int hi]] => D.bl (decide (lo ≤ x) && decide (x ≤ hi)) | _ => .non) = (List.zipWith (fun x (p : Int × Int) => decide (p.1 ≤ x) && decide (x ≤ p.2)) xs bs).map D.bl := by
      rw [List.filter_eq_self.mpr (fun _ _ => rfl), List.map_zipWith, List.map_zipWith]
      rfl
    simp only at key
    rw [e2] at key
    simp [hl', zip_rows, key, gc_self, f_allB, rowB, hl, -List.map_zipWith]
  · have hl' : ¬ ((xs.length : Nat) : Int) = ((bs.length : Nat) : Int) := by omega
    simp [hl', rowB, hl, gc_self]

theorem row2 {x y a b c d : Int} {h : PHeap} : p_is_row [.tup [.int x, .int y], .tup [.tup [.int a, .int b], .tup [.int c, .int d]]] h = .ok (.bl (rowB [x, y] [(a, b), (c, d)])) h :=
  row_spec (xs := [x, y]) (bs := [(a, b), (c, d)]) (by simp)
theorem row3 {x y z a b c d e f : Int} {h : PHeap} : p_is_row [.tup [.int x, .int y, .int z], .tup [.tup [.int a, .int b], .tup [.int c, .int d], .tup [.int e, .int f]]] h = .ok (.bl (rowB [x, y, z] [(a, b), (c, d), (e, f)])) h :=
  row_spec (xs := [x, y, z]) (bs := [(a, b), (c, d), (e, f)]) (by simp)
theorem row4 {x y z w a b c d e f g i : Int} {h : PHeap} : p_is_row [.tup [.int x, .int y, .int z, .int w], .tup [.tup [.int a, .int b], .tup [.int c, .int d], .tup [.int e, .int f], .tup [.int g, .int i]]] h = .ok (.bl (rowB [x, y, z, w] [(a, b), (c, d), (e, f), (g, i)])) h :=
  row_spec (xs := [x, y, z, w]) (bs := [(a, b), (c, d), (e, f), (g, i)]) (by simp)
theorem rowB_cons {x : Int} {p : Int × Int} {xs : List Int} {bs : List (Int × Int)} (h : p.1 ≤ x ∧ x ≤ p.2) (r : rowB xs bs = true) : rowB (x :: xs) (p :: bs) = true := by
  simp only [rowB, Bool.and_eq_true, decide_eq_true_eq, List.length_cons, List.zipWith_cons_cons, List.all_cons, id] at r ⊢
  exact ⟨by rw [r.1], ⟨h.1, h.2⟩, r.2⟩
theorem rowB_nil : rowB [] [] = true := rfl
theorem isbay_ok {b : D} {h : PHeap} (hb : IsBay b) : p_is_bay [b] h = .ok (.bl true) h := by
  obtain ⟨t, g, so, he, lo, hi, dr, we, ba, sh, rfl, h1, h2, h3, h4, h5, h6, h7, h8, h9⟩ := hb
  have r1 : rowB [t, g, so, he] [(2, 6), (0, 3), (1, 4), (0, 4)] = true := rowB_cons (by omega) (rowB_cons (by omega) (rowB_cons (by omega) (rowB_cons (by omega) rowB_nil)))
  have r2 : rowB [lo, hi, dr, we] [(-20, 40), (-20, 40), (0, 9), (0, 9)] = true := rowB_cons (by simp only; omega) (rowB_cons (by simp only; omega) (rowB_cons (by simp only; omega) (rowB_cons (by simp only; omega) rowB_nil)))
  have r3 : rowB [ba, sh] [(-20, 40), (0, 9)] = true := rowB_cons (by simp only; omega) (rowB_cons (by simp only; omega) rowB_nil)
  have c1 : lo ≤ hi := by omega
  have c2 : dr ≤ we := by omega
  unfold p_is_bay b_is_bay
  have nd : p_is_needs [.tup [.int lo, .int hi, .int dr, .int we]] h = .ok (.bl true) h := by
    unfold p_is_needs b_is_needs
    simp [row4, r2, c1, c2, gc_self]
  simp [bayD, row4, row2, r1, r3, nd, gc_self]
theorem alls_true {xs : List D} {h : PHeap} (hx : ∀ x ∈ xs, x = .bl true) : fAll (.new xs) h = .ok (.bl true) h := by
  have e : xs = (List.replicate xs.length true).map D.bl := by
    rw [List.map_replicate]
    exact List.eq_replicate_iff.mpr ⟨rfl, hx⟩
  rw [e, f_allB]
  simp
theorem lc_all {g : TgM} {t' : Itr} {env : PEnv} {h : PHeap} {a : ME} (hn : t'.items.length ≤ 16777216) (hl : t'.live h = true) (hs : ∀ d ∈ t'.items, ∃ e1, g.set d env = some e1 ∧ a e1 h = .ok (.bl true) h) :
    lcL g tYesM a t' env t'.items [] h = .ok (List.replicate t'.items.length (.bl true)) h := by
  rw [lc_pure (p := fun _ => true) (f := fun _ => .bl true) hn hl fun d hd => by obtain ⟨e1, g1, g2⟩ := hs d hd; exact ⟨e1, g1, rfl, fun _ => g2⟩]
  rw [List.filter_eq_self.mpr (fun _ _ => rfl), List.map_const']
theorem alls_rep {n : Nat} {h : PHeap} : fAll (.new (List.replicate n (.bl true))) h = .ok (.bl true) h := alls_true fun x m => (List.mem_replicate.mp m).2
theorem ishouse_ok {bays : List D} {pw ap : Int} {h : PHeap} (hn : 1 ≤ bays.length ∧ bays.length ≤ 2) (hb : ∀ b ∈ bays, IsBay b) (h1 : 0 ≤ pw ∧ pw ≤ 2) (h2 : 0 ≤ ap ∧ ap ≤ 1) : p_is_house [houseD bays pw ap] h = .ok (.bl true) h := by
  unfold p_is_house b_is_house
  have key := fun (rest : PEnv) => lc_all (g := .name 1) (t' := ⟨bays, []⟩) (env := some (houseD bays pw ap) :: none :: rest) (h := h) (a := mCall p_is_bay (mCons (mVar 1) mNil)) (by simp only; omega) rfl fun d hd => ⟨_, tg_name, by simp [isbay_ok (hb d hd)]⟩
  simp only at key
  have n1 : (1 : Int) ≤ bays.length := by omega
  have n2 : (bays.length : Int) ≤ 2 := by omega
  simp [houseD] at key ⊢
  simp [n1, n2, key, alls_rep, among_int, h1, h2, gc_self]
theorem issky_ok {c l : Int} {h : PHeap} (hc : -30 ≤ c ∧ c ≤ 50) (hl : 0 ≤ l ∧ l ≤ 9) : p_is_sky [skyD c l] h = .ok (.bl true) h := by
  have r : rowB [c, l] [(-30, 50), (0, 9)] = true := rowB_cons (by simp only; omega) (rowB_cons (by simp only; omega) rowB_nil)
  unfold p_is_sky b_is_sky
  simp [skyD, row2, r, gc_self]
theorem need_house_ok {bays : List D} {pw ap : Int} {h : PHeap} (hn : 1 ≤ bays.length ∧ bays.length ≤ 2) (hb : ∀ b ∈ bays, IsBay b) (h1 : 0 ≤ pw ∧ pw ≤ 2) (h2 : 0 ≤ ap ∧ ap ≤ 1) : p_need_house [houseD bays pw ap] h = .ok .non h := by
  unfold p_need_house b_need_house
  simp [ishouse_ok hn hb h1 h2, gc_self]
end Gb

namespace Gb
open PySem L2
@[simp] theorem s_lc2 {i i1 : MI} {g g1 : TgM} {c c1 : MT} {elt : ME} {own own1 : List Nat} {env : PEnv} {h : PHeap} : mLc2 i g c i1 g1 c1 elt own own1 env h = (i env h).bind fun t h1 => lc2L g c i1 g1 c1 elt own1 t (wipeE env own) t.items [] h1 := rfl
theorem lc_in {g : TgM} {t' : Itr} {env : PEnv} {h : PHeap} {a : ME} {f : D → D} (hl : t'.live h = true) : ∀ (ds acc : List D), acc.length + ds.length ≤ 16777216 → (∀ d ∈ ds, ∃ e1, g.set d env = some e1 ∧ a e1 h = .ok (f d) h) →
    lc2In g tYesM a t' env ds acc h = .ok (acc ++ ds.map f) h
  | [], acc, _, _ => by unfold lc2In; simp [hl]
  | d :: ds, acc, hn, hs => by
    obtain ⟨e1, g1, g2⟩ := hs d (by simp)
    rw [List.length_cons] at hn
    unfold lc2In
    rw [if_pos hl, g1]
    simp only [s_yes, Res.calm_ok, Res.bind_ok, g2]
    rw [if_pos (by omega), lc_in hl ds (acc ++ [f d]) (by simp; omega) fun d' m => hs d' (by simp [m])]
    simp
theorem lc2_pure {g g1 : TgM} {t' : Itr} {env : PEnv} {h : PHeap} {i1 : MI} {a : ME} {own1 : List Nat} {its : D → List D} {f : D → D → D} (hl : t'.live h = true) : ∀ (ds acc : List D), acc.length + (ds.flatMap fun d => (its d).map (f d)).length ≤ 16777216 →
    (∀ d ∈ ds, ∃ e1, g.set d env = some e1 ∧ ∃ dp, i1 e1 h = .ok ⟨its d, dp⟩ h ∧ Itr.live ⟨its d, dp⟩ h = true ∧ ∀ d1 ∈ its d, ∃ e2, g1.set d1 (wipeE e1 own1) = some e2 ∧ a e2 h = .ok (f d d1) h) →
    lc2L g tYesM i1 g1 tYesM a own1 t' env ds acc h = .ok (acc ++ ds.flatMap fun d => (its d).map (f d)) h
  | [], acc, _, _ => by unfold lc2L; simp [hl]
  | d :: ds, acc, hn, hs => by
    obtain ⟨e1, q1, dp, q2, q3, q4⟩ := hs d (by simp)
    rw [List.flatMap_cons, List.length_append] at hn
    unfold lc2L
    rw [if_pos hl, q1]
    simp only [s_yes, Res.calm_ok, Res.bind_ok, q2]
    rw [lc_in (f := f d) q3 (its d) acc (by simp at hn ⊢; omega) q4]
    simp only [Res.bind_ok]
    rw [lc2_pure hl ds _ (by simp at hn ⊢; omega) fun d' m => hs d' (by simp [m])]
    simp [List.flatMap_cons]
theorem sum_const {α : Type} (k : Nat) : ∀ l : List α, (l.map fun _ => k).sum = l.length * k
  | [] => by simp
  | x :: l => by simp [sum_const k l, Nat.succ_mul, Nat.add_comm]
/-! acts -/
def actD (a : List Int) : D := .tup (a.map D.int)
def acts : Nat → List (List Int)
  | 0 => [[]]
  | n + 1 => (acts n).flatMap fun a => [0, 1, 2, 3].map fun o => a ++ [o]
def mayB (pw ap : Int) (a : List Int) : Bool := decide (((a.countP fun x => decide (x = 2) : Nat) : Int) ≤ pw) && (decide (ap = 0) || decide (((a.countP fun x => decide (x = 1) : Nat) : Int) ≤ 1))
theorem may_spec {bays : List D} {pw ap : Int} {a : List Int} {h : PHeap} : p_may_do [houseD bays pw ap, actD a] h = .ok (.bl (mayB pw ap a)) h := by
  unfold p_may_do b_may_do
  have c1 : ∀ (k : Int) (env : PEnv), cntD (mCons (mC (.int k)) mNil) env (.val (.tup (a.map D.int))) h = .ok (.int (a.countP fun x => decide (x = k) : Nat)) h := fun k env => cnt_tup (by simp)
  simp only [s_fnS]
  simp [houseD, actD, c1]
  by_cases h1 : ((a.countP fun x => decide (x = 2) : Nat) : Int) ≤ pw
  · by_cases h2 : ap = 0
    · simp [h1, h2, mayB, gc_self]
    · simp [h1, h2, mayB, gc_self]
  · simp [h1, mayB, gc_self]
theorem acts_len : ∀ n, (acts n).length = 4 ^ n
  | 0 => rfl
  | n + 1 => by
    rw [acts, List.length_flatMap]
    simp only [List.length_map, List.length_cons, List.length_nil]
    rw [sum_const, acts_len n, Nat.pow_succ]
theorem acts_mem {n : Nat} {a : List Int} (h : a ∈ acts n) : a.length = n ∧ ∀ x ∈ a, 0 ≤ x ∧ x ≤ 3 := by
  induction n generalizing a with
  | zero =>
    have e : a = [] := by simpa [acts] using h
    subst e
    exact ⟨rfl, fun x m => by simp at m⟩
  | succ n ih =>
    rw [acts, List.mem_flatMap] at h
    obtain ⟨b, hb, ha⟩ := h
    obtain ⟨o, ho, rfl⟩ := List.mem_map.mp ha
    obtain ⟨h1, h2⟩ := ih hb
    refine ⟨by simp [h1], fun x m => ?_⟩
    rcases List.mem_append.mp m with m | m
    · exact h2 x m
    · rw [List.mem_singleton.mp m]
      simp at ho
      omega
theorem small_act {n : Nat} {a : List Int} : (actD a).small n = true := by
  unfold actD
  rw [sm_tup]
  exact smallL_all fun x m => by obtain ⟨i, _, rfl⟩ := List.mem_map.mp m; rfl
end Gb

namespace Gb
open PySem L2
def clampI (x lo hi : Int) : Int := if (if hi < x then hi else x) > lo then (if hi < x then hi else x) else lo
theorem within_spec {x lo hi : Int} {h : PHeap} : p_within [.int x, .int lo, .int hi] h = .ok (.int (clampI x lo hi)) h := by
  unfold p_within b_within
  simp [clampI, gc_self]
def pullI (t cold w a : Int) : Int := ((cold - w) * (if a = 1 then 2 else 1)).fdiv t
def laterI (t g he cold light w a : Int) : Int := clampI (w + pullI t cold w a + (if a = 2 then he else 0) + (light * g).fdiv 4) (-40) 60
def dampI (so d a : Int) : Int := clampI (d - 1 - (if a = 1 ∨ a = 2 then 1 else 0) + (if a = 3 then so else 0)) 0 9
def sizeI (ba sh light later z : Int) : Int := let s := z + (if sh ≤ light then clampI (later - ba) 0 2 else 0); if 4 < s then 4 else s
def bayRes (b y o : D) (cold light : Int) : D := match b, y, o with
  | .tup [.tup [.int t, .int g, .int so, .int he], .tup _, .tup [.int ba, .int sh]], .tup [.int w, .int d, .int z], .int a => oneD (laterI t g he cold light w a) (dampI so d a) (sizeI ba sh light (laterI t g he cold light w a) z)
  | _, _, _ => .non
theorem bay_behind_spec {b : D} {w d z a cold light : Int} {h : PHeap} (hb : IsBay b) (ha : 0 ≤ a ∧ a ≤ 3) :
    p_bay_behind [b, oneD w d z, .int a, skyD cold light] h = .ok (bayRes b (oneD w d z) (.int a) cold light) h := by
  obtain ⟨t, g, so, he, lo, hi, dr, we, ba, sh, rfl, h1, h2, h3, h4, h5, h6, h7, h8, h9⟩ := hb
  have t0 : t ≠ 0 := by omega
  have tn : t.natAbs < 1073741824 := by omega
  have sg : small64 g = true := sm h2.1 (by omega)
  have s1 : small64 1 = true := by decide
  have s2 : small64 2 = true := by decide
  have hc : a = 0 ∨ a = 1 ∨ a = 2 ∨ a = 3 := by omega
  unfold p_bay_behind b_bay_behind
  simp only [s_fnS]
  by_cases hl : sh ≤ light
  · rcases hc with rfl | rfl | rfl | rfl <;> simp [bayD, oneD, skyD, t0, tn, sg, s1, s2, within_spec, hl, gc_self, bayRes, laterI, dampI, sizeI, pullI]
  · rcases hc with rfl | rfl | rfl | rfl <;> simp [bayD, oneD, skyD, t0, tn, sg, s1, s2, within_spec, hl, gc_self, bayRes, laterI, dampI, sizeI, pullI]

def resD (bays ys : List D) (a : List Int) (cold light : Int) : List D := List.zipWith (fun b (q : D × D) => bayRes b q.1 q.2 cold light) bays (ys.zip (a.map D.int))
theorem behind_in_spec {bays ys : List D} {pw ap : Int} {a : List Int} {cold light : Int} {h : PHeap} (hn : bays.length ≤ 2) (hb : ∀ b ∈ bays, IsBay b) (hy : ∀ y ∈ ys, IsOne y) (ha : ∀ x ∈ a, 0 ≤ x ∧ x ≤ 3) :
    p_behind_in [houseD bays pw ap, .tup ys, actD a, skyD cold light] h = .ok (.tup (resD bays ys a cold light)) h := by
  unfold p_behind_in b_behind_in
  have key := lc_pure (env := [some (houseD bays pw ap), some (.tup ys), some (actD a), some (skyD cold light), none, none, none]) (h := h) (g := .tup [.name 4, .name 5, .name 6]) (t := tYesM)
    (a := mCall p_bay_behind (mCons (mVar 4) (mCons (mVar 5) (mCons (mVar 6) (mCons (mVar 3) mNil))))) (t' := ⟨List.zipWith (fun p (q : D × D) => D.tup [p, q.1, q.2]) bays (ys.zip (a.map D.int)), []⟩) (p := fun _ => true)
    (f := fun d => match d with | .tup [b, y, o] => bayRes b y o cold light | _ => .non) (by simp; omega) rfl (by
      intro d hd
      obtain ⟨i, hi⟩ := List.mem_iff_getElem?.mp hd
      obtain ⟨b, q, e1, e2, rfl⟩ := get_zip hi
      obtain ⟨y, o, e3, e4, rfl⟩ := get_zip (f := Prod.mk) e2
      obtain ⟨w, dd, z, rfl, _⟩ := hy y (List.mem_of_getElem? e3)
      obtain ⟨x, hx, rfl⟩ := List.mem_map.mp (List.mem_of_getElem? e4)
      refine ⟨_, by simp; rfl, rfl, fun _ => ?_⟩
      simp [bay_behind_spec (hb b (List.mem_of_getElem? e1)) (ha x hx)])
  have e2 : ((List.zipWith (fun p (q : D × D) => D.tup [p, q.1, q.2]) bays (ys.zip (a.map D.int))).filter fun _ => true).map (fun d => match d with | .tup [b, y, o] => bayRes b y o cold light | _ => .non) = resD bays ys a cold light := by
    rw [List.filter_eq_self.mpr (fun _ _ => rfl), List.map_zipWith]
    rfl
  simp only at key
  rw [e2] at key
  simp only [s_fnS]
  simp [houseD, actD] at key ⊢
  simp [key, gc_self]
theorem standing_ok {bays ys : List D} {pw ap : Int} {h : PHeap} (hn : bays.length ≤ 2) (hl : ys.length = bays.length) (hy : ∀ y ∈ ys, IsOne y) : p_is_standing_of [houseD bays pw ap, .tup ys] h = .ok (.bl true) h := by
  unfold p_is_standing_of b_is_standing_of
  have key := lc_all (g := .name 2) (t' := ⟨ys, []⟩) (env := [some (houseD bays pw ap), some (.tup ys), none]) (h := h)
    (a := mCall p_is_row (mCons (mVar 2) (mCons (mTup (mCons (mTup (mCons (mC (.int (-40))) (mCons (mC (.int (60))) (mNil)))) (mCons (mTup (mCons (mC (.int 0)) (mCons (mC (.int (9))) (mNil)))) (mCons (mTup (mCons (mC (.int 0)) (mCons (mC (.int (4))) (mNil)))) (mNil))))) (mNil))))
    (by simp only; omega) rfl (by
      intro d hd
      obtain ⟨w, dd, z, rfl, h1, h2, h3⟩ := hy d hd
      have r : rowB [w, dd, z] [(-40, 60), (0, 9), (0, 4)] = true := rowB_cons (by simp only; omega) (rowB_cons (by simp only; omega) (rowB_cons (by simp only; omega) rowB_nil))
      exact ⟨_, tg_name, by simp [oneD, row3, r]⟩)
  simp only at key
  simp only [s_fnS]
  simp [houseD] at key ⊢
  simp [hl] at key ⊢
  simp [key, alls_rep, gc_self]
theorem rep_flat (n : Nat) (x : D) : (List.replicate n [x]).flatten = List.replicate n x := by
  induction n with
  | zero => rfl
  | succ n ih => rw [List.replicate_succ, List.flatten_cons, ih, List.replicate_succ]; rfl
theorem rowB_rep {a : List Int} (ha : ∀ x ∈ a, 0 ≤ x ∧ x ≤ 3) : rowB a (List.replicate a.length (0, 3)) = true := by
  induction a with
  | nil => rfl
  | cons x a ih => exact rowB_cons (ha x (by simp)) (ih fun y m => ha y (by simp [m]))
theorem act_ok {bays : List D} {pw ap : Int} {a : List Int} {h : PHeap} (hn : bays.length ≤ 2) (hl : a.length = bays.length) (ha : ∀ x ∈ a, 0 ≤ x ∧ x ≤ 3) (hm : mayB pw ap a = true) : p_is_act_of [houseD bays pw ap, actD a] h = .ok (.bl true) h := by
  unfold p_is_act_of b_is_act_of
  have row := row_spec (xs := a) (bs := List.replicate a.length (0, 3)) (h := h) (by omega)
  rw [rowB_rep ha, List.map_replicate] at row
  have c1 : -1000 ≤ (bays.length : Int) ∧ (bays.length : Int) ≤ 1000 := by omega
  have may := may_spec (bays := bays) (pw := pw) (ap := ap) (a := a) (h := h)
  rw [hl] at row
  simp only [s_fnS]
  simp [houseD, actD, bndD] at row may ⊢
  simp [c1, rep_flat, row, may, hm, gc_self]
theorem behind_spec {bays ys : List D} {pw ap : Int} {a : List Int} {cold light : Int} {h : PHeap} (hn : 1 ≤ bays.length ∧ bays.length ≤ 2) (hb : ∀ b ∈ bays, IsBay b) (h1 : 0 ≤ pw ∧ pw ≤ 2) (h2 : 0 ≤ ap ∧ ap ≤ 1)
    (hly : ys.length = bays.length) (hy : ∀ y ∈ ys, IsOne y) (hla : a.length = bays.length) (ha : ∀ x ∈ a, 0 ≤ x ∧ x ≤ 3) (hm : mayB pw ap a = true) (hc : -30 ≤ cold ∧ cold ≤ 50) (hl : 0 ≤ light ∧ light ≤ 9) :
    p_behind [houseD bays pw ap, .tup ys, actD a, skyD cold light] h = .ok (.tup (resD bays ys a cold light)) h := by
  have ns : p_need_standing [houseD bays pw ap, .tup ys] h = .ok .non h := by
    unfold p_need_standing b_need_standing
    simp [need_house_ok hn hb h1 h2, standing_ok hn.2 hly hy, gc_self]
  unfold p_behind b_behind
  simp [ns, act_ok hn.2 hla ha hm, issky_ok hc hl, behind_in_spec hn.2 hb hy ha, gc_self]
end Gb

namespace Gb
open PySem L2
/-! ### k15 -/
theorem clampI_def {x lo hi : Int} (h : lo ≤ hi) : clampI x lo hi = if x < lo then lo else if hi < x then hi else x := by
  unfold clampI
  repeat' split
  all_goals omega
section
variable {t g so he lo hi dr we ba sh w d z c l x : Int} {h : PHeap}
structure Case2 (t g so he lo hi dr we ba sh w d z c l : Int) : Prop where
  ht : 2 ≤ t ∧ t ≤ 6
  hg : 0 ≤ g ∧ g ≤ 3
  hso : 1 ≤ so ∧ so ≤ 4
  hhe : 0 ≤ he ∧ he ≤ 4
  hlo : -6 ≤ lo ∧ lo ≤ hi ∧ hi ≤ 28 ∧ hi - lo ≤ 14
  hdr : 0 ≤ dr ∧ dr ≤ 3
  hwe : 5 ≤ we ∧ we ≤ 9
  hba : -8 ≤ ba ∧ ba ≤ 20
  hsh : 0 ≤ sh ∧ sh ≤ 9
  hw : -40 ≤ w ∧ w ≤ 60
  hd : 0 ≤ d ∧ d ≤ 9
  hz : 0 ≤ z ∧ z ≤ 4
  hc : -30 ≤ c ∧ c ≤ 50
  hl : 0 ≤ l ∧ l ≤ 9
theorem cut1b {a b c : D} : cutD [a, b, c] (some 1) none = [b, c] := rfl
theorem by_spec {T G S HE L : Int} (k : Case2 t g so he lo hi dr we ba sh w d z c l) (hT : 2 ≤ T ∧ T ≤ 6) (hG : 0 ≤ G ∧ G ≤ 3) (hS : 1 ≤ S ∧ S ≤ 4) (hH : 0 ≤ HE ∧ HE ≤ 4) (hL : 0 ≤ L ∧ L ≤ 9) (hx : 0 ≤ x ∧ x ≤ 3) :
    p__law_by [bayD t g so he lo hi dr we ba sh, .tup [.int T, .int G, .int S, .int HE], oneD w d z, .int x, skyD c L] h = .ok (oneD (laterI T G HE c L w x) (dampI S d x) (sizeI ba sh L (laterI T G HE c L w x) z)) h := by
  have hb : IsBay (bayD T G S HE lo hi dr we ba sh) := ⟨_, _, _, _, _, _, _, _, _, _, rfl, hT, hG, hS, hH, k.hlo, k.hdr, k.hwe, k.hba, k.hsh⟩
  have hm : mayB 1 0 [x] = true := by
    have : x = 0 ∨ x = 1 ∨ x = 2 ∨ x = 3 := by omega
    rcases this with rfl | rfl | rfl | rfl <;> decide
  have B := behind_spec (bays := [bayD T G S HE lo hi dr we ba sh]) (ys := [oneD w d z]) (a := [x]) (pw := 1) (ap := 0) (h := h) ⟨by simp, by simp⟩ (fun y m => by rw [List.mem_singleton.mp m]; exact hb) (by decide) (by decide) rfl
    (fun y m => by rw [List.mem_singleton.mp m]; exact ⟨w, d, z, rfl, k.hw, k.hd, k.hz⟩) rfl (fun y m => by rw [List.mem_singleton.mp m]; exact hx) hm k.hc hL
  have R : resD [bayD T G S HE lo hi dr we ba sh] [oneD w d z] [x] c L = [oneD (laterI T G HE c L w x) (dampI S d x) (sizeI ba sh L (laterI T G HE c L w x) z)] := rfl
  rw [R] at B
  simp only [houseD, bayD, actD, List.map_cons, List.map_nil] at B
  unfold p__law_by b__law_by
  simp [bayD, cut1b, B, gc_self]
theorem dig {a b k : Int} (h : a = b + k) : True := trivial
/-- a heater greater by one -/
theorem hot_ok {H : Int} (k : Case2 t g so he lo hi dr we ba sh w d z c l) (hH : H = (he + 1).fmod 5) (h1 : -40 < (if laterI t g he c l w x < laterI t g H c l w x then laterI t g he c l w x else laterI t g H c l w x)) (h2 : (if laterI t g he c l w x > laterI t g H c l w x then laterI t g he c l w x else laterI t g H c l w x) < 60) :
    laterI t g H c l w x = if he < 4 then laterI t g he c l w x + (if x = 2 then 1 else 0) else laterI t g he c l w x - 4 * (if x = 2 then 1 else 0) := by
  have hH2 : H = if he < 4 then he + 1 else 0 := by
    rw [hH, Int.fmod_eq_emod_of_nonneg _ (by decide)]
    have := k.hhe
    split <;> omega
  unfold laterI at *
  rw [clampI_def (by decide), clampI_def (by decide)] at *
  generalize pullI t c w x = P at *
  generalize (l * g).fdiv 4 = Q at *
  have := k.hhe
  by_cases hx : x = 2
  · simp only [hx, if_true] at *
    by_cases h4 : he < 4
    · rw [if_pos h4] at hH2 ⊢
      subst hH2
      repeat' split at h1
      all_goals (repeat' split at h2)
      all_goals (repeat' split)
      all_goals omega
    · rw [if_neg h4] at hH2 ⊢
      subst hH2
      repeat' split at h1
      all_goals (repeat' split at h2)
      all_goals (repeat' split)
      all_goals omega
  · simp only [hx, if_false] at *
    split <;> omega
theorem wet_ok (k : Case2 t g so he lo hi dr we ba sh w d z c l) (hs : so < 4) : dampI (so + 1) d x = if dampI so d x + (if x = 3 then 1 else 0) < 9 then dampI so d x + (if x = 3 then 1 else 0) else 9 := by
  have := k.hso
  have := k.hd
  unfold dampI
  rw [clampI_def (by decide), clampI_def (by decide)]
  by_cases hx : x = 3
  · subst hx
    simp only [if_true]
    repeat' split
    all_goals omega
  · simp only [hx, if_false]
    repeat' split
    all_goals omega

theorem turn15 {o12 o13 o14 o15 : Option D} (k : Case2 t g so he lo hi dr we ba sh w d z c l) (hx : 0 ≤ x ∧ x ≤ 3) : ∃ env, l__law_right_0 [some (bayD t g so he lo hi dr we ba sh), some (oneD w d z), some (skyD c l), some (.int t), some (.int g), some (.int so), some (.int he), some (.int x), none, none, none, none, o12, o13, o14, o15] h = .nx env h ∧
    wipeE env [7, 8, 9, 10, 11] = [some (bayD t g so he lo hi dr we ba sh), some (oneD w d z), some (skyD c l), some (.int t), some (.int g), some (.int so), some (.int he), none, none, none, none, none, o12, o13, o14, o15] := by
  have hHb : 0 ≤ (he + 1).fmod 5 ∧ (he + 1).fmod 5 ≤ 4 := by
    have := (Int.fmod_nonneg_of_pos (he + 1) (show (0 : Int) < 5 by decide))
    have := (Int.fmod_lt_of_pos (he + 1) (show (0 : Int) < 5 by decide))
    omega
  have B1 := by_spec (h := h) (x := x) k k.ht k.hg k.hso k.hhe k.hl hx
  have B2 := by_spec (h := h) (x := x) k k.ht k.hg k.hso hHb k.hl hx
  have HK := hot_ok (x := x) k rfl
  generalize hH : (he + 1).fmod 5 = H at *
  generalize hL1 : laterI t g he c l w x = L1 at *
  generalize hL2 : laterI t g H c l w x = L2 at *
  have key : (-40 < (if L1 < L2 then L1 else L2) ∧ (if L1 > L2 then L1 else L2) < 60) → L2 = if he < 4 then L1 + (if x = 2 then 1 else 0) else L1 - 4 * (if x = 2 then 1 else 0) := fun q => HK q.1 q.2
  have s4 : small64 4 = true := by decide
  have hin : fInO id = fInO id := rfl
  by_cases hs : so < 4
  · have B3 := by_spec (h := h) (x := x) (S := so + 1) k k.ht k.hg ⟨by have := k.hso; omega, by omega⟩ k.hhe k.hl hx
    have WK := wet_ok (x := x) k hs
    rw [hL1] at B3
    simp only [bayD, oneD, skyD] at B1 B2 B3 ⊢
    have E : ∃ env, l__law_right_0 [some (.tup [.tup [.int t, .int g, .int so, .int he], .tup [.int lo, .int hi, .int dr, .int we], .tup [.int ba, .int sh]]), some (.tup [.int w, .int d, .int z]), some (.tup [.int c, .int l]), some (.int t), some (.int g), some (.int so), some (.int he), some (.int x), none, none, none, none, o12, o13, o14, o15] h = .nx env h ∧
        ∃ p8 p9 p10 p11, env = [some (.tup [.tup [.int t, .int g, .int so, .int he], .tup [.int lo, .int hi, .int dr, .int we], .tup [.int ba, .int sh]]), some (.tup [.int w, .int d, .int z]), some (.tup [.int c, .int l]), some (.int t), some (.int g), some (.int so), some (.int he), some (.int x), p8, p9, p10, p11, o12, o13, o14, o15] := by
      unfold l__law_right_0
      have wk := eq_true WK
      by_cases h4 : he < 4
      · rw [if_pos h4] at key
        by_cases q1 : -40 < (if L1 < L2 then L1 else L2) <;> by_cases q2 : (if L1 > L2 then L1 else L2) < 60
        · have e2 := eq_true (key ⟨q1, q2⟩)
          simp [B1, B2, B3, h4, hs, s4, q1, q2, e2, wk, hH]
        all_goals
          simp [B1, B2, B3, h4, hs, s4, q1, q2, wk, hH]
      · rw [if_neg h4] at key
        by_cases q1 : -40 < (if L1 < L2 then L1 else L2) <;> by_cases q2 : (if L1 > L2 then L1 else L2) < 60
        · have e2 := eq_true (key ⟨q1, q2⟩)
          simp [B1, B2, B3, h4, hs, s4, q1, q2, e2, wk, hH]
        all_goals
          simp [B1, B2, B3, h4, hs, s4, q1, q2, wk, hH]
    obtain ⟨env, e1, _, _, _, _, rfl⟩ := E
    exact ⟨_, e1, rfl⟩
  · simp only [bayD, oneD, skyD] at B1 B2 ⊢
    have E : ∃ env, l__law_right_0 [some (.tup [.tup [.int t, .int g, .int so, .int he], .tup [.int lo, .int hi, .int dr, .int we], .tup [.int ba, .int sh]]), some (.tup [.int w, .int d, .int z]), some (.tup [.int c, .int l]), some (.int t), some (.int g), some (.int so), some (.int he), some (.int x), none, none, none, none, o12, o13, o14, o15] h = .nx env h ∧
        ∃ p8 p9 p10 p11, env = [some (.tup [.tup [.int t, .int g, .int so, .int he], .tup [.int lo, .int hi, .int dr, .int we], .tup [.int ba, .int sh]]), some (.tup [.int w, .int d, .int z]), some (.tup [.int c, .int l]), some (.int t), some (.int g), some (.int so), some (.int he), some (.int x), p8, p9, p10, p11, o12, o13, o14, o15] := by
      unfold l__law_right_0
      by_cases h4 : he < 4
      · rw [if_pos h4] at key
        by_cases q1 : -40 < (if L1 < L2 then L1 else L2) <;> by_cases q2 : (if L1 > L2 then L1 else L2) < 60
        · have e2 := eq_true (key ⟨q1, q2⟩)
          simp [B1, B2, h4, hs, s4, q1, q2, e2, hH]
        all_goals
          simp [B1, B2, h4, hs, s4, q1, q2, hH]
      · rw [if_neg h4] at key
        by_cases q1 : -40 < (if L1 < L2 then L1 else L2) <;> by_cases q2 : (if L1 > L2 then L1 else L2) < 60
        · have e2 := eq_true (key ⟨q1, q2⟩)
          simp [B1, B2, h4, hs, s4, q1, q2, e2, hH]
        all_goals
          simp [B1, B2, h4, hs, s4, q1, q2, hH]
    obtain ⟨env, e1, _, _, _, _, rfl⟩ := E
    exact ⟨_, e1, rfl⟩

theorem lap_zero {L : Int} : (L * 0).fdiv 4 = 0 := by rw [Int.mul_zero]; rfl
theorem later_dark {T HE L : Int} : laterI T 0 HE c L w x = laterI T 0 HE c 0 w x := by
  unfold laterI
  rw [lap_zero, lap_zero]
theorem cold_later {T G L : Int} (hx : x = 2) : laterI T G 0 c L w x = laterI T G 0 c L w 0 := by
  subst hx
  unfold laterI pullI
  simp
theorem cold_damp (k : Case2 t g so he lo hi dr we ba sh w d z c l) : dampI so d 2 = if dampI so d 0 - 1 > 0 then dampI so d 0 - 1 else 0 := by
  have := k.hd
  unfold dampI
  rw [clampI_def (by decide), clampI_def (by decide)]
  simp
  repeat' split
  all_goals omega
theorem open_later {HE L : Int} (k : Case2 t g so he lo hi dr we ba sh w d z c l) : laterI 2 0 HE c L w 1 = c := by
  have := k.hc
  unfold laterI pullI
  rw [lap_zero, clampI_def (by decide), Int.fdiv_eq_ediv_of_nonneg _ (by decide)]
  simp
  repeat' split
  all_goals omega
theorem get_two {h : PHeap} {a b : Cell} : (h ++ [a, b])[h.length + 1]? = some b := by simp
theorem get_two0 {h : PHeap} {a b : Cell} : (h ++ [a, b])[h.length]? = some a := by simp
theorem right_spec (k : Case2 t g so he lo hi dr we ba sh w d z c l) (ti : Tidy h) : p__law_right [bayD t g so he lo hi dr we ba sh, oneD w d z, skyD c l] h = .ok (.bl true) h := by
  obtain ⟨ev, h', g1, g2, g3⟩ := for_inv (env := [some (bayD t g so he lo hi dr we ba sh), some (oneD w d z), some (skyD c l), some (.int t), some (.int g), some (.int so), some (.int he), none, none, none, none, none, none, none, none, none]) (h := h) (s := l__law_right_0)
    (g := .name 7) (kill := [7, 8, 9, 10, 11]) (t := ⟨rngD 0 4, []⟩)
    (I := fun i env h' => wipeE env [7, 8, 9, 10, 11] = [some (bayD t g so he lo hi dr we ba sh), some (oneD w d z), some (skyD c l), some (.int t), some (.int g), some (.int so), some (.int he), none, none, none, none, none, none, none, none, none] ∧ h' = h)
    ⟨rfl, rfl⟩ (fun i env h' q => rfl) (by
      rintro i y env h' hy ⟨ew, rfl⟩
      obtain ⟨j, hj, rfl⟩ := List.mem_map.mp (List.mem_of_getElem? hy)
      have hj := List.mem_range.mp hj
      obtain ⟨ev, e1, e2⟩ := turn15 (x := 0 + (j : Nat)) (h := h') (o12 := none) (o13 := none) (o14 := none) (o15 := none) k ⟨by omega, by omega⟩
      exact ⟨_, by rw [ew]; simp only [tg_name, List.set_cons_succ, List.set_cons_zero], ev, h', .inl e1, e2, rfl⟩)
  rw [g2, g3] at g1
  have C0 := fun h => by_spec (h := h) (x := 0) (HE := 0) k k.ht k.hg k.hso ⟨by decide, by decide⟩ k.hl ⟨by decide, by decide⟩
  have C2 := fun h => by_spec (h := h) (x := 2) (HE := 0) k k.ht k.hg k.hso ⟨by decide, by decide⟩ k.hl ⟨by decide, by decide⟩
  have D0 := fun h => by_spec (h := h) (x := 2) (G := 0) (L := 0) k k.ht ⟨by decide, by decide⟩ k.hso k.hhe ⟨by decide, by decide⟩ ⟨by decide, by decide⟩
  have D1 := fun h => by_spec (h := h) (x := 2) (G := 0) (L := l) k k.ht ⟨by decide, by decide⟩ k.hso k.hhe k.hl ⟨by decide, by decide⟩
  have D9 := fun h => by_spec (h := h) (x := 2) (G := 0) (L := 9) k k.ht ⟨by decide, by decide⟩ k.hso k.hhe ⟨by decide, by decide⟩ ⟨by decide, by decide⟩
  have O := fun h => by_spec (h := h) (x := 1) (T := 2) (G := 0) k ⟨by decide, by decide⟩ ⟨by decide, by decide⟩ k.hso k.hhe k.hl ⟨by decide, by decide⟩
  simp only [later_dark (L := l), later_dark (L := 9), cold_later (x := 2) rfl, open_later k, cold_damp k] at C2 D1 D9 O
  obtain ⟨V, hV⟩ : ∃ V, laterI t 0 he c 0 w 2 = V := ⟨_, rfl⟩
  simp only [hV] at D0 D1 D9
  have EQ := fun cell => f_eqRN (k := id) (h := h ++ [cell, .lst [.int V, .int V, .int V]]) (n := h.length + 1) (xs := [V, V, V]) (ys := [V, V, V]) get_two
  simp only [List.map_cons, List.map_nil] at EQ
  simp only [bayD, oneD, skyD] at C0 C2 D0 D1 D9 O g1 ⊢
  unfold p__law_right b__law_right
  simp only [s_fnS]
  have sT : ∀ cells, gc h.length (.bl true) (h ++ cells) = h := fun cells => gc_drop0 ti rfl
  simp [g1, lcL_cons, lcL_nil, C0, C2, D0, D1, D9, O, f_ixR (get_last rfl), f_ixR get_two, f_ixR get_two0, EQ, List.replicate, sT]
end

theorem st_new {s : Nat} {h : PHeap} {a b : Int} (e : s = h.length) (ha : 0 ≤ a) (hb : 0 ≤ b) (hc : b < 2147483647) : St s (h ++ [.lst [.int a, .int b]]) := ⟨a, b, get_last e, ha, hb, hc⟩
theorem cell_at_spec {ns : List Int} {k : Int} {h : PHeap} (hk : 0 ≤ k) : ∃ x, p__law_cell_at [.fro (ns.map D.int), .int k] h = .ok (.int x) h := by
  unfold p__law_cell_at b__law_cell_at
  by_cases hl : k < (ns.length : Int)
  · obtain ⟨d, e1, e2⟩ := ix_some (xs := ns.map D.int) (i := k) (h := h) hk (by simpa using hl)
    rw [List.getElem?_map] at e1
    cases q : ns[k.toNat]? with
    | none => rw [q] at e1; cases e1
    | some x =>
      rw [q] at e1
      cases e1
      exact ⟨x, by simp [hl, e2, gc_self]⟩
  · exact ⟨0, by simp [hl, gc_self]⟩
theorem state_spec {ns : List Int} {k : Int} {h : PHeap} (hk : 0 ≤ k) : ∃ a b : Int, p__law_state [.fro (ns.map D.int), .int k] h = .ok (.ref h.length) (h ++ [.lst [.int a, .int b]]) ∧ 0 ≤ a ∧ 0 ≤ b ∧ b < 2147483647 := by
  obtain ⟨x, e⟩ := cell_at_spec (ns := ns) (h := h) hk
  have q := fmod_bound x 2147483647 (by decide)
  have g : ∀ l, gc h.length (.ref h.length) (h ++ l) = h ++ l := fun l => by
    unfold gc
    simp
  unfold p__law_state b__law_state
  refine ⟨if x - 10 ^ 18 > 0 then x - 10 ^ 18 else 0, x.fmod 2147483647, ?_, by split <;> omega, q.1, q.2⟩
  simp [e, g]
mutual
theorem small_mono {n m : Nat} (hl : n ≤ m) : ∀ d : D, d.small n = true → d.small m = true
  | .non, _ => rfl
  | .bl _, _ => rfl
  | .int _, _ => rfl
  | .str _, _ => rfl
  | .ref k, h => by
    have h' : k < n := of_decide_eq_true h
    exact decide_eq_true (by omega)
  | .tup xs, h => smallL_mono hl xs h
  | .fro xs, h => smallL_mono hl xs h
theorem smallL_mono {n m : Nat} (hl : n ≤ m) : ∀ ds : List D, D.smallL n ds = true → D.smallL m ds = true
  | [], _ => rfl
  | d :: ds, h => by
    rw [D.smallL, Bool.and_eq_true] at h
    rw [D.smallL, small_mono hl d h.1, smallL_mono hl ds h.2]
    rfl
end
theorem csmall_mono {n m : Nat} (hl : n ≤ m) {c : Cell} (h : c.small n = true) : c.small m = true := by
  cases c with
  | lst xs => exact smallL_mono hl xs h
  | dct kvs =>
    refine List.all_eq_true.mpr fun p hp => ?_
    have q := List.all_eq_true.mp h p hp
    simp only [Bool.and_eq_true] at q ⊢
    exact ⟨small_mono hl _ q.1, small_mono hl _ q.2⟩
  | ins c fs => exact List.all_eq_true.mpr fun p hp => small_mono hl _ (List.all_eq_true.mp h p hp)
theorem Tidy.app {h l : PHeap} (w : Tidy h) (hl : ∀ c ∈ l, c.small (h ++ l).length = true) : Tidy (h ++ l) := fun c m => by
  rcases List.mem_append.mp m with m | m
  · exact csmall_mono (by simp) (w c m)
  · exact hl c m
section
variable {sc kk tt : D} {b : D} {s : Nat} {hh : PHeap}
theorem one_turn {pw ap : Int} (hb : IsBay b) {y : D} (hy : IsOne y) (q : St s hh) (ti : Tidy hh) : ∃ h', l_law_0 [some sc, some kk, some (.ref s), some tt, some (houseD [b] pw ap), some y] hh = .nx [some sc, some kk, some (.ref s), some tt, some (houseD [b] pw ap), some y] h' ∧ St s h' ∧ Tidy h' := by
  obtain ⟨w, d, z, rfl, hw, hd, hz⟩ := hy
  obtain ⟨t, g, so, he, lo, hi, dr, we, ba, sh, rfl, a1, a2, a3, a4, a5, a6, a7, a8, a9⟩ := hb
  obtain ⟨c, l, hk, e1, hc, hl, o1, q1⟩ := sky_spec q
  have t1 := ti.only o1 q1
  have R := right_spec (h := hk) ⟨a1, a2, a3, a4, a5, a6, a7, a8, a9, hw, hd, hz, hc, hl⟩ t1
  refine ⟨hk, ?_, q1, t1⟩
  unfold l_law_0
  simp [houseD, e1, R]
theorem turn_ok (q : St s hh) (ti : Tidy hh) : ∃ env h', l_law_1 [some sc, some kk, some (.ref s), some tt, none, none] hh = .nx env h' ∧
    wipeE env [3, 4, 5] = [some sc, some kk, some (.ref s), none, none, none] ∧ St s h' ∧ Tidy h' := by
  obtain ⟨bays, pw, ap, k1, e1, hn, hb, h1, h2, o1, q1⟩ := house_spec (m := 1) q ⟨by decide, by decide⟩
  have hn1 : bays.length = 1 := by
    have : (1 : Int).toNat = 1 := rfl
    omega
  match bays, hn1, hb, e1 with
  | [b], _, hb, e1 =>
    have t1 := ti.only o1 q1
    obtain ⟨ys1, k2, e2, l2, y2, o2, q2⟩ := standing_spec (bays := [b]) (pw := pw) (ap := ap) q1 t1 hb (by simp)
    have t2 := t1.only o2 q2
    obtain ⟨ys2, k3, e3, l3, y3, o3, q3⟩ := standing_spec (bays := [b]) (pw := pw) (ap := ap) q2 t2 hb (by simp)
    have t3 := t2.only o3 q3
    obtain ⟨ev, h', g1, g2, g3, g4⟩ := for_inv (env := [some sc, some kk, some (.ref s), some tt, some (houseD [b] pw ap), none]) (h := k3) (s := l_law_0)
      (g := .name 5) (kill := [5]) (t := ⟨ys1 ++ ys2, []⟩)
      (I := fun i env h' => wipeE env [5] = [some sc, some kk, some (.ref s), some tt, some (houseD [b] pw ap), none] ∧ St s h' ∧ Tidy h')
      ⟨rfl, q3, t3⟩ (fun i env h' q => rfl) (by
        rintro i y env h' hy ⟨ew, p1, p2⟩
        have iy : IsOne y := by
          rcases List.mem_append.mp (List.mem_of_getElem? hy) with m | m
          · exact y2 y m
          · exact y3 y m
        obtain ⟨h2', E, p3, p4⟩ := one_turn (sc := sc) (kk := kk) (tt := tt) (pw := pw) (ap := ap) (hb b (by simp)) iy p1 p2
        exact ⟨_, by rw [ew]; simp only [tg_name, List.set_cons_succ, List.set_cons_zero], _, h2', .inl E, rfl, p3, p4⟩)
    have hl : ys1.length + ys2.length ≤ 16777216 := by
      rw [l2, l3]
      simp
    have E : l_law_1 [some sc, some kk, some (.ref s), some tt, none, none] hh = .nx [some sc, some kk, some (.ref s), some tt, some (houseD [b] pw ap), none] h' := by
      rw [g2] at g1
      simp only at g1
      unfold l_law_1
      simp [e1, e2, e3, hl]
      exact g1
    exact ⟨_, h', E, rfl, g3, g4⟩
theorem cell_ok {ns : List Int} {k : Int} (hk : 0 ≤ k) (ti : Tidy hh) : ∃ env h', l_law_2 [some (.fro (ns.map D.int)), some (.int k), none, none, none, none] hh = .nx env h' ∧
    wipeE env [1, 2, 3, 4, 5] = [some (.fro (ns.map D.int)), none, none, none, none, none] ∧ Tidy h' := by
  obtain ⟨a, b, e, ha, hb, hc⟩ := state_spec (ns := ns) (h := hh) hk
  have q := st_new (h := hh) (s := hh.length) rfl ha hb hc
  have t : Tidy (hh ++ [.lst [.int a, .int b]]) := ti.app fun c m => by rw [List.mem_singleton.mp m]; rfl
  obtain ⟨ev, h', g1, g2, g3, g4⟩ := for_inv (env := [some (.fro (ns.map D.int)), some (.int k), some (.ref hh.length), none, none, none]) (h := hh ++ [.lst [.int a, .int b]]) (s := l_law_1)
    (g := .name 3) (kill := [3, 4, 5]) (t := ⟨rngD 0 5, []⟩)
    (I := fun i env h' => wipeE env [3, 4, 5] = [some (.fro (ns.map D.int)), some (.int k), some (.ref hh.length), none, none, none] ∧ St hh.length h' ∧ Tidy h')
    ⟨rfl, q, t⟩ (fun i env h' q => rfl) (by
      rintro i y env h' hy ⟨ew, p1, p2⟩
      obtain ⟨ev, h2', E, w2, p3, p4⟩ := turn_ok (sc := .fro (ns.map D.int)) (kk := .int k) (tt := y) p1 p2
      exact ⟨_, by rw [ew]; simp only [tg_name, List.set_cons_succ, List.set_cons_zero], ev, h2', .inl E, w2, p3, p4⟩)
  have E : l_law_2 [some (.fro (ns.map D.int)), some (.int k), none, none, none, none] hh = .nx [some (.fro (ns.map D.int)), some (.int k), some (.ref hh.length), none, none, none] h' := by
    rw [g2] at g1
    simp only at g1
    unfold l_law_2
    simp [e]
    exact g1
  exact ⟨_, h', E, rfl, g4⟩
end
theorem law_true (ns : List Int) (hl : ns.length ≤ 63) : ∃ h, p_law [.fro (ns.map .int)] [] = .ok (.bl true) h := by
  let n : Int := if (if (4 : Int) < (ns.length : Int) then 4 else (ns.length : Int)) > 1 then (if (4 : Int) < (ns.length : Int) then 4 else (ns.length : Int)) else 1
  have hn : -1152921504606846976 ≤ n ∧ n ≤ 1152921504606846976 := by
    simp only [n]
    repeat' split
    all_goals omega
  obtain ⟨ev, h', g1, g2, g3⟩ := for_inv (env := [some (.fro (ns.map D.int)), none, none, none, none, none]) (h := []) (s := l_law_2)
    (g := .name 1) (kill := [1, 2, 3, 4, 5]) (t := ⟨rngD 0 n, []⟩)
    (I := fun i env h' => wipeE env [1, 2, 3, 4, 5] = [some (.fro (ns.map D.int)), none, none, none, none, none] ∧ Tidy h')
    ⟨rfl, fun c m => by cases m⟩ (fun i env h' q => rfl) (by
      rintro i y env h' hy ⟨ew, p1⟩
      obtain ⟨j, _, rfl⟩ := List.mem_map.mp (List.mem_of_getElem? hy)
      obtain ⟨ev, h2', E, w2, p3⟩ := cell_ok (ns := ns) (k := 0 + (j : Nat)) (by omega) p1
      exact ⟨_, by rw [ew]; simp only [tg_name, List.set_cons_succ, List.set_cons_zero], ev, h2', .inl E, w2, p3⟩)
  rw [g2] at g1
  simp only at g1
  refine ⟨gc 0 (.bl true) h', ?_⟩
  unfold p_law b_law
  have hn' := hn
  simp only [n] at hn' g1
  simp only [s_fnS]
  simp [hn'] at g1 ⊢
  simp [g1]
end Gb

namespace Gb
open PySem PySem.Spec PyProof.Rows L2
theorem all_mk {l : PySem.W.OpenLaw} {w : World} {K : PySem.W.Frag} {h : Heap} {mg : Str → Option Value} {fa : Addr} (X : K.In h) (G : h.Ns mainGlobals mg) (hfa : mg "law" = some (.ref fa))
    {f0 : Addr} {od0 an0 : Option Addr} {sl0 : Array (Option Value)} {oc0 kV0 dc0 pm0 cd0 ct0 : Value} (a0 : PySem.W.nsIn K mainGlobals "is_whole" = some (some (.ref f0))) (l0 : K.lookup f0 = some ⟨oc0, od0, .func (PySem.W.fnOf "is_whole" "is_whole" (defArgs t_is_whole) (defBody t_is_whole) (defScope t_is_whole) .none kV0 dc0 pm0 an0 cd0 ct0), sl0⟩) (c0 : PySem.W.codeIn K cd0 "is_whole" = true) (k0 : PySem.W.keepIn K (.ref f0) = true)
    {f1 : Addr} {od1 an1 : Option Addr} {sl1 : Array (Option Value)} {oc1 kV1 dc1 pm1 cd1 ct1 : Value} (a1 : PySem.W.nsIn K mainGlobals "may_do" = some (some (.ref f1))) (l1 : K.lookup f1 = some ⟨oc1, od1, .func (PySem.W.fnOf "may_do" "may_do" (defArgs t_may_do) (defBody t_may_do) (defScope t_may_do) .none kV1 dc1 pm1 an1 cd1 ct1), sl1⟩) (c1 : PySem.W.codeIn K cd1 "may_do" = true) (k1 : PySem.W.keepIn K (.ref f1) = true)
    {f2 : Addr} {od2 an2 : Option Addr} {sl2 : Array (Option Value)} {oc2 kV2 dc2 pm2 cd2 ct2 : Value} (a2 : PySem.W.nsIn K mainGlobals "within" = some (some (.ref f2))) (l2 : K.lookup f2 = some ⟨oc2, od2, .func (PySem.W.fnOf "within" "within" (defArgs t_within) (defBody t_within) (defScope t_within) .none kV2 dc2 pm2 an2 cd2 ct2), sl2⟩) (c2 : PySem.W.codeIn K cd2 "within" = true) (k2 : PySem.W.keepIn K (.ref f2) = true)
    {f3 : Addr} {od3 an3 : Option Addr} {sl3 : Array (Option Value)} {oc3 kV3 dc3 pm3 cd3 ct3 : Value} (a3 : PySem.W.nsIn K mainGlobals "_law_cell_at" = some (some (.ref f3))) (l3 : K.lookup f3 = some ⟨oc3, od3, .func (PySem.W.fnOf "_law_cell_at" "_law_cell_at" (defArgs t__law_cell_at) (defBody t__law_cell_at) (defScope t__law_cell_at) .none kV3 dc3 pm3 an3 cd3 ct3), sl3⟩) (c3 : PySem.W.codeIn K cd3 "_law_cell_at" = true) (k3 : PySem.W.keepIn K (.ref f3) = true)
    {f4 : Addr} {od4 an4 : Option Addr} {sl4 : Array (Option Value)} {oc4 kV4 dc4 pm4 cd4 ct4 : Value} (a4 : PySem.W.nsIn K mainGlobals "_law_take" = some (some (.ref f4))) (l4 : K.lookup f4 = some ⟨oc4, od4, .func (PySem.W.fnOf "_law_take" "_law_take" (defArgs t__law_take) (defBody t__law_take) (defScope t__law_take) .none kV4 dc4 pm4 an4 cd4 ct4), sl4⟩) (c4 : PySem.W.codeIn K cd4 "_law_take" = true) (k4 : PySem.W.keepIn K (.ref f4) = true)
    {f5 : Addr} {od5 an5 : Option Addr} {sl5 : Array (Option Value)} {oc5 kV5 dc5 pm5 cd5 ct5 : Value} (a5 : PySem.W.nsIn K mainGlobals "is_among" = some (some (.ref f5))) (l5 : K.lookup f5 = some ⟨oc5, od5, .func (PySem.W.fnOf "is_among" "is_among" (defArgs t_is_among) (defBody t_is_among) (defScope t_is_among) .none kV5 dc5 pm5 an5 cd5 ct5), sl5⟩) (c5 : PySem.W.codeIn K cd5 "is_among" = true) (k5 : PySem.W.keepIn K (.ref f5) = true)
    {f6 : Addr} {od6 an6 : Option Addr} {sl6 : Array (Option Value)} {oc6 kV6 dc6 pm6 cd6 ct6 : Value} (a6 : PySem.W.nsIn K mainGlobals "bay_behind" = some (some (.ref f6))) (l6 : K.lookup f6 = some ⟨oc6, od6, .func (PySem.W.fnOf "bay_behind" "bay_behind" (defArgs t_bay_behind) (defBody t_bay_behind) (defScope t_bay_behind) .none kV6 dc6 pm6 an6 cd6 ct6), sl6⟩) (c6 : PySem.W.codeIn K cd6 "bay_behind" = true) (k6 : PySem.W.keepIn K (.ref f6) = true)
    {f7 : Addr} {od7 an7 : Option Addr} {sl7 : Array (Option Value)} {oc7 kV7 dc7 pm7 cd7 ct7 : Value} (a7 : PySem.W.nsIn K mainGlobals "_law_state" = some (some (.ref f7))) (l7 : K.lookup f7 = some ⟨oc7, od7, .func (PySem.W.fnOf "_law_state" "_law_state" (defArgs t__law_state) (defBody t__law_state) (defScope t__law_state) .none kV7 dc7 pm7 an7 cd7 ct7), sl7⟩) (c7 : PySem.W.codeIn K cd7 "_law_state" = true) (k7 : PySem.W.keepIn K (.ref f7) = true)
    {f8 : Addr} {od8 an8 : Option Addr} {sl8 : Array (Option Value)} {oc8 kV8 dc8 pm8 cd8 ct8 : Value} (a8 : PySem.W.nsIn K mainGlobals "_law_bay" = some (some (.ref f8))) (l8 : K.lookup f8 = some ⟨oc8, od8, .func (PySem.W.fnOf "_law_bay" "_law_bay" (defArgs t__law_bay) (defBody t__law_bay) (defScope t__law_bay) .none kV8 dc8 pm8 an8 cd8 ct8), sl8⟩) (c8 : PySem.W.codeIn K cd8 "_law_bay" = true) (k8 : PySem.W.keepIn K (.ref f8) = true)
    {f9 : Addr} {od9 an9 : Option Addr} {sl9 : Array (Option Value)} {oc9 kV9 dc9 pm9 cd9 ct9 : Value} (a9 : PySem.W.nsIn K mainGlobals "_law_standing" = some (some (.ref f9))) (l9 : K.lookup f9 = some ⟨oc9, od9, .func (PySem.W.fnOf "_law_standing" "_law_standing" (defArgs t__law_standing) (defBody t__law_standing) (defScope t__law_standing) .none kV9 dc9 pm9 an9 cd9 ct9), sl9⟩) (c9 : PySem.W.codeIn K cd9 "_law_standing" = true) (k9 : PySem.W.keepIn K (.ref f9) = true)
    {f10 : Addr} {od10 an10 : Option Addr} {sl10 : Array (Option Value)} {oc10 kV10 dc10 pm10 cd10 ct10 : Value} (a10 : PySem.W.nsIn K mainGlobals "_law_sky" = some (some (.ref f10))) (l10 : K.lookup f10 = some ⟨oc10, od10, .func (PySem.W.fnOf "_law_sky" "_law_sky" (defArgs t__law_sky) (defBody t__law_sky) (defScope t__law_sky) .none kV10 dc10 pm10 an10 cd10 ct10), sl10⟩) (c10 : PySem.W.codeIn K cd10 "_law_sky" = true) (k10 : PySem.W.keepIn K (.ref f10) = true)
    {f11 : Addr} {od11 an11 : Option Addr} {sl11 : Array (Option Value)} {oc11 kV11 dc11 pm11 cd11 ct11 : Value} (a11 : PySem.W.nsIn K mainGlobals "is_row" = some (some (.ref f11))) (l11 : K.lookup f11 = some ⟨oc11, od11, .func (PySem.W.fnOf "is_row" "is_row" (defArgs t_is_row) (defBody t_is_row) (defScope t_is_row) .none kV11 dc11 pm11 an11 cd11 ct11), sl11⟩) (c11 : PySem.W.codeIn K cd11 "is_row" = true) (k11 : PySem.W.keepIn K (.ref f11) = true)
    {f12 : Addr} {od12 an12 : Option Addr} {sl12 : Array (Option Value)} {oc12 kV12 dc12 pm12 cd12 ct12 : Value} (a12 : PySem.W.nsIn K mainGlobals "behind_in" = some (some (.ref f12))) (l12 : K.lookup f12 = some ⟨oc12, od12, .func (PySem.W.fnOf "behind_in" "behind_in" (defArgs t_behind_in) (defBody t_behind_in) (defScope t_behind_in) .none kV12 dc12 pm12 an12 cd12 ct12), sl12⟩) (c12 : PySem.W.codeIn K cd12 "behind_in" = true) (k12 : PySem.W.keepIn K (.ref f12) = true)
    {f13 : Addr} {od13 an13 : Option Addr} {sl13 : Array (Option Value)} {oc13 kV13 dc13 pm13 cd13 ct13 : Value} (a13 : PySem.W.nsIn K mainGlobals "_law_house" = some (some (.ref f13))) (l13 : K.lookup f13 = some ⟨oc13, od13, .func (PySem.W.fnOf "_law_house" "_law_house" (defArgs t__law_house) (defBody t__law_house) (defScope t__law_house) .none kV13 dc13 pm13 an13 cd13 ct13), sl13⟩) (c13 : PySem.W.codeIn K cd13 "_law_house" = true) (k13 : PySem.W.keepIn K (.ref f13) = true)
    {f14 : Addr} {od14 an14 : Option Addr} {sl14 : Array (Option Value)} {oc14 kV14 dc14 pm14 cd14 ct14 : Value} (a14 : PySem.W.nsIn K mainGlobals "is_needs" = some (some (.ref f14))) (l14 : K.lookup f14 = some ⟨oc14, od14, .func (PySem.W.fnOf "is_needs" "is_needs" (defArgs t_is_needs) (defBody t_is_needs) (defScope t_is_needs) .none kV14 dc14 pm14 an14 cd14 ct14), sl14⟩) (c14 : PySem.W.codeIn K cd14 "is_needs" = true) (k14 : PySem.W.keepIn K (.ref f14) = true)
    {f15 : Addr} {od15 an15 : Option Addr} {sl15 : Array (Option Value)} {oc15 kV15 dc15 pm15 cd15 ct15 : Value} (a15 : PySem.W.nsIn K mainGlobals "is_sky" = some (some (.ref f15))) (l15 : K.lookup f15 = some ⟨oc15, od15, .func (PySem.W.fnOf "is_sky" "is_sky" (defArgs t_is_sky) (defBody t_is_sky) (defScope t_is_sky) .none kV15 dc15 pm15 an15 cd15 ct15), sl15⟩) (c15 : PySem.W.codeIn K cd15 "is_sky" = true) (k15 : PySem.W.keepIn K (.ref f15) = true)
    {f16 : Addr} {od16 an16 : Option Addr} {sl16 : Array (Option Value)} {oc16 kV16 dc16 pm16 cd16 ct16 : Value} (a16 : PySem.W.nsIn K mainGlobals "is_standing_of" = some (some (.ref f16))) (l16 : K.lookup f16 = some ⟨oc16, od16, .func (PySem.W.fnOf "is_standing_of" "is_standing_of" (defArgs t_is_standing_of) (defBody t_is_standing_of) (defScope t_is_standing_of) .none kV16 dc16 pm16 an16 cd16 ct16), sl16⟩) (c16 : PySem.W.codeIn K cd16 "is_standing_of" = true) (k16 : PySem.W.keepIn K (.ref f16) = true)
    {f17 : Addr} {od17 an17 : Option Addr} {sl17 : Array (Option Value)} {oc17 kV17 dc17 pm17 cd17 ct17 : Value} (a17 : PySem.W.nsIn K mainGlobals "is_act_of" = some (some (.ref f17))) (l17 : K.lookup f17 = some ⟨oc17, od17, .func (PySem.W.fnOf "is_act_of" "is_act_of" (defArgs t_is_act_of) (defBody t_is_act_of) (defScope t_is_act_of) .none kV17 dc17 pm17 an17 cd17 ct17), sl17⟩) (c17 : PySem.W.codeIn K cd17 "is_act_of" = true) (k17 : PySem.W.keepIn K (.ref f17) = true)
    {f18 : Addr} {od18 an18 : Option Addr} {sl18 : Array (Option Value)} {oc18 kV18 dc18 pm18 cd18 ct18 : Value} (a18 : PySem.W.nsIn K mainGlobals "is_bay" = some (some (.ref f18))) (l18 : K.lookup f18 = some ⟨oc18, od18, .func (PySem.W.fnOf "is_bay" "is_bay" (defArgs t_is_bay) (defBody t_is_bay) (defScope t_is_bay) .none kV18 dc18 pm18 an18 cd18 ct18), sl18⟩) (c18 : PySem.W.codeIn K cd18 "is_bay" = true) (k18 : PySem.W.keepIn K (.ref f18) = true)
    {f19 : Addr} {od19 an19 : Option Addr} {sl19 : Array (Option Value)} {oc19 kV19 dc19 pm19 cd19 ct19 : Value} (a19 : PySem.W.nsIn K mainGlobals "is_house" = some (some (.ref f19))) (l19 : K.lookup f19 = some ⟨oc19, od19, .func (PySem.W.fnOf "is_house" "is_house" (defArgs t_is_house) (defBody t_is_house) (defScope t_is_house) .none kV19 dc19 pm19 an19 cd19 ct19), sl19⟩) (c19 : PySem.W.codeIn K cd19 "is_house" = true) (k19 : PySem.W.keepIn K (.ref f19) = true)
    {f20 : Addr} {od20 an20 : Option Addr} {sl20 : Array (Option Value)} {oc20 kV20 dc20 pm20 cd20 ct20 : Value} (a20 : PySem.W.nsIn K mainGlobals "need_house" = some (some (.ref f20))) (l20 : K.lookup f20 = some ⟨oc20, od20, .func (PySem.W.fnOf "need_house" "need_house" (defArgs t_need_house) (defBody t_need_house) (defScope t_need_house) .none kV20 dc20 pm20 an20 cd20 ct20), sl20⟩) (c20 : PySem.W.codeIn K cd20 "need_house" = true) (k20 : PySem.W.keepIn K (.ref f20) = true)
    {f21 : Addr} {od21 an21 : Option Addr} {sl21 : Array (Option Value)} {oc21 kV21 dc21 pm21 cd21 ct21 : Value} (a21 : PySem.W.nsIn K mainGlobals "need_standing" = some (some (.ref f21))) (l21 : K.lookup f21 = some ⟨oc21, od21, .func (PySem.W.fnOf "need_standing" "need_standing" (defArgs t_need_standing) (defBody t_need_standing) (defScope t_need_standing) .none kV21 dc21 pm21 an21 cd21 ct21), sl21⟩) (c21 : PySem.W.codeIn K cd21 "need_standing" = true) (k21 : PySem.W.keepIn K (.ref f21) = true)
    {f22 : Addr} {od22 an22 : Option Addr} {sl22 : Array (Option Value)} {oc22 kV22 dc22 pm22 cd22 ct22 : Value} (a22 : PySem.W.nsIn K mainGlobals "behind" = some (some (.ref f22))) (l22 : K.lookup f22 = some ⟨oc22, od22, .func (PySem.W.fnOf "behind" "behind" (defArgs t_behind) (defBody t_behind) (defScope t_behind) .none kV22 dc22 pm22 an22 cd22 ct22), sl22⟩) (c22 : PySem.W.codeIn K cd22 "behind" = true) (k22 : PySem.W.keepIn K (.ref f22) = true)
    {f23 : Addr} {od23 an23 : Option Addr} {sl23 : Array (Option Value)} {oc23 kV23 dc23 pm23 cd23 ct23 : Value} (a23 : PySem.W.nsIn K mainGlobals "_law_by" = some (some (.ref f23))) (l23 : K.lookup f23 = some ⟨oc23, od23, .func (PySem.W.fnOf "_law_by" "_law_by" (defArgs t__law_by) (defBody t__law_by) (defScope t__law_by) .none kV23 dc23 pm23 an23 cd23 ct23), sl23⟩) (c23 : PySem.W.codeIn K cd23 "_law_by" = true) (k23 : PySem.W.keepIn K (.ref f23) = true)
    {f24 : Addr} {od24 an24 : Option Addr} {sl24 : Array (Option Value)} {oc24 kV24 dc24 pm24 cd24 ct24 : Value} (a24 : PySem.W.nsIn K mainGlobals "_law_right" = some (some (.ref f24))) (l24 : K.lookup f24 = some ⟨oc24, od24, .func (PySem.W.fnOf "_law_right" "_law_right" (defArgs t__law_right) (defBody t__law_right) (defScope t__law_right) .none kV24 dc24 pm24 an24 cd24 ct24), sl24⟩) (c24 : PySem.W.codeIn K cd24 "_law_right" = true) (k24 : PySem.W.keepIn K (.ref f24) = true)
    {f25 : Addr} {od25 an25 : Option Addr} {sl25 : Array (Option Value)} {oc25 kV25 dc25 pm25 cd25 ct25 : Value} (a25 : PySem.W.nsIn K mainGlobals "law" = some (some (.ref f25))) (l25 : K.lookup f25 = some ⟨oc25, od25, .func (PySem.W.fnOf "law" "law" (defArgs t_law) (defBody t_law) (defScope t_law) .none kV25 dc25 pm25 an25 cd25 ct25), sl25⟩) (c25 : PySem.W.codeIn K cd25 "law" = true) (k25 : PySem.W.keepIn K (.ref f25) = true)
    (z_all : PySem.W.nsIn K mainGlobals "all" = some none)
    (z_bool : PySem.W.nsIn K mainGlobals "bool" = some none)
    (z_int : PySem.W.nsIn K mainGlobals "int" = some none)
    (z_isinstance : PySem.W.nsIn K mainGlobals "isinstance" = some none)
    (z_len : PySem.W.nsIn K mainGlobals "len" = some none)
    (z_max : PySem.W.nsIn K mainGlobals "max" = some none)
    (z_min : PySem.W.nsIn K mainGlobals "min" = some none)
    (z_range : PySem.W.nsIn K mainGlobals "range" = some none)
    (z_tuple : PySem.W.nsIn K mainGlobals "tuple" = some none)
    (z_zip : PySem.W.nsIn K mainGlobals "zip" = some none)
    (y_HEAT : ∃ t, PySem.W.nsIn K mainGlobals "HEAT" = some (some (.int (2) t)))
    (y_LEAST_WARMTH : ∃ t, PySem.W.nsIn K mainGlobals "LEAST_WARMTH" = some (some (.int (-40) t)))
    (y_MOST_BAYS : ∃ t, PySem.W.nsIn K mainGlobals "MOST_BAYS" = some (some (.int (2) t)))
    (y_MOST_DAMP : ∃ t, PySem.W.nsIn K mainGlobals "MOST_DAMP" = some (some (.int (9) t)))
    (y_MOST_GROWTH : ∃ t, PySem.W.nsIn K mainGlobals "MOST_GROWTH" = some (some (.int (2) t)))
    (y_MOST_POWER : ∃ t, PySem.W.nsIn K mainGlobals "MOST_POWER" = some (some (.int (2) t)))
    (y_MOST_SIZE : ∃ t, PySem.W.nsIn K mainGlobals "MOST_SIZE" = some (some (.int (4) t)))
    (y_MOST_WARMTH : ∃ t, PySem.W.nsIn K mainGlobals "MOST_WARMTH" = some (some (.int (60) t)))
    (y_NOTHING : ∃ t, PySem.W.nsIn K mainGlobals "NOTHING" = some (some (.int (0) t)))
    (y_VENT : ∃ t, PySem.W.nsIn K mainGlobals "VENT" = some (some (.int (1) t)))
    (y_WATER : ∃ t, PySem.W.nsIn K mainGlobals "WATER" = some (some (.int (3) t)))
    : ∃ fd : FuncData, (∀ (s : Shared) (v : Value), BindsTo s fd ⟨[v], []⟩ [("_law_script", v)]) ∧ ∀ base : Heap, K.In base → base.Ns mainGlobals mg → FnOk l.prog w K mg base (L2.CX l.prog w) 12 fa fd ["_law_script"] (spOf K (fun _ => 0) p_law) := by
  have e := hfa.symm.trans (PySem.W.mg_of X G a25)
  cases e
  have T : Top K mg := ⟨PySem.W.mg_none_of X G z_all, PySem.W.mg_none_of X G z_bool, PySem.W.mg_none_of X G z_int, PySem.W.mg_none_of X G z_isinstance, PySem.W.mg_none_of X G z_len, PySem.W.mg_none_of X G z_max, PySem.W.mg_none_of X G z_min, PySem.W.mg_none_of X G z_range, PySem.W.mg_none_of X G z_tuple, PySem.W.mg_none_of X G z_zip, (by obtain ⟨t, e⟩ := y_HEAT; exact ⟨_, PySem.W.mg_of X G e, ⟨t, rfl⟩⟩), (by obtain ⟨t, e⟩ := y_LEAST_WARMTH; exact ⟨_, PySem.W.mg_of X G e, ⟨t, rfl⟩⟩), (by obtain ⟨t, e⟩ := y_MOST_BAYS; exact ⟨_, PySem.W.mg_of X G e, ⟨t, rfl⟩⟩), (by obtain ⟨t, e⟩ := y_MOST_DAMP; exact ⟨_, PySem.W.mg_of X G e, ⟨t, rfl⟩⟩), (by obtain ⟨t, e⟩ := y_MOST_GROWTH; exact ⟨_, PySem.W.mg_of X G e, ⟨t, rfl⟩⟩), (by obtain ⟨t, e⟩ := y_MOST_POWER; exact ⟨_, PySem.W.mg_of X G e, ⟨t, rfl⟩⟩), (by obtain ⟨t, e⟩ := y_MOST_SIZE; exact ⟨_, PySem.W.mg_of X G e, ⟨t, rfl⟩⟩), (by obtain ⟨t, e⟩ := y_MOST_WARMTH; exact ⟨_, PySem.W.mg_of X G e, ⟨t, rfl⟩⟩), (by obtain ⟨t, e⟩ := y_NOTHING; exact ⟨_, PySem.W.mg_of X G e, ⟨t, rfl⟩⟩), (by obtain ⟨t, e⟩ := y_VENT; exact ⟨_, PySem.W.mg_of X G e, ⟨t, rfl⟩⟩), (by obtain ⟨t, e⟩ := y_WATER; exact ⟨_, PySem.W.mg_of X G e, ⟨t, rfl⟩⟩), ⟨_, _, fun_mk (st := t_is_whole) l0 c0 k0, PySem.W.mg_of X G a0⟩, ⟨_, _, fun_mk (st := t_may_do) l1 c1 k1, PySem.W.mg_of X G a1⟩, ⟨_, _, fun_mk (st := t_within) l2 c2 k2, PySem.W.mg_of X G a2⟩, ⟨_, _, fun_mk (st := t__law_cell_at) l3 c3 k3, PySem.W.mg_of X G a3⟩, ⟨_, _, fun_mk (st := t__law_take) l4 c4 k4, PySem.W.mg_of X G a4⟩, ⟨_, _, fun_mk (st := t_is_among) l5 c5 k5, PySem.W.mg_of X G a5⟩, ⟨_, _, fun_mk (st := t_bay_behind) l6 c6 k6, PySem.W.mg_of X G a6⟩, ⟨_, _, fun_mk (st := t__law_state) l7 c7 k7, PySem.W.mg_of X G a7⟩, ⟨_, _, fun_mk (st := t__law_bay) l8 c8 k8, PySem.W.mg_of X G a8⟩, ⟨_, _, fun_mk (st := t__law_standing) l9 c9 k9, PySem.W.mg_of X G a9⟩, ⟨_, _, fun_mk (st := t__law_sky) l10 c10 k10, PySem.W.mg_of X G a10⟩, ⟨_, _, fun_mk (st := t_is_row) l11 c11 k11, PySem.W.mg_of X G a11⟩, ⟨_, _, fun_mk (st := t_behind_in) l12 c12 k12, PySem.W.mg_of X G a12⟩, ⟨_, _, fun_mk (st := t__law_house) l13 c13 k13, PySem.W.mg_of X G a13⟩, ⟨_, _, fun_mk (st := t_is_needs) l14 c14 k14, PySem.W.mg_of X G a14⟩, ⟨_, _, fun_mk (st := t_is_sky) l15 c15 k15, PySem.W.mg_of X G a15⟩, ⟨_, _, fun_mk (st := t_is_standing_of) l16 c16 k16, PySem.W.mg_of X G a16⟩, ⟨_, _, fun_mk (st := t_is_act_of) l17 c17 k17, PySem.W.mg_of X G a17⟩, ⟨_, _, fun_mk (st := t_is_bay) l18 c18 k18, PySem.W.mg_of X G a18⟩, ⟨_, _, fun_mk (st := t_is_house) l19 c19 k19, PySem.W.mg_of X G a19⟩, ⟨_, _, fun_mk (st := t_need_house) l20 c20 k20, PySem.W.mg_of X G a20⟩, ⟨_, _, fun_mk (st := t_need_standing) l21 c21 k21, PySem.W.mg_of X G a21⟩, ⟨_, _, fun_mk (st := t_behind) l22 c22 k22, PySem.W.mg_of X G a22⟩, ⟨_, _, fun_mk (st := t__law_by) l23 c23 k23, PySem.W.mg_of X G a23⟩, ⟨_, _, fun_mk (st := t__law_right) l24 c24 k24, PySem.W.mg_of X G a24⟩, ⟨_, _, fun_mk (st := t_law) l25 c25 k25, PySem.W.mg_of X G a25⟩⟩
  exact ⟨_, fun s v => .of_eq rfl, fun base _ _ => ok_law T (fun_mk (st := t_law) l25 c25 k25)⟩
end Gb

open PySem PySem.W PyProof.Rows
set_option maxRecDepth 100000 in
set_option maxHeartbeats 0 in
theorem PySem.Challenge.cw_glassbays_k15_whole_walls_one_by_one_holds : PySem.Challenge.rw_glassbays_k15_whole_walls_one_by_one.Holds := by
  w_on; o_law; k_head; (case hw => w_witness2)
  k_fill
  refine Gb.walk (l := PySem.Challenge.rw_glassbays_k15_whole_walls_one_by_one) (kk := 12) (x := "_law_script") (cl := fun _ => 0) (g := Gb.p_law) rfl rfl ⟨rfl, by decide, by decide⟩ (fun w h Y => PySem.W.kIn_of Y) ?F Gb.law_true
  case F =>
    intro w mg fa h KX G hmg
    refine' Gb.all_mk KX G hmg ?a0 ?l0 ?c0 ?k0 ?a1 ?l1 ?c1 ?k1 ?a2 ?l2 ?c2 ?k2 ?a3 ?l3 ?c3 ?k3 ?a4 ?l4 ?c4 ?k4 ?a5 ?l5 ?c5 ?k5 ?a6 ?l6 ?c6 ?k6 ?a7 ?l7 ?c7 ?k7 ?a8 ?l8 ?c8 ?k8 ?a9 ?l9 ?c9 ?k9 ?a10 ?l10 ?c10 ?k10 ?a11 ?l11 ?c11 ?k11 ?a12 ?l12 ?c12 ?k12 ?a13 ?l13 ?c13 ?k13 ?a14 ?l14 ?c14 ?k14 ?a15 ?l15 ?c15 ?k15 ?a16 ?l16 ?c16 ?k16 ?a17 ?l17 ?c17 ?k17 ?a18 ?l18 ?c18 ?k18 ?a19 ?l19 ?c19 ?k19 ?a20 ?l20 ?c20 ?k20 ?a21 ?l21 ?c21 ?k21 ?a22 ?l22 ?c22 ?k22 ?a23 ?l23 ?c23 ?k23 ?a24 ?l24 ?c24 ?k24 ?a25 ?l25 ?c25 ?k25 ?z_all ?z_bool ?z_int ?z_isinstance ?z_len ?z_max ?z_min ?z_range ?z_tuple ?z_zip ?y_HEAT ?y_LEAST_WARMTH ?y_MOST_BAYS ?y_MOST_DAMP ?y_MOST_GROWTH ?y_MOST_POWER ?y_MOST_SIZE ?y_MOST_WARMTH ?y_NOTHING ?y_VENT ?y_WATER
    (case a0 => k_is)
    (case l0 => k_is)
    (case c0 => k_is)
    (case k0 => k_is)
    (case a1 => k_is)
    (case l1 => k_is)
    (case c1 => k_is)
    (case k1 => k_is)
    (case a2 => k_is)
    (case l2 => k_is)
    (case c2 => k_is)
    (case k2 => k_is)
    (case a3 => k_is)
    (case l3 => k_is)
    (case c3 => k_is)
    (case k3 => k_is)
    (case a4 => k_is)
    (case l4 => k_is)
    (case c4 => k_is)
    (case k4 => k_is)
    (case a5 => k_is)
    (case l5 => k_is)
    (case c5 => k_is)
    (case k5 => k_is)
    (case a6 => k_is)
    (case l6 => k_is)
    (case c6 => k_is)
    (case k6 => k_is)
    (case a7 => k_is)
    (case l7 => k_is)
    (case c7 => k_is)
    (case k7 => k_is)
    (case a8 => k_is)
    (case l8 => k_is)
    (case c8 => k_is)
    (case k8 => k_is)
    (case a9 => k_is)
    (case l9 => k_is)
    (case c9 => k_is)
    (case k9 => k_is)
    (case a10 => k_is)
    (case l10 => k_is)
    (case c10 => k_is)
    (case k10 => k_is)
    (case a11 => k_is)
    (case l11 => k_is)
    (case c11 => k_is)
    (case k11 => k_is)
    (case a12 => k_is)
    (case l12 => k_is)
    (case c12 => k_is)
    (case k12 => k_is)
    (case a13 => k_is)
    (case l13 => k_is)
    (case c13 => k_is)
    (case k13 => k_is)
    (case a14 => k_is)
    (case l14 => k_is)
    (case c14 => k_is)
    (case k14 => k_is)
    (case a15 => k_is)
    (case l15 => k_is)
    (case c15 => k_is)
    (case k15 => k_is)
    (case a16 => k_is)
    (case l16 => k_is)
    (case c16 => k_is)
    (case k16 => k_is)
    (case a17 => k_is)
    (case l17 => k_is)
    (case c17 => k_is)
    (case k17 => k_is)
    (case a18 => k_is)
    (case l18 => k_is)
    (case c18 => k_is)
    (case k18 => k_is)
    (case a19 => k_is)
    (case l19 => k_is)
    (case c19 => k_is)
    (case k19 => k_is)
    (case a20 => k_is)
    (case l20 => k_is)
    (case c20 => k_is)
    (case k20 => k_is)
    (case a21 => k_is)
    (case l21 => k_is)
    (case c21 => k_is)
    (case k21 => k_is)
    (case a22 => k_is)
    (case l22 => k_is)
    (case c22 => k_is)
    (case k22 => k_is)
    (case a23 => k_is)
    (case l23 => k_is)
    (case c23 => k_is)
    (case k23 => k_is)
    (case a24 => k_is)
    (case l24 => k_is)
    (case c24 => k_is)
    (case k24 => k_is)
    (case a25 => k_is)
    (case l25 => k_is)
    (case c25 => k_is)
    (case k25 => k_is)
    (case z_all => k_is)
    (case z_bool => k_is)
    (case z_int => k_is)
    (case z_isinstance => k_is)
    (case z_len => k_is)
    (case z_max => k_is)
    (case z_min => k_is)
    (case z_range => k_is)
    (case z_tuple => k_is)
    (case z_zip => k_is)
    (case y_HEAT => exact ⟨_, by k_is⟩)
    (case y_LEAST_WARMTH => exact ⟨_, by k_is⟩)
    (case y_MOST_BAYS => exact ⟨_, by k_is⟩)
    (case y_MOST_DAMP => exact ⟨_, by k_is⟩)
    (case y_MOST_GROWTH => exact ⟨_, by k_is⟩)
    (case y_MOST_POWER => exact ⟨_, by k_is⟩)
    (case y_MOST_SIZE => exact ⟨_, by k_is⟩)
    (case y_MOST_WARMTH => exact ⟨_, by k_is⟩)
    (case y_NOTHING => exact ⟨_, by k_is⟩)
    (case y_VENT => exact ⟨_, by k_is⟩)
    (case y_WATER => exact ⟨_, by k_is⟩)
