import PyProof.Rows.All
import HandS.ForExc
import Wide.All
import OpenK.AllK
import Wide.FinOn
import HandS.ForMost
import HandS.Exc
import HandS.ExcOwn
import HandS.WordsExc
import HandS.TupAny
import HandS.TupMul
import HandS.ReCall
import HandS.Walk
import HandS.Zip
import HandS.Flow
import HandS.CallSlots
import KE.KDictKeyed
import KE.KDictWalk
import KE.KeyNested
import KE.KDictList
import KE.KDictSum
import KE.SortData
import HandS.Iter
import KE.DataMinMax
import KE.DataCmp
import HandS.SortKw
import HandS.Lambda
import KE.KNestM
import HandS.IsInst
import HandS.TupLe
import KE.DataEq
import KE.DataFind
import KE.DataIsa
import KE.GoesEnum
import HandS.Style
import HandS.SetFor
import HandS.Defaults
import PyProof.AutoSeq1
import HandS.TryOnly
import PyProof.TupleOfSeq
import HandS.Conv
import HandS.HotCalls
import KE.KExcIs
import HandS.EndTab
import HandS.TupSets
import KE.KItemsList
import HandS.GenList
import HandS.FStr
import KE.HD2
import HandS.Text
import HandS.More
import HandS.DictComp
import HandS.Strs
import KE.GoesEnumKw
import PyProof.Rows.CallKwBuiltin
import HandS.HeadHook3
import KE.KIntText
import PySem.Challenge.RW_glassbays_k63_cases_written
set_option Elab.async false
set_option linter.all false
set_option maxRecDepth 100000
set_option autoImplicit false
set_option maxHeartbeats 4000000
namespace Gb
open PySem

inductive D where
  | non | bl (b : Bool) | int (i : Int) | str (x : Str) | tup (xs : List D) | ref (n : Nat)
  | fro (xs : List D)
  | lst (xs : List D)
  | dct (ks vs : List D)
  | map (xs : List D)
  | gl (x : Str)

mutual
def D.beq : D → D → Bool
  | .non, .non => true
  | .bl a, .bl b => a == b
  | .int a, .int b => a == b
  | .str a, .str b => a == b
  | .tup a, .tup b => D.beqL a b
  | .ref a, .ref b => a == b
  | .fro a, .fro b => D.beqL a b
  | .lst a, .lst b => D.beqL a b
  | .dct a c, .dct b d => D.beqL a b && D.beqL c d
  | .map a, .map b => D.beqL a b
  | .gl a, .gl b => a == b
  | _, _ => false
def D.beqL : List D → List D → Bool
  | [], [] => true
  | a :: r, b :: s => D.beq a b && D.beqL r s
  | _, _ => false
end
mutual
theorem D.beq_iff : ∀ a b : D, D.beq a b = true ↔ a = b
  | .non, b => by cases b <;> simp [D.beq]
  | .bl x, b => by cases b <;> simp [D.beq]
  | .int x, b => by cases b <;> simp [D.beq]
  | .str x, b => by cases b <;> simp [D.beq]
  | .gl x, b => by cases b <;> simp [D.beq]
  | .ref x, b => by cases b <;> simp [D.beq]
  | .tup xs, b => by
    cases b with
    | tup ys => simp only [D.beq, D.tup.injEq]; exact D.beqL_iff xs ys
    | _ => simp [D.beq]
  | .fro xs, b => by
    cases b with
    | fro ys => simp only [D.beq, D.fro.injEq]; exact D.beqL_iff xs ys
    | _ => simp [D.beq]
  | .lst xs, b => by
    cases b with
    | lst ys => simp only [D.beq, D.lst.injEq]; exact D.beqL_iff xs ys
    | _ => simp [D.beq]
  | .map xs, b => by
    cases b with
    | map ys => simp only [D.beq, D.map.injEq]; exact D.beqL_iff xs ys
    | _ => simp [D.beq]
  | .dct xs zs, b => by
    cases b with
    | dct ys ws => simp only [D.beq, Bool.and_eq_true, D.beqL_iff xs ys, D.beqL_iff zs ws, D.dct.injEq]
    | _ => simp [D.beq]
theorem D.beqL_iff : ∀ a b : List D, D.beqL a b = true ↔ a = b
  | [], b => by cases b <;> simp [D.beqL]
  | x :: xs, b => by
    cases b with
    | nil => simp [D.beqL]
    | cons y ys => simp only [D.beqL, Bool.and_eq_true, D.beq_iff x y, D.beqL_iff xs ys, List.cons.injEq]
end
instance : DecidableEq D := fun a b => decidable_of_iff _ (D.beq_iff a b)

inductive Cell where
  | lst (xs : List D)
  | map (xs : List D)
  | dead
  | kst (ks : List Int)
  | dks (ks : List Str) (vs : List D)
  | ins (c : Nat) (fs : List (Str × D))
  deriving DecidableEq
abbrev PHeap := List Cell
abbrev PEnv := List (Option D)

inductive Res (α : Type) where
  | ok (a : α) (h : PHeap)
  | exc (e : D) (h : PHeap)
  | stuck
inductive Out where
  | nx (env : PEnv) (h : PHeap)
  | rt (d : D) (h : PHeap)
  | bk (env : PEnv) (h : PHeap)
  | ct (env : PEnv) (h : PHeap)
  | exc (e : D) (env : PEnv) (h : PHeap)
  | stuck

def Res.bind {α β : Type} (r : Res α) (f : α → PHeap → Res β) : Res β := match r with
  | .ok a h => f a h
  | .exc e h => .exc e h
  | .stuck => .stuck
@[simp] theorem Res.bind_ok {α β : Type} (a : α) (h : PHeap) (f : α → PHeap → Res β) : (Res.ok a h).bind f = f a h := rfl
@[simp] theorem Res.bind_stuck {α β : Type} (f : α → PHeap → Res β) : (Res.stuck : Res α).bind f = .stuck := rfl
@[simp] theorem Res.bind_exc {α β : Type} (e : D) (h : PHeap) (f : α → PHeap → Res β) : (Res.exc e h : Res α).bind f = .exc e h := rfl
def Res.out {α : Type} (r : Res α) (env : PEnv) (f : α → PHeap → Out) : Out := match r with
  | .ok a h => f a h
  | .exc e h => .exc e env h
  | .stuck => .stuck
@[simp] theorem Res.out_ok {α : Type} (a : α) (h : PHeap) (env : PEnv) (f : α → PHeap → Out) : (Res.ok a h).out env f = f a h := rfl
@[simp] theorem Res.out_stuck {α : Type} (env : PEnv) (f : α → PHeap → Out) : (Res.stuck : Res α).out env f = .stuck := rfl
@[simp] theorem Res.out_exc {α : Type} (e : D) (h : PHeap) (env : PEnv) (f : α → PHeap → Out) : (Res.exc e h : Res α).out env f = .exc e env h := rfl

def Res.calm {α : Type} (r : Res α) : Res α := match r with
  | .exc _ _ => .stuck
  | r => r
@[simp] theorem Res.calm_ok {α : Type} (a : α) (h : PHeap) : (Res.ok a h).calm = .ok a h := rfl
@[simp] theorem Res.calm_stuck {α : Type} : (Res.stuck : Res α).calm = .stuck := rfl
@[simp] theorem Res.calm_exc {α : Type} (e : D) (h : PHeap) : (Res.exc e h : Res α).calm = .stuck := rfl

abbrev ME := PEnv → PHeap → Res D
abbrev MT := PEnv → PHeap → Res Bool
abbrev MA := PEnv → PHeap → Res (List D)
abbrev MS := PEnv → PHeap → Out
structure Itr where
  items : List D
  deps : List (Nat × List D)
abbrev MI := PEnv → PHeap → Res Itr
inductive TgM where
  | name (i : Nat) | tup (ts : List TgM)
mutual
def TgM.set : TgM → D → PEnv → Option PEnv
  | .name i, d, env => some (env.set i (some d))
  | .tup ts, d, env => match d with
    | .tup xs => TgM.sets ts xs env
    | _ => none
def TgM.sets : List TgM → List D → PEnv → Option PEnv
  | [], [], env => some env
  | t :: ts, x :: xs, env => match TgM.set t x env with
    | some e => TgM.sets ts xs e
    | none => none
  | _, _, _ => none
end
mutual
def TgM.slots : TgM → List Nat
  | .name i => [i]
  | .tup ts => TgM.slotsL ts
def TgM.slotsL : List TgM → List Nat
  | [] => []
  | t :: ts => TgM.slots t ++ TgM.slotsL ts
end

def Itr.live (t : Itr) (h : PHeap) : Bool := t.deps.all fun p => match h[p.1]? with
  | some (.lst xs) => decide (xs = p.2)
  | _ => false

mutual
def D.small (n : Nat) : D → Bool
  | .ref k => decide (k < n)
  | .tup xs => D.smallL n xs
  | .fro xs => D.smallL n xs
  | .lst xs => D.smallL n xs
  | .dct xs ys => D.smallL n xs && D.smallL n ys
  | .map xs => D.smallL n xs
  | _ => true
def D.smallL (n : Nat) : List D → Bool
  | [] => true
  | x :: xs => D.small n x && D.smallL n xs
end
def Cell.small (n : Nat) : Cell → Bool
  | .lst xs => D.smallL n xs
  | .map xs => D.smallL n xs
  | .dead => true
  | .kst _ => true
  | .dks _ vs => D.smallL n vs
  | .ins _ fs => fs.all fun p => p.2.small n
def gc (n : Nat) (d : D) (h : PHeap) : PHeap :=
  if h.length ≤ n then h else if d.small n && (h.take n).all (Cell.small n) then h.take n else h

def mVar (i : Nat) : ME := fun env h => match env[i]? with
  | some (some d) => .ok d h
  | _ => .stuck
def mC (d : D) : ME := fun _ h => .ok d h
def mBin (f : D → D → PHeap → Res D) (a b : ME) : ME := fun env h => (a env h).bind fun x h1 => (b env h1).bind fun y h2 => f x y h2
def mUn (f : D → PHeap → Res D) (a : ME) : ME := fun env h => (a env h).bind f
def mIf (c : MT) (a b : ME) : ME := fun env h => (c env h).bind fun k h1 => match k with
  | true => a env h1
  | false => b env h1
def mNil : MA := fun _ h => .ok [] h
def mCons (a : ME) (r : MA) : MA := fun env h => (a env h).bind fun x h1 => (r env h1).bind fun xs h2 => .ok (x :: xs) h2
def mTup (a : MA) : ME := fun env h => (a env h).bind fun xs h1 => if xs.length ≤ 16777216 then .ok (.tup xs) h1 else .stuck
def mCall (f : List D → PHeap → Res D) (a : MA) : ME := fun env h => (a env h).bind f

def mTst (a : ME) (f : D → PHeap → Res Bool) : MT := fun env h => (a env h).bind f
def mTB (a : ME) : MT := fun env h => (a env h).bind fun d h1 => match d with
  | .bl b => .ok b h1
  | _ => .stuck
def tNotM (c : MT) : MT := fun env h => (c env h).bind fun k h1 => .ok (!k) h1
def tAndM (a b : MT) : MT := fun env h => (a env h).bind fun k h1 => match k with
  | true => b env h1
  | false => .ok false h1
def tOrM (a b : MT) : MT := fun env h => (a env h).bind fun k h1 => match k with
  | true => .ok true h1
  | false => b env h1
def truthD : D → PHeap → Res Bool := fun d h => match d with
  | .non => .ok false h
  | .bl b => .ok b h
  | .int i => .ok (i != 0) h
  | .str x => if x.length ≤ 16777216 then .ok ((x.length : Int) != 0) h else .stuck
  | .tup xs => .ok (!xs.isEmpty) h
  | .ref n => match h[n]? with
    | some (.lst xs) => .ok (!xs.isEmpty) h
    | _ => .stuck
  | .fro xs => .ok (!xs.isEmpty) h
  | .lst _ => .stuck
  | .dct _ _ => .stuck
  | .map _ => .stuck
  | .gl _ => .stuck
def mAnd (a b : ME) : ME := fun env h => (a env h).bind fun d h1 => (truthD d h1).bind fun k h2 => match k with
  | true => b env h2
  | false => .ok d h2
def mNot (a : ME) : ME := fun env h => (a env h).bind fun d h1 => (truthD d h1).bind fun k h2 => .ok (.bl (!k)) h2
def mChain (f g : D → D → PHeap → Res D) (a b c : ME) : ME := fun env h => (a env h).bind fun x h1 => (b env h1).bind fun y h2 => (f x y h2).bind fun z h3 => match z with
  | .bl true => (c env h3).bind fun w h4 => g y w h4
  | .bl false => .ok (.bl false) h3
  | _ => .stuck

def sSeq (a b : MS) : MS := fun env h => match a env h with
  | .nx e h1 => b e h1
  | o => o
def sNext : MS := fun env h => .nx env h
def sAsg (a : ME) (g : TgM) : MS := fun env h => (a env h).out env fun d h1 => match g.set d env with
  | some e => .nx e h1
  | none => .stuck
def sPar (is : List Nat) (a : MA) : MS := fun env h => (a env h).out env fun xs h1 => if xs.length = is.length then .nx ((is.zip xs).foldl (fun e p => e.set p.1 (some p.2)) env) h1 else .stuck
def sDrop (a : ME) : MS := fun env h => (a env h).out env fun _ h1 => .nx env h1
def sRet (a : ME) : MS := fun env h => (a env h).out env fun d h1 => .rt d h1
def sIf (c : MT) (a b : MS) : MS := fun env h => (c env h).out env fun k h1 => match k with
  | true => a env h1
  | false => b env h1
def sStuck : MS := fun _ _ => .stuck
def wipeE (env : PEnv) : List Nat → PEnv
  | [] => env
  | v :: vs => (wipeE env vs).set v none
def forL (g : TgM) (body : MS) (kill : List Nat) (t : Itr) : List D → PEnv → PHeap → Out
  | [], env, h => if t.live h then .nx (wipeE env kill) h else .stuck
  | d :: ds, env, h => if t.live h then match g.set d (wipeE env kill) with
      | none => .stuck
      | some e1 => match body e1 h with
        | .nx e h1 => forL g body kill t ds e h1
        | .ct e h1 => forL g body kill t ds e h1
        | .bk e h1 => .nx e h1
        | .rt d h1 => .rt d h1
        | .exc x e h1 => .exc x e h1
        | .stuck => .stuck
    else .stuck
def sFor (i : MI) (g : TgM) (body : MS) (kill : List Nat) : MS := fun env h => (i env h).out env fun t h1 => forL g body kill t t.items env h1
def depsOf : D → List D → List (Nat × List D)
  | .ref n, xs => [(n, xs)]
  | _, _ => []
def lcL (g : TgM) (c : MT) (elt : ME) (t : Itr) (env : PEnv) : List D → List D → PHeap → Res (List D)
  | [], acc, h => if t.live h then .ok acc h else .stuck
  | d :: ds, acc, h => if t.live h then match g.set d env with
      | none => .stuck
      | some e1 => (c e1 h).calm.bind fun k h1 => match k with
        | false => lcL g c elt t env ds acc h1
        | true => (elt e1 h1).calm.bind fun y h2 => if acc.length < 16777216 then lcL g c elt t env ds (acc ++ [y]) h2 else .stuck
    else .stuck
def tYesM : MT := fun _ h => .ok true h
def mLc (i : MI) (g : TgM) (c : MT) (elt : ME) (own : List Nat) : MA := fun env h => (i env h).bind fun t h1 => lcL g c elt t (wipeE env own) t.items [] h1
def runFn (np slots : Nat) (body : MS) : List D → PHeap → Res D := fun args h => if args.length = np then (match body (args.map some ++ List.replicate (slots - np) none) h with
  | .nx _ h1 => .ok .non (gc h.length .non h1)
  | .rt d h1 => .ok d (gc h.length d h1)
  | .exc e _ h1 => .exc e h1
  | _ => .stuck) else .stuck
end Gb

namespace Gb
open PySem PySem.Spec PyProof.Rows L2

def TupA (K : PySem.W.Frag) (H : Hp) (a : Addr) (xs : List V) : Prop :=
  (∃ o : Obj, H a = some (.frz o (.tup xs)) ∧ o.dict = none) ∨
    ∃ (o : Obj) (its : Array Value) (n : Nat), K.lookup a = some o ∧ o.cls = .type "tuple" ∧ o.dict = none ∧ o.data = .seq its n ∧ its.size ≤ sizeLine ∧ Vals xs its.toList
theorem TupA.of {K : PySem.W.Frag} {H : Hp} {a : Addr} {xs : List V} {o : Obj} (h : H a = some (.frz o (.tup xs))) (n : o.dict = none) : TupA K H a xs := .inl ⟨o, h, n⟩
theorem TupA.sq {K : PySem.W.Frag} {H : Hp} {a : Addr} {xs : List V} (h : TupA K H a xs) : SqT K H a xs := by
  rcases h with ⟨o, h, _⟩ | ⟨o, its, n, h1, h2, _, h3, h4, h5⟩
  · exact .inl (.inr ⟨o, h⟩)
  · exact .inr ⟨o, its, n, h1, h2, h3, h4, h5⟩
section
variable {X : Cx} {pins : List (Addr × Obj)} {σ : L2.St} {H : Hp} {s : Shared} {a : Addr} {xs ys : List V}
abbrev tupO (its : List Value) : Obj := { cls := .type "tuple", data := .seq its.toArray }
theorem tup_ok {P : Program} {w : World} {h : Heap} {its : List Value} (hv : Vals ys its) (hz : ys.length ≤ sizeLine) (e : h.get? a = some (tupO its)) : ObjOk P w H h a (.frz (tupO its) (.tup ys)) :=
  ⟨e, hz, its, hv, ⟨_, e, rfl, _, rfl⟩⟩
theorem _root_.L2.Inv.tnew {its : List Value} {t' : Nat} (I : Inv X pins σ H s) (hv : Vals ys its) (hz : ys.length ≤ sizeLine) :
    Inv X pins σ (upd H s.heap.objs.size (.frz (tupO its) (.tup ys))) { s with heap := s.heap.push (tupO its), toks := t' } :=
  I.laid (fun b u e => Heap.get?_push_of_some _ e) (Nat.le_refl _) (tup_ok hv hz (Heap.get?_push_size _ rfl))
abbrev NewT (H : Hp) (xs : List V) (Q : VK) : Prop := ∀ p o, H p = none → Obj.dict o = none → Q (.ref p) (upd H p (.frz o (.tup xs)))

variable {e : Expr} {es : List Expr} {te : TE} {t : TA} {pos : Pos}
def tTupA (t : TA) : TE := fun σ H Q => t σ H fun xs H1 => xs.length ≤ sizeLine ∧ NewT H1 xs Q
theorem pe_tupA {x1} (h : PA X es t) : PE X (.Tuple es x1 pos) (tTupA t) := by
  refine ⟨fun pins s σ H Q I hq => ?_⟩
  refine wpAny_Tuple_spliced (thn (h.run pos pins s σ H _ I hq) fun us s1 ⟨xs, H1, I1, r, z, q⟩ => ⟨by rw [← r.length]; exact z, ?_⟩)
  exact ⟨.ref s1.heap.objs.size, _, I1.tnew (t' := s1.toks) r z, rfl, q _ _ I1.fresh rfl⟩
def gTupA (K : PySem.W.Frag) (n : Nat) (t : TGs) : TG := fun v σ H Q => ∃ a xs, v = .ref a ∧ TupA K H a xs ∧ xs.length = n ∧ t xs σ H Q
theorem pg_tupA {k : Nat} {t : TGs} {n : Nat} (hc : X.calm = true) (h : PGs X es t)
    (hn : (assignEach es X.env).length = n := by rfl) (hst : (assignEach es X.env).findIdx? (·.1) = none := by rfl) : PG X (.Tuple es k pos) (gTupA X.K n t) := by
  refine ⟨fun pins s σ H v u Q I r hw => ?_⟩
  obtain ⟨a, xs, e1, hq, hl, hw⟩ := hw
  subst e1
  cases r
  obtain ⟨its, rv, ht, hz⟩ := I.tuple hq.sq
  refine assign_Tuple_tuple (I.ok.hd hc) ht (by simp [hn, ← hl, rv.length]) hst fun h' hx => ?_
  have I1 : Inv X pins σ H { s with heap := h' } := I.kept (t' := s.toks) fun b o e => hx b o (Nat.ne_of_lt (Heap.lt_size e)) e
  exact h.run pins _ σ H xs _ Q I1 (by simpa using rv) hw
def rSlAA (K : PySem.W.Frag) : V → Option Int → Option Int → Hp → VK → Prop := fun x lo hi H Q => ∃ a xs, x = .ref a ∧ TupA K H a xs ∧
  (HT.sIx xs.length 0 lo = 0 ∧ HT.sIx xs.length xs.length hi = xs.length → Q (.ref a) H) ∧ (¬ (HT.sIx xs.length 0 lo = 0 ∧ HT.sIx xs.length xs.length hi = xs.length) → NewT H (cutV xs lo hi) Q)
theorem sl_tupAA : SlR X (rSlAA X.K) := by
  intro pins s σ H x v vl vu lo hi sl Q I rx hs pl pu h
  obtain ⟨a, xs, rfl, hx, q1, q2⟩ := h
  cases rx
  obtain ⟨its, r, ht, hz⟩ := I.tuple hx.sq
  have hlen : its.toArray.size = xs.length := by rw [List.size_toArray]; exact r.length.symm
  refine ⟨"tuple", _, PyProof.Rows.slot_tuple_getitem.lookup, ht.typeIs, ?_⟩
  by_cases hw : HT.sIx xs.length 0 lo = 0 ∧ HT.sIx xs.length xs.length hi = xs.length
  · exact L2.getItem_tuple_whole ht hs pl pu (by rw [hlen]; exact hw) ⟨.ref a, H, I, rfl, q1 hw⟩
  · refine HT.getItem_tuple_cut ht hs pl pu (by rw [hlen]; exact hw) ?_ (by rw [hlen]; exact hz)
    rw [hlen]
    exact ⟨.ref s.heap.objs.size, _, I.tnew (t' := s.toks) ((r.drop (HT.sIx xs.length 0 lo)).take (HT.sIx xs.length xs.length hi - HT.sIx xs.length 0 lo)) (Nat.le_trans (cutV_length xs lo hi) hz), rfl, q2 hw _ _ I.fresh rfl⟩
def rCatAA (K : PySem.W.Frag) : R2 := fun x y H Q => ∃ a b xs ys, x = .ref a ∧ y = .ref b ∧ TupA K H a xs ∧ TupA K H b ys ∧ xs.length + ys.length ≤ sizeLine ∧
  (xs = [] → Q (.ref b) H) ∧ (xs ≠ [] → ys = [] → Q (.ref a) H) ∧ (xs ≠ [] → ys ≠ [] → NewT H (xs ++ ys) Q)
theorem op_catAA : OpR X (binaryOp .Add) (rCatAA X.K) := by
  intro pins s σ H x y v u Q I rx ry h
  obtain ⟨a, b, xs, ys, rfl, rfl, ha, hb, hz, q0, q1, q2⟩ := h
  cases rx
  cases ry
  obtain ⟨its, r1, p1, _⟩ := I.tuple ha.sq
  obtain ⟨its2, r2, p2, _⟩ := I.tuple hb.sq
  by_cases hx : xs = []
  · subst hx
    cases r1
    exact L2.cat_tup0 p1 p2 ⟨.ref b, H, I, rfl, q0 rfl⟩
  · refine HT.cat_tup p1 p2 (fun z => hx (r1.nil_iff.mp z)) (fun z => ⟨.ref a, H, I, rfl, q1 hx (r2.nil_iff.mp z)⟩) (fun z => ?_) (by rw [← r1.length, ← r2.length]; exact hz)
    exact ⟨.ref s.heap.objs.size, _, I.tnew (t' := s.toks) (r1.append r2) (by rw [List.length_append]; exact hz), rfl, q2 hx (fun w => z (r2.nil_iff.mpr w)) _ _ I.fresh rfl⟩
def rTupleA (K : PySem.W.Frag) : List V → Hp → VK → Prop := fun xs H Q => ∃ p ys, xs = [.ref p] ∧ ((SqL K H p ys ∧ NewT H ys Q) ∨ (TupA K H p ys ∧ Q (.ref p) H))
theorem call_tupleA : CallR X (.type "tuple") (rTupleA X.K) := by
  intro pins s σ H xs us Q I r h
  obtain ⟨p, ys, rfl, h⟩ := h
  obtain ⟨u, rfl, rx⟩ := vals1 r
  cases rx
  rcases h with ⟨hq, q⟩ | ⟨hq, q⟩
  · obtain ⟨its, r', pl, hz⟩ := I.list hq
    have hlen := r'.length
    refine call_tuple_list pl.isList (fun h' kp => ?_) (by simp only [List.size_toArray] <;> omega)
    have I1 : Inv X pins σ H { s with heap := h' } := I.kept (t' := s.toks) kp
    exact ⟨.ref h'.objs.size, _, I1.tnew (t' := s.toks) r' hz, rfl, q _ _ (I1.hok.fresh (Nat.le_refl _)) rfl⟩
  · obtain ⟨its, r', pl, hz⟩ := I.tuple hq.sq
    exact call_tuple_same pl ⟨.ref p, H, I, rfl, q⟩

theorem tuple_mulS (l : Addr) (items : Array Value) (n : Nat) (dd : Option Addr) (sl : Array (Option Value)) (x : Int) (u : Tok) (c0 : (decide (x < -(2 ^ 63)) || decide (x ≥ 2 ^ 63)) = false) (c1 : (items.isEmpty || x == 1) = true) :
    Meets (Builtin.«tuple.__mul__» ⟨[.ref l, .int x u], []⟩) (fun _ R s => s.heap.get? l = some { cls := .type "tuple", dict := dd, data := .seq items n, slots := sl } ∧
      R (.ok (.ret (Value.ref l))) s) :=
  .of_wp fun prog w A R s h => by
    obtain ⟨hp, g, d, tk, os⟩ := s
    obtain ⟨hl, h⟩ := h
    have f1 := AutoSeq1.idx_int
    wp_walk using wpAny_loadPart' hl
    repeat (first
      | (refine wpAny_ite_false (decide_eq_false (by rw [c0]; exact Bool.false_ne_true)) ?_; wp_walk using wpAny_loadPart' hl)
      | (refine wpAny_ite_true (decide_eq_true c1) ?_; wp_walk using wpAny_loadPart' hl))
    exact ⟨_, rfl, h⟩
theorem tuple_mul0 (l : Addr) (items : Array Value) (n : Nat) (dd : Option Addr) (sl : Array (Option Value)) (x : Int) (u : Tok) (c0 : (decide (x < -(2 ^ 63)) || decide (x ≥ 2 ^ 63)) = false) (c1 : (items.isEmpty || x == 1) = false) (c2 : (decide (x ≤ 0) || items.isEmpty) = true) :
    Meets (Builtin.«tuple.__mul__» ⟨[.ref l, .int x u], []⟩) (fun _ R s => s.heap.get? l = some { cls := .type "tuple", dict := dd, data := .seq items n, slots := sl } ∧
      R (.ok (.ret (Value.ref s.heap.objs.size))) { s with heap := s.heap.push { cls := Value.type "tuple", data := Data.seq #[] }, toks := s.toks }) :=
  .of_wp fun prog w A R s h => by
    obtain ⟨hp, g, d, tk, os⟩ := s
    obtain ⟨hl, h⟩ := h
    have f1 := AutoSeq1.idx_int
    wp_walk using wpAny_loadPart' hl
    repeat (first
      | (refine wpAny_ite_false (decide_eq_false (by rw [c0]; exact Bool.false_ne_true)) ?_; wp_walk using wpAny_loadPart' hl)
      | (refine wpAny_ite_false (decide_eq_false (by rw [c1]; exact Bool.false_ne_true)) ?_; wp_walk using wpAny_loadPart' hl)
      | (refine wpAny_ite_true (decide_eq_true c2) ?_; wp_walk using wpAny_loadPart' hl))
    exact ⟨_, rfl, h⟩
def rRepA (K : PySem.W.Frag) : R2 := fun x y H Q => ∃ l k xs, x = .ref l ∧ y = .int k ∧ TupA K H l xs ∧ -1000 ≤ k ∧ k ≤ 1000 ∧ xs.length ≤ 1000 ∧
  ((xs = [] ∨ k = 1) → Q (.ref l) H) ∧ (xs ≠ [] → k ≠ 1 → NewT H (List.replicate k.toNat xs).flatten Q)
theorem op_repA : OpR X (binaryOp .Mult) (rRepA X.K) := by
  intro pins s σ H x y v u Q I rx ry h
  obtain ⟨l, k, xs, rfl, rfl, hT, h1, h2, hz, qs, qn⟩ := h
  cases rx
  obtain ⟨t, rfl⟩ := ry
  obtain ⟨its, r, ⟨⟨cls, dd, data, sl⟩, ho, hc, n, hd⟩, hs⟩ := I.tuple hT.sq
  simp only at hc hd
  subst hc hd
  have hle : its.length = xs.length := r.length.symm
  have c0 : (decide (k < -(2 ^ 63)) || decide (k ≥ 2 ^ 63)) = false := by
    rw [decide_eq_false (by omega), decide_eq_false (by omega)] <;> rfl
  by_cases hsame : xs = [] ∨ k = 1
  · have c1 : (its.toArray.isEmpty || k == 1) = true := by
      rcases hsame with e | e
      · subst e; cases r; rfl
      · subst e; simp
    exact wpAny_binaryOp_repeat_ref (T := "tuple") (U := "int") (by decide) ⟨_, ho, rfl⟩ (fun s' => typeIs_int s' k t) noFill_tuple_mul F.fills_int_mul F.slot_int_rmul repeat_tuple F.slot_int_index.lookup
      (call_meets F.slot_int_rmul (typeIs_int s k t) F.entry_int_rmul (F.args_int_rmul_2 _ _) (int_rmul_tuple k t l its.toArray n dd sl)
        ⟨ho, rfl, ⟨_, ho, rfl⟩, call_meets F.slot_tuple_mul ⟨_, ho, rfl⟩ F.entry_tuple_mul (F.args_tuple_mul_2 _ _) (tuple_mulS l its.toArray n dd sl k t c0 c1) ⟨ho, ⟨.ref l, H, I, rfl, qs hsame⟩⟩⟩)
  have hne : xs ≠ [] := fun e => hsame (.inl e)
  have hk1 : k ≠ 1 := fun e => hsame (.inr e)
  have q := qn hne hk1
  have hn : its ≠ [] := fun e => hne (by
    rw [e] at hle
    exact List.eq_nil_of_length_eq_zero hle.symm)
  have hi : its.toArray.isEmpty = false := by
    cases its with
    | nil => exact absurd rfl hn
    | cons a b => rfl
  have c1 : (its.toArray.isEmpty || k == 1) = false := by
    rw [hi, Bool.false_or]
    exact beq_eq_false_iff_ne.mpr hk1
  by_cases hk0 : k ≤ 0
  · have c2 : (decide (k ≤ 0) || its.toArray.isEmpty) = true := by simp [hk0]
    have e0 : k.toNat = 0 := by omega
    rw [e0] at q
    exact wpAny_binaryOp_repeat_ref (T := "tuple") (U := "int") (by decide) ⟨_, ho, rfl⟩ (fun s' => typeIs_int s' k t) noFill_tuple_mul F.fills_int_mul F.slot_int_rmul repeat_tuple F.slot_int_index.lookup
      (call_meets F.slot_int_rmul (typeIs_int s k t) F.entry_int_rmul (F.args_int_rmul_2 _ _) (int_rmul_tuple k t l its.toArray n dd sl)
        ⟨ho, rfl, ⟨_, ho, rfl⟩, call_meets F.slot_tuple_mul ⟨_, ho, rfl⟩ F.entry_tuple_mul (F.args_tuple_mul_2 _ _) (tuple_mul0 l its.toArray n dd sl k t c0 c1 c2)
          ⟨ho, ⟨.ref s.heap.objs.size, _, I.tnew (its := []) (ys := []) (t' := s.toks) .nil (Nat.zero_le _), rfl, q _ _ I.fresh rfl⟩⟩⟩)
  have hsz0 : its.toArray.size = xs.length := by rw [List.size_toArray, hle]
  have hm : ((its.toArray.size : Nat) : Int) * k ≤ 1000000 := by
    rw [hsz0]
    have a1 : ((xs.length : Nat) : Int) * k ≤ 1000 * k := Int.mul_le_mul_of_nonneg_right (by omega) (by omega)
    omega
  have flen : (List.replicate k.toNat its).flatten.length ≤ sizeLine := by
    rw [PyProof.Rows.lm_len_rep_flat, hle, sizeLine_eq]
    have a1 : k.toNat * xs.length ≤ 1000 * 1000 := Nat.mul_le_mul (by omega) hz
    omega
  have c2 : (decide (k ≤ 0) || its.toArray.isEmpty) = false := by
    rw [hi, Bool.or_false]
    exact decide_eq_false (by omega)
  have c4 : Builtin.Tuple.tupleTooMany (((its.toArray.size : Nat) : Int) * k) = false := by
    unfold Builtin.Tuple.tupleTooMany
    rw [sizeLine_eq]
    exact decide_eq_false (by omega)
  refine wpAny_binaryOp_repeat_ref (T := "tuple") (U := "int") (by decide) ⟨_, ho, rfl⟩ (fun s' => typeIs_int s' k t) noFill_tuple_mul F.fills_int_mul F.slot_int_rmul repeat_tuple F.slot_int_index.lookup
    (call_meets F.slot_int_rmul (typeIs_int s k t) F.entry_int_rmul (F.args_int_rmul_2 _ _) (int_rmul_tuple k t l its.toArray n dd sl)
      ⟨ho, rfl, ⟨_, ho, rfl⟩, call_meets F.slot_tuple_mul ⟨_, ho, rfl⟩ F.entry_tuple_mul (F.args_tuple_mul_2 _ _) (tuple_mulW l its.toArray n dd sl k t c0 c1 c2 (by omega) c4 (by rw [size_rep, List.size_toArray]; exact flen)) ⟨ho, ?_⟩⟩)
  rw [size_rep]
  exact ⟨.ref s.heap.objs.size, _, I.tnew (t' := s.toks) (r.rep k.toNat) (by rw [PyProof.Rows.lm_len_rep_flat]; rw [PyProof.Rows.lm_len_rep_flat, hle] at flen; exact flen), rfl, q _ _ I.fresh rfl⟩
end
end Gb

namespace Gb
open PySem L2 PySem.Spec PyProof.Rows
mutual
def nkB : NestedKey → Bool
  | .none => true
  | .num _ => true
  | .text _ => false
  | .tup ks => nkBL ks
def nkBL : List NestedKey → Bool
  | [] => true
  | k :: ks => nkB k && nkBL ks
end
mutual
theorem hash_any (w w' : World) : ∀ k : NestedKey, nkB k = true → NestedKey.hash w k = NestedKey.hash w' k
  | .none, _ => rfl
  | .num i, _ => rfl
  | .text _, h => by simp [nkB] at h
  | .tup ks, h => by
    simp only [nkB] at h
    simp only [NestedKey.hash, hashes_any w w' ks h]
theorem hashes_any (w w' : World) : ∀ ks : List NestedKey, nkBL ks = true → NestedKey.hashes w ks = NestedKey.hashes w' ks
  | [], _ => rfl
  | k :: ks, h => by
    simp only [nkBL, Bool.and_eq_true] at h
    simp only [NestedKey.hashes, hash_any w w' k h.1, hashes_any w w' ks h.2]
end
abbrev DY := NestedKey × Addr × V
abbrev DZ := NestedKey × Addr × Value
def EV : List DY → List DZ → Prop := Paired fun y z => y.1 = z.1 ∧ y.2.1 = z.2.1 ∧ RelV y.2.2 z.2.2
def entZ (w : World) (z : DZ) : DictEntry := ⟨NestedKey.hash w z.1, .ref z.2.1, z.2.2⟩
def DctRaw (o : Obj) (ys : List DY) : Prop := o.ExactDict ∧ (∃ es ep zs, o.data = .dict es ep ∧ EV ys zs ∧ ∀ w, es.toList = zs.map (entZ w)) ∧ (ys.map (·.1)).Nodup ∧ ∀ y ∈ ys, nkB y.1 = true
def dctO (a : Addr) (o : Obj) (ys : List DY) : HO := .ext fun h => h.get? a = some o ∧ (a == sysModules) = false ∧ ys.length ≤ sizeLine ∧ DctRaw o ys
section
variable {P : Program} {w : World} {H : Hp} {h : Heap} {a : Addr} {o : Obj} {ys : List DY} {zs : List DZ}
theorem EV.len {ys : List DY} {zs : List DZ} (e : EV ys zs) : ys.length = zs.length := Paired.length e
theorem EV.mem : ∀ {ys : List DY} {zs : List DZ}, EV ys zs → ∀ z ∈ zs, ∃ y ∈ ys, y.1 = z.1 ∧ y.2.1 = z.2.1 ∧ RelV y.2.2 z.2.2
  | _, _, .nil, z, m => by cases m
  | _, _, .cons (a := y) r t, z, m => by
    rcases List.mem_cons.mp m with rfl | m
    · exact ⟨y, List.mem_cons_self .., r⟩
    · obtain ⟨y', m', q⟩ := EV.mem t z m
      exact ⟨y', List.mem_cons_of_mem _ m', q⟩
theorem EV.get : ∀ {ys : List DY} {zs : List DZ} {i : Nat} {y : DY}, EV ys zs → ys[i]? = some y → ∃ z, zs[i]? = some z ∧ y.1 = z.1 ∧ y.2.1 = z.2.1 ∧ RelV y.2.2 z.2.2
  | _, _, i, y, .nil, e => by simp at e
  | _, _, 0, y, .cons (b := z) r t, e => by simp at e; subst e; exact ⟨z, rfl, r⟩
  | _, _, i + 1, y, .cons r t, e => by
    obtain ⟨z, e1, q⟩ := EV.get t (i := i) (by simpa using e)
    exact ⟨z, by simpa using e1, q⟩
inductive NkV (K : PySem.W.Frag) (H : Hp) : NestedKey → V → Prop
  | none : NkV K H .none .non
  | int (i : Int) : NkV K H (.num i) (.int i)
  | tup {a : Addr} {xs : List V} {ks : List NestedKey} : SqT K H a xs → (∀ i : Nat, (ks[i]?).isSome = (xs[i]?).isSome) → (∀ (i : Nat) k x, ks[i]? = some k → xs[i]? = some x → NkV K H k x) → NkV K H (.tup ks) (.ref a)
end
section
variable {X : Cx} {pins : List (Addr × Obj)} {σ : L2.St} {H : Hp} {s : Shared}
theorem nested_all {h : Heap} : ∀ {ks : List NestedKey} {xs : List V} {us : List Value}, Vals xs us → (∀ i : Nat, (ks[i]?).isSome = (xs[i]?).isSome) → (∀ (i : Nat) k x u, ks[i]? = some k → xs[i]? = some x → RelV x u → NestedIs h k u) → NestedAll h ks us
  | [], [], us, r, _, _ => by cases r; exact .nil
  | [], x :: xs, us, r, hl, _ => by have := hl 0; simp at this
  | k :: ks, [], us, r, hl, _ => by have := hl 0; simp at this
  | k :: ks, x :: xs, us, r, hl, hs => by
    cases r with
    | cons r t =>
      refine .cons (hs 0 k x _ rfl rfl r) (nested_all t (fun i => ?_) fun i k' x' u a b q => hs (i + 1) k' x' u (by simpa using a) (by simpa using b) q)
      have := hl (i + 1)
      simpa using this
theorem NkV.is (I : Inv X pins σ H s) {k : NestedKey} {x : V} (q : NkV X.K H k x) : ∀ {u : Value}, RelV x u → NestedIs s.heap k u := by
  induction q with
  | none => intro u r; cases r; exact .none
  | int i => intro u r; obtain ⟨t, rfl⟩ := r; exact .int i t
  | @tup a xs ks ht hl hs ih =>
    intro u r
    cases r
    obtain ⟨its, rv, ⟨o, e, hc, n, hd⟩, _⟩ := I.tuple ht
    exact .tup e hc hd (nested_all (by simpa using rv) hl fun i k x u a b q => ih i k x a b q)
def atY (ys : List DY) (k : NestedKey) : Option DY := ys.find? fun y => decide (y.1 = k)
def stY (ys : List DY) (k : NestedKey) (b : Addr) (v : V) : List DY := if (atY ys k).isSome then ys.map (fun y => if y.1 = k then (y.1, y.2.1, v) else y) else ys ++ [(k, b, v)]
theorem EV.at : ∀ {ys : List DY} {zs : List DZ} {k : NestedKey}, EV ys zs → match atY ys k with
    | some y => ∃ u, atKey zs k = some (y.2.1, u) ∧ RelV y.2.2 u
    | none => atKey zs k = none
  | _, _, k, .nil => rfl
  | _, _, k, .cons (a := y) (b := z) (l₁ := ys) (l₂ := zs) r t => by
    have ih := EV.at (k := k) t
    unfold atY atKey at ih ⊢
    rw [List.find?_cons, List.find?_cons]
    by_cases c : y.1 = k
    · have c2 : z.1 = k := by rw [← r.1]; exact c
      simp only [c, c2, decide_true, Option.map_some]
      exact ⟨z.2.2, by rw [r.2.1], r.2.2⟩
    · have c2 : ¬ z.1 = k := by rw [← r.1]; exact c
      simp only [c, c2, decide_false]
      exact ih
theorem EV.isSome {ys : List DY} {zs : List DZ} {k : NestedKey} (e : EV ys zs) : (atY ys k).isSome = (atKey zs k).isSome := by
  have := e.at (k := k)
  cases h : atY ys k with
  | some y => rw [h] at this; obtain ⟨u, e, _⟩ := this; rw [e]; rfl
  | none => rw [h] at this; rw [this]; rfl
theorem EV.st {ys : List DY} {zs : List DZ} {k : NestedKey} {b : Addr} {v : V} {u : Value} (e : EV ys zs) (r : RelV v u) : EV (stY ys k b v) (storedH zs k b u) := by
  unfold stY storedH
  rw [e.isSome (k := k)]
  split
  · rename_i c0
    clear c0
    unfold EV at e ⊢
    induction e with
    | nil => exact .nil
    | @cons y z ys zs h t ih =>
      refine .cons ?_ ih
      unfold putAt
      dsimp only
      by_cases c : y.1 = k
      · have c2 : z.1 = k := by rw [← h.1]; exact c
        rw [if_pos c, if_pos c2]
        exact ⟨h.1, h.2.1, r⟩
      · have c2 : ¬ z.1 = k := by rw [← h.1]; exact c
        rw [if_neg c, if_neg c2]
        exact h
  · rename_i c0
    clear c0
    unfold EV at e ⊢
    induction e with
    | nil => exact .cons ⟨rfl, rfl, r⟩ .nil
    | cons h t ih => exact .cons h ih
variable {a b : Addr} {o : Obj} {ys : List DY} {k : NestedKey}
end
end Gb

namespace Gb
open PySem L2 PySem.Spec PyProof.Rows PySem.W
mutual
theorem reads_lt {h : Heap} : ∀ (d : PyData) (v : Value) (as : List Addr), alike d d = true → Reads h v d as → ∀ a ∈ as, a < h.objs.size
  | .none, _, _, _, r => by cases r; simp
  | .bool _, _, _, _, r => by cases r; simp
  | .int _, _, _, _, r => by cases r; simp
  | .str _, _, _, _, r => by cases r; simp
  | .list xs, _, _, hal, r => by
    cases r with
    | list h1 h2 h3 h4 =>
      intro a m
      rcases List.mem_cons.mp m with rfl | m
      · exact Heap.lt_size h1
      · exact readsAll_lt xs _ _ (by simpa [alike] using hal) h4 a m
  | .tuple xs, _, _, hal, r => by
    cases r with
    | tuple h1 h2 h3 h4 => exact readsAll_lt xs _ _ (by simpa [alike] using hal) h4
  | .dict _, _, _, hal, _ => absurd hal (by simp [alike])
theorem readsAll_lt {h : Heap} : ∀ (ds : List PyData) (vs : List Value) (as : List Addr), alikeAll ds ds = true → ReadsAll h vs ds as → ∀ a ∈ as, a < h.objs.size
  | [], _, _, _, r => by cases r; simp
  | d :: ds, _, _, hal, r => by
    cases r with
    | cons h1 h2 =>
      intro a m
      rcases List.mem_append.mp m with m | m
      · exact reads_lt d _ _ (alike_all_cons hal).1 h1 a m
      · exact readsAll_lt ds _ _ (alike_all_cons hal).2 h2 a m
end
section
variable {prog : Program} {w : World} {d : Addr} {es : Array DictEntry} {ep : Nat}
end
section
variable {X : Cx} {pins : List (Addr × Obj)} {σ : L2.St} {H : Hp} {s : Shared} {a : Addr} {o : Obj} {ys : List DY}
structure Srt (K : PySem.W.Frag) (H : Hp) (bs : List (V × PyData)) : Prop where
  dp : ∀ b ∈ bs, Dp K H b.1 b.2
  al : AllAlike (bs.map (·.2))
  so : Sortable (bs.map (·.2))
  dep : ∀ b ∈ bs, b.2.depth ≤ 60
  len : bs.length ≤ sizeLine
end
end Gb

namespace Gb
open PySem L2 PySem.Spec PyProof.Rows PySem.W
section
variable {prog : Program} {w : World} {A : Around} {E : Value → Shared → Prop} {s : Shared}
end
section
variable {X : Cx} {pins : List (Addr × Obj)} {σ : L2.St} {H : Hp} {s : Shared}
structure Mn (K : PySem.W.Frag) (H : Hp) (a : Addr) (bs : List (V × PyData)) : Prop where
  sq : SqL K H a (bs.map (·.1))
  dp : ∀ b ∈ bs, Dp K H b.1 b.2
  al : AlikeAll (bs.map (·.2))
  dep : PyData.depthAll (bs.map (·.2)) ≤ 60
end
end Gb

namespace Gb
open PySem L2

structure CL where
  c : Nat → Addr
  T : List (Addr × Str)
instance : CoeFun CL (fun _ => Nat → Addr) := ⟨CL.c⟩
inductive FX where
  | l (xs : List V) | d (ns : List (Int × Int)) | m (o : Obj) (ys : List DY)
instance : Coe (List V) FX := ⟨.l⟩
def dkv (ns : List (Int × Int)) : List (Key × V) := ns.map fun p => (.inl p.1, .int p.2)
def FroL (K : PySem.W.Frag) (H : Hp) (a : Addr) : FX → Prop
  | .l xs => (∃ o, H a = some (.frz o (.lst xs))) ∨
    ∃ (o : Obj) (its : Array Value) (n : Nat), K.lookup a = some o ∧ o.cls = .type "list" ∧ o.dict = none ∧ o.data = .seq its n ∧ its.size ≤ sizeLine ∧ Vals xs its.toList
  | .d ns => ∃ o, H a = some (.frz o (.dK (dkv ns)))
  | .m o ys => H a = some (.frz o (dctO a o ys))
mutual
def nk : D → Option NestedKey
  | .non => some .none
  | .int i => some (.num i)
  | .tup xs => (nkL xs).map .tup
  | _ => none
def nkL : List D → Option (List NestedKey)
  | [] => some []
  | x :: xs => match nk x, nkL xs with
    | some k, some ks => some (k :: ks)
    | _, _ => none
end
def keyD : D → Option NestedKey
  | .tup [k, _] => nk k
  | _ => none
def adrS (a : Addr) : Str := ⟨#[0, a]⟩
theorem adrS_inj {a b : Addr} (h : adrS a = adrS b) : a = b := by
  have := congrArg (fun s : Str => s.cps.toList) h
  simpa [adrS] using this
structure KeyL (xs : List D) (ys : List DY) : Prop where
  k : xs.map keyD = ys.map fun y => some y.1
  d : ∀ y ∈ ys, y.1.depth ≤ 8
  t : ∀ y ∈ ys, nkB y.1 = true
def pairV (y : DY) : List V := [.ref y.2.1, y.2.2]
theorem FroL.sq {K : PySem.W.Frag} {H : Hp} {a : Addr} {xs : List V} (h : FroL K H a (.l xs)) : SqL K H a xs := by
  rcases h with h | h
  · exact .inl (.inr h)
  · exact .inr h
mutual
def Rep (K : PySem.W.Frag) (io : List Addr) (H : Hp) : D → V → Prop
  | .non, v => v = .non
  | .bl b, v => v = .bl b
  | .int i, v => v = .int i
  | .str x, v => v = .str x
  | .ref n, v => ∃ a, io[n]? = some a ∧ v = .ref a
  | .tup xs, v => ∃ a vs, v = .ref a ∧ TupA K H a vs ∧ RepL K io H xs vs
  | .fro xs, v => ∃ a, ∃ vs : List V, v = .ref a ∧ FroL K H a (.l vs) ∧ RepL K io H xs vs
  | .lst _, _ => False
  | .dct ks ws, v => ∃ a ns, v = .ref a ∧ FroL K H a (.d ns) ∧ ks = ns.map (fun p => D.int p.1) ∧ ws = ns.map (fun p => D.int p.2)
  | .map xs, v => ∃ a o ys, v = .ref a ∧ FroL K H a (.m o ys) ∧ KeyL xs ys ∧ RepI K io H xs (ys.map pairV)
  | .gl x, v => ((∀ a, x ≠ adrS a) ∧ ∃ f, PySem.W.nsIn K mainGlobals x = some (some (.ref f)) ∧ v = .ref f) ∨ ∃ a, x = adrS a ∧ v = .ref a
def RepL (K : PySem.W.Frag) (io : List Addr) (H : Hp) : List D → List V → Prop
  | [], vs => vs = []
  | x :: xs, vs => ∃ v r, vs = v :: r ∧ Rep K io H x v ∧ RepL K io H xs r
def RepI (K : PySem.W.Frag) (io : List Addr) (H : Hp) : List D → List (List V) → Prop
  | [], vss => vss = []
  | x :: xs, vss => ∃ vs r, vss = vs :: r ∧ (match x with
    | .tup ds => RepL K io H ds vs
    | _ => False) ∧ RepI K io H xs r
end

structure Step (K : PySem.W.Frag) (io : List Addr) (H : Hp) (io' : List Addr) (H' : Hp) : Prop where
  pre : ∃ l, io' = io ++ l
  new : ∀ b, b ∈ io' → b ∉ io → H b = none
  keep : ∀ b o, H b = some o → b ∉ io → (∀ ps, o ≠ .tbl ps) → H' b = some o
  tbl : ∀ b ps, H b = some (.tbl ps) → ∃ ps', H' b = some (.tbl ps')
  tup : ∀ a vs, TupA K H a vs → TupA K H' a vs
  fro : ∀ a vs, FroL K H a vs → FroL K H' a vs

section
variable {K : PySem.W.Frag} {io io' io2 : List Addr} {H H' H2 : Hp}
theorem Step.refl : Step K io H io H := ⟨⟨[], by simp⟩, fun _ h n => absurd h n, fun _ _ h _ _ => h, fun _ ps h => ⟨ps, h⟩, fun _ _ h => h, fun _ _ h => h⟩
theorem Step.there (s : Step K io H io' H') {b : Addr} {o : HO} (h : H b = some o) (n : b ∉ io) : ∃ o', H' b = some o' := by
  by_cases t : ∃ ps, o = .tbl ps
  · obtain ⟨ps, rfl⟩ := t
    obtain ⟨ps', e⟩ := s.tbl b ps h
    exact ⟨_, e⟩
  · exact ⟨o, s.keep b o h n fun ps e => t ⟨ps, e⟩⟩
theorem Step.out (a : Step K io H io' H') {b : Addr} {o : HO} (h : H b = some o) (n : b ∉ io) : b ∉ io' := fun m => by
  rw [a.new b m n] at h; cases h
theorem Step.trans (a : Step K io H io' H') (b : Step K io' H' io2 H2) : Step K io H io2 H2 := by
  obtain ⟨l, e⟩ := a.pre
  obtain ⟨m, e2⟩ := b.pre
  refine ⟨⟨l ++ m, by rw [e2, e, List.append_assoc]⟩, fun x h n => ?_, fun x o h n t => b.keep x o (a.keep x o h n t) (a.out h n) t, fun x ps h => (let ⟨_, h1⟩ := a.tbl x ps h; b.tbl x _ h1), fun x vs h => b.tup x vs (a.tup x vs h), fun x vs h => b.fro x vs (a.fro x vs h)⟩
  by_cases hx : x ∈ io'
  · exact a.new x hx n
  · have q := b.new x h hx
    cases e : H x with
    | none => rfl
    | some o =>
      obtain ⟨o', e'⟩ := a.there e n
      rw [e'] at q; cases q
theorem Step.get (a : Step K io H io' H') {n : Nat} {x : Addr} (h : io[n]? = some x) : io'[n]? = some x := by
  obtain ⟨l, e⟩ := a.pre
  have hl : n < io.length := (List.getElem?_eq_some_iff.mp h).1
  rw [e, List.getElem?_append_left hl]
  exact h
mutual
theorem Rep.mono (hp : ∀ (n : Nat) a, io[n]? = some a → io'[n]? = some a) (ht : ∀ a vs, TupA K H a vs → TupA K H' a vs) (hf : ∀ a vs, FroL K H a vs → FroL K H' a vs) : ∀ (d : D) (v : V), Rep K io H d v → Rep K io' H' d v
  | .non, _, h => h
  | .bl _, _, h => h
  | .int _, _, h => h
  | .str _, _, h => h
  | .ref _, _, ⟨a, h, e⟩ => ⟨a, hp _ _ h, e⟩
  | .tup xs, _, ⟨a, vs, e, h, r⟩ => ⟨a, vs, e, ht _ _ h, RepL.mono hp ht hf xs vs r⟩
  | .fro xs, _, ⟨a, vs, e, h, r⟩ => ⟨a, vs, e, hf _ _ h, RepL.mono hp ht hf xs vs r⟩
  | .lst _, _, r => r
  | .dct _ _, _, ⟨a, ns, e, h, r⟩ => ⟨a, ns, e, hf _ _ h, r⟩
  | .gl _, _, h => h
  | .map xs, _, ⟨a, o, ys, e, h, k, r⟩ => ⟨a, o, ys, e, hf _ _ h, k, RepI.mono hp ht hf xs _ r⟩
theorem RepL.mono (hp : ∀ (n : Nat) a, io[n]? = some a → io'[n]? = some a) (ht : ∀ a vs, TupA K H a vs → TupA K H' a vs) (hf : ∀ a vs, FroL K H a vs → FroL K H' a vs) : ∀ (ds : List D) (vs : List V), RepL K io H ds vs → RepL K io' H' ds vs
  | [], _, h => h
  | d :: ds, _, ⟨v, r, e, h, t⟩ => ⟨v, r, e, Rep.mono hp ht hf d v h, RepL.mono hp ht hf ds r t⟩
theorem RepI.mono (hp : ∀ (n : Nat) a, io[n]? = some a → io'[n]? = some a) (ht : ∀ a vs, TupA K H a vs → TupA K H' a vs) (hf : ∀ a vs, FroL K H a vs → FroL K H' a vs) : ∀ (ds : List D) (vs : List (List V)), RepI K io H ds vs → RepI K io' H' ds vs
  | [], _, h => h
  | .tup ds :: xs, _, ⟨v, r, e, h, t⟩ => ⟨v, r, e, RepL.mono hp ht hf ds v h, RepI.mono hp ht hf xs r t⟩
  | .non :: _, _, ⟨_, _, _, h, _⟩ => h.elim
  | .bl _ :: _, _, ⟨_, _, _, h, _⟩ => h.elim
  | .int _ :: _, _, ⟨_, _, _, h, _⟩ => h.elim
  | .str _ :: _, _, ⟨_, _, _, h, _⟩ => h.elim
  | .ref _ :: _, _, ⟨_, _, _, h, _⟩ => h.elim
  | .fro _ :: _, _, ⟨_, _, _, h, _⟩ => h.elim
  | .lst _ :: _, _, ⟨_, _, _, h, _⟩ => h.elim
  | .dct _ _ :: _, _, ⟨_, _, _, h, _⟩ => h.elim
  | .gl _ :: _, _, ⟨_, _, _, h, _⟩ => h.elim
  | .map _ :: _, _, ⟨_, _, _, h, _⟩ => h.elim
end
theorem Rep.step (s : Step K io H io' H') (d : D) (v : V) (r : Rep K io H d v) : Rep K io' H' d v := Rep.mono (fun _ _ h => s.get h) s.tup s.fro d v r
theorem RepL.step (s : Step K io H io' H') (ds : List D) (vs : List V) (r : RepL K io H ds vs) : RepL K io' H' ds vs := RepL.mono (fun _ _ h => s.get h) s.tup s.fro ds vs r
theorem RepI.step (s : Step K io H io' H') (ds : List D) (vs : List (List V)) (r : RepI K io H ds vs) : RepI K io' H' ds vs := RepI.mono (fun _ _ h => s.get h) s.tup s.fro ds vs r
theorem RepL.length : ∀ {ds : List D} {vs : List V}, RepL K io H ds vs → ds.length = vs.length
  | [], _, h => by subst h; rfl
  | d :: ds, _, ⟨v, r, e, h, t⟩ => by subst e; simp [RepL.length t]
theorem RepL.append : ∀ {ds es : List D} {vs us : List V}, RepL K io H ds vs → RepL K io H es us → RepL K io H (ds ++ es) (vs ++ us)
  | [], _, _, _, h, r => by subst h; exact r
  | d :: ds, _, _, _, ⟨v, r, e, h, t⟩, q => by subst e; exact ⟨v, _, rfl, h, RepL.append t q⟩
theorem RepL.get : ∀ {ds : List D} {vs : List V} {i : Nat} {d : D}, RepL K io H ds vs → ds[i]? = some d → ∃ v, vs[i]? = some v ∧ Rep K io H d v
  | [], _, _, _, _, e => by simp at e
  | d :: ds, _, 0, _, ⟨v, r, e, h, t⟩, q => by subst e; simp at q; subst q; exact ⟨v, rfl, h⟩
  | d :: ds, _, i + 1, _, ⟨v, r, e, h, t⟩, q => by subst e; obtain ⟨u, a, b⟩ := RepL.get t (i := i) (by simpa using q); exact ⟨u, by simpa using a, b⟩
theorem RepL.take : ∀ {ds : List D} {vs : List V} (n : Nat), RepL K io H ds vs → RepL K io H (ds.take n) (vs.take n)
  | [], _, n, h => by subst h; simp [RepL]
  | d :: ds, _, 0, ⟨v, r, e, h, t⟩ => by simp [RepL]
  | d :: ds, _, n + 1, ⟨v, r, e, h, t⟩ => by subst e; exact ⟨v, _, rfl, h, RepL.take n t⟩
theorem RepL.drop : ∀ {ds : List D} {vs : List V} (n : Nat), RepL K io H ds vs → RepL K io H (ds.drop n) (vs.drop n)
  | [], _, n, h => by subst h; simp [RepL]
  | d :: ds, _, 0, h => h
  | d :: ds, _, n + 1, ⟨v, r, e, h, t⟩ => by subst e; exact RepL.drop n t
theorem RepL.set : ∀ {ds : List D} {vs : List V} {d : D} {v : V} (i : Nat), RepL K io H ds vs → Rep K io H d v → RepL K io H (ds.set i d) (vs.set i v)
  | [], _, _, _, _, h, _ => by subst h; simp [RepL]
  | _ :: ds, _, _, _, 0, ⟨v, r, e, h, t⟩, q => by subst e; exact ⟨_, _, rfl, q, t⟩
  | _ :: ds, _, _, _, i + 1, ⟨v, r, e, h, t⟩, q => by subst e; exact ⟨_, _, rfl, h, RepL.set i t q⟩
theorem RepL.nil_iff {ds : List D} {vs : List V} (h : RepL K io H ds vs) : (!ds.isEmpty) = !vs.isEmpty := by
  cases ds with
  | nil => have h' : vs = [] := h; subst h'; rfl
  | cons d ds => obtain ⟨v, r, e, _⟩ := h; subst e; rfl

def RepF (K : PySem.W.Frag) (io : List Addr) (H : Hp) (fs : List (Str × D)) (vs : List (Str × V)) : Prop :=
  fs.map (·.1) = vs.map (·.1) ∧ RepL K io H (fs.map (·.2)) (vs.map (·.2))
def Calm0 (o : HO) : Prop := (∀ ps, o ≠ .tbl ps) ∧ ∀ c q, o ≠ LamX.CodeO c q
def CellRep (K : PySem.W.Frag) (cl : CL) (io : List Addr) (H : Hp) (a : Addr) : Cell → Prop
  | .lst xs => ∃ vs, H a = some (.lst vs) ∧ RepL K io H xs vs
  | .map xs => ∃ o ys, H a = some (dctO a o ys) ∧ KeyL xs ys ∧ RepI K io H xs (ys.map pairV)
  | .dead => ∃ o, H a = some o ∧ Calm0 o
  | .kst ks => H a = some (.dK (ks.map fun n => (Sum.inl n, V.bl true)))
  | .dks ks xs => ∃ vs, H a = some (.dK (List.zipWith (fun k v => (Sum.inr k, v)) ks vs)) ∧ RepL K io H xs vs
  | .ins c fs => ∃ dx vs, H a = some (.ins (cl c) dx vs) ∧ RepF K io H fs vs
structure HRel (K : PySem.W.Frag) (cl : CL) (io : List Addr) (H : Hp) (h : PHeap) : Prop where
  len : io.length = h.length
  nd : io.Nodup
  tab : LamX.Tabs cl.T H
  only : ∀ b ps, H b = some (.tbl ps) → ∃ q, (b, q) ∈ cl.T
  cell : ∀ (n : Nat) a c, io[n]? = some a → h[n]? = some c → CellRep K cl io H a c
structure ERel (K : PySem.W.Frag) (io : List Addr) (H : Hp) (sg : L2.St) (env : PEnv) : Prop where
  len : env.length = sg.length
  get : ∀ (i : Nat) d, env[i]? = some (some d) → ∃ v, sg[i]? = some (some v) ∧ Rep K io H d v
theorem ERel.step {sg : L2.St} {env : PEnv} (e : ERel K io H sg env) (s : Step K io H io' H') : ERel K io' H' sg env :=
  ⟨e.len, fun i d h => let ⟨v, a, b⟩ := e.get i d h; ⟨v, a, b.step s _ _⟩⟩
theorem ERel.set {sg : L2.St} {env : PEnv} (e : ERel K io H sg env) {i : Nat} {d : D} {v : V} (r : Rep K io H d v) : ERel K io H (sg.set i (some v)) (env.set i (some d)) := by
  refine ⟨by simp [e.len], fun j x h => ?_⟩
  by_cases hj : i = j
  · subst hj
    have hl : i < env.length := by
      have := (List.getElem?_eq_some_iff.mp h).1
      simpa using this
    rw [List.getElem?_set_self hl] at h
    cases h
    exact ⟨v, List.getElem?_set_self (by rw [← e.len]; exact hl), r⟩
  · rw [List.getElem?_set_ne hj] at h
    obtain ⟨u, a, b⟩ := e.get j x h
    exact ⟨u, by rw [List.getElem?_set_ne hj]; exact a, b⟩
theorem ERel.forget {sg : L2.St} {env : PEnv} (e : ERel K io H sg env) (i : Nat) : ERel K io H sg (env.set i none) := by
  refine ⟨by simp [e.len], fun j x h => ?_⟩
  by_cases hj : i = j
  · subst hj
    by_cases hl : i < env.length
    · rw [List.getElem?_set_self hl] at h; cases h
    · rw [List.getElem?_eq_none (by simpa using hl)] at h; cases h
  · rw [List.getElem?_set_ne hj] at h
    exact e.get j x h
theorem ERel.wipe {sg : L2.St} {env : PEnv} (e : ERel K io H sg env) : ∀ vs, ERel K io H sg (wipeE env vs)
  | [] => e
  | v :: vs => (ERel.wipe e vs).forget v
theorem wipeE_length (env : PEnv) : ∀ vs, (wipeE env vs).length = env.length
  | [] => rfl
  | v :: vs => by show ((wipeE env vs).set v none).length = _; rw [List.length_set, wipeE_length env vs]
theorem wipeE_some {env : PEnv} {i : Nat} {x : D} : ∀ {vs : List Nat}, (wipeE env vs)[i]? = some (some x) → env[i]? = some (some x) ∧ i ∉ vs
  | [], h => ⟨h, by simp⟩
  | v :: vs, h => by
    have h : ((wipeE env vs).set v none)[i]? = some (some x) := h
    by_cases hi : v = i
    · subst hi
      by_cases hv : v < (wipeE env vs).length
      · rw [List.getElem?_set_self hv] at h; cases h
      · rw [List.getElem?_eq_none (by simpa using hv)] at h; cases h
    · rw [List.getElem?_set_ne hi] at h
      obtain ⟨h1, h2⟩ := wipeE_some h
      exact ⟨h1, by simp only [List.mem_cons, not_or]; exact ⟨fun e => hi e.symm, h2⟩⟩
theorem wipe_get {sg : L2.St} {i : Nat} : ∀ {vs : List Nat}, i ∉ vs → (wipe sg vs)[i]? = sg[i]?
  | [], _ => rfl
  | v :: vs, h => by
    simp only [List.mem_cons, not_or] at h
    show ((wipe sg vs).set v none)[i]? = _
    rw [List.getElem?_set_ne (fun e => h.1 e.symm), wipe_get h.2]
theorem ERel.wipe2 {sg : L2.St} {env : PEnv} (e : ERel K io H sg env) (vs : List Nat) : ERel K io H (L2.wipe sg vs) (wipeE env vs) := by
  refine ⟨by rw [wipeE_length, wipe_length, e.len], fun i d h => ?_⟩
  obtain ⟨h1, h2⟩ := wipeE_some h
  obtain ⟨v, a, b⟩ := e.get i d h1
  exact ⟨v, by rw [wipe_get h2]; exact a, b⟩

def ExcRep (cl : CL) (H : Hp) (e : D) (cls : Value) (dd : Option Addr) : Prop := match e with
  | .int c => cls = .ref (cl c.toNat) ∧ dd = none
  | .tup [.int c, .int l] => cls = .ref (cl c.toNat) ∧ ∃ d, dd = some d ∧ H d = some (.xd [("line", .int l)])
  | _ => False

end

class Back (K : PySem.W.Frag) {α β : Type} (R : Hp → List Addr → Hp → α → β → Prop) : Prop where
  back : ∀ {io H io1 H1 io' H' a b}, Step K io H io1 H1 → (∃ l, io' = io1 ++ l) → R H1 io' H' a b → R H io' H' a b
def postR {α β : Type} (R : Hp → List Addr → Hp → α → β → Prop) (K : PySem.W.Frag) (cl : CL) (W : WX) (io : List Addr) (sg : L2.St) (H : Hp) (r : Res α) (Q : β → Hp → Prop) : Prop :=
  match r with
  | .ok a h => ∀ b io' H', Step K io H io' H' → HRel K cl io' H' h → R H io' H' a b → Q b H'
  | .exc e h => ∀ cls dd io' H', Step K io H io' H' → HRel K cl io' H' h → ExcRep cl H' e cls dd → W cls dd sg H'
  | .stuck => False
def rd {α β : Type} (R : Hp → List Addr → Hp → α → β → Prop) (K : PySem.W.Frag) (cl : CL) (W : WX) (m : PEnv → PHeap → Res α) : L2.St → Hp → (β → Hp → Prop) → Prop :=
  fun sg H Q => ∃ env h io, ERel K io H sg env ∧ HRel K cl io H h ∧ postR R K cl W io sg H (m env h) Q
abbrev RRep (K : PySem.W.Frag) : Hp → List Addr → Hp → D → V → Prop := fun _ io H d v => Rep K io H d v
abbrev RRepL (K : PySem.W.Frag) : Hp → List Addr → Hp → List D → List V → Prop := fun _ io H d v => RepL K io H d v
abbrev RBool : Hp → List Addr → Hp → Bool → Bool → Prop := fun _ _ _ a b => a = b
def RNew (K : PySem.W.Frag) : Hp → List Addr → Hp → List D → V → Prop := fun H0 io H xs v => ∃ a vs, v = .ref a ∧ H0 a = none ∧ a ∉ io ∧ H a = some (.lst vs) ∧ RepL K io H xs vs
instance {K : PySem.W.Frag} : Back K (RRep K) := ⟨fun _ _ h => h⟩
instance {K : PySem.W.Frag} : Back K (RRepL K) := ⟨fun _ _ h => h⟩
instance {K : PySem.W.Frag} : Back K RBool := ⟨fun _ _ h => h⟩
theorem Step.before {K : PySem.W.Frag} {io io1 io' : List Addr} {H H1 : Hp} {a : Addr} (s : Step K io H io1 H1) (hl : ∃ l, io' = io1 ++ l) (h0 : H1 a = none) (h1 : a ∉ io') : H a = none := by
  cases q : H a with
  | none => rfl
  | some o =>
    obtain ⟨l, e⟩ := hl
    have n : a ∉ io := fun m => h1 (by obtain ⟨l2, e2⟩ := s.pre; rw [e, e2]; simp [m])
    obtain ⟨o', e'⟩ := s.there q n
    rw [e'] at h0
    cases h0
instance {K : PySem.W.Frag} : Back K (RNew K) := ⟨fun s hl ⟨a, vs, e1, h0, h1, h2, h3⟩ => ⟨a, vs, e1, s.before hl h0 h1, h1, h2, h3⟩⟩

section
variable {K : PySem.W.Frag} {cl : CL} {W : WX} {io io1 : List Addr} {sg : L2.St} {H H1 : Hp} {α β γ δ : Type} {R : Hp → List Addr → Hp → α → β → Prop} {S : Hp → List Addr → Hp → γ → δ → Prop}
theorem HRel.there {h : PHeap} (r : HRel K cl io H h) {n : Nat} {a : Addr} (e : io[n]? = some a) : ∃ c, h[n]? = some c ∧ CellRep K cl io H a c := by
  have hl : n < io.length := (List.getElem?_eq_some_iff.mp e).1
  have hl2 : n < h.length := by rw [← r.len]; exact hl
  exact ⟨h[n], List.getElem?_eq_getElem hl2, r.cell n a _ e (List.getElem?_eq_getElem hl2)⟩
theorem HRel.addr {h : PHeap} (r : HRel K cl io H h) {n : Nat} {c : Cell} (e : h[n]? = some c) : ∃ a, io[n]? = some a ∧ CellRep K cl io H a c := by
  have hl : n < h.length := (List.getElem?_eq_some_iff.mp e).1
  have hl2 : n < io.length := by rw [r.len]; exact hl
  exact ⟨io[n], List.getElem?_eq_getElem hl2, r.cell n _ c (List.getElem?_eq_getElem hl2) e⟩
theorem postR.step [Back K S] {r : Res γ} {Q : δ → Hp → Prop} (p : postR S K cl W io sg H r Q) (s : Step K io H io1 H1) : postR S K cl W io1 sg H1 r Q := by
  cases r with
  | ok a h => exact fun b io' H' s2 hr q => p b io' H' (s.trans s2) hr (Back.back s s2.pre q)
  | exc e h => exact fun cls dd io' H' s2 hr q => p cls dd io' H' (s.trans s2) hr q
  | stuck => exact p
theorem postR.bind [Back K S] {r : Res α} {f : α → PHeap → Res γ} {Q : δ → Hp → Prop} {Q' : β → Hp → Prop} (p : postR S K cl W io sg H (r.bind f) Q)
    (k : ∀ a h1 b io1 H1, r = .ok a h1 → Step K io H io1 H1 → HRel K cl io1 H1 h1 → R H io1 H1 a b → postR S K cl W io1 sg H1 (f a h1) Q → Q' b H1) : postR R K cl W io sg H r Q' := by
  cases r with
  | ok a h => exact fun b io1 H1 s hr q => k a h b io1 H1 rfl s hr q (postR.step (show postR S K cl W io sg H (f a h) Q from p) s)
  | exc e h => exact p
  | stuck => exact p
theorem postR.imp {r : Res α} {Q Q' : β → Hp → Prop} (p : postR R K cl W io sg H r Q) (k : ∀ b H', Q b H' → Q' b H') : postR R K cl W io sg H r Q' := by
  cases r with
  | ok a h => exact fun b io1 H1 s hr q => k _ _ (p b io1 H1 s hr q)
  | exc e h => exact p
  | stuck => exact p
theorem rd_mk {m : PEnv → PHeap → Res α} {env : PEnv} {h : PHeap} {Q : β → Hp → Prop} (E : ERel K io H sg env) (r : HRel K cl io H h) (p : postR R K cl W io sg H (m env h) Q) : rd R K cl W m sg H Q := ⟨env, h, io, E, r, p⟩
theorem postR.here {a : α} {h : PHeap} {b : β} {Q : β → Hp → Prop} (p : postR R K cl W io sg H (.ok a h) Q) (r : HRel K cl io H h) (q : R H io H a b) : Q b H := p b io H .refl r q
end
end Gb

namespace Gb
open PySem L2

abbrev SE (X : Cx) (cl : CL) (W : WX) (e : Expr) (m : ME) : Prop := PE X e (rd (RRep X.K) X.K cl W m)
abbrev ST (X : Cx) (cl : CL) (W : WX) (e : Expr) (m : MT) : Prop := PT X e (rd RBool X.K cl W m)
abbrev SW (X : Cx) (cl : CL) (W : WX) (e : Expr) (m : MT) : Prop := PW X e (rd RBool X.K cl W m)
abbrev SA (X : Cx) (cl : CL) (W : WX) (es : List Expr) (m : MA) : Prop := PA X es (rd (RRepL X.K) X.K cl W m)
abbrev SN (X : Cx) (cl : CL) (W : WX) (e : Expr) (m : MA) : Prop := PE X e (rd (RNew X.K) X.K cl W m)

theorem _root_.L2.PE.imp {X : Cx} {e : Expr} {t t' : TE} (h : PE X e t) (k : ∀ sg H Q, t' sg H Q → t sg H Q) : PE X e t' := ⟨fun pins s sg H Q I q => h.run pins s sg H Q I (k _ _ _ q)⟩
theorem _root_.L2.PT.imp {X : Cx} {e : Expr} {t t' : TT} (h : PT X e t) (k : ∀ sg H Q, t' sg H Q → t sg H Q) : PT X e t' := ⟨fun pins s sg H Q I q => h.run pins s sg H Q I (k _ _ _ q)⟩
theorem _root_.L2.PW.imp {X : Cx} {e : Expr} {t t' : TT} (h : PW X e t) (k : ∀ sg H Q, t' sg H Q → t sg H Q) : PW X e t' := ⟨fun wh pins s sg H Q I q => h.run wh pins s sg H Q I (k _ _ _ q)⟩
theorem _root_.L2.PA.imp {X : Cx} {e : List Expr} {t t' : TA} (h : PA X e t) (k : ∀ sg H Q, t' sg H Q → t sg H Q) : PA X e t' := ⟨fun pos pins s sg H Q I q => h.run pos pins s sg H Q I (k _ _ _ q)⟩
theorem _root_.L2.PS.imp {X : Cx} {e : Stmt} {t t' : TS} (h : PS X e t) (k : ∀ D sg H, t' D sg H → t D sg H) : PS X e t' := ⟨fun pins s sg H D I q => h.run pins s sg H D I (k _ _ _ q)⟩
theorem _root_.L2.PSs.imp {X : Cx} {e : List Stmt} {t t' : TS} (h : PSs X e t) (k : ∀ D sg H, t' D sg H → t D sg H) : PSs X e t' := ⟨fun pins s sg H D I q => h.run pins s sg H D I (k _ _ _ q)⟩
theorem _root_.L2.PG.imp {X : Cx} {e : Expr} {t t' : TG} (h : PG X e t) (k : ∀ v sg H Q, t' v sg H Q → t v sg H Q) : PG X e t' := ⟨fun pins s sg H v u Q I r q => h.run pins s sg H v u Q I r (k _ _ _ _ q)⟩
theorem _root_.L2.PI.imp {X : Cx} {tg e : Expr} {t t' : TI} (h : PI X tg e t) (k : ∀ sg H Q, t' sg H Q → t sg H Q) : PI X tg e t' := ⟨fun pins s sg H Q I q => h.run pins s sg H Q I (k _ _ _ q)⟩

section
variable {K : PySem.W.Frag} {cl : CL} {W : WX} {io : List Addr} {H : Hp} {h : PHeap} {p a : Addr} {o : HO}
theorem sqT_keep {H' : Hp} (k : ∀ b o u, H b = some (.frz o u) → H' b = some (.frz o u)) {a : Addr} {vs : List V} (s : TupA K H a vs) : TupA K H' a vs := by
  rcases s with ⟨o, s, n⟩ | s
  · exact .inl ⟨o, k _ _ _ s, n⟩
  · exact .inr s
theorem fro_keep {H' : Hp} (k : ∀ b o u, H b = some (.frz o u) → H' b = some (.frz o u)) {a : Addr} {vs : FX} (s : FroL K H a vs) : FroL K H' a vs := by
  cases vs with
  | d ns => obtain ⟨o, s⟩ := s; exact ⟨o, k _ _ _ s⟩
  | m o ys => exact k _ _ _ s
  | l vs =>
    rcases s with ⟨o, s⟩ | s
    · exact .inl ⟨o, k _ _ _ s⟩
    · exact .inr s
def NoTab (a : Addr) (u : HO) : Prop := (∀ ps, u ≠ .tbl ps) ∧ ∀ q, u ≠ LamX.CodeO a q
theorem noTab_lst {vs : List V} : NoTab a (.lst vs) := ⟨fun _ e => (by cases e), fun _ e => (by unfold LamX.CodeO at e; cases e)⟩
theorem noTab_dK {vs : List (Key × V)} : NoTab a (.dK vs) := ⟨fun _ e => (by cases e), fun _ e => (by unfold LamX.CodeO at e; cases e)⟩
theorem tabs_upd {T : List (Addr × Str)} {u v : HO} (t : LamX.Tabs T H) (e : H a = some u) (n : NoTab a u) : LamX.Tabs T (upd H a v) := fun p hp => by
  obtain ⟨ps, h1, h2, h3⟩ := t p hp
  refine ⟨ps, by rw [upd_ne (fun z => n.1 ps (by rw [z, e] at h1; exact Option.some.inj h1))]; exact h1, h2, fun pos cv hc => ?_⟩
  obtain ⟨c, e1, e2⟩ := h3 pos cv hc
  exact ⟨c, e1, by rw [upd_ne (fun z => n.2 p.2 (by rw [← z]; rw [← z] at e; rw [e2] at e; exact (Option.some.inj e).symm))]; exact e2⟩
theorem only_upd {T : List (Addr × Str)} {v : HO} (t : ∀ b ps, H b = some (.tbl ps) → ∃ q, (b, q) ∈ T) (n : ∀ ps, v ≠ .tbl ps) : ∀ b ps, upd H a v b = some (.tbl ps) → ∃ q, (b, q) ∈ T := fun b ps e => by
  by_cases z : b = a
  · subst z
    rw [upd_same] at e
    exact absurd (Option.some.inj e) (n ps)
  · rw [upd_ne z] at e
    exact t b ps e
theorem Step.laid (hp : H p = none) : Step K io H io (upd H p o) := by
  have k : ∀ b u, H b = some u → upd H p o b = some u := fun b u e => by rw [upd_ne (ne_of_none e hp)]; exact e
  exact ⟨⟨[], by simp⟩, fun _ m n => absurd m n, fun b u e _ _ => k b u e, fun b ps e => ⟨ps, k b _ e⟩, fun _ _ s => sqT_keep (fun b o u e => k b _ e) s, fun _ _ s => fro_keep (fun b o u e => k b _ e) s⟩
theorem RepF.step {io' : List Addr} {H' : Hp} {fs : List (Str × D)} {vs : List (Str × V)} (s : Step K io H io' H') (r : RepF K io H fs vs) : RepF K io' H' fs vs := ⟨r.1, r.2.step s _ _⟩
theorem CellRep.step {io' : List Addr} {H' : Hp} {c : Cell} (s : Step K io H io' H') (e : H' a = H a) (r : CellRep K cl io H a c) : CellRep K cl io' H' a c := by
  cases c with
  | lst xs => obtain ⟨vs, h1, h2⟩ := r; exact ⟨vs, e.trans h1, h2.step s _ _⟩
  | map xs => obtain ⟨o, ys, h1, h2, h3⟩ := r; exact ⟨o, ys, e.trans h1, h2, h3.step s _ _⟩
  | dead => obtain ⟨o, h1, nt⟩ := r; exact ⟨o, e.trans h1, nt⟩
  | kst ks => exact e.trans r
  | dks ks xs => obtain ⟨vs, h1, h2⟩ := r; exact ⟨vs, e.trans h1, h2.step s _ _⟩
  | ins c fs => obtain ⟨dx, vs, h1, h2⟩ := r; exact ⟨dx, vs, e.trans h1, h2.step s⟩
theorem CellRep.some {c : Cell} (r : CellRep K cl io H a c) : ∃ o, H a = some o := by
  cases c with
  | lst xs => obtain ⟨vs, h1, h2⟩ := r; exact ⟨_, h1⟩
  | map xs => obtain ⟨o, ys, h1, _⟩ := r; exact ⟨_, h1⟩
  | dead => obtain ⟨o, h1, _⟩ := r; exact ⟨o, h1⟩
  | kst ks => exact ⟨_, r⟩
  | dks ks xs => obtain ⟨vs, h1, h2⟩ := r; exact ⟨_, h1⟩
  | ins c fs => obtain ⟨dx, vs, h1, h2⟩ := r; exact ⟨_, h1⟩
theorem HRel.tracked (r : HRel K cl io H h) (m : a ∈ io) : ∃ o, H a = some o := by
  obtain ⟨n, hn⟩ := List.mem_iff_getElem?.mp m
  obtain ⟨c, _, q⟩ := r.there hn
  exact q.some
theorem HRel.out (r : HRel K cl io H h) (n : H a = none) : a ∉ io := fun m => by
  obtain ⟨o, e⟩ := r.tracked m
  rw [n] at e; cases e
theorem HRel.same {H' : Hp} (r : HRel K cl io H h) (s : Step K io H io H') (e : ∀ a ∈ io, H' a = H a) (t : LamX.Tabs cl.T H') (ho : ∀ b ps, H' b = some (.tbl ps) → ∃ q, (b, q) ∈ cl.T) : HRel K cl io H' h :=
  ⟨r.len, r.nd, t, ho, fun n a c h1 h2 => (r.cell n a c h1 h2).step s (e a (List.mem_of_getElem? h1))⟩
theorem HRel.laid (r : HRel K cl io H h) (hp : H p = none) (ho : ∀ ps, o ≠ .tbl ps := by intro _ z; cases z) : HRel K cl io (upd H p o) h :=
  r.same (Step.laid hp) (fun a m => by
    obtain ⟨u, e⟩ := r.tracked m
    exact upd_ne (ne_of_none e hp)) (r.tab.ext fun b u e => by rw [upd_ne (ne_of_none e hp)]; exact e) (only_upd r.only ho)
theorem Step.cell {H0 : Hp} {io0 : List Addr} (s : Step K io0 H0 io H) (hn : a ∉ io) (h0 : H0 a = none) : Step K io0 H0 (io ++ [a]) H := by
  obtain ⟨l, e⟩ := s.pre
  refine ⟨⟨l ++ [a], by rw [e, List.append_assoc]⟩, fun b m n => ?_, s.keep, s.tbl, s.tup, s.fro⟩
  rcases List.mem_append.mp m with m | m
  · exact s.new b m n
  · rw [List.mem_singleton.mp m]; exact h0
theorem get_more {n : Nat} {b : Addr} (h : io[n]? = some b) : (io ++ [a])[n]? = some b := by
  rw [List.getElem?_append_left (List.getElem?_eq_some_iff.mp h).1]; exact h
theorem Rep.more {d : D} {v : V} (r : Rep K io H d v) : Rep K (io ++ [a]) H d v := r.mono (fun _ _ h => get_more h) (fun _ _ h => h) (fun _ _ h => h)
theorem RepL.more {xs : List D} {vs : List V} (r : RepL K io H xs vs) : RepL K (io ++ [a]) H xs vs := r.mono (fun _ _ h => get_more h) (fun _ _ h => h) (fun _ _ h => h)
theorem CellRep.more {c : Cell} {b : Addr} (r : CellRep K cl io H b c) : CellRep K cl (io ++ [a]) H b c := by
  cases c with
  | lst xs => obtain ⟨vs, h1, h2⟩ := r; exact ⟨vs, h1, h2.more⟩
  | map xs => obtain ⟨o, ys, h1, h2, h3⟩ := r; exact ⟨o, ys, h1, h2, h3.mono (fun _ _ h => get_more h) (fun _ _ h => h) fun _ _ h => h⟩
  | dead => exact r
  | kst ks => exact r
  | dks ks xs => obtain ⟨vs, h1, h2⟩ := r; exact ⟨vs, h1, h2.more⟩
  | ins c fs => obtain ⟨dx, vs, h1, h2⟩ := r; exact ⟨dx, vs, h1, h2.1, h2.2.more⟩
theorem HRel.cell1 {c : Cell} (r : HRel K cl io H h) (hn : a ∉ io) (q : CellRep K cl io H a c) : HRel K cl (io ++ [a]) H (h ++ [c]) := by
  refine ⟨by simp [r.len], ?_, r.tab, r.only, fun n b d h1 h2 => ?_⟩
  · rw [List.nodup_append]
    exact ⟨r.nd, by simp, fun x hx y hy e => hn (by rw [← List.mem_singleton.mp hy, ← e]; exact hx)⟩
  · by_cases hl : n < io.length
    · rw [List.getElem?_append_left hl] at h1
      rw [List.getElem?_append_left (by rw [← r.len]; exact hl)] at h2
      exact (r.cell n b d h1 h2).more
    · rw [List.getElem?_append_right (by omega)] at h1
      rw [List.getElem?_append_right (by rw [← r.len]; omega)] at h2
      have z : n - io.length = 0 := by
        cases e : n - io.length with
        | zero => rfl
        | succ k => rw [e] at h1; simp at h1
      rw [z] at h1
      rw [← r.len, z] at h2
      simp at h1 h2
      subst h1 h2
      exact q.more
theorem Step.write {vs ws : List V} (m : a ∈ io) (e : H a = some (.lst vs)) : Step K io H io (upd H a (.lst ws)) := by
  have k : ∀ b u, H b = some u → (∀ vs, u ≠ .lst vs) → upd H a (.lst ws) b = some u := fun b u q n => by
    rw [upd_ne (fun z => n vs (by rw [z, e] at q; exact (Option.some.inj q).symm))]; exact q
  refine ⟨⟨[], by simp⟩, fun _ m n => absurd m n, fun b u q n _ => ?_, fun b ps q => ⟨ps, k b _ q (by intro _ z; cases z)⟩, fun _ _ s => sqT_keep (fun b o u e => k b _ e (by intro _ z; cases z)) s, fun _ _ s => fro_keep (fun b o u e => k b _ e (by intro _ z; cases z)) s⟩
  rw [upd_ne (fun z : b = a => n (by rw [z]; exact m))]; exact q
theorem HRel.write {n : Nat} {vs ws : List V} {xs : List D} (r : HRel K cl io H h) (hn : io[n]? = some a) (e : H a = some (.lst vs)) (q : RepL K io H xs ws) : HRel K cl io (upd H a (.lst ws)) (h.set n (.lst xs)) := by
  have m := List.mem_of_getElem? hn
  have s : Step K io H io (upd H a (.lst ws)) := Step.write m e
  refine ⟨by simp [r.len], r.nd, tabs_upd r.tab e noTab_lst, only_upd r.only (by intro _ z; cases z), fun i b c h1 h2 => ?_⟩
  by_cases hi : n = i
  · subst hi
    rw [hn] at h1; cases h1
    have hl : n < h.length := by rw [← r.len]; exact (List.getElem?_eq_some_iff.mp hn).1
    rw [List.getElem?_set_self hl] at h2; cases h2
    exact ⟨ws, upd_same, q.step s _ _⟩
  · rw [List.getElem?_set_ne hi] at h2
    refine (r.cell i b c h1 h2).step s (upd_ne fun z => hi ?_)
    subst z
    have l1 := (List.getElem?_eq_some_iff.mp h1)
    have l2 := (List.getElem?_eq_some_iff.mp hn)
    obtain ⟨g1, e1⟩ := l1
    obtain ⟨g2, e2⟩ := l2
    exact (List.getElem_inj r.nd).mp (e2.trans e1.symm)
end

def travO {α β : Type} (f : α → Option β) : List α → Option (List β)
  | [] => some []
  | x :: xs => match f x, travO f xs with
    | some a, some b => some (a :: b)
    | _, _ => none
def toPy (h : PHeap) : Nat → D → Option PyData
  | 0, _ => none
  | n + 1, d => match d with
    | .non => some .none
    | .bl b => some (.bool b)
    | .int i => some (.int i)
    | .str x => some (.str x)
    | .tup xs => (travO (toPy h n) xs).map .tuple
    | .fro xs => (travO (toPy h n) xs).map .list
    | .lst _ => none
    | .dct _ _ => none
    | .map _ => none
    | .gl _ => none
    | .ref k => match h[k]? with
      | some (.lst xs) => (travO (toPy h n) xs).map .list
      | _ => none
section
variable {K : PySem.W.Frag} {cl : CL} {io : List Addr} {H : Hp} {h : PHeap}
theorem dpAll_of {n : Nat} (ih : ∀ (d : D) (v : V) (p : PyData), toPy h n d = some p → Rep K io H d v → Dp K H v p ∧ p.plain = true ∧ p.depth ≤ n) :
    ∀ (ds : List D) (vs : List V) (ps : List PyData), travO (toPy h n) ds = some ps → RepL K io H ds vs → DpAll K H vs ps ∧ PyData.plainAll ps = true ∧ PyData.depthAll ps ≤ n
  | [], vs, ps, e, r => by
    have r' : vs = [] := r
    subst r'
    have e' : some [] = some ps := e
    cases e'
    exact ⟨.nil, rfl, by simp [PyData.depthAll]⟩
  | d :: ds, vs, ps, e, r => by
    obtain ⟨v, t, rfl, r1, r2⟩ := r
    simp only [travO] at e
    cases e1 : toPy h n d with
    | none => rw [e1] at e; cases e
    | some p =>
      rw [e1] at e
      cases e2 : travO (toPy h n) ds with
      | none => rw [e2] at e; cases e
      | some qs =>
        rw [e2] at e
        have e' : some (p :: qs) = some ps := e
        cases e'
        obtain ⟨a1, a2, a3⟩ := ih d v p e1 r1
        obtain ⟨b1, b2, b3⟩ := dpAll_of ih ds t qs e2 r2
        refine ⟨.cons a1 b1, by simp only [PyData.plainAll, a2, b2, Bool.and_self], ?_⟩
        simp only [PyData.depthAll]
        omega
theorem dp_of (hr : HRel K cl io H h) : ∀ (n : Nat) (d : D) (v : V) (p : PyData), toPy h n d = some p → Rep K io H d v → Dp K H v p ∧ p.plain = true ∧ p.depth ≤ n
  | 0, _, _, _, e, _ => by simp [toPy] at e
  | n + 1, d, v, p, e, r => by
    have ih := dp_of hr n
    cases d with
    | non => cases r; simp only [toPy] at e; cases e; exact ⟨.non, rfl, by simp [PyData.depth]⟩
    | lst xs => exact False.elim r
    | dct xs ys => simp [toPy] at e
    | map xs => simp [toPy] at e
    | gl x => simp [toPy] at e
    | bl b => cases r; simp only [toPy] at e; cases e; exact ⟨.bl b, rfl, by simp [PyData.depth]⟩
    | int i => cases r; simp only [toPy] at e; cases e; exact ⟨.int i, rfl, by simp [PyData.depth]⟩
    | str x => cases r; simp only [toPy] at e; cases e; exact ⟨.str x, rfl, by simp [PyData.depth]⟩
    | tup xs =>
      obtain ⟨a, vs, rfl, hs, r⟩ := r
      simp only [toPy] at e
      cases e2 : travO (toPy h n) xs with
      | none => rw [e2] at e; cases e
      | some ps =>
        rw [e2] at e; cases e
        obtain ⟨b1, b2, b3⟩ := dpAll_of ih xs vs ps e2 r
        exact ⟨.tup hs.sq b1, by simpa only [PyData.plain] using b2, by simp only [PyData.depth]; omega⟩
    | fro xs =>
      obtain ⟨a, vs, rfl, hs, r⟩ := r
      simp only [toPy] at e
      cases e2 : travO (toPy h n) xs with
      | none => rw [e2] at e; cases e
      | some ps =>
        rw [e2] at e; cases e
        obtain ⟨b1, b2, b3⟩ := dpAll_of ih xs vs ps e2 r
        exact ⟨.lst hs.sq b1, by simpa only [PyData.plain] using b2, by simp only [PyData.depth]; omega⟩
    | ref k =>
      obtain ⟨a, ha, rfl⟩ := r
      simp only [toPy] at e
      cases e1 : h[k]? with
      | none => rw [e1] at e; cases e
      | some c =>
        rw [e1] at e
        cases c with
        | lst xs =>
          cases e2 : travO (toPy h n) xs with
          | none => simp only [e2] at e; cases e
          | some ps =>
            simp only [e2] at e
            cases e
            obtain ⟨vs, hv, r⟩ := hr.cell k a _ ha e1
            obtain ⟨b1, b2, b3⟩ := dpAll_of ih xs vs ps e2 r
            exact ⟨.lst (.of hv) b1, by simpa only [PyData.plain] using b2, by simp only [PyData.depth]; omega⟩
        | map _ => cases e
        | dead => cases e
        | kst _ => cases e
        | dks _ _ => cases e
        | ins _ _ => cases e
end

def Op2 (K : PySem.W.Frag) (cl : CL) (r : R2) (f : D → D → PHeap → Res D) : Prop :=
  ∀ (W : WX) io sg H h x y v u Q, HRel K cl io H h → Rep K io H x v → Rep K io H y u → postR (RRep K) K cl W io sg H (f x y h) Q → r v u H Q
def Op1 (K : PySem.W.Frag) (cl : CL) (r : V → Hp → VK → Prop) (f : D → PHeap → Res D) : Prop :=
  ∀ (W : WX) io sg H h x v Q, HRel K cl io H h → Rep K io H x v → postR (RRep K) K cl W io sg H (f x h) Q → r v H Q
section
variable {X : Cx} {cl : CL} {W : WX} {a b c : Expr} {ma mb mc : ME} {pos : Pos}

theorem sd_var (i : Nat) {x : Str} (hN : X.N[i]? = some x := by rfl) (hv : Vis X.env.scope x := by first | exact Or.inl rfl | exact Or.inr (Or.inl rfl) | exact Or.inr (Or.inr rfl)) (hd : (x == ("__debug__" : Str)) = false := by decide)
    (hcd : (x == ("__classdict__" : Str)) = false := by decide) : SE X cl W (.Name x pos) (mVar i) :=
  (pe_var hN hv hd hcd).imp fun sg H Q ⟨env, h, io, E, hr, p⟩ => by
    unfold mVar at p
    cases e : env[i]? with
    | none => rw [e] at p; exact p.elim
    | some o =>
      rw [e] at p
      cases o with
      | none => exact p.elim
      | some d =>
        obtain ⟨v, e1, r⟩ := E.get i d e
        exact ⟨v, e1, p.here hr r⟩
theorem sd_int {i : Int} {j} : SE X cl W (.Constant (.int i) j pos) (mC (.int i)) := pe_int.imp fun sg H Q ⟨env, h, io, E, hr, p⟩ => postR.here p hr rfl
theorem sd_bl {i : Bool} {j} : SE X cl W (.Constant (.bool i) j pos) (mC (.bl i)) := pe_bl.imp fun sg H Q ⟨env, h, io, E, hr, p⟩ => postR.here p hr rfl
theorem sd_non {j} : SE X cl W (.Constant .none j pos) (mC .non) := pe_non.imp fun sg H Q ⟨env, h, io, E, hr, p⟩ => postR.here p hr rfl
theorem sd_str {x : Str} {j} : SE X cl W (.Constant (.str x) j pos) (mC (.str x)) := pe_str.imp fun sg H Q ⟨env, h, io, E, hr, p⟩ => postR.here p hr rfl

theorem rd_bin {r : R2} {f : D → D → PHeap → Res D} (hf : Op2 X.K cl r f) {sg : L2.St} {H : Hp} {Q : VK} (q : rd (RRep X.K) X.K cl W (mBin f ma mb) sg H Q) : tOp r (rd (RRep X.K) X.K cl W ma) (rd (RRep X.K) X.K cl W mb) sg H Q := by
  obtain ⟨env, h, io, E, hr, p⟩ := q
  refine rd_mk E hr (p.bind fun x h1 v io1 H1 e1 s1 r1 q1 p1 => ?_)
  refine rd_mk (E.step s1) r1 (p1.bind fun y h2 u io2 H2 e2 s2 r2 q2 p2 => ?_)
  exact hf W io2 sg H2 h2 x y v u Q r2 (q1.step s2 _ _) q2 p2
theorem sd_op {op : Operator} {r : R2} {f : D → D → PHeap → Res D} (ho : OpR X (binaryOp op) r) (hf : Op2 X.K cl r f) (ha : SE X cl W a ma) (hb : SE X cl W b mb) : SE X cl W (.BinOp a op b pos) (mBin f ma mb) :=
  (pe_op ho ha hb).imp fun sg H Q q => rd_bin hf q
theorem sd_cmp {op : CmpOp} {r : R2} {f : D → D → PHeap → Res D} (ho : OpR X (compareOp op) r) (hf : Op2 X.K cl r f) (ha : SE X cl W a ma) (hb : SE X cl W b mb) (hm : behindInMarks op b = false) : SE X cl W (.Compare a [op] [b] pos) (mBin f ma mb) :=
  (pe_cmpR ho ha hb hm).imp fun sg H Q q => rd_bin hf q
theorem sd_un {op : UnaryOp} {r : V → Hp → VK → Prop} {f : D → PHeap → Res D} (ho : UnR X (unaryOp op) r) (hf : Op1 X.K cl r f) (ha : SE X cl W a ma) : SE X cl W (.UnaryOp op a pos) (mUn f ma) :=
  (pe_un ho ha).imp fun sg H Q ⟨env, h, io, E, hr, p⟩ => rd_mk E hr (p.bind fun x h1 v io1 H1 e1 s1 r1 q1 p1 => hf W io1 sg H1 h1 x v Q r1 q1 p1)
theorem postR.tb {io : List Addr} {sg : L2.St} {H : Hp} {r : Res D} {Q : Bool → Hp → Prop} (p : postR RBool X.K cl W io sg H (r.bind fun d h1 => match d with | .bl b => .ok b h1 | _ => .stuck) Q) :
    postR (RRep X.K) X.K cl W io sg H r fun x H' => ∃ k, x = .bl k ∧ Q k H' := by
  cases r with
  | ok d h =>
    cases d with
    | bl b => exact fun v io1 H1 s r q => ⟨b, q, p b io1 H1 s r rfl⟩
    | _ => exact p.elim
  | exc e h => exact p
  | stuck => exact p
theorem st_cmp {op : CmpOp} {r : R2} {f : D → D → PHeap → Res D} (ho : OpR X (compareOp op) r) (hf : Op2 X.K cl r f) (ha : SE X cl W a ma) (hb : SE X cl W b mb) (hm : behindInMarks op b = false) : ST X cl W (.Compare a [op] [b] pos) (mTB (mBin f ma mb)) :=
  (pt_cmpR ho ha hb hm).imp fun sg H Q ⟨env, h, io, E, hr, p⟩ => rd_bin (W := W) hf (rd_mk E hr (postR.tb p))
theorem rd_chain {r r' : R2} {f g : D → D → PHeap → Res D} (hf : Op2 X.K cl r f) (hg : Op2 X.K cl r' g) {sg : L2.St} {H : Hp} {Q : VK} (q : rd (RRep X.K) X.K cl W (mChain f g ma mb mc) sg H Q) :
    tChain r r' (rd (RRep X.K) X.K cl W ma) (rd (RRep X.K) X.K cl W mb) (rd (RRep X.K) X.K cl W mc) sg H Q := by
  obtain ⟨env, h, io, E, hr, p⟩ := q
  refine rd_mk E hr (p.bind fun x h1 v io1 H1 e1 s1 r1 q1 p1 => ?_)
  refine rd_mk (E.step s1) r1 (p1.bind fun y h2 u io2 H2 e2 s2 r2 q2 p2 => ?_)
  refine hf W io2 sg H2 h2 x y v u _ r2 (q1.step s2 _ _) q2 (p2.bind fun z h3 z' io3 H3 e3 s3 r3 q3 p3 => ?_)
  cases z with
  | bl k =>
    refine ⟨k, q3, ?_⟩
    cases k with
    | true =>
      refine iteT (rd_mk (((E.step s1).step s2).step s3) r3 (p3.bind fun w' h4 u' io4 H4 e4 s4 r4 q4 p4 => ?_))
      exact hg W io4 sg H4 h4 y w' u u' Q r4 ((q2.step s3 _ _).step s4 _ _) q4 p4
    | false => exact iteF (p3.here r3 rfl)
  | _ => exact p3.elim
theorem sd_chain {op op' : CmpOp} {r r' : R2} {f g : D → D → PHeap → Res D} (ho : OpR X (compareOp op) r) (ho' : OpR X (compareOp op') r') (hf : Op2 X.K cl r f) (hg : Op2 X.K cl r' g) (ha : SE X cl W a ma) (hb : SE X cl W b mb) (hc : SE X cl W c mc)
    (hm : lastMarks [op, op'] [b, c] = false := by with_unfolding_all rfl) : SE X cl W (.Compare a [op, op'] [b, c] pos) (mChain f g ma mb mc) :=
  (pe_chain ho ho' ha hb hc hm).imp fun sg H Q q => rd_chain hf hg q
theorem st_chain {op op' : CmpOp} {r r' : R2} {f g : D → D → PHeap → Res D} (ho : OpR X (compareOp op) r) (ho' : OpR X (compareOp op') r') (hf : Op2 X.K cl r f) (hg : Op2 X.K cl r' g) (ha : SE X cl W a ma) (hb : SE X cl W b mb) (hc : SE X cl W c mc)
    (hm : lastMarks [op, op'] [b, c] = false := by with_unfolding_all rfl) : ST X cl W (.Compare a [op, op'] [b, c] pos) (mTB (mChain f g ma mb mc)) :=
  (pt_chain ho ho' ha hb hc hm).imp fun sg H Q ⟨env, h, io, E, hr, p⟩ => rd_chain (W := W) hf hg (rd_mk E hr (postR.tb p))

theorem tru_of {io : List Addr} {H : Hp} {h : PHeap} {d : D} {v : V} {k : Bool} {h' : PHeap} (hr : HRel X.K cl io H h) (r : Rep X.K io H d v) (e : truthD d h = .ok k h') : h' = h ∧ TruV X.K v H k := by
  have hz : sizeLine = 16777216 := sizeLine_eq
  cases d with
  | non => cases r; cases e; exact ⟨rfl, rfl⟩
  | lst xs => exact False.elim r
  | dct xs ys => cases e
  | map xs => cases e
  | gl x => cases e
  | bl b => cases r; cases e; exact ⟨rfl, rfl⟩
  | int i => cases r; cases e; exact ⟨rfl, rfl⟩
  | str x =>
    cases r
    simp only [truthD] at e
    split at e
    · cases e; exact ⟨rfl, by omega, rfl⟩
    · cases e
  | tup xs =>
    obtain ⟨a, vs, rfl, hs, r⟩ := r
    cases e
    exact ⟨rfl, .inr (.inl ⟨vs, hs.sq, r.nil_iff⟩)⟩
  | fro xs =>
    obtain ⟨a, vs, rfl, hs, r⟩ := r
    cases e
    exact ⟨rfl, .inl ⟨vs, hs.sq, r.nil_iff⟩⟩
  | ref n =>
    obtain ⟨a, ha, rfl⟩ := r
    simp only [truthD] at e
    split at e
    · rename_i xs q
      cases e
      obtain ⟨vs, hv, r⟩ := hr.cell n a _ ha q
      exact ⟨rfl, .inl ⟨vs, .of hv, r.nil_iff⟩⟩
    · cases e
theorem truthD_cases (d : D) (h : PHeap) : (∃ k, truthD d h = .ok k h) ∨ truthD d h = .stuck := by
  unfold truthD
  split <;> (try split) <;> first | exact .inl ⟨_, rfl⟩ | exact .inr rfl
theorem st_truth (ha : SE X cl W a ma) (he : ∀ whole, isTrue a X.env whole = (do let v ← whole; standAt a.pos; holding [v] (truthy v)) := by intro _; rfl) : ST X cl W a (mTst ma truthD) :=
  (pt_truth ha he).imp fun sg H Q ⟨env, h, io, E, hr, p⟩ => rd_mk E hr (p.bind fun d h1 v io1 H1 e1 s1 r1 q1 p1 => by
    rcases truthD_cases d h1 with ⟨k, e⟩ | e
    · rw [e] at p1
      exact ⟨k, (tru_of r1 q1 e).2, p1.here r1 rfl⟩
    · rw [e] at p1; exact p1.elim)
theorem st_not {m : MT} (ha : ST X cl W a m) : ST X cl W (.UnaryOp .Not a pos) (tNotM m) :=
  (pt_not ha).imp fun sg H Q ⟨env, h, io, E, hr, p⟩ => rd_mk E hr (p.bind fun k h1 b io1 H1 e1 s1 r1 q1 p1 => by
    cases q1; exact p1.here r1 rfl)
variable {rest : List Expr} {ta tb : MT}
theorem sw_and1 (ha : ST X cl W a ta) : SW X cl W (.BoolOp .And [a] pos) ta := pw_and1 ha
theorem sw_or1 (ha : ST X cl W a ta) : SW X cl W (.BoolOp .Or [a] pos) ta := pw_or1 ha
theorem sw_and (ha : ST X cl W a ta) (hb : SW X cl W (.BoolOp .And (b :: rest) pos) tb) : SW X cl W (.BoolOp .And (a :: b :: rest) pos) (tAndM ta tb) :=
  (pw_and ha hb).imp fun sg H Q ⟨env, h, io, E, hr, p⟩ => rd_mk E hr (p.bind fun k h1 b io1 H1 e1 s1 r1 q1 p1 => by
    cases q1
    cases k with
    | true => exact iteT (rd_mk (E.step s1) r1 p1)
    | false => exact iteF (p1.here r1 rfl))
theorem sw_or (ha : ST X cl W a ta) (hb : SW X cl W (.BoolOp .Or (b :: rest) pos) tb) : SW X cl W (.BoolOp .Or (a :: b :: rest) pos) (tOrM ta tb) :=
  (pw_or ha hb).imp fun sg H Q ⟨env, h, io, E, hr, p⟩ => rd_mk E hr (p.bind fun k h1 b io1 H1 e1 s1 r1 q1 p1 => by
    cases q1
    cases k with
    | true => exact iteT (p1.here r1 rfl)
    | false => exact iteF (rd_mk (E.step s1) r1 p1))
theorem st_of {e : Expr} (h : SW X cl W e ta) : ST X cl W e ta := h.pt
theorem sd_one {op} (ha : SE X cl W a ma) : SE X cl W (.BoolOp op [a] pos) ma := pe_one ha
theorem sd_and (ha : SE X cl W a ma) (hb : SE X cl W (.BoolOp .And (b :: rest) pos) mb) : SE X cl W (.BoolOp .And (a :: b :: rest) pos) (mAnd ma mb) :=
  (pe_andT ha hb).imp fun sg H Q ⟨env, h, io, E, hr, p⟩ => rd_mk E hr (p.bind fun d h1 v io1 H1 e1 s1 r1 q1 p1 => by
    rcases truthD_cases d h1 with ⟨k, e⟩ | e
    · rw [e] at p1
      refine ⟨k, (tru_of r1 q1 e).2, ?_⟩
      cases k with
      | true => exact iteT (rd_mk (E.step s1) r1 p1)
      | false => exact iteF (p1.here r1 q1)
    · rw [e] at p1; exact p1.elim)
theorem sd_not (ha : SE X cl W a ma) : SE X cl W (.UnaryOp .Not a pos) (mNot ma) :=
  (pe_notT ha).imp fun sg H Q ⟨env, h, io, E, hr, p⟩ => rd_mk E hr (p.bind fun d h1 v io1 H1 e1 s1 r1 q1 p1 => by
    rcases truthD_cases d h1 with ⟨k, e⟩ | e
    · rw [e] at p1
      exact ⟨k, (tru_of r1 q1 e).2, p1.here r1 rfl⟩
    · rw [e] at p1; exact p1.elim)
theorem sd_ifExp {c : Expr} {mt : MT} (hc : ST X cl W c mt) (ha : SE X cl W a ma) (hb : SE X cl W b mb) : SE X cl W (.IfExp c a b pos) (mIf mt ma mb) :=
  (pe_ifExp hc ha hb).imp fun sg H Q ⟨env, h, io, E, hr, p⟩ => rd_mk E hr (p.bind fun k h1 b io1 H1 e1 s1 r1 q1 p1 => by
    cases q1
    cases k with
    | true => exact iteT (rd_mk (E.step s1) r1 p1)
    | false => exact iteF (rd_mk (E.step s1) r1 p1))

variable {es : List Expr} {mas : MA}
theorem sa_nil : SA X cl W [] mNil := pa_nil.imp fun sg H Q ⟨env, h, io, E, hr, p⟩ => postR.here p hr rfl
theorem sa_cons (ha : SE X cl W a ma) (hr : SA X cl W es mas) (hs : starEach (a :: es) X.env = (false, eval a X.env) :: starEach es X.env := by rfl) : SA X cl W (a :: es) (mCons ma mas) :=
  (pa_cons ha hr hs).imp fun sg H Q ⟨env, h, io, E, hr, p⟩ => rd_mk E hr (p.bind fun d h1 v io1 H1 e1 s1 r1 q1 p1 =>
    rd_mk (E.step s1) r1 (p1.bind fun ds h2 vs io2 H2 e2 s2 r2 q2 p2 => p2.here r2 ⟨v, vs, rfl, q1.step s2 _ _, q2⟩))
theorem sd_tup {x1} (ha : SA X cl W es mas) : SE X cl W (.Tuple es x1 pos) (mTup mas) :=
  (pe_tupA ha).imp fun sg H Q ⟨env, h, io, E, hr, p⟩ => rd_mk E hr (p.bind fun ds h1 vs io1 H1 e1 s1 r1 q1 p1 => by
    have hz : sizeLine = 16777216 := sizeLine_eq
    have hl := q1.length
    split at p1
    · refine ⟨by omega, fun a o ha hd => p1 _ io1 _ (Step.laid ha) (r1.laid ha) ⟨a, vs, rfl, .of upd_same hd, q1.step (Step.laid ha) _ _⟩⟩
    · exact p1.elim)
def mDisp (a : MA) : MA := fun env h => (a env h).bind fun xs h1 => if xs.length ≤ 16777216 then .ok xs h1 else .stuck
theorem sn_lst (ha : SA X cl W es mas) : SN X cl W (.List es pos) (mDisp mas) :=
  (pe_lst ha).imp fun sg H Q ⟨env, h, io, E, hr, p⟩ => rd_mk E hr (p.bind fun ds h1 vs io1 H1 e1 s1 r1 q1 p1 => by
    have hz : sizeLine = 16777216 := sizeLine_eq
    have hl := q1.length
    split at p1
    · exact ⟨by omega, fun a ha => p1 _ io1 _ (Step.laid ha) (r1.laid ha) ⟨a, vs, rfl, ha, r1.out ha, upd_same, q1.step (Step.laid ha) _ _⟩⟩
    · exact p1.elim)
end
end Gb

namespace Gb
open PySem L2

inductive LV where
  | val (d : D) | new (xs : List D)
abbrev MO := PEnv → PHeap → Res LV
def mVal (a : ME) : MO := fun env h => (a env h).bind fun d h1 => .ok (.val d) h1
def mNL (a : MA) : MO := fun env h => (a env h).bind fun xs h1 => .ok (.new xs) h1
def LV.items (h : PHeap) : LV → Option (List D)
  | .new xs => some xs
  | .val (.fro xs) => some xs
  | .val (.ref n) => match h[n]? with
    | some (.lst xs) => some xs
    | _ => none
  | _ => none
def LV.seq (h : PHeap) : LV → Option (List D)
  | .val (.tup xs) => some xs
  | v => v.items h
def LV.py (h : PHeap) : LV → Option PyData
  | .val d => toPy h 60 d
  | .new xs => (travO (toPy h 60) xs).map .list

section
variable {K : PySem.W.Frag} {cl : CL} {io io' : List Addr} {H H' : Hp} {h : PHeap}
def OV (K : PySem.W.Frag) (io : List Addr) (H : Hp) : LV → V → Prop
  | .val d, v => Rep K io H d v
  | .new xs, v => ∃ a vs, v = .ref a ∧ a ∉ io ∧ H a = some (.lst vs) ∧ RepL K io H xs vs
def RLV (K : PySem.W.Frag) : Hp → List Addr → Hp → LV → V → Prop := fun H0 io H lv v => match lv with
  | .val d => Rep K io H d v
  | .new xs => RNew K H0 io H xs v
instance : Back K (RLV K) := ⟨fun {io H io1 H1 io' H' lv v} s hl q => by
  cases lv with
  | val d => exact q
  | new xs => exact Back.back (K := K) (R := RNew K) s hl q⟩
theorem RLV.ov {H0 : Hp} {lv : LV} {v : V} (r : RLV K H0 io H lv v) : OV K io H lv v := by
  cases lv with
  | val d => exact r
  | new xs => obtain ⟨a, vs, e, h0, h1, h2, h3⟩ := r; exact ⟨a, vs, e, h1, h2, h3⟩
theorem OV.step {lv : LV} {v : V} (r : OV K io H lv v) (s : Step K io H io' H') : OV K io' H' lv v := by
  cases lv with
  | val d => exact Rep.step s d v r
  | new xs => obtain ⟨a, vs, e, h1, h2, h3⟩ := r; exact ⟨a, vs, e, s.out h2 h1, s.keep _ _ h2 h1 (by intro _ z; cases z), h3.step s _ _⟩
theorem OV.items {lv : LV} {v : V} {xs : List D} (hr : HRel K cl io H h) (r : OV K io H lv v) (e : lv.items h = some xs) : ∃ a vs, v = .ref a ∧ SqL K H a vs ∧ RepL K io H xs vs := by
  cases lv with
  | new ys => cases e; obtain ⟨a, vs, e, h1, h2, h3⟩ := r; exact ⟨a, vs, e, .of h2, h3⟩
  | val d =>
    cases d with
    | fro ys => cases e; obtain ⟨a, vs, e, h1, h2⟩ := r; exact ⟨a, vs, e, h1.sq, h2⟩
    | ref n =>
      obtain ⟨a, ha, rfl⟩ := r
      simp only [LV.items] at e
      split at e
      · rename_i ys q
        cases e
        obtain ⟨vs, hv, r⟩ := hr.cell n a _ ha q
        exact ⟨a, vs, rfl, .of hv, r⟩
      · cases e
    | _ => simp [LV.items] at e
theorem OV.seq {lv : LV} {v : V} {xs : List D} (hr : HRel K cl io H h) (r : OV K io H lv v) (e : lv.seq h = some xs) : ∃ a vs, v = .ref a ∧ (SqL K H a vs ∨ TupA K H a vs) ∧ RepL K io H xs vs := by
  by_cases q : ∃ ys, lv = .val (.tup ys)
  · obtain ⟨ys, rfl⟩ := q
    cases e
    obtain ⟨a, vs, e, h1, h2⟩ := r
    exact ⟨a, vs, e, .inr h1, h2⟩
  · have e' : lv.items h = some xs := by
      cases lv with
      | new ys => exact e
      | val d => cases d with
        | tup ys => exact absurd ⟨ys, rfl⟩ q
        | _ => exact e
    obtain ⟨a, vs, e, h1, h2⟩ := r.items hr e'
    exact ⟨a, vs, e, .inl h1, h2⟩
theorem OV.py {lv : LV} {v : V} {p : PyData} (hr : HRel K cl io H h) (r : OV K io H lv v) (e : lv.py h = some p) : Dp K H v p ∧ p.plain = true ∧ p.depth ≤ 61 := by
  cases lv with
  | val d =>
    obtain ⟨a, b, c⟩ := dp_of hr 60 d v p e r
    exact ⟨a, b, by omega⟩
  | new xs =>
    obtain ⟨a, vs, rfl, h1, h2, h3⟩ := r
    simp only [LV.py] at e
    cases e2 : travO (toPy h 60) xs with
    | none => rw [e2] at e; cases e
    | some ps =>
      rw [e2] at e; cases e
      obtain ⟨b1, b2, b3⟩ := dpAll_of (dp_of hr 60) xs vs ps e2 h3
      exact ⟨.lst (.of h2) b1, by simpa only [PyData.plain] using b2, by simp only [PyData.depth]; omega⟩
end
abbrev SO (X : Cx) (cl : CL) (W : WX) (e : Expr) (m : MO) : Prop := PE X e (rd (RLV X.K) X.K cl W m)

section
variable {X : Cx} {cl : CL} {W : WX} {a b c e : Expr} {ma mb mc : ME} {ml : MA} {mo mp : MO} {pos : Pos}
theorem so_val (ha : SE X cl W a ma) : SO X cl W a (mVal ma) :=
  PE.imp ha fun sg H Q ⟨env, h, io, E, hr, p⟩ => rd_mk E hr (p.bind fun d h1 v io1 H1 e1 s1 r1 q1 p1 => p1.here r1 q1)
theorem so_new (ha : SN X cl W a ml) : SO X cl W a (mNL ml) :=
  PE.imp ha fun sg H Q ⟨env, h, io, E, hr, p⟩ => rd_mk E hr (by
    unfold mNL at p
    cases e : ml env h with
    | ok ds h1 =>
      rw [e] at p
      rintro v io1 H1 s1 r1 q
      exact p v io1 H1 s1 r1 q
    | exc x h1 => rw [e] at p; exact p
    | stuck => rw [e] at p; exact p)

def Con1 {α β : Type} (R : Hp → List Addr → Hp → α → V → Prop) (K : PySem.W.Frag) (cl : CL) (r : List V → Hp → VK → Prop) (f : LV → PHeap → Res α) : Prop :=
  ∀ (W : WX) io sg H h x v Q, HRel K cl io H h → OV K io H x v → postR R K cl W io sg H (f x h) Q → r [v] H Q
def Con2 {α : Type} (R : Hp → List Addr → Hp → α → V → Prop) (K : PySem.W.Frag) (cl : CL) (r : List V → Hp → VK → Prop) (f : LV → LV → PHeap → Res α) : Prop :=
  ∀ (W : WX) io sg H h x y v u Q, HRel K cl io H h → OV K io H x v → OV K io H y u → postR R K cl W io sg H (f x y h) Q → r [v, u] H Q
def m1 {α : Type} (f : LV → PHeap → Res α) (a : MO) : PEnv → PHeap → Res α := fun env h => (a env h).bind f
def m2 {α : Type} (f : LV → LV → PHeap → Res α) (a b : MO) : PEnv → PHeap → Res α := fun env h => (a env h).bind fun x h1 => (b env h1).bind fun y h2 => f x y h2
variable {α : Type} {R : Hp → List Addr → Hp → α → V → Prop} {r : List V → Hp → VK → Prop} {f : LV → PHeap → Res α} {g : LV → LV → PHeap → Res α} {x : Str} {p : Pos} {bid T : String}
theorem rd_m1 [Back X.K R] (hf : Con1 (β := V) R X.K cl r f) {sg : L2.St} {H : Hp} {Q : VK} (q : rd R X.K cl W (m1 f mo) sg H Q) : tCB r (tCons (rd (RLV X.K) X.K cl W mo) tNil) sg H Q := by
  obtain ⟨env, h, io, E, hr, p⟩ := q
  exact rd_mk E hr (p.bind fun d h1 v io1 H1 e1 s1 r1 q1 p1 => hf W io1 sg H1 h1 d v Q r1 q1.ov p1)
theorem rd_m2 [Back X.K R] (hf : Con2 R X.K cl r g) {sg : L2.St} {H : Hp} {Q : VK} (q : rd R X.K cl W (m2 g mo mp) sg H Q) : tCB r (tCons (rd (RLV X.K) X.K cl W mo) (tCons (rd (RLV X.K) X.K cl W mp) tNil)) sg H Q := by
  obtain ⟨env, h, io, E, hr, p⟩ := q
  exact rd_mk E hr (p.bind fun d h1 v io1 H1 e1 s1 r1 q1 p1 => rd_mk (E.step s1) r1 (p1.bind fun d2 h2 u io2 H2 e2 s2 r2 q2 p2 =>
    hf W io2 sg H2 h2 d d2 v u Q r2 (q1.ov.step s2) q2.ov p2))
theorem sc_b1 [Back X.K R] (hc : CallR X (.builtin bid) r) (hf : Con1 (β := V) R X.K cl r f) (he : SO X cl W e mo) (hg : Gl X x) (hm : X.mg x = none) (hv : bootBuiltins x = some (.builtin bid)) (hn : x ≠ "__name__" := by decide) (hdb : (x == ("__debug__" : Str)) = false := by decide)
    (hs : starEach [e] X.env = (false, eval e X.env) :: starEach [] X.env := by rfl) (hpl : (backTo pos (starEach [] X.env)).any (·.1) = false := by rfl) : PE X (.Call (.Name x p) [e] [] pos) (rd R X.K cl W (m1 f mo)) :=
  (pe_callB hc hg hm hv (pa_cons he pa_nil hs) hn hdb hs hpl).imp fun sg H Q q => rd_m1 hf q
theorem sc_t1 [Back X.K R] (hc : CallR X (.type T) r) (hf : Con1 (β := V) R X.K cl r f) (he : SO X cl W e mo) (hg : Gl X x) (hm : X.mg x = none) (hv : bootBuiltins x = some (.type T)) (hn : x ≠ "__name__" := by decide) (hdb : (x == ("__debug__" : Str)) = false := by decide)
    (hs : starEach [e] X.env = (false, eval e X.env) :: starEach [] X.env := by rfl) (hpl : (backTo pos (starEach [] X.env)).any (·.1) = false := by rfl) : PE X (.Call (.Name x p) [e] [] pos) (rd R X.K cl W (m1 f mo)) :=
  (pe_callTy hc hg hm hv (pa_cons he pa_nil hs) hn hdb hs hpl).imp fun sg H Q q => rd_m1 hf q
theorem sc_b2 [Back X.K R] (hc : CallR X (.builtin bid) r) (hf : Con2 R X.K cl r g) (ha : SO X cl W a mo) (hb : SO X cl W b mp) (hg : Gl X x) (hm : X.mg x = none) (hv : bootBuiltins x = some (.builtin bid)) (hn : x ≠ "__name__" := by decide) (hdb : (x == ("__debug__" : Str)) = false := by decide)
    (hs : starEach [a, b] X.env = (false, eval a X.env) :: starEach [b] X.env := by rfl) (hs2 : starEach [b] X.env = (false, eval b X.env) :: starEach [] X.env := by rfl) (hpl : (backTo pos (starEach [b] X.env)).any (·.1) = false := by rfl) : PE X (.Call (.Name x p) [a, b] [] pos) (rd R X.K cl W (m2 g mo mp)) :=
  (pe_callB hc hg hm hv (pa_cons ha (pa_cons hb pa_nil hs2) hs) hn hdb hs hpl).imp fun sg H Q q => rd_m2 hf q

def fLen : LV → PHeap → Res D := fun x h => match x with
  | .val (.str z) => if z.length ≤ 16777216 then .ok (.int z.length) h else .stuck
  | x => match x.seq h with
    | some xs => .ok (.int xs.length) h
    | none => .stuck
theorem con_len : Con1 (β := V) (RRep X.K) X.K cl (fun xs H Q => ∃ x n, xs = [x] ∧ LenV X.K x H n ∧ Q (.int n) H) fLen := by
  intro W io sg H h x v Q hr r p
  have hz : sizeLine = 16777216 := sizeLine_eq
  unfold fLen at p
  split at p
  · cases r
    split at p
    · exact ⟨_, _, rfl, ⟨by omega, rfl⟩, p.here hr rfl⟩
    · exact p.elim
  · split at p
    · rename_i xs e
      obtain ⟨a, vs, rfl, h1, h2⟩ := r.seq hr e
      refine ⟨_, vs.length, rfl, ?_, by rw [← h2.length]; exact p.here hr rfl⟩
      rcases h1 with h1 | h1
      · exact .inl ⟨vs, h1, rfl⟩
      · exact .inr ⟨vs, h1.sq, rfl⟩
    · exact p.elim
theorem sd_len (he : SO X cl W e mo) (hm : X.mg "len" = none) (hg : Gl X "len" := by rfl) (hs : starEach [e] X.env = (false, eval e X.env) :: starEach [] X.env := by rfl) : SE X cl W (.Call (.Name "len" p) [e] [] pos) (m1 fLen mo) :=
  sc_b1 call_len con_len he hg hm PySem.boot_len (by decide) (by decide) hs
def fTuple : LV → PHeap → Res D := fun x h => match x.seq h with
  | some xs => .ok (.tup xs) h
  | none => .stuck
theorem con_tuple : Con1 (β := V) (RRep X.K) X.K cl (fun xs H Q => ∃ p ys, xs = [.ref p] ∧ ((SqL X.K H p ys ∧ NewT H ys Q) ∨ (TupA X.K H p ys ∧ Q (.ref p) H))) fTuple := by
  intro W io sg H h x v Q hr r p
  unfold fTuple at p
  split at p
  · rename_i xs e
    obtain ⟨a, vs, rfl, h1, h2⟩ := r.seq hr e
    refine ⟨a, vs, rfl, ?_⟩
    rcases h1 with h1 | h1
    · exact .inl ⟨h1, fun l o hl hd => p _ io _ (Step.laid hl) (hr.laid hl) ⟨l, vs, rfl, .of upd_same hd, h2.step (Step.laid hl) _ _⟩⟩
    · exact .inr ⟨h1, p.here hr ⟨a, vs, rfl, h1, h2⟩⟩
  · exact p.elim
theorem sd_tuple (he : SO X cl W e mo) (hm : X.mg "tuple" = none) (hg : Gl X "tuple" := by rfl) (hs : starEach [e] X.env = (false, eval e X.env) :: starEach [] X.env := by rfl) : SE X cl W (.Call (.Name "tuple" p) [e] [] pos) (m1 fTuple mo) :=
  sc_t1 call_tupleA con_tuple he hg hm (by decide +kernel) (by decide) (by decide) hs
def fList : LV → PHeap → Res (List D) := fun x h => match x.seq h with
  | some xs => .ok xs h
  | none => .stuck
theorem con_list : Con1 (β := V) (RNew X.K) X.K cl (fun xs H Q => ∃ p ys, xs = [.ref p] ∧ (SqL X.K H p ys ∨ SqT X.K H p ys) ∧ ∀ l, H l = none → Q (.ref l) (upd H l (.lst ys))) fList := by
  intro W io sg H h x v Q hr r p
  unfold fList at p
  split at p
  · rename_i xs e
    obtain ⟨a, vs, rfl, h1, h2⟩ := r.seq hr e
    exact ⟨a, vs, rfl, h1.imp id TupA.sq, fun l hl => p _ io _ (Step.laid hl) (hr.laid hl) ⟨l, vs, rfl, hl, hr.out hl, upd_same, h2.step (Step.laid hl) _ _⟩⟩
  · exact p.elim
theorem sn_list (he : SO X cl W e mo) (hm : X.mg "list" = none) (hg : Gl X "list" := by rfl) (hs : starEach [e] X.env = (false, eval e X.env) :: starEach [] X.env := by rfl) : SN X cl W (.Call (.Name "list" p) [e] [] pos) (m1 fList mo) :=
  sc_t1 call_list_of con_list he hg hm (by decide +kernel) (by decide) (by decide) hs
def bools : List D → Option (List Bool)
  | [] => some []
  | .bl b :: r => (bools r).map (b :: ·)
  | _ => none
def fAll : LV → PHeap → Res D := fun x h => match x.items h with
  | some xs => match bools xs with
    | some bs => .ok (.bl (bs.all id)) h
    | none => .stuck
  | none => .stuck
theorem bools_rep {K : PySem.W.Frag} {io : List Addr} {H : Hp} : ∀ {xs : List D} {vs : List V} {bs : List Bool}, bools xs = some bs → RepL K io H xs vs → vs = bs.map V.bl
  | [], _, _, e, r => by cases e; exact r
  | x :: xs, _, bs, e, ⟨v, t, e1, r1, r2⟩ => by
    subst e1
    cases x with
    | bl b =>
      simp only [bools] at e
      cases q : bools xs with
      | none => rw [q] at e; cases e
      | some cs =>
        rw [q] at e
        cases e
        cases r1
        rw [bools_rep q r2]
        rfl
    | _ => simp [bools] at e
theorem con_all : Con1 (β := V) (RRep X.K) X.K cl (rAll X.K) fAll := by
  intro W io sg H h x v Q hr r p
  unfold fAll at p
  split at p
  · split at p
    · rename_i xs e _ bs e2
      obtain ⟨a, vs, rfl, h1, h2⟩ := r.items hr e
      have := bools_rep e2 h2
      subst this
      exact ⟨a, bs, rfl, h1, p.here hr rfl⟩
    · exact p.elim
  · exact p.elim
theorem sd_all (he : SO X cl W e mo) (hm : X.mg "all" = none) (hc : X.calm = true := by rfl) (hg : Gl X "all" := by rfl) (hs : starEach [e] X.env = (false, eval e X.env) :: starEach [] X.env := by rfl) : SE X cl W (.Call (.Name "all" p) [e] [] pos) (m1 fAll mo) :=
  sc_b1 (cr_all hc) con_all he hg hm (by decide +kernel) (by decide) (by decide) hs
def fInt : LV → PHeap → Res D := fun x h => match x with
  | .val (.int i) => .ok (.int i) h
  | .val (.bl b) => .ok (.int (if b then 1 else 0)) h
  | _ => .stuck
def fMax2 : LV → LV → PHeap → Res D := fun x y h => match x, y with
  | .val (.int i), .val (.int j) => .ok (.int (if j > i then j else i)) h
  | _, _ => .stuck
def fMin2 : LV → LV → PHeap → Res D := fun x y h => match x, y with
  | .val (.int i), .val (.int j) => .ok (.int (if j < i then j else i)) h
  | _, _ => .stuck
theorem con_int : Con1 (β := V) (RRep X.K) X.K cl (fun xs H Q => (∃ i, xs = [.int i] ∧ Q (.int i) H) ∨ ∃ k, xs = [.bl k] ∧ Q (.int (if k then 1 else 0)) H) fInt := by
  intro W io sg H h x v Q hr r p
  unfold fInt at p
  split at p
  · cases r; exact .inl ⟨_, rfl, p.here hr rfl⟩
  · cases r; exact .inr ⟨_, rfl, p.here hr rfl⟩
  · exact p.elim
theorem con_max2 : Con2 (RRep X.K) X.K cl (fun xs H Q => ∃ i j, xs = [.int i, .int j] ∧ Q (.int (if j > i then j else i)) H) fMax2 := by
  intro W io sg H h x y v u Q hr r q p
  unfold fMax2 at p
  split at p
  · cases r; cases q; exact ⟨_, _, rfl, p.here hr rfl⟩
  · exact p.elim
theorem con_min2 : Con2 (RRep X.K) X.K cl (fun xs H Q => ∃ i j, xs = [.int i, .int j] ∧ Q (.int (if j < i then j else i)) H) fMin2 := by
  intro W io sg H h x y v u Q hr r q p
  unfold fMin2 at p
  split at p
  · cases r; cases q; exact ⟨_, _, rfl, p.here hr rfl⟩
  · exact p.elim
theorem sd_intc (he : SO X cl W e mo) (hm : X.mg "int" = none) (hg : Gl X "int" := by rfl) (hs : starEach [e] X.env = (false, eval e X.env) :: starEach [] X.env := by rfl) : SE X cl W (.Call (.Name "int" p) [e] [] pos) (m1 fInt mo) :=
  sc_t1 call_int1 con_int he hg hm (by decide +kernel) (by decide) (by decide) hs
theorem sd_max2 (ha : SO X cl W a mo) (hb : SO X cl W b mp) (hm : X.mg "max" = none) (hc : X.calm = true := by rfl) (hg : Gl X "max" := by rfl)
    (hs : starEach [a, b] X.env = (false, eval a X.env) :: starEach [b] X.env := by rfl) (hs2 : starEach [b] X.env = (false, eval b X.env) :: starEach [] X.env := by rfl) (hpl : (backTo pos (starEach [b] X.env)).any (·.1) = false := by rfl) : SE X cl W (.Call (.Name "max" p) [a, b] [] pos) (m2 fMax2 mo mp) :=
  sc_b2 (call_max2 hc) con_max2 ha hb hg hm (by decide +kernel) (by decide) (by decide) hs hs2 hpl
theorem sd_min2 (ha : SO X cl W a mo) (hb : SO X cl W b mp) (hm : X.mg "min" = none) (hc : X.calm = true := by rfl) (hg : Gl X "min" := by rfl)
    (hs : starEach [a, b] X.env = (false, eval a X.env) :: starEach [b] X.env := by rfl) (hs2 : starEach [b] X.env = (false, eval b X.env) :: starEach [] X.env := by rfl) (hpl : (backTo pos (starEach [b] X.env)).any (·.1) = false := by rfl) : SE X cl W (.Call (.Name "min" p) [a, b] [] pos) (m2 fMin2 mo mp) :=
  sc_b2 (call_min2 hc) con_min2 ha hb hg hm (by decide +kernel) (by decide) (by decide) hs hs2 hpl
end

section
variable {X : Cx} {cl : CL}
def fAdd : D → D → PHeap → Res D := fun x y h => match x, y with
  | .int i, .int j => .ok (.int (i + j)) h
  | .tup xs, .tup ys => if xs.length + ys.length ≤ 16777216 then .ok (.tup (xs ++ ys)) h else .stuck
  | .str a, .str b => if a.length + b.length ≤ 16777216 then .ok (.str (a ++ b)) h else .stuck
  | _, _ => .stuck
def rAddM (K : PySem.W.Frag) : R2 := fun x y H Q => rI0 (fun i j => .int (i + j)) x y H Q ∨ rCatAA K x y H Q ∨ ∃ i j, x = .str i ∧ y = .str j ∧ i.length + j.length ≤ sizeLine ∧ Q (.str (i ++ j)) H
theorem op_addM : OpR X (binaryOp .Add) (rAddM X.K) := op_add.or (op_catAA.or op_add_str)
theorem o2_add : Op2 X.K cl (rAddM X.K) fAdd := by
  intro W io sg H h x y v u Q hr r q p
  have hz : sizeLine = 16777216 := sizeLine_eq
  unfold fAdd at p
  split at p
  · cases r; cases q; exact .inl ⟨_, _, rfl, rfl, p.here hr rfl⟩
  · rename_i xs ys
    obtain ⟨a, vs, rfl, ha, ra⟩ := r
    obtain ⟨b, us, rfl, hb, rb⟩ := q
    have l1 := ra.length
    have l2 := rb.length
    split at p
    · refine .inr (.inl ⟨a, b, vs, us, rfl, rfl, ha, hb, by omega, fun e => ?_, fun _ e => ?_, fun _ _ t o ht hd => ?_⟩)
      · subst e
        have e1 : xs = [] := List.eq_nil_of_length_eq_zero (by simpa using l1)
        subst e1
        exact p.here hr ⟨b, us, rfl, hb, rb⟩
      · subst e
        have e1 : ys = [] := List.eq_nil_of_length_eq_zero (by simpa using l2)
        subst e1
        rw [List.append_nil] at p
        exact p.here hr ⟨a, vs, rfl, ha, ra⟩
      · exact p _ io _ (Step.laid ht) (hr.laid ht) ⟨t, vs ++ us, rfl, .of upd_same hd, (ra.append rb).step (Step.laid ht) _ _⟩
    · exact p.elim
  · cases r; cases q
    split at p
    · exact .inr (.inr ⟨_, _, rfl, rfl, by omega, p.here hr rfl⟩)
    · exact p.elim
  · exact p.elim
def fSub : D → D → PHeap → Res D := fun x y h => match x, y with
  | .int i, .int j => .ok (.int (i - j)) h
  | _, _ => .stuck
theorem o2_sub : Op2 X.K cl (rI0 fun i j => .int (i - j)) fSub := by
  intro W io sg H h x y v u Q hr r q p
  unfold fSub at p
  split at p
  · cases r; cases q; exact ⟨_, _, rfl, rfl, p.here hr rfl⟩
  · exact p.elim
def small64 (i : Int) : Bool := decide (i.natAbs < 18446744073709551616)
theorem small64_iff {i : Int} : small64 i = true ↔ -(2 ^ 64) < i ∧ i < 2 ^ 64 := by
  unfold small64
  rw [decide_eq_true_eq]
  omega
def fMul : D → D → PHeap → Res D := fun x y h => match x, y with
  | .int i, .int j => if small64 i || small64 j then .ok (.int (i * j)) h else .stuck
  | .tup xs, .int k => if -1000 ≤ k ∧ k ≤ 1000 ∧ xs.length ≤ 1000 then .ok (.tup (List.replicate k.toNat xs).flatten) h else .stuck
  | _, _ => .stuck
def rMulM (K : PySem.W.Frag) : R2 := fun x y H Q => rI CMul (fun i j => .int (i * j)) x y H Q ∨ rRepA K x y H Q
theorem op_mulM : OpR X (binaryOp .Mult) (rMulM X.K) := op_mul.or op_repA
theorem RepL.rep {K : PySem.W.Frag} {io : List Addr} {H : Hp} {xs : List D} {vs : List V} (r : RepL K io H xs vs) : ∀ k : Nat, RepL K io H (List.replicate k xs).flatten (List.replicate k vs).flatten
  | 0 => by simp [RepL]
  | k + 1 => by
    rw [List.replicate_succ, List.replicate_succ, List.flatten_cons, List.flatten_cons]
    exact r.append (r.rep k)
theorem o2_mul : Op2 X.K cl (rMulM X.K) fMul := by
  intro W io sg H h x y v u Q hr r q p
  unfold fMul at p
  split at p
  · rename_i i j
    cases r; cases q
    split at p
    · rename_i c
      simp only [small64_iff, Bool.or_eq_true] at c
      exact .inl ⟨_, _, rfl, rfl, c, p.here hr rfl⟩
    · exact p.elim
  · rename_i xs kk
    obtain ⟨a, vs, rfl, ha, ra⟩ := r
    cases q
    have l1 := ra.length
    split at p
    · rename_i c
      obtain ⟨c1, c2, c3⟩ := c
      refine .inr ⟨a, _, vs, rfl, rfl, ha, c1, c2, by omega, fun e => ?_, fun _ _ t o ht hd => ?_⟩
      · have e1 : (List.replicate (Int.toNat kk) xs).flatten = xs := by
          rcases e with e | e
          · rw [e] at l1
            have ex : xs = [] := List.eq_nil_of_length_eq_zero (by simpa using l1)
            subst ex
            induction Int.toNat kk with
            | zero => rfl
            | succ n ih => rw [List.replicate_succ, List.flatten_cons, ih]; rfl
          · rw [e]; simp
        rw [e1] at p
        exact p.here hr ⟨a, vs, rfl, ha, ra⟩
      · exact p _ io _ (Step.laid ht) (hr.laid ht) ⟨t, _, rfl, .of upd_same hd, (ra.rep _).step (Step.laid ht) _ _⟩
    · exact p.elim
  · exact p.elim
def fDiv : D → D → PHeap → Res D := fun x y h => match x, y with
  | .int i, .int j => if j ≠ 0 ∧ j.natAbs < 1073741824 then .ok (.int (i.fdiv j)) h else .stuck
  | _, _ => .stuck
theorem o2_div : Op2 X.K cl (rI CDivN fun i j => .int (i.fdiv j)) fDiv := by
  intro W io sg H h x y v u Q hr r q p
  unfold fDiv at p
  split at p
  · cases r; cases q
    split at p
    · rename_i c; exact ⟨_, _, rfl, rfl, c, p.here hr rfl⟩
    · exact p.elim
  · exact p.elim
def fMod : D → D → PHeap → Res D := fun x y h => match x, y with
  | .int i, .int j => if j ≠ 0 then .ok (.int (i.fmod j)) h else .stuck
  | _, _ => .stuck
theorem o2_mod : Op2 X.K cl (rI (fun _ j => j ≠ 0) fun i j => .int (i.fmod j)) fMod := by
  intro W io sg H h x y v u Q hr r q p
  unfold fMod at p
  split at p
  · cases r; cases q
    split at p
    · rename_i c; exact ⟨_, _, rfl, rfl, c, p.here hr rfl⟩
    · exact p.elim
  · exact p.elim
def fPow : D → D → PHeap → Res D := fun x y h => match x, y with
  | .int i, .int j => if 0 ≤ j ∧ j ≤ 1000000 ∧ i.natAbs < 2 ^ 64 then .ok (.int (i ^ j.toNat)) h else .stuck
  | _, _ => .stuck
theorem o2_pow : Op2 X.K cl (rI CPow fun i j => .int (i ^ j.toNat)) fPow := by
  intro W io sg H h x y v u Q hr r q p
  unfold fPow at p
  split at p
  · cases r; cases q
    split at p
    · rename_i c; exact ⟨_, _, rfl, rfl, c, p.here hr rfl⟩
    · exact p.elim
  · exact p.elim
def fNeg : D → PHeap → Res D := fun x h => match x with
  | .int i => .ok (.int (-i)) h
  | _ => .stuck
theorem o1_neg : Op1 X.K cl (rU fun i => .int (-i)) fNeg := by
  intro W io sg H h x v Q hr r p
  unfold fNeg at p
  split at p
  · cases r; exact ⟨_, rfl, p.here hr rfl⟩
  · exact p.elim

def fCmpI (c : Int → Int → Bool) : D → D → PHeap → Res D := fun x y h => match x, y with
  | .int i, .int j => .ok (.bl (c i j)) h
  | _, _ => .stuck
theorem o2_cmpI {c : Int → Int → Bool} : Op2 X.K cl (rI0 fun i j => .bl (c i j)) (fCmpI c) := by
  intro W io sg H h x y v u Q hr r q p
  unfold fCmpI at p
  split at p
  · cases r; cases q; exact ⟨_, _, rfl, rfl, p.here hr rfl⟩
  · exact p.elim
abbrev fLt := fCmpI fun i j => decide (i < j)
abbrev fLe := fCmpI fun i j => decide (i ≤ j)
abbrev fGt := fCmpI fun i j => decide (j < i)
abbrev fGe := fCmpI fun i j => decide (j ≤ i)
def fIs : D → D → PHeap → Res D := fun x y h => match y with
  | .non => .ok (.bl (decide (x = .non))) h
  | .bl b => match x with
    | .bl a => .ok (.bl (decide (a = b))) h
    | _ => .stuck
  | _ => .stuck
def fIsNot : D → D → PHeap → Res D := fun x y h => match y with
  | .non => .ok (.bl (!decide (x = .non))) h
  | .bl b => match x with
    | .bl a => .ok (.bl (!decide (a = b))) h
    | _ => .stuck
  | _ => .stuck
theorem rep_non {K : PySem.W.Frag} {io : List Addr} {H : Hp} {d : D} {v : V} (r : Rep K io H d v) : decide (v = .non) = decide (d = .non) := by
  cases d with
  | non => cases r; rfl
  | lst xs => exact False.elim r
  | dct xs ys => obtain ⟨a, ns, rfl, _⟩ := r; simp
  | map xs => obtain ⟨a, o, ys, rfl, _⟩ := r; simp
  | gl x => rcases r with ⟨_, f, _, rfl⟩ | ⟨a, _, rfl⟩ <;> simp
  | bl b => cases r; simp
  | int b => cases r; simp
  | str b => cases r; simp
  | tup xs => obtain ⟨a, vs, rfl, _⟩ := r; simp
  | fro xs => obtain ⟨a, vs, rfl, _⟩ := r; simp
  | ref n => obtain ⟨a, _, rfl⟩ := r; simp
theorem o2_is : Op2 X.K cl (fun x y H Q => (y = .non ∧ Q (.bl (decide (x = .non))) H) ∨ ∃ a b, x = .bl a ∧ y = .bl b ∧ Q (.bl (decide (a = b))) H) fIs := by
  intro W io sg H h x y v u Q hr r q p
  unfold fIs at p
  split at p
  · cases q; exact .inl ⟨rfl, by rw [rep_non r]; exact p.here hr rfl⟩
  · split at p
    · cases q; cases r; exact .inr ⟨_, _, rfl, rfl, p.here hr rfl⟩
    · exact p.elim
  · exact p.elim
theorem o2_isnot : Op2 X.K cl (fun x y H Q => (y = .non ∧ Q (.bl (!decide (x = .non))) H) ∨ ∃ a b, x = .bl a ∧ y = .bl b ∧ Q (.bl (!decide (a = b))) H) fIsNot := by
  intro W io sg H h x y v u Q hr r q p
  unfold fIsNot at p
  split at p
  · cases q; exact .inl ⟨rfl, by rw [rep_non r]; exact p.here hr rfl⟩
  · split at p
    · cases q; cases r; exact .inr ⟨_, _, rfl, rfl, p.here hr rfl⟩
    · exact p.elim
  · exact p.elim
theorem op_isM : OpR X (compareOp .Is) (fun x y H Q => (y = .non ∧ Q (.bl (decide (x = .non))) H) ∨ ∃ a b, x = .bl a ∧ y = .bl b ∧ Q (.bl (decide (a = b))) H) := op_isN.or op_is_bl
theorem op_isnotM : OpR X (compareOp .IsNot) (fun x y H Q => (y = .non ∧ Q (.bl (!decide (x = .non))) H) ∨ ∃ a b, x = .bl a ∧ y = .bl b ∧ Q (.bl (!decide (a = b))) H) := op_notN.or op_isnot_bl
end
end Gb

namespace Gb
open PySem PySem.Spec PyProof.Rows L2

inductive Src where
  | lst (a : Addr) | tup (a : Addr)
def Src.addr : Src → Addr
  | .lst a => a
  | .tup a => a
def Src.obj : Src → Obj
  | .lst a => { cls := .type "list_iterator", data := .fields #[.ref a, .int 0 0] }
  | .tup a => { cls := .type "tuple_iterator", data := .fields #[.ref a, .int 0 0] }
def Src.It (u : Src) (it : Addr) (i : Nat) (h : Heap) : Prop := match u with
  | .lst a => h.IsListIter it a i
  | .tup a => h.IsTupleIter it a i
def Src.At (u : Src) (K : PySem.W.Frag) (H : Hp) (xs : List V) : Prop := match u with
  | .lst a => SqL K H a xs
  | .tup a => SqT K H a xs
theorem Src.It.obj {u : Src} {it : Addr} {i : Nat} {h : Heap} (q : u.It it i h) : ∃ o, h.get? it = some o ∧ ∀ v, o.data ≠ .cell v := by
  cases u with
  | lst a => obtain ⟨o, e, _, d⟩ := q; exact ⟨o, e, fun v z => by rw [d] at z; cases z⟩
  | tup a => obtain ⟨o, e, _, d⟩ := q; exact ⟨o, e, fun v z => by rw [d] at z; cases z⟩
theorem Src.It.at {u : Src} {it : Addr} {i : Nat} {h h' : Heap} (q : u.It it i h) (k : ∀ o, h.get? it = some o → h'.get? it = some o) : u.It it i h' := by
  cases u with
  | lst a => exact Heap.IsListIter.at q k
  | tup a => exact Heap.IsTupleIter.at q k
section
variable {X : Cx} {pins : List (Addr × Obj)} {σ : L2.St} {H : Hp} {s : Shared}
theorem Src.inj {u : Src} {xs ys : List V} (I : Inv X pins σ H s) (h : u.At X.K H xs) (h' : u.At X.K H ys) : xs = ys := by
  cases u with
  | lst a => exact I.list_inj h h'
  | tup a => exact I.tuple_inj h h'
theorem Src.lt {u : Src} {xs : List V} (I : Inv X pins σ H s) (h : u.At X.K H xs) : u.addr < s.heap.objs.size := by
  cases u with
  | lst a => obtain ⟨_, _, p, _⟩ := I.list h; exact p.lt
  | tup a => obtain ⟨_, _, p, _⟩ := I.tuple h; obtain ⟨o, e, _⟩ := p; exact Heap.lt_size e
theorem Src.draw {u : Src} {xs : List V} (hc : X.calm = true) (I : Inv X pins σ H s) (h : u.At X.K H xs) (it : Addr) (hne : u.addr ≠ it) :
    ∃ (St : Nat → Heap → Prop) (its : List Value), Vals xs its ∧ Draws X.prog X.w X.A.in1 it [it, u.addr] its.length (fun i v => its[i]? = some v) St ∧ (∀ i, u.It it i s.heap → St i s.heap) ∧ ∀ i h, St i h → u.It it i h := by
  have hh : X.A.in1.handled = none := I.ok.hd hc
  cases u with
  | lst a =>
    obtain ⟨its, rv, p, _⟩ := I.list h
    refine ⟨fun i h => h.IsListIter it a i ∧ h.IsList a its.toArray, its, rv, ?_, fun i st => ⟨st, p.isList⟩, fun i h q => q.1⟩
    have D := Draws.list (prog := X.prog) (w := X.w) (A := X.A.in1) hh it a hne its.toArray
    simpa [Src.addr] using D
  | tup a =>
    obtain ⟨its, rv, p, _⟩ := I.tuple h
    refine ⟨fun i h => h.IsTupleIter it a i ∧ h.IsTuple a its.toArray, its, rv, ?_, fun i st => ⟨st, p⟩, fun i h q => q.1⟩
    have D := Draws.tuple (prog := X.prog) (w := X.w) (A := X.A.in1) hh it a hne its.toArray
    simpa [Src.addr] using D
theorem Src.begins {u : Src} {xs : List V} (I : Inv X pins σ H s) (h : u.At X.K H xs) : ∃ Hq : Heap → Prop, Begins (.ref u.addr) u.obj Hq ∧ Hq s.heap := by
  cases u with
  | lst a => obtain ⟨its, rv, p, _⟩ := I.list h; exact ⟨_, begins_list a its.toArray, p.isList⟩
  | tup a => obtain ⟨its, rv, p, _⟩ := I.tuple h; exact ⟨_, begins_tuple a its.toArray, p⟩
theorem Src.it0 {u : Src} {it : Addr} {h : Heap} (e : h.get? it = some u.obj) : u.It it 0 h := by
  cases u with
  | lst a => exact ⟨_, e, rfl, rfl⟩
  | tup a => exact ⟨_, e, rfl, rfl⟩
end


def ItZ2 (K : PySem.W.Frag) (u v : Src) : It :=
  ⟨fun i H => ∃ (xs ys : List V) (x y : V), u.At K H xs ∧ v.At K H ys ∧ xs[i]? = some x ∧ ys[i]? = some y,
    fun i H z H' => ∃ T o x y, z = .ref T ∧ H T = none ∧ Obj.dict o = none ∧ H' = upd H T (.frz o (.tup [x, y])) ∧ (∀ xs, u.At K H xs → xs[i]? = some x) ∧ (∀ ys, v.At K H ys → ys[i]? = some y),
    fun i H => ∃ xs ys : List V, u.At K H xs ∧ v.At K H ys ∧ i ≤ xs.length ∧ i ≤ ys.length ∧ (i = xs.length ∨ i = ys.length)⟩
theorem turn_z2 {P : Program} {w : World} {K : PySem.W.Frag} {elts : List Expr} {kk : Nat} {tpos : Pos} {u v : Src} {z TI TO i1 i2 : Addr} (S : ZipSep2 z TI TO i1 i2 [i1, u.addr] [i2, v.addr]) (n1 : u.addr ≠ i1) (n2 : v.addr ≠ i2) :
    Turn P w K (.Tuple elts kk tpos) (ItZ2 K u v) [z, TI, TO, i1, i2] z (fun i h => IsZip h z TI TO .none ∧ IsTupOf2 h TI (.ref i1) (.ref i2) ∧ (∃ x y, IsTupOf2 h TO x y) ∧ u.It i1 i h ∧ v.It i2 i h) where
  mem := by simp
  obj := fun i h st c hc => by
    obtain ⟨hz, hTI, ⟨x, y, hTO⟩, h1, h2⟩ := st
    have e' : c = z ∨ c = TI ∨ c = TO ∨ c = i1 ∨ c = i2 := by simpa using hc
    rcases e' with q | q | q | q | q
    · rw [q]; exact ⟨_, hz, fun v q => nomatch q⟩
    · rw [q]; exact ⟨_, hTI, fun v q => nomatch q⟩
    · rw [q]; exact ⟨_, hTO, fun v q => nomatch q⟩
    · rw [q]; exact h1.obj
    · rw [q]; exact h2.obj
  keep := fun i h h' st k => by
    obtain ⟨hz, hTI, ⟨x, y, hTO⟩, h1, h2⟩ := st
    exact ⟨k z (by simp) _ hz, k TI (by simp) _ hTI, ⟨x, y, k TO (by simp) _ hTO⟩, h1.at fun o q => k i1 (by simp) o q, h2.at fun o q => k i2 (by simp) o q⟩
  item := by
    intro X hP hw hK hc i pins s σ H E I hf st hg
    subst hP hw hK
    obtain ⟨hz, hTI, ⟨o1, o2, hTO⟩, h1, h2⟩ := st
    obtain ⟨xs, ys, x, y, hq1, hq2, hx1, hx2⟩ := hg
    obtain ⟨St1, its1, rv1, D1, f1, g1⟩ := Src.draw hc I hq1 i1 n1
    obtain ⟨St2, its2, rv2, D2, f2, g2⟩ := Src.draw hc I hq2 i2 n2
    obtain ⟨u1, hu1, ru1⟩ := rv1.get hx1
    obtain ⟨u2, hu2, ru2⟩ := rv2.get hx2
    have lt1 : i < its1.length := (List.getElem?_eq_some_iff.mp hu1).1
    have lt2 : i < its2.length := (List.getElem?_eq_some_iff.mp hu2).1
    have hzl : z < s.heap.objs.size := Heap.lt_size hz
    have zi1 : i1 ≠ z := fun e => S.zf1 (e ▸ S.mem1)
    have zi2 : i2 ≠ z := fun e => S.zf2 (e ▸ S.mem2)
    refine wpAny_pyNext_zipD2_item S D1 D2 hz hTI hTO (f1 i h1) (f2 i h2) lt1 lt2 fun w1 w2 h' tk p1 p2 z' TO' j1 j2 hT hsz hk => ?_
    have e1 : w1 = u1 := Option.some.inj (p1.symm.trans hu1)
    subst e1
    have e2 : w2 = u2 := Option.some.inj (p2.symm.trans hu2)
    subst e2
    refine ⟨_, rfl, wpAny_letOwnedTupleGo_zip (s := { s with heap := h', toks := tk }) z' fun h'' z'' sb => ?_⟩
    have hT2 : h''.get? s.heap.objs.size = some { cls := .type "tuple", data := .seq #[w1, w2] } := (sb.2 _ (Nat.ne_of_gt hzl)).trans hT
    have new : ObjOk X.prog X.w (upd H s.heap.objs.size (.frz (tupO [w1, w2]) (.tup [x, y]))) h'' s.heap.objs.size (.frz (tupO [w1, w2]) (.tup [x, y])) :=
      ⟨hT2, by show 2 ≤ sizeLine; decide, [w1, w2], (.cons ru1 (.cons ru2 .nil)), ⟨_, hT2, rfl, _, rfl⟩⟩
    have I1 : Inv X pins σ (upd H s.heap.objs.size (.frz (tupO [w1, w2]) (.tup [x, y]))) { s with heap := h'', toks := tk } :=
      I.turnedNew (t' := tk) (ch := [z, TI, TO, i1, i2]) (fun c o hb q => (sb.2 c (fun q' => hb (by simp [q']))).trans (hk c o (fun q' => hb (by simp [q'])) (fun q' => hb (by simp [q'])) (fun q' => hb (by simp [q'])) (fun q' => hb (by simp [q'])) q)) hf (Nat.le_refl _) new
    refine ⟨.ref s.heap.objs.size, _, I1, rfl, ⟨_, _, x, y, rfl, I.hok.fresh (Nat.le_refl _), rfl, rfl, fun l hl => by rw [Src.inj I hl hq1]; exact hx1, fun l hl => by rw [Src.inj I hl hq2]; exact hx2⟩, ⟨z'', ?_, ⟨w1, w2, ?_⟩, (g1 _ _ j1).at fun o q => (sb.2 _ zi1).trans q, (g2 _ _ j2).at fun o q => (sb.2 _ zi2).trans q⟩, fun c hcm => ?_⟩
    · exact (sb.2 _ S.TIz).trans (hk _ _ S.TIz S.TITO S.TIi1 S.TIi2 hTI)
    · exact (sb.2 _ S.TOz).trans TO'
    · have hlt : c < s.heap.objs.size := by
        have e' : c = z ∨ c = TI ∨ c = TO ∨ c = i1 ∨ c = i2 := by simpa using hcm
        rcases e' with q | q | q | q | q
        · rw [q]; exact hzl
        · rw [q]; exact Heap.lt_size hTI
        · rw [q]; exact Heap.lt_size hTO
        · rw [q]; obtain ⟨_, e1, _⟩ := h1.obj; exact Heap.lt_size e1
        · rw [q]; obtain ⟨_, e1, _⟩ := h2.obj; exact Heap.lt_size e1
      rw [upd_ne (Nat.ne_of_lt hlt)]
      exact (hf c hcm).1
  done := by
    intro X hP hw hK hc i pins s σ H E I hf st hg
    subst hP hw hK
    obtain ⟨hz, hTI, ⟨o1, o2, hTO⟩, h1, h2⟩ := st
    obtain ⟨xs, ys, hq1, hq2, le1, le2, hend⟩ := hg
    obtain ⟨St1, its1, rv1, D1, f1, g1⟩ := Src.draw hc I hq1 i1 n1
    obtain ⟨St2, its2, rv2, D2, f2, g2⟩ := Src.draw hc I hq2 i2 n2
    have l1 := rv1.length
    have l2 := rv2.length
    refine wpAny_pyNext_zipD2_end S D1 D2 hz hTI hTO (f1 i h1) (f2 i h2) (by omega) (by omega) (by omega) fun h' tk hk => ⟨rfl, I.turnedL (t' := tk) (ch := [z, TI, TO, i1, i2]) (fun c o hb q =>
      hk c o (fun q' => hb (by simp [q'])) (fun q' => hb (by simp [q'])) (fun q' => hb (by simp [q'])) (fun q' => hb (by simp [q'])) q) hf⟩
  self := fun A i s Q E st h => wpAny_pyIter_zip st.1 h
section
variable {prog : Program} {w : World} {A : Around} {E : Value → Shared → Prop} {s : Shared}
end
def ItE (K : PySem.W.Frag) (u : Src) (k : Int) : It :=
  ⟨fun i H => ∃ (xs : List V) (x : V), u.At K H xs ∧ xs[i]? = some x,
    fun i H z H' => ∃ T o x, z = .ref T ∧ H T = none ∧ Obj.dict o = none ∧ H' = upd H T (.frz o (.tup [.int (k + i), x])) ∧ ∀ xs, u.At K H xs → xs[i]? = some x,
    fun i H => ∃ xs : List V, u.At K H xs ∧ i = xs.length⟩
theorem turn_e {P : Program} {w : World} {K : PySem.W.Frag} {elts : List Expr} {kk : Nat} {tpos : Pos} {u : Src} {k : Int} {e it : Addr} (n1 : u.addr ≠ it) (n2 : e ≠ it) (n3 : e ≠ u.addr) :
    Turn P w K (.Tuple elts kk tpos) (ItE K u k) [e, it] e (fun i h => (∃ old, IsEnum h e it (k + (i : Nat)) old) ∧ u.It it i h) where
  mem := by simp
  obj := fun i h st b hb => by
    obtain ⟨⟨old, he⟩, h1⟩ := st
    have e' : b = e ∨ b = it := by simpa using hb
    rcases e' with z | z
    · rw [z]; exact ⟨_, he, fun v q => nomatch q⟩
    · rw [z]; exact h1.obj
  keep := fun i h h' st k => let ⟨⟨old, he⟩, hi⟩ := st; ⟨⟨old, k e (by simp) _ he⟩, hi.at fun o q => k it (by simp) o q⟩
  item := by
    intro X hP hw hK hc i pins s σ H E I hf st hg
    subst hP hw hK
    obtain ⟨⟨old, he⟩, hit⟩ := st
    obtain ⟨xs, x, hq, hx⟩ := hg
    obtain ⟨St, its, rv, D, f, g⟩ := Src.draw hc I hq it n1
    obtain ⟨u1, hu, ru⟩ := rv.get hx
    have lt : i < its.length := (List.getElem?_eq_some_iff.mp hu).1
    have hel : e < s.heap.objs.size := Heap.lt_size he
    have hil : it < s.heap.objs.size := by obtain ⟨_, q, _⟩ := hit.obj; exact Heap.lt_size q
    refine wpAny_pyNext_enum_itemC D he (f i hit) lt n2 (by simp; exact ⟨n2, n3⟩) fun y h' tk hy ho hit' hT hsz hk => ?_
    have ey : y = u1 := Option.some.inj (hy.symm.trans hu)
    subst ey
    refine ⟨_, rfl, wpAny_letOwnedTupleGo_enum (s := { s with heap := h', toks := tk + 1 }) ho fun h'' he' sb => ?_⟩
    have hT2 : h''.get? s.heap.objs.size = some { cls := .type "tuple", data := .seq #[.int (k + (i : Nat)) tk, y] } := (sb.2 _ (Nat.ne_of_gt hel)).trans hT
    have new : ObjOk X.prog X.w (upd H s.heap.objs.size (.frz (tupO [.int (k + (i : Nat)) tk, y]) (.tup [.int (k + (i : Nat)), x]))) h'' s.heap.objs.size (.frz (tupO [.int (k + (i : Nat)) tk, y]) (.tup [.int (k + (i : Nat)), x])) :=
      ⟨hT2, by show 2 ≤ sizeLine; decide, [.int (k + (i : Nat)) tk, y], .cons ⟨_, rfl⟩ (.cons ru .nil), ⟨_, hT2, rfl, _, rfl⟩⟩
    have I1 : Inv X pins σ (upd H s.heap.objs.size (.frz (tupO [.int (k + (i : Nat)) tk, y]) (.tup [.int (k + (i : Nat)), x]))) { s with heap := h'', toks := tk + 1 } :=
      I.turnedNew (t' := tk + 1) (ch := [e, it]) (fun b ob hb q => (sb.2 b (fun z => hb (by simp [z]))).trans (hk b ob (fun z => hb (by simp [z])) (fun z => hb (by simp [z])) q)) hf (Nat.le_refl _) new
    refine ⟨.ref s.heap.objs.size, _, I1, rfl, ⟨_, _, x, rfl, I.hok.fresh (Nat.le_refl _), rfl, rfl, fun ys hy => by rw [Src.inj I hy hq]; exact hx⟩, ⟨⟨y, ?_⟩, (g _ _ hit').at fun o q => (sb.2 it (Ne.symm n2)).trans q⟩, fun b hb => ?_⟩
    · have e1 : k + ((i + 1 : Nat) : Int) = k + (i : Nat) + 1 := by omega
      rw [e1]; exact he'
    · have hb' : b < s.heap.objs.size := by
        have e' : b = e ∨ b = it := by simpa using hb
        rcases e' with z | z
        · rw [z]; exact hel
        · rw [z]; exact hil
      rw [upd_ne (Nat.ne_of_lt hb')]
      exact (hf b hb).1
  done := by
    intro X hP hw hK hc i pins s σ H E I hf st hg
    subst hP hw hK
    obtain ⟨⟨old, he⟩, hit⟩ := st
    obtain ⟨xs, hq, hx⟩ := hg
    obtain ⟨St, its, rv, D, f, g⟩ := Src.draw hc I hq it n1
    obtain ⟨f0, f1, f2, f3, f4, f5⟩ := hf it (by simp)
    have hl := rv.length
    have ei : i = its.length := hx.trans hl
    subst ei
    exact wpAny_pyNext_enum_endD D he (f _ hit) fun h' eb => ⟨rfl, I.turned (t' := s.toks) (fun b o hb q => eb b o hb q) f0 f1 f3 f4 f5⟩
  self := fun A i s Q E st h => let ⟨⟨_, he⟩, _⟩ := st; wpAny_pyIter_enum he h

def Src.J (u : Src) (K : PySem.W.Frag) : L2.It := match u with
  | .lst a => Itl K a
  | .tup a => Itt K a
theorem walk_s {K : PySem.W.Frag} {u : Src} {n : Nat} : Walk (u.J K) n (fun H => ∃ vs, u.At K H vs ∧ vs.length = n) (fun i H x H' => H' = H ∧ ∀ vs, u.At K H vs → vs[i]? = some x) := by
  cases u with
  | lst a => exact ⟨fun i H hi ⟨vs, h1, h2⟩ => ⟨vs, vs[i]'(by omega), h1, by simp [show i < vs.length by omega]⟩, fun H ⟨vs, h1, h2⟩ => ⟨vs, h1, Nat.le_of_eq h2⟩, fun i H x H' _ _ y => y⟩
  | tup a => exact ⟨fun i H hi ⟨vs, h1, h2⟩ => ⟨vs, vs[i]'(by omega), h1, by simp [show i < vs.length by omega]⟩, fun H ⟨vs, h1, h2⟩ => ⟨vs, h1, Nat.le_of_eq h2⟩, fun i H x H' _ _ y => y⟩
theorem walk_e {K : PySem.W.Frag} {u : Src} {k : Int} {n : Nat} : Walk (ItE K u k) n (fun H => ∃ vs, u.At K H vs ∧ vs.length = n)
    (fun i H z H' => ∃ T o x, z = .ref T ∧ H T = none ∧ Obj.dict o = none ∧ H' = upd H T (.frz o (.tup [.int (k + i), x])) ∧ ∀ vs, u.At K H vs → vs[i]? = some x) :=
  ⟨fun i H hi ⟨vs, h1, h2⟩ => ⟨vs, vs[i]'(by omega), h1, by simp [show i < vs.length by omega]⟩, fun H ⟨vs, h1, h2⟩ => ⟨vs, h1, h2.symm⟩, fun i H x H' _ _ y => y⟩
theorem walk_p2 {K : PySem.W.Frag} {u v : Src} {n n1 n2 : Nat} (hn : n = min n1 n2) : Walk (ItZ2 K u v) n (fun H => ∃ xs ys, (u.At K H xs ∧ xs.length = n1) ∧ v.At K H ys ∧ ys.length = n2)
    (fun i H z H' => ∃ T o x y, z = .ref T ∧ H T = none ∧ Obj.dict o = none ∧ H' = upd H T (.frz o (.tup [x, y])) ∧ (∀ xs, u.At K H xs → xs[i]? = some x) ∧ ∀ ys, v.At K H ys → ys[i]? = some y) := by
  refine ⟨fun i H hi ⟨xs, ys, ⟨h1, h2⟩, h3, h4⟩ => ⟨xs, ys, xs[i]'(by omega), ys[i]'(by omega), h1, h3, by simp [show i < xs.length by omega], by simp [show i < ys.length by omega]⟩,
    fun H ⟨xs, ys, ⟨h1, h2⟩, h3, h4⟩ => ⟨xs, ys, h1, h3, by omega, by omega, by omega⟩, fun i H x H' _ _ y => y⟩
section
variable {X : Cx} {tg l : Expr} {tl : TE}
theorem pi_src (hl : PE X l tl) : PI X tg l (fun σ H R => tl σ H fun x H1 => ∃ u : Src, x = .ref u.addr ∧ (∃ xs, u.At X.K H1 xs) ∧ R (u.J X.K) H1) := by
  refine ⟨fun pins s σ H R I h => ?_⟩
  refine thn (hl.run pins s σ H _ I h) fun v s1 ⟨x, H1, I1, r1, q1⟩ => ?_
  obtain ⟨u, e, ⟨xs, hq⟩, q⟩ := q1
  subst e
  cases r1
  cases u with
  | lst a =>
    obtain ⟨its, rv, p, hz⟩ := I1.list hq
    refine wpAny_pyIter_list p.isList ?_
    refine ⟨s1.heap.objs.size, [s1.heap.objs.size], _, _, H1, rfl, I1.kept (t' := s1.toks) fun b o e => Heap.get?_push_of_some _ e, turn_list a _, ⟨_, Heap.get?_push_size _ rfl, rfl, rfl⟩, fun b hb => ?_, q⟩
    have e : b = s1.heap.objs.size := by simpa using hb
    subst e
    exact I1.fpOk (Nat.le_refl _) (I1.hok.fresh (Nat.le_refl _))
  | tup a =>
    obtain ⟨its, rv, p, hz⟩ := I1.tuple hq
    refine wpAny_pyIter_tuple (show s1.heap.IsTuple a its.toArray from p) ?_
    refine ⟨s1.heap.objs.size, [s1.heap.objs.size], _, _, H1, rfl, I1.kept (t' := s1.toks) fun b o e => Heap.get?_push_of_some _ e, turn_tuple a _, ⟨_, Heap.get?_push_size _ rfl, rfl, rfl⟩, fun b hb => ?_, q⟩
    have e : b = s1.heap.objs.size := by simpa using hb
    subst e
    exact I1.fpOk (Nat.le_refl _) (I1.hok.fresh (Nat.le_refl _))
variable {e e2 e3 : Expr} {ta : TA} {p pos tpos : Pos} {elts : List Expr} {kk : Nat}
theorem pi_z2 (hg : Gl X "zip") (hm : X.mg "zip" = none) (ha : PA X [e, e2] ta)
    (hs : starEach [e, e2] X.env = (false, eval e X.env) :: starEach [e2] X.env := by rfl) (hpl : (backTo pos (starEach [e2] X.env)).any (·.1) = false := by rfl) :
    PI X (.Tuple elts kk tpos) (.Call (.Name "zip" p) [e, e2] [] pos) (fun σ H R => ta σ H fun vs H1 => ∃ (u v : Src) (xs ys : List V), vs = [.ref u.addr, .ref v.addr] ∧ u.At X.K H1 xs ∧ v.At X.K H1 ys ∧ R (ItZ2 X.K u v) H1) := by
  refine ⟨fun pins s σ H R I h => ?_⟩
  refine Call_ (ld_blt I hg hm PyProof.Rows.boot_zip (PyProof.Rows.callWith_type1 (thn (ha.run pos pins s σ H _ I h) fun us s1 ⟨vs, H1, I1, r1, q1⟩ => ?_) hs hpl))
  obtain ⟨u, v, xs, ys, ex, hq1, hq2, q⟩ := q1
  subst ex
  cases r1 with
  | cons r rr =>
    cases rr with
    | cons r' rr =>
      cases rr
      cases r
      cases r'
      obtain ⟨Hq1, B1, h1⟩ := Src.begins I1 hq1
      obtain ⟨Hq2, B2, h2⟩ := Src.begins I1 hq2
      have lt1 := Src.lt I1 hq1
      have lt2 := Src.lt I1 hq2
      refine zip_begins2 B1 B2 h1 h2 fun h' hz hTI hTO g1 g2 hsz hk => wpAny_pyIter_zip hz ?_
      have I2 : Inv X pins σ H1 { s1 with heap := h' } := I1.kept (t' := s1.toks) hk
      refine ⟨s1.heap.objs.size + 4, [s1.heap.objs.size + 4, s1.heap.objs.size + 2, s1.heap.objs.size + 3, s1.heap.objs.size, s1.heap.objs.size + 1], _, _, H1, rfl, I2,
        turn_z2 (zip_sep2 (by simpa using lt1) (by simpa using lt2)) (Nat.ne_of_lt lt1) (Nat.ne_of_lt (Nat.lt_succ_of_lt lt2)), ⟨hz, hTI, ⟨_, _, hTO⟩, Src.it0 g1, Src.it0 g2⟩, fun c hcm => ?_, q⟩
      have hle : s1.heap.objs.size ≤ c := by
        have e' : c = s1.heap.objs.size + 4 ∨ c = s1.heap.objs.size + 2 ∨ c = s1.heap.objs.size + 3 ∨ c = s1.heap.objs.size ∨ c = s1.heap.objs.size + 1 := by simpa using hcm
        rcases e' with z | z | z | z | z <;> rw [z]
        · exact Nat.le_add_right _ _
        · exact Nat.le_add_right _ _
        · exact Nat.le_add_right _ _
        · exact Nat.le_refl _
        · exact Nat.le_add_right _ _
      exact I1.fpOk hle (I1.hok.fresh hle)
end
end Gb

namespace Gb
open PySem L2

def mM (a : MO) : ME := fun env h => (a env h).bind fun v h1 => match v with
  | .val d => .ok d h1
  | .new xs => .ok (.ref h1.length) (h1 ++ [.lst xs])
section
variable {X : Cx} {cl : CL} {W : WX} {a b c e : Expr} {ma mb mc : ME} {ml : MA} {mo mp : MO} {pos : Pos}
theorem sd_mat (ha : SO X cl W a mo) : SE X cl W a (mM mo) :=
  PE.imp ha fun sg H Q ⟨env, h, io, E, hr, p⟩ => rd_mk E hr (by
    unfold mM at p
    cases e : mo env h with
    | ok d h1 =>
      rw [e] at p
      intro v io1 H1 s1 r1 q
      cases d with
      | val d => exact p v io1 H1 s1 r1 q
      | new ds =>
        obtain ⟨b, vs, rfl, h0, hn, hb, q⟩ := q
        exact p _ (io1 ++ [b]) H1 (s1.cell hn h0) (r1.cell1 hn ⟨vs, hb, q⟩) ⟨b, by rw [List.getElem?_append_right (by rw [r1.len]; exact Nat.le_refl _), r1.len]; simp, rfl⟩
    | exc x h1 => rw [e] at p; exact p
    | stuck => rw [e] at p; exact p)
end

section
variable {X : Cx} {cl : CL} {W : WX} {a b c e : Expr} {ma mb mc : ME} {ml : MA} {mo mp : MO} {pos : Pos}
variable {α : Type} {R : Hp → List Addr → Hp → α → V → Prop} {r : R2} {f : LV → LV → PHeap → Res α}
def OpV {α : Type} (R : Hp → List Addr → Hp → α → V → Prop) (K : PySem.W.Frag) (cl : CL) (r : R2) (f : LV → LV → PHeap → Res α) : Prop :=
  ∀ (W : WX) io sg H h x y v u Q, HRel K cl io H h → OV K io H x v → OV K io H y u → postR R K cl W io sg H (f x y h) Q → r v u H Q
theorem rd_op2 [Back X.K R] (hf : OpV R X.K cl r f) {sg : L2.St} {H : Hp} {Q : VK} (q : rd R X.K cl W (m2 f mo mp) sg H Q) : tOp r (rd (RLV X.K) X.K cl W mo) (rd (RLV X.K) X.K cl W mp) sg H Q := by
  obtain ⟨env, h, io, E, hr, p⟩ := q
  exact rd_mk E hr (p.bind fun d h1 v io1 H1 e1 s1 r1 q1 p1 => rd_mk (E.step s1) r1 (p1.bind fun d2 h2 u io2 H2 e2 s2 r2 q2 p2 =>
    hf W io2 sg H2 h2 d d2 v u Q r2 (q1.ov.step s2) q2.ov p2))
theorem so_op {op : Operator} [Back X.K R] (ho : OpR X (binaryOp op) r) (hf : OpV R X.K cl r f) (ha : SO X cl W a mo) (hb : SO X cl W b mp) : PE X (.BinOp a op b pos) (rd R X.K cl W (m2 f mo mp)) :=
  (pe_op ho ha hb).imp fun sg H Q q => rd_op2 hf q
theorem so_cmp {op : CmpOp} {f : LV → LV → PHeap → Res D} (ho : OpR X (compareOp op) r) (hf : OpV (RRep X.K) X.K cl r f) (ha : SO X cl W a mo) (hb : SO X cl W b mp) (hm : behindInMarks op b = false) : SE X cl W (.Compare a [op] [b] pos) (m2 f mo mp) :=
  (pe_cmpR ho ha hb hm).imp fun sg H Q q => rd_op2 hf q
theorem st_cmpO {op : CmpOp} {f : LV → LV → PHeap → Res D} (ho : OpR X (compareOp op) r) (hf : OpV (RRep X.K) X.K cl r f) (ha : SO X cl W a mo) (hb : SO X cl W b mp) (hm : behindInMarks op b = false) : ST X cl W (.Compare a [op] [b] pos) (mTB (m2 f mo mp)) :=
  (pt_cmpR ho ha hb hm).imp fun sg H Q ⟨env, h, io, E, hr, p⟩ => rd_op2 (W := W) hf (rd_mk E hr (postR.tb p))

def rEqP (K : PySem.W.Frag) (k : Bool → Bool) : R2 := fun x y H Q => ∃ d e, Dp K H x d ∧ Dp K H y e ∧ d.plain = true ∧ e.plain = true ∧ d.depth ≤ 61 ∧ Q (.bl (k (PyData.eqv d e))) H
theorem op_eqP (hu : X.A.units + 65 < cLine) : OpR X (compareOp .Eq) (rEqP X.K id) := by
  intro pins s σ H x y v u Q I rx ry h
  obtain ⟨d, e, hd, he, sd, se, hz, q⟩ := h
  obtain ⟨as, r1⟩ := Dp.reads I d x v hd rx
  obtain ⟨bs, r2⟩ := Dp.reads I e y u he ry
  exact SeqAt.eq_plain r1 r2 sd se (by omega) ⟨.bl _, H, I, rfl, q⟩
theorem op_neP (hu : X.A.units + 65 < cLine) : OpR X (compareOp .NotEq) (rEqP X.K not) := by
  intro pins s σ H x y v u Q I rx ry h
  obtain ⟨d, e, hd, he, sd, se, hz, q⟩ := h
  obtain ⟨as, r1⟩ := Dp.reads I d x v hd rx
  obtain ⟨bs, r2⟩ := Dp.reads I e y u he ry
  exact SeqAt.ne_plain r1 r2 sd se (by omega) ⟨.bl _, H, I, rfl, q⟩
def itemsP : PyData → Option (List PyData)
  | .list ds => some ds
  | .tuple ds => some ds
  | _ => none
def rInP (K : PySem.W.Frag) (k : Bool → Bool) : R2 := fun x y H Q => ∃ d e ds, Dp K H x d ∧ Dp K H y e ∧ itemsP e = some ds ∧ d.plain = true ∧ e.plain = true ∧ d.depth ≤ 61 ∧ Q (.bl (k (ds.any fun z => PyData.eqv z d))) H
theorem op_inP (hu : X.A.units + 65 < cLine) : OpR X (compareOp .In) (rInP X.K id) := by
  intro pins s σ H x y v u Q I rx ry h
  obtain ⟨d, e, ds, hd, he, hi, sd, se, hz, q⟩ := h
  obtain ⟨as, r1⟩ := Dp.reads I d x v hd rx
  obtain ⟨bs, r2⟩ := Dp.reads I e y u he ry
  cases e with
  | list es =>
    cases hi
    exact SeqAt.in_list_data r2 r1 (by simpa only [PyData.plain] using se) sd (by omega) ⟨.bl _, H, I, rfl, q⟩
  | tuple es =>
    cases hi
    exact SeqAt.in_tuple_data r2 r1 (by simpa only [PyData.plain] using se) sd (by omega) ⟨.bl _, H, I, rfl, q⟩
  | _ => cases hi
theorem op_notinP (hu : X.A.units + 65 < cLine) : OpR X (compareOp .NotIn) (rInP X.K not) := by
  intro pins s σ H x y v u Q I rx ry h
  obtain ⟨d, e, ds, hd, he, hi, sd, se, hz, q⟩ := h
  obtain ⟨as, r1⟩ := Dp.reads I d x v hd rx
  obtain ⟨bs, r2⟩ := Dp.reads I e y u he ry
  cases e with
  | list es =>
    cases hi
    exact SeqAt.notIn_list_data r2 r1 (by simpa only [PyData.plain] using se) sd (by omega) ⟨.bl _, H, I, rfl, q⟩
  | tuple es =>
    cases hi
    exact SeqAt.notIn_tuple_data r2 r1 (by simpa only [PyData.plain] using se) sd (by omega) ⟨.bl _, H, I, rfl, q⟩
  | _ => cases hi
def fEqO (k : Bool → Bool) : LV → LV → PHeap → Res D := fun x y h => match x.py h with
  | some p => match y.py h with
    | some q => .ok (.bl (k (PyData.eqv p q))) h
    | none => .stuck
  | none => .stuck
def fInO (k : Bool → Bool) : LV → LV → PHeap → Res D := fun x y h => match x.py h with
  | some p => match y.py h with
    | some q => match itemsP q with
      | some ds => .ok (.bl (k (ds.any fun z => PyData.eqv z p))) h
      | none => .stuck
    | none => .stuck
  | none => .stuck
theorem ov_eq {k : Bool → Bool} : OpV (RRep X.K) X.K cl (rEqP X.K k) (fEqO k) := by
  intro W io sg H h x y v u Q hr r q p
  unfold fEqO at p
  split at p
  · split at p
    · rename_i d e1 _ e e2
      obtain ⟨h1, h2, h3⟩ := r.py hr e1
      obtain ⟨g1, g2, g3⟩ := q.py hr e2
      exact ⟨d, e, h1, g1, h2, g2, h3, p.here hr rfl⟩
    · exact p.elim
  · exact p.elim
theorem ov_in {k : Bool → Bool} : OpV (RRep X.K) X.K cl (rInP X.K k) (fInO k) := by
  intro W io sg H h x y v u Q hr r q p
  unfold fInO at p
  split at p
  · split at p
    · split at p
      · rename_i d e1 _ e e2 _ ds e3
        obtain ⟨h1, h2, h3⟩ := r.py hr e1
        obtain ⟨g1, g2, g3⟩ := q.py hr e2
        exact ⟨d, e, ds, h1, g1, e3, h2, g2, h3, p.here hr rfl⟩
      · exact p.elim
    · exact p.elim
  · exact p.elim

def fIx : LV → LV → PHeap → Res D := fun x y h => match y with
  | .val (.int i) => match x.seq h with
    | some xs => match atI xs i with
      | some d => .ok d h
      | none => .stuck
    | none => match x with
      | .val (.str z) => if z.length ≤ 16777216 then (match atI z.cps.toList i with
        | some c => .ok (.str ⟨#[c]⟩) h
        | none => .stuck) else .stuck
      | _ => .stuck
  | _ => .stuck
theorem RepL.atI {K : PySem.W.Frag} {io : List Addr} {H : Hp} {xs : List D} {vs : List V} {i : Int} {d : D} (r : RepL K io H xs vs) (e : L2.atI xs i = some d) : ∃ v, L2.atI vs i = some v ∧ Rep K io H d v := by
  unfold L2.atI at e ⊢
  rw [← r.length]
  cases q : ixN xs.length i with
  | none => rw [q] at e; cases e
  | some j => rw [q] at e; exact r.get e
theorem ov_ix : OpV (RRep X.K) X.K cl (rIx X.K) fIx := by
  intro W io sg H h x y v u Q hr r q p
  have hz : sizeLine = 16777216 := sizeLine_eq
  unfold fIx at p
  split at p
  · rename_i i
    cases q
    split at p
    · rename_i xs e
      split at p
      · rename_i d e2
        obtain ⟨a, vs, rfl, h1, h2⟩ := r.seq hr e
        obtain ⟨w, e3, rw'⟩ := h2.atI e2
        rcases h1 with h1 | h1
        · exact .inl ⟨a, vs, i, w, rfl, rfl, h1, e3, p.here hr rw'⟩
        · exact .inr (.inl ⟨a, vs, i, w, rfl, rfl, h1.sq, e3, p.here hr rw'⟩)
      · exact p.elim
    · split at p
      · cases r
        split at p
        · split at p
          · rename_i c e2
            exact .inr (.inr ⟨_, i, c, rfl, rfl, by omega, e2, p.here hr rfl⟩)
          · exact p.elim
        · exact p.elim
      · exact p.elim
  · exact p.elim
theorem sd_ix (ha : SO X cl W a mo) (hb : SO X cl W b mp) (hs : PlainIx b) : SE X cl W (.Subscript a b pos) (m2 fIx mo mp) :=
  (pe_ix ix_seq ha hb hs).imp fun sg H Q q => rd_op2 ov_ix q

def cutD (xs : List D) (lo hi : Option Int) : List D := (xs.drop (HT.sIx xs.length 0 lo)).take (HT.sIx xs.length xs.length hi - HT.sIx xs.length 0 lo)
abbrev MP := PEnv → PHeap → Res (Option Int)
def pNone : MP := fun _ h => .ok none h
def pSome (a : ME) : MP := fun env h => (a env h).bind fun d h1 => match d with
  | .int i => .ok (some i) h1
  | _ => .stuck
def fSl : LV → Option Int → Option Int → PHeap → Res LV := fun x lo hi h => match x with
  | .val (.tup xs) => .ok (.val (.tup (cutD xs lo hi))) h
  | x => match x.items h with
    | some xs => .ok (.new (cutD xs lo hi)) h
    | none => .stuck
def mSl (a : MO) (lo hi : MP) : MO := fun env h => (a env h).bind fun x h1 => (lo env h1).bind fun l h2 => (hi env h2).bind fun u h3 => fSl x l u h3
abbrev RPart : Hp → List Addr → Hp → Option Int → Option Int → Prop := fun _ _ _ a b => a = b
instance {K : PySem.W.Frag} : Back K RPart := ⟨fun _ _ h => h⟩
abbrev SP' (X : Cx) (cl : CL) (W : WX) (e : Option Expr) (m : MP) : Prop := PO X e (rd RPart X.K cl W m)
theorem sp_none : SP' X cl W none pNone := ⟨fun pins s σ H Q I ⟨env, h, io, E, hr, p⟩ => po_none.run pins s σ H Q I (p.here hr rfl)⟩
theorem sp_some (ha : SE X cl W a ma) : SP' X cl W (some a) (pSome ma) := ⟨fun pins s σ H Q I ⟨env, h, io, E, hr, p⟩ => (po_some ha).run pins s σ H Q I (rd_mk E hr (p.bind fun d h1 v io1 H1 e1 s1 r1 q1 p1 => by
  cases d with
  | int i => cases q1; exact ⟨i, rfl, p1.here r1 rfl⟩
  | _ => exact p1.elim))⟩
theorem cutV_rep {K : PySem.W.Frag} {io : List Addr} {H : Hp} {xs : List D} {vs : List V} (lo hi : Option Int) (r : RepL K io H xs vs) : RepL K io H (cutD xs lo hi) (cutV vs lo hi) := by
  unfold cutD cutV
  rw [r.length]
  exact (r.drop _).take _
theorem cutD_whole {xs : List D} {lo hi : Option Int} (h : HT.sIx xs.length 0 lo = 0 ∧ HT.sIx xs.length xs.length hi = xs.length) : cutD xs lo hi = xs := by
  unfold cutD
  rw [h.1, h.2]
  simp
def rSlM (K : PySem.W.Frag) : V → Option Int → Option Int → Hp → VK → Prop := fun x lo hi H Q => rSlL K x lo hi H Q ∨ rSlAA K x lo hi H Q
theorem so_slice {lo hi : Option Expr} {ml mh : MP} {p2 : Pos} (ha : SO X cl W a mo) (hl : SP' X cl W lo ml) (hh : SP' X cl W hi mh) : SO X cl W (.Subscript a (.Slice lo hi none p2) pos) (mSl mo ml mh) :=
  (pe_slice (r := rSlM X.K) (SlR.or sl_list sl_tupAA) ha hl hh).imp fun sg H Q ⟨env, h, io, E, hr, p⟩ => rd_mk E hr (p.bind fun d h1 v io1 H1 e1 s1 r1 q1 p1 =>
    rd_mk (E.step s1) r1 (p1.bind fun l h2 l' io2 H2 e2 s2 r2 q2 p2 => rd_mk ((E.step s1).step s2) r2 (p2.bind fun u h3 u' io3 H3 e3 s3 r3 q3 p3 => by
      cases q2; cases q3
      have q := (q1.ov.step s2).step s3
      unfold fSl at p3
      split at p3
      · rename_i xs
        obtain ⟨a, vs, rfl, h1, h2⟩ := q
        refine .inr ⟨a, vs, rfl, h1, fun e => ?_, fun _ t o ht hd => ?_⟩
        · rw [← h2.length] at e
          rw [cutD_whole e] at p3
          exact p3.here r3 ⟨a, vs, rfl, h1, h2⟩
        · exact p3 _ io3 _ (Step.laid ht) (r3.laid ht) ⟨t, _, rfl, .of upd_same hd, (cutV_rep l u h2).step (Step.laid ht) _ _⟩
      · split at p3
        · rename_i xs e
          obtain ⟨a, vs, rfl, h1, h2⟩ := q.items r3 e
          exact .inl ⟨a, vs, rfl, h1, fun t ht => p3 _ io3 _ (Step.laid ht) (r3.laid ht) ⟨t, _, rfl, ht, r3.out ht, upd_same, (cutV_rep l u h2).step (Step.laid ht) _ _⟩⟩
        · exact p3.elim)))

def LV.own (h : PHeap) : LV → Option (List D)
  | .new xs => some xs
  | .val (.ref n) => match h[n]? with
    | some (.lst xs) => some xs
    | _ => none
  | _ => none
theorem OV.own {K : PySem.W.Frag} {io : List Addr} {H : Hp} {h : PHeap} {lv : LV} {v : V} {xs : List D} (hr : HRel K cl io H h) (r : OV K io H lv v) (e : lv.own h = some xs) : ∃ a vs, v = .ref a ∧ H a = some (.lst vs) ∧ RepL K io H xs vs := by
  cases lv with
  | new ys => cases e; obtain ⟨a, vs, e, h1, h2, h3⟩ := r; exact ⟨a, vs, e, h2, h3⟩
  | val d =>
    cases d with
    | ref n =>
      obtain ⟨a, ha, rfl⟩ := r
      simp only [LV.own] at e
      split at e
      · rename_i ys q
        cases e
        obtain ⟨vs, hv, r⟩ := hr.cell n a _ ha q
        exact ⟨a, vs, rfl, hv, r⟩
      · cases e
    | _ => simp [LV.own] at e
def Res.val (r : Res D) : Res LV := r.bind fun d h => .ok (.val d) h
def fAddO : LV → LV → PHeap → Res LV := fun x y h => match x.own h with
  | some xs => match y.own h with
    | some ys => if xs.length + ys.length ≤ 16777216 then .ok (.new (xs ++ ys)) h else .stuck
    | none => .stuck
  | none => match x, y with
    | .val a, .val b => (fAdd a b h).val
    | _, _ => .stuck
def fMulO : LV → LV → PHeap → Res LV := fun x y h => match x.own h with
  | some xs => match y with
    | .val (.int k) => if -1000000 ≤ k ∧ k ≤ 1000000 ∧ xs.length * k.toNat ≤ 16777216 then .ok (.new (List.replicate k.toNat xs).flatten) h else .stuck
    | _ => .stuck
  | none => match x, y with
    | .val a, .val b => (fMul a b h).val
    | _, _ => .stuck
theorem postR.val {io : List Addr} {sg : L2.St} {H : Hp} {r : Res D} {Q : VK} (p : postR (RLV X.K) X.K cl W io sg H r.val Q) : postR (RRep X.K) X.K cl W io sg H r Q := by
  cases r with
  | ok d h => exact fun v io1 H1 s r q => p v io1 H1 s r q
  | exc e h => exact p
  | stuck => exact p
theorem op_addL : OpR X (binaryOp .Add) (fun x y H Q => rCat x y H Q ∨ rAddM X.K x y H Q) := op_cat.or op_addM
theorem op_mulL : OpR X (binaryOp .Mult) (fun x y H Q => rRep x y H Q ∨ rMulM X.K x y H Q) := op_rep.or op_mulM
theorem ov_add : OpV (RLV X.K) X.K cl (fun x y H Q => rCat x y H Q ∨ rAddM X.K x y H Q) fAddO := by
  intro W io sg H h x y v u Q hr r q p
  have hz : sizeLine = 16777216 := sizeLine_eq
  unfold fAddO at p
  split at p
  · rename_i xs e
    split at p
    · rename_i ys e2
      obtain ⟨a, vs, rfl, h1, h2⟩ := r.own hr e
      obtain ⟨b, us, rfl, g1, g2⟩ := q.own hr e2
      have l1 := h2.length
      have l2 := g2.length
      split at p
      · exact .inl ⟨a, b, vs, us, rfl, rfl, h1, g1, by omega, fun t ht => p _ io _ (Step.laid ht) (hr.laid ht) ⟨t, _, rfl, ht, hr.out ht, upd_same, (h2.append g2).step (Step.laid ht) _ _⟩⟩
      · exact p.elim
    · exact p.elim
  · split at p
    · exact .inr (o2_add W io sg H h _ _ v u Q hr r q p.val)
    · exact p.elim
theorem ov_mul : OpV (RLV X.K) X.K cl (fun x y H Q => rRep x y H Q ∨ rMulM X.K x y H Q) fMulO := by
  intro W io sg H h x y v u Q hr r q p
  have hz : sizeLine = 16777216 := sizeLine_eq
  unfold fMulO at p
  split at p
  · rename_i xs e
    split at p
    · rename_i k
      cases q
      obtain ⟨a, vs, rfl, h1, h2⟩ := r.own hr e
      have l1 := h2.length
      split at p
      · rename_i c
        obtain ⟨c1, c2, c3⟩ := c
        exact .inl ⟨a, k, vs, rfl, rfl, h1, by omega, by omega, by rw [← l1]; omega, fun t ht => p _ io _ (Step.laid ht) (hr.laid ht) ⟨t, _, rfl, ht, hr.out ht, upd_same, (h2.rep _).step (Step.laid ht) _ _⟩⟩
      · exact p.elim
    · exact p.elim
  · split at p
    · exact .inr (o2_mul W io sg H h _ _ v u Q hr r q p.val)
    · exact p.elim
theorem so_add (ha : SO X cl W a mo) (hb : SO X cl W b mp) : SO X cl W (.BinOp a .Add b pos) (m2 fAddO mo mp) := so_op op_addL ov_add ha hb
theorem so_mul (ha : SO X cl W a mo) (hb : SO X cl W b mp) : SO X cl W (.BinOp a .Mult b pos) (m2 fMulO mo mp) := so_op op_mulL ov_mul ha hb
end
end Gb

namespace Gb
open PySem L2

inductive Kd where
  | non | bl | int | str | tup | lst | dct
  deriving DecidableEq
def Kd.nm : Kd → String
  | .non => "NoneType" | .bl => "bool" | .int => "int" | .str => "str" | .tup => "tuple" | .lst => "list" | .dct => "dict"
def kindD (h : PHeap) : D → Option Kd
  | .non => some .non
  | .bl _ => some .bl
  | .int _ => some .int
  | .str _ => some .str
  | .tup _ => some .tup
  | .fro _ => some .lst
  | .lst _ => none
  | .dct _ _ => some .dct
  | .map _ => none
  | .gl _ => none
  | .ref n => match h[n]? with
    | some (.lst _) => some .lst
    | _ => none
def Kd.isi (k t : Kd) : Bool := decide (k = t) || (decide (k = .bl) && decide (t = .int))
theorem kitB_isi (k t : Kd) : kitB k.nm t.nm = some (k.isi t) := by
  cases k <;> cases t <;> decide +kernel
def fIsi (t : Kd) : LV → PHeap → Res D := fun x h => match x with
  | .new _ => .ok (.bl (Kd.lst.isi t)) h
  | .val d => match kindD h d with
    | some k => .ok (.bl (k.isi t)) h
    | none => .stuck
section
variable {X : Cx} {cl : CL} {W : WX} {a b c e o : Expr} {es : List Expr} {ma mb mc : ME} {ml : MA} {mo mp : MO} {pos p p2 : Pos}
theorem tyx_of {K : PySem.W.Frag} {io : List Addr} {H : Hp} {h : PHeap} {d : D} {v : V} {k : Kd} (hr : HRel K cl io H h) (r : Rep K io H d v) (e : kindD h d = some k) : TyX K H v (.type k.nm) := by
  cases d with
  | lst xs => exact False.elim r
  | map xs => cases e
  | gl x => cases e
  | dct xs ys => cases e; obtain ⟨a, ns, rfl, ⟨o, h1⟩, _⟩ := r; exact .fDict h1
  | non => cases e; cases r; exact .base .non
  | bl b => cases e; cases r; exact .base (.bl _)
  | int i => cases e; cases r; exact .base (.int _)
  | str x => cases e; cases r; exact .base (.str _)
  | tup xs =>
    cases e
    obtain ⟨a, vs, rfl, h1, _⟩ := r
    rcases h1 with ⟨o, h1, _⟩ | ⟨o, its, n, h1, h2, _⟩
    · exact .fTuple h1
    · exact .kTuple h1 h2
  | fro xs =>
    cases e
    obtain ⟨a, vs, rfl, h1, _⟩ := r
    rcases h1 with ⟨o, h1⟩ | ⟨o, its, n, h1, h2, _⟩
    · exact .base (.frz h1)
    · exact .kList h1 h2
  | ref n =>
    obtain ⟨a, ha, rfl⟩ := r
    simp only [kindD] at e
    split at e
    · rename_i xs q
      cases e
      obtain ⟨vs, hv, _⟩ := hr.cell n a _ ha q
      exact .base (.lst hv)
    · cases e
theorem tyx_ov {K : PySem.W.Frag} {io : List Addr} {H : Hp} {h : PHeap} {x : LV} {v : V} {t : Kd} {r' : Res D} (hr : HRel K cl io H h) (r : OV K io H x v) (e : fIsi t x h = r') :
    (∃ k, TyX K H v (.type (Kd.nm k)) ∧ r' = .ok (.bl (k.isi t)) h) ∨ r' = .stuck := by
  subst e
  cases x with
  | new xs =>
    obtain ⟨a, vs, rfl, _, h2, _⟩ := r
    exact .inl ⟨.lst, .base (.lst h2), rfl⟩
  | val d =>
    simp only [fIsi]
    cases q : kindD h d with
    | none => exact .inr rfl
    | some k => exact .inl ⟨k, tyx_of hr r q, rfl⟩
theorem sd_isi {x : Str} {t : Kd} (he : SO X cl W e mo) (hm : X.mg "isinstance" = none) (hmt : X.mg x = none) (hv : bootBuiltins x = some (.type t.nm)) (hn : x ≠ "__name__" := by decide) (hdb : (x == ("__debug__" : Str)) = false := by decide) (hgt : Gl X x := by rfl) (hg : Gl X "isinstance" := by rfl)
    (hs : starEach [e, .Name x p2] X.env = (false, eval e X.env) :: starEach [.Name x p2] X.env := by rfl) (hpl : (backTo pos (starEach [.Name x p2] X.env)).any (·.1) = false := by rfl) :
    SE X cl W (.Call (.Name "isinstance" p) [e, .Name x p2] [] pos) (m1 (fIsi t) mo) :=
  (pe_callB call_isi hg hm (by decide +kernel) (pa_cons he (pa_cons (pe_bltn hgt hmt hv (v := .ty t.nm) rfl hn hdb) pa_nil) hs) (by decide) (by decide) hs hpl).imp fun sg H Q ⟨env, h, io, E, hr, p⟩ =>
    rd_mk E hr (p.bind fun d h1 v io1 H1 e1 s1 r1 q1 p1 => by
      rcases tyx_ov (t := t) r1 q1.ov rfl with ⟨k, ty, e2⟩ | e2
      · rw [e2] at p1
        exact ⟨v, .ty t.nm, _, _, _, rfl, .ty _, ty, kit_ty (kitB_isi k t), p1.here r1 rfl⟩
      · rw [e2] at p1; exact p1.elim)
theorem sd_gc {x : Str} {i : Int} (hg : Gl X x) (h : ∃ u, X.mg x = some u ∧ RelV (V.int i) u) (hd : (x == ("__debug__" : Str)) = false := by decide) : SE X cl W (.Name x pos) (mC (.int i)) := by
  obtain ⟨u, h1, h2⟩ := h
  exact (pe_glob hg h1 h2 hd).imp fun sg H Q ⟨env, h, io, E, hr, p⟩ => p.here hr rfl

def mMt (f : List D → List D → Option (D × List D)) (o : ME) (as : MA) : ME := fun env h => (o env h).bind fun d h1 => match d with
  | .ref n => match h1[n]? with
    | some (.lst _) => (as env h1).bind fun ys h2 => match h2[n]? with
      | some (.lst xs) => match f xs ys with
        | some (z, zs) => .ok z (h2.set n (.lst zs))
        | none => .stuck
      | _ => .stuck
    | _ => .stuck
  | _ => .stuck
def fAppend : List D → List D → Option (D × List D) := fun xs ys => match ys with
  | [y] => if xs.length < 16777216 then some (.non, xs ++ [y]) else none
  | _ => none
def MtF (K : PySem.W.Frag) (cl : CL) (r : V → List V → Hp → VK → Prop) (f : List D → List D → Option (D × List D)) : Prop :=
  ∀ io H a xs vs ys us z zs Q, RepL K io H xs vs → RepL K io H ys us → H a = some (.lst vs) → f xs ys = some (z, zs) → (∀ v ws, Rep K io H z v → RepL K io H zs ws → Q v (upd H a (.lst ws))) → r (.ref a) us H Q
theorem mtf_append : MtF X.K cl rAppend fAppend := by
  intro io H a xs vs ys us z zs Q r ry e ef q
  have hz : sizeLine = 16777216 := sizeLine_eq
  have hl := r.length
  unfold fAppend at ef
  split at ef
  · split at ef
    · cases ef
      obtain ⟨u, t, rfl, ru, rt⟩ := ry
      have rt' : t = [] := rt
      subst rt'
      exact ⟨a, vs, u, rfl, rfl, e, by omega, q _ _ rfl (r.append ⟨u, [], rfl, ru, rfl⟩)⟩
    · cases ef
  · cases ef
theorem rd_mt {r : V → List V → Hp → VK → Prop} {f : List D → List D → Option (D × List D)} (hf : MtF X.K cl r f) {sg : L2.St} {H : Hp} {Q : VK} (q : rd (RRep X.K) X.K cl W (mMt f ma ml) sg H Q) :
    tBM X.K "list" r (rd (RRep X.K) X.K cl W ma) (rd (RRepL X.K) X.K cl W ml) sg H Q := by
  obtain ⟨env, h, io, E, hr, p⟩ := q
  refine rd_mk E hr (p.bind fun d h1 v io1 H1 e1 s1 r1 q1 p1 => ?_)
  cases d with
  | ref n =>
    obtain ⟨a, ha, rfl⟩ := q1
    simp only at p1
    split at p1
    · rename_i xs0 e0
      obtain ⟨vs0, hv0, _⟩ := r1.cell n a _ ha e0
      refine ⟨.inl ⟨rfl, _, .of hv0⟩, rd_mk (E.step s1) r1 (p1.bind fun ys h2 us io2 H2 e2 s2 r2 q2 p2 => ?_)⟩
      have ha2 := s2.get ha
      split at p2
      · rename_i xs e3
        obtain ⟨vs, hv, r3⟩ := r2.cell n a _ ha2 e3
        split at p2
        · rename_i z zs ef
          exact hf io2 H2 a xs vs ys us z zs Q r3 q2 hv ef fun v ws rz rw' => p2 v io2 _ (Step.write (List.mem_of_getElem? ha2) hv) (r2.write ha2 hv rw') (rz.step (Step.write (List.mem_of_getElem? ha2) hv) _ _)
        · exact p2.elim
      · exact p2.elim
    · exact p1.elim
  | _ => exact p1.elim
theorem sd_append {apos cpos : Pos} (ho : SE X cl W o ma) (ha : SA X cl W [e] ml) (hbase : attributeBase o "append" X.env (eval o X.env) = eval o X.env := by rfl)
    (hfew : ((backTo cpos (starEach [e] X.env)).all (fun x => !x.1) && (backToKw cpos (keywordEach [] X.env)).all (fun x => x.1.isSome)
      && decide ([e].length + ([] : List Keyword).length + (if ([] : List Keyword).isEmpty then 0 else 1) < 30)) = true := by rfl)
    (hline : (apos.endLine == cpos.line) = true := by rfl) (hs : starEach [e] X.env = (false, eval e X.env) :: starEach [] X.env := by rfl) (hplain : (backTo cpos (starEach [] X.env)).any (·.1) = false := by rfl) :
    SE X cl W (.Call (.Attribute o "append" apos) [e] [] cpos) (mMt fAppend ma ml) :=
  (pe_bm PySem.F.plainAttrs_list PySem.F.slot_list_append (by rfl) mt_append ho ha hbase hfew hline hs hplain).imp fun sg H Q q => rd_mt mtf_append q
end
end Gb

namespace Gb
open PySem L2

section
variable {K : PySem.W.Frag} {cl : CL} {W : WX} {io io1 : List Addr} {sg : L2.St} {H H1 : Hp}
def postS (K : PySem.W.Frag) (cl : CL) (W : WX) (io : List Addr) (H : Hp) (o : Out) (D : Ends) : Prop := match o with
  | .nx e h => ∀ io' sg' H', Step K io H io' H' → ERel K io' H' sg' e → HRel K cl io' H' h → D.nx sg' H'
  | .bk e h => ∀ io' sg' H', Step K io H io' H' → ERel K io' H' sg' e → HRel K cl io' H' h → D.bk sg' H'
  | .ct e h => ∀ io' sg' H', Step K io H io' H' → ERel K io' H' sg' e → HRel K cl io' H' h → D.ct sg' H'
  | .rt d h => ∀ v io' H', Step K io H io' H' → HRel K cl io' H' h → Rep K io' H' d v → D.rt v H'
  | .exc x e h => ∀ cls dd io' sg' H', Step K io H io' H' → ERel K io' H' sg' e → HRel K cl io' H' h → ExcRep cl H' x cls dd → W cls dd sg' H'
  | .stuck => False
def rdS (K : PySem.W.Frag) (cl : CL) (W : WX) (m : MS) : TS := fun D sg H => ∃ env h io, ERel K io H sg env ∧ HRel K cl io H h ∧ postS K cl W io H (m env h) D
theorem postS.step {o : Out} {D : Ends} (p : postS K cl W io H o D) (s : Step K io H io1 H1) : postS K cl W io1 H1 o D := by
  cases o with
  | nx e h => exact fun io' sg' H' s2 E r => p io' sg' H' (s.trans s2) E r
  | bk e h => exact fun io' sg' H' s2 E r => p io' sg' H' (s.trans s2) E r
  | ct e h => exact fun io' sg' H' s2 E r => p io' sg' H' (s.trans s2) E r
  | rt d h => exact fun v io' H' s2 r q => p v io' H' (s.trans s2) r q
  | exc x e h => exact fun cls dd io' sg' H' s2 E r q => p cls dd io' sg' H' (s.trans s2) E r q
  | stuck => exact p
theorem postS.out {α β : Type} {R : Hp → List Addr → Hp → α → β → Prop} {r : Res α} {env : PEnv} {f : α → PHeap → Out} {D : Ends} {Q' : β → Hp → Prop} (p : postS K cl W io H (r.out env f) D) (E : ERel K io H sg env)
    (k : ∀ a h1 b io1 H1, r = .ok a h1 → Step K io H io1 H1 → HRel K cl io1 H1 h1 → R H io1 H1 a b → postS K cl W io1 H1 (f a h1) D → Q' b H1) : postR R K cl W io sg H r Q' := by
  cases r with
  | ok a h => exact fun b io1 H1 s r q => k a h b io1 H1 rfl s r q (postS.step (show postS K cl W io H (f a h) D from p) s)
  | exc e h => exact fun cls dd io1 H1 s r q => p cls dd io1 sg H1 s (E.step s) r q
  | stuck => exact p
theorem rdS_mk {m : MS} {D : Ends} {env : PEnv} {h : PHeap} (E : ERel K io H sg env) (r : HRel K cl io H h) (p : postS K cl W io H (m env h) D) : rdS K cl W m D sg H := ⟨env, h, io, E, r, p⟩
def rdG (K : PySem.W.Frag) (g : TgM) : TG := fun v sg H Q => ∃ d io env e, Rep K io H d v ∧ ERel K io H sg env ∧ g.set d env = some e ∧
  ∀ sg', ERel K io H sg' e → (∀ vs, (∀ i ∈ g.slots, i ∈ vs) → wipe sg' vs = wipe sg vs) → Q sg' H
def rdGs (K : PySem.W.Frag) (g : List TgM) : TGs := fun v sg H Q => ∃ d io env e, RepL K io H d v ∧ ERel K io H sg env ∧ TgM.sets g d env = some e ∧
  ∀ sg', ERel K io H sg' e → (∀ vs, (∀ i ∈ TgM.slotsL g, i ∈ vs) → wipe sg' vs = wipe sg vs) → Q sg' H
end
abbrev SS (X : Cx) (cl : CL) (W : WX) (e : Stmt) (m : MS) : Prop := PS X e (rdS X.K cl W m)
abbrev SB (X : Cx) (cl : CL) (W : WX) (e : List Stmt) (m : MS) : Prop := PSs X e (rdS X.K cl W m)
abbrev SG (X : Cx) (e : Expr) (g : TgM) : Prop := PG X e (rdG X.K g)
abbrev SGs (X : Cx) (e : List Expr) (g : List TgM) : Prop := PGs X e (rdGs X.K g)

theorem wipe_set {sg : L2.St} {i : Nat} {o : Option V} : ∀ {vs : List Nat}, i ∈ vs → wipe (sg.set i o) vs = wipe sg vs
  | v :: vs, h => by
    show (wipe (sg.set i o) vs).set v none = (wipe sg vs).set v none
    by_cases hv : i ∈ vs
    · rw [wipe_set hv]
    · have e : i = v := by simpa [hv] using h
      subst e
      have key : ∀ (ws : List Nat) (g : L2.St), i ∉ ws → wipe (g.set i o) ws = (wipe g ws).set i o := by
        intro ws
        induction ws with
        | nil => intro g _; rfl
        | cons w ws ih =>
          intro g hw
          simp only [List.mem_cons, not_or] at hw
          show (wipe (g.set i o) ws).set w none = ((wipe g ws).set w none).set i o
          rw [ih g hw.2, List.set_comm _ _ hw.1]
      rw [key vs sg hv, List.set_set]

section
variable {X : Cx} {cl : CL} {W : WX} {a b c e o : Expr} {es : List Expr} {ma mb mc : ME} {ml : MA} {mo mp : MO} {mt : MT} {pos p p2 : Pos} {st : Stmt} {rest sa sb : List Stmt} {m n : MS}
theorem sg_name {x : Str} (i : Nat) (hN : X.N.Nodup) (hi : X.N[i]? = some x := by rfl) (hx : Loc X.env.scope x := by first | exact Or.inl rfl | exact Or.inr rfl) (hf : X.fn x = true ∨ X.env.scope.names.lookup x = some .local := by first | exact .inl rfl | exact .inr rfl) : SG X (.Name x pos) (.name i) := by
  refine (pg_name hN hi hx hf).imp fun v sg H Q ⟨d, io, env, e, r, E, hs, q⟩ => ?_
  cases hs
  exact q _ (E.set r) fun vs hv => wipe_set (hv i (by simp [TgM.slots]))
theorem sgs_nil : SGs X [] [] := ⟨fun pins s sg H vs us Q I r ⟨d, io, env, e, rl, E, hs, q⟩ => by
  cases d with
  | nil => have rl' : vs = [] := rl; subst rl'; cases hs; exact pgs_nil.run pins s sg H [] us Q I r ⟨rfl, q _ E fun _ _ => rfl⟩
  | cons _ _ => cases hs⟩
theorem sgs_cons {g : TgM} {gs : List TgM} (h1 : SG X e g) (h2 : SGs X es gs) (hs : (assignEach (e :: es) X.env).map (·.2) = assign e X.env :: (assignEach es X.env).map (·.2) := by rfl) : SGs X (e :: es) (g :: gs) := ⟨fun pins s sg H vs us Q I r ⟨d, io, env, e', rl, E, hs', q⟩ => by
  cases d with
  | nil => cases hs'
  | cons d ds =>
    obtain ⟨v, t, rfl, r1, r2⟩ := rl
    simp only [TgM.sets] at hs'
    cases q1 : g.set d env with
    | none => rw [q1] at hs'; cases hs'
    | some e1 =>
      rw [q1] at hs'
      refine (pgs_cons h1 h2 hs).run pins s sg H _ us Q I r ⟨v, t, rfl, ⟨d, io, env, e1, r1, E, q1, fun sg' E' w1 => ⟨ds, io, e1, e', r2, E', hs', fun sg2 E2 w2 => q sg2 E2 fun vs hv => ?_⟩⟩⟩
      rw [w2 vs fun i hi => hv i (by simp [TgM.slotsL, hi]), w1 vs fun i hi => hv i (by simp [TgM.slotsL, hi])]⟩
theorem sg_tup {gs : List TgM} {k : Nat} {n : Nat} (hc : X.calm = true) (h : SGs X es gs) (hn : (assignEach es X.env).length = n := by rfl) (hst : (assignEach es X.env).findIdx? (·.1) = none := by rfl) (hg : gs.length = n := by rfl) : SG X (.Tuple es k pos) (.tup gs) := by
  refine (pg_tupA hc h hn hst).imp fun v sg H Q ⟨d, io, env, e, r, E, hs, q⟩ => ?_
  cases d with
  | tup xs =>
    obtain ⟨a, vs, rfl, h1, h2⟩ := r
    have hl : ∀ (gs : List TgM) (xs : List D) env e, TgM.sets gs xs env = some e → xs.length = gs.length := by
      intro gs
      induction gs with
      | nil => intro xs env e h; cases xs with
        | nil => rfl
        | cons _ _ => cases h
      | cons g gs ih => intro xs env e h; cases xs with
        | nil => cases h
        | cons x xs =>
          simp only [TgM.sets] at h
          cases q1 : g.set x env with
          | none => rw [q1] at h; cases h
          | some e1 => rw [q1] at h; simp [ih xs e1 e h]
    exact ⟨a, vs, rfl, h1, by rw [← h2.length, hl gs xs env e hs, hg], xs, io, env, e, h2, E, hs, q⟩
  | _ => cases hs

theorem ss_cons (h1 : SS X cl W st m) (h2 : SB X cl W rest n) : SB X cl W (st :: rest) (sSeq m n) :=
  (pss_cons h1 h2).imp fun D sg H ⟨env, h, io, E, hr, p⟩ => rdS_mk E hr (by
    unfold sSeq at p
    cases q : m env h with
    | nx e h1 => rw [q] at p; exact fun io' sg' H' s E' r' => rdS_mk E' r' (p.step s)
    | rt d h1 => rw [q] at p; exact p
    | bk e h1 => rw [q] at p; exact p
    | ct e h1 => rw [q] at p; exact p
    | exc x e h1 => rw [q] at p; exact p
    | stuck => rw [q] at p; exact p)
theorem ss_nil : SB X cl W [] sNext := pss_nil.imp fun D sg H ⟨env, h, io, E, hr, p⟩ => p io sg H .refl E hr
theorem ss_one (h1 : SS X cl W st m) : SB X cl W [st] m := pss_one h1
theorem ss_never : SS X cl W st sStuck := ps_never.imp fun D sg H ⟨env, h, io, E, hr, p⟩ => p
theorem ss_drop (he : SE X cl W e ma) (hs : swapsWith e none pos.line X.env = pure false := by rfl) : SS X cl W (.Expr e pos) (sDrop ma) :=
  (ps_expr he hs).imp fun D sg H ⟨env, h, io, E, hr, p⟩ => rd_mk E hr (p.out E fun d h1 v io1 H1 e1 s1 r1 q1 p1 => p1 io1 sg H1 .refl (E.step s1) r1)
theorem ss_ret (he : SE X cl W e ma) : SS X cl W (.Return (some e) pos) (sRet ma) :=
  (ps_ret he).imp fun D sg H ⟨env, h, io, E, hr, p⟩ => rd_mk E hr (p.out E fun d h1 v io1 H1 e1 s1 r1 q1 p1 => p1 v io1 H1 .refl r1 q1)
theorem ss_if (hc : ST X cl W c mt) (ha : SB X cl W sa m) (hb : SB X cl W sb n) : SS X cl W (.If c sa sb pos) (sIf mt m n) :=
  (ps_if hc ha hb).imp fun D sg H ⟨env, h, io, E, hr, p⟩ => rd_mk E hr (p.out E fun k h1 b io1 H1 e1 s1 r1 q1 p1 => by
    cases q1
    cases k with
    | true => exact iteT (rdS_mk (E.step s1) r1 p1)
    | false => exact iteF (rdS_mk (E.step s1) r1 p1))
theorem rd_asg {g : TgM} {D : Ends} {sg : L2.St} {H : Hp} (q : rdS X.K cl W (sAsg ma g) D sg H) : tAsg (rd (RRep X.K) X.K cl W ma) (rdG X.K g) D sg H := by
  obtain ⟨env, h, io, E, hr, p⟩ := q
  refine rd_mk E hr (p.out E fun d h1 v io1 H1 e1 s1 r1 q1 p1 => ?_)
  cases q2 : g.set d env with
  | none => rw [q2] at p1; exact p1.elim
  | some e2 => rw [q2] at p1; exact ⟨d, io1, env, e2, q1, E.step s1, q2, fun sg' E' _ => p1 io1 sg' H1 .refl E' r1⟩
theorem ss_asg {g : TgM} (he : SE X cl W e ma) (hg : SG X a g) (hs : swapsWithSole [a] e pos.line X.env = pure false := by rfl) (hw : swappedStores [a] e X.env = pure none := by rfl)
    (h1 : (assignEach [a] X.env).map (·.2) = [assign a X.env] := by rfl) : SS X cl W (.Assign [a] e pos) (sAsg ma g) :=
  (ps_asg he hg hs hw h1).imp fun D sg H q => rd_asg q
theorem ss_set {x : Str} {pos' : Pos} (i : Nat) (he : SE X cl W e ma) (hN : X.N.Nodup) (hi : X.N[i]? = some x := by rfl) (hx : Loc X.env.scope x := by first | exact Or.inl rfl | exact Or.inr rfl)
    (hs : swapsWith e (some (.Name x pos')) pos.line X.env = pure false := by rfl) (hf : X.fn x = true ∨ X.env.scope.names.lookup x = some .local := by first | exact .inl rfl | exact .inr rfl) : SS X cl W (.Assign [.Name x pos'] e pos) (sAsg ma (.name i)) :=
  (ps_set hN hi hx he hs hf).imp fun D sg H ⟨env, h, io, E, hr, p⟩ => rd_mk E hr (p.out E fun d h1 v io1 H1 e1 s1 r1 q1 p1 => p1 io1 _ H1 .refl ((E.step s1).set q1) r1)
theorem ss_par {i j : Nat} {x y : Str} {px py pt : Pos} {kt k2 pt2} (hc : X.calm = true) (hN : X.N.Nodup) (ha : SA X cl W [a, b] ml) (hi : X.N[i]? = some x := by rfl) (hj : X.N[j]? = some y := by rfl) (hij : i ≠ j := by decide)
    (hx : X.env.scope.names.lookup x = some .local := by rfl) (hy : X.env.scope.names.lookup y = some .local := by rfl)
    (hw : swappedStores [.Tuple [.Name x px, .Name y py] kt pt] (.Tuple [a, b] k2 pt2) X.env = pure (some [x, y]) := by rfl)
    (hs : swapsWithSole [.Tuple [.Name x px, .Name y py] kt pt] (.Tuple [a, b] k2 pt2) pos.line X.env = pure false := by rfl) :
    SS X cl W (.Assign [.Tuple [.Name x px, .Name y py] kt pt] (.Tuple [a, b] k2 pt2) pos) (sPar [i, j] ml) :=
  (ps_par hc hN hi hj hij hx hy ha hw hs).imp fun D sg H ⟨env, h, io, E, hr, p⟩ => rd_mk E hr (p.out E fun ds h1 vs io1 H1 e1 s1 r1 q1 p1 => by
    split at p1
    · rename_i hl
      match ds, hl, q1, p1 with
      | [d, d2], _, q1, p1 =>
        obtain ⟨v, t, rfl, ra, rt⟩ := q1
        obtain ⟨w, t', rfl, rb, rt'⟩ := rt
        have rt2 : t' = [] := rt'
        subst rt2
        exact ⟨v, w, rfl, p1 io1 _ H1 .refl (((E.step s1).set ra).set rb) r1⟩
    · exact p1.elim)
def sSub (v o i : ME) : MS := fun env h => (v env h).out env fun d h1 => (o env h1).out env fun x h2 => (i env h2).out env fun y h3 => match x, y with
  | .ref n, .int k => match h3[n]? with
    | some (.lst xs) => match ixN xs.length k with
      | some j => .nx env (h3.set n (.lst (xs.set j d)))
      | none => .stuck
    | _ => .stuck
  | _, _ => .stuck
theorem ss_sub {i : Expr} {tp : Pos} (he : SE X cl W e ma) (ho : SE X cl W o mb) (hi : SE X cl W i mc)
    (ha : ∀ v, assign (.Subscript o i tp) X.env v = (do
      let ov ← holding [v] (eval o X.env)
      let iv ← holding [v, ov] (eval i X.env)
      standAt tp
      holding [v, ov, iv] (setItem ov iv v)
      release [v, ov, iv] []) := by intro _; rfl)
    (hs : swapsWithSole [.Subscript o i tp] e pos.line X.env = pure false := by rfl) (hw : swappedStores [.Subscript o i tp] e X.env = pure none := by rfl)
    (h1 : (assignEach [.Subscript o i tp] X.env).map (·.2) = [assign (.Subscript o i tp) X.env] := by rfl) : SS X cl W (.Assign [.Subscript o i tp] e pos) (sSub ma mb mc) :=
  (ps_asg he (pg_sub ho hi set_list ha) hs hw h1).imp fun D sg H ⟨env, h, io, E, hr, p⟩ => rd_mk E hr (p.out E fun d h1 v io1 H1 e1 s1 r1 q1 p1 => by
    refine rd_mk (E.step s1) r1 (p1.out (E.step s1) fun x h2 xv io2 H2 e2 s2 r2 q2 p2 => ?_)
    refine rd_mk ((E.step s1).step s2) r2 (p2.out ((E.step s1).step s2) fun y h3 yv io3 H3 e3 s3 r3 q3 p3 => ?_)
    split at p3
    · rename_i n k
      obtain ⟨ad, ha, rfl⟩ := q2.step s3 _ _
      cases q3
      split at p3
      · rename_i xs e4
        obtain ⟨vs, hv, rv⟩ := r3.cell n ad _ ha e4
        split at p3
        · rename_i j hj
          have E3 := ((E.step s1).step s2).step s3
          have st : Step X.K io3 H3 io3 (upd H3 ad (.lst (vs.set j v))) := Step.write (List.mem_of_getElem? ha) hv
          exact ⟨ad, vs, k, j, rfl, rfl, hv, by rw [← rv.length]; exact hj, p3 io3 sg _ st (E3.step st) (r3.write ha hv (rv.set j ((q1.step s2 _ _).step s3 _ _)))⟩
        · exact p3.elim
      · exact p3.elim
    · exact p3.elim)
end
end Gb

namespace Gb
open PySem L2

section
variable {K : PySem.W.Frag} {cl : CL} {W : WX} {io io1 : List Addr} {sg : L2.St} {H H1 : Hp} {h : PHeap}
structure Keeps (K : PySem.W.Frag) (as io : List Addr) (H : Hp) (io' : List Addr) (H' : Hp) : Prop where
  pre : ∃ l, io' = io ++ l
  tup : ∀ a vs, TupA K H a vs → TupA K H' a vs
  fro : ∀ a vs, FroL K H a vs → FroL K H' a vs
  same : ∀ a ∈ as, H' a = H a
def Apart (Hs : Hp) (as io : List Addr) (H : Hp) : Prop := ∀ a ∈ as, Hs a = none ∧ a ∉ io ∧ ∃ o, H a = some o ∧ ∀ ps, o ≠ .tbl ps
theorem Step.keeps {as : List Addr} {Hs : Hp} {io' : List Addr} {H' : Hp} (s : Step K io H io' H') (ap : Apart Hs as io H) : Keeps K as io H io' H' :=
  ⟨s.pre, s.tup, s.fro, fun a m => by obtain ⟨_, n, o, e, t⟩ := ap a m; rw [e, s.keep a o e n t]⟩
theorem Keeps.sub {as bs io' : List Addr} {H' : Hp} (k : Keeps K as io H io' H') (h : ∀ a ∈ bs, a ∈ as) : Keeps K bs io H io' H' := ⟨k.pre, k.tup, k.fro, fun a m => k.same a (h a m)⟩
theorem Keeps.get {as io' : List Addr} {H' : Hp} (k : Keeps K as io H io' H') {n : Nat} {x : Addr} (h : io[n]? = some x) : io'[n]? = some x := by
  obtain ⟨l, e⟩ := k.pre
  rw [e, List.getElem?_append_left (List.getElem?_eq_some_iff.mp h).1]
  exact h
theorem Keeps.repL {as io' : List Addr} {H' : Hp} (k : Keeps K as io H io' H') {ds : List D} {vs : List V} (r : RepL K io H ds vs) : RepL K io' H' ds vs := r.mono (fun _ _ h => k.get h) k.tup k.fro
theorem Apart.app {Hs : Hp} {as bs : List Addr} (a : Apart Hs as io H) (b : Apart Hs bs io H) : Apart Hs (as ++ bs) io H := fun x m => (List.mem_append.mp m).elim (a x) (b x)
def WalkRep (K : PySem.W.Frag) (cl : CL) (Hs : Hp) (io0 : List Addr) (H0 : Hp) (t : Itr) (J : It) : Prop := ∃ (as : List Addr) (G : Hp → Prop) (Y : Nat → Hp → V → Hp → Prop), Apart Hs as io0 H0 ∧ Walk J t.items.length G Y ∧
  (∀ io H h, Keeps K as io0 H0 io H → HRel K cl io H h → t.live h = true → G H) ∧
  (∀ i io H h x H' d, Keeps K as io0 H0 io H → HRel K cl io H h → t.live h = true → t.items[i]? = some d → Y i H x H' → Step K io H io H' ∧ HRel K cl io H' h ∧ Rep K io H' d x)
abbrev RIt (K : PySem.W.Frag) (cl : CL) : Hp → List Addr → Hp → Itr → It → Prop := fun Hs io H t J => WalkRep K cl Hs io H t J
instance : Back K (RIt K cl) := ⟨fun s hl ⟨as, G, Y, ap, w, g, y⟩ => ⟨as, G, Y, fun a m => by obtain ⟨h0, h1, h2⟩ := ap a m; exact ⟨s.before hl h0 h1, h1, h2⟩, w, g, y⟩⟩
def rdI (K : PySem.W.Frag) (cl : CL) (W : WX) (m : MI) : TI := fun sg H R => ∃ env h io, ERel K io H sg env ∧ HRel K cl io H h ∧ postR (RIt K cl) K cl W io sg H (m env h) R
theorem rdI_mk {m : MI} {R : It → Hp → Prop} {env : PEnv} {h : PHeap} (E : ERel K io H sg env) (r : HRel K cl io H h) (p : postR (RIt K cl) K cl W io sg H (m env h) R) : rdI K cl W m sg H R := ⟨env, h, io, E, r, p⟩

theorem postR.bindAt {α β γ δ : Type} {R : Hp → List Addr → Hp → α → β → Prop} {S : Hp → List Addr → Hp → γ → δ → Prop} {r : Res α} {f : α → PHeap → Res γ} {Q : δ → Hp → Prop} {Q' : β → Hp → Prop} (s0 : Step K io H io1 H1) (p : postR S K cl W io sg H (r.bind f) Q)
    (k : ∀ a h b io2 H2, Step K io1 H1 io2 H2 → HRel K cl io2 H2 h → R H1 io2 H2 a b → postR S K cl W io sg H (f a h) Q → Q' b H2) : postR R K cl W io1 sg H1 r Q' := by
  cases r with
  | ok a h => exact fun b io2 H2 s hr q => k a h b io2 H2 s hr q p
  | exc e h => exact fun cls dd io2 H2 s hr q => p cls dd io2 H2 (s0.trans s) hr q
  | stuck => exact p
def srcDeps : LV → List D → List (Nat × List D)
  | .val d, xs => depsOf d xs
  | _, _ => []
def depsLive (h : PHeap) (ds : List (Nat × List D)) : Bool := ds.all fun p => match h[p.1]? with
  | some (.lst xs) => decide (xs = p.2)
  | _ => false
theorem live_eq (t : Itr) (h : PHeap) : t.live h = depsLive h t.deps := rfl
theorem depsLive_app {h : PHeap} {a b : List (Nat × List D)} : depsLive h (a ++ b) = (depsLive h a && depsLive h b) := by simp [depsLive]
theorem RLV.step {Hs : Hp} {lv : LV} {v : V} {io' : List Addr} {H' : Hp} (r : RLV K Hs io H lv v) (s : Step K io H io' H') : RLV K Hs io' H' lv v := by
  cases lv with
  | val d => exact Rep.step s d v r
  | new xs => obtain ⟨a, vs, e, h0, h1, h2, h3⟩ := r; exact ⟨a, vs, e, h0, s.out h2 h1, s.keep _ _ h2 h1 (by intro _ z; cases z), h3.step s _ _⟩
theorem src_of {Hs : Hp} {lv : LV} {v : V} {xs : List D} (hr : HRel K cl io H h) (r : RLV K Hs io H lv v) (e : lv.seq h = some xs) :
    ∃ (u : Src) (vs : List V) (as : List Addr), v = .ref u.addr ∧ u.At K H vs ∧ RepL K io H xs vs ∧ Apart Hs as io H ∧ ∀ io2 H2 h2, Keeps K as io H io2 H2 → HRel K cl io2 H2 h2 → depsLive h2 (srcDeps lv xs) = true → ∃ ws, u.At K H2 ws ∧ RepL K io2 H2 xs ws := by
  have nil : Apart Hs [] io H := fun a m => by simp at m
  cases lv with
  | new ys =>
    cases e
    obtain ⟨a, vs, e, h0, h1, h2, h3⟩ := r
    refine ⟨.lst a, vs, [a], e, .of h2, h3, fun b m => ?_, fun io2 H2 h2' s _ _ => ⟨vs, .of (by rw [s.same a (by simp)]; exact h2), s.repL h3⟩⟩
    rw [List.mem_singleton.mp m]; exact ⟨h0, h1, _, h2, by intro _ z; cases z⟩
  | val d =>
    cases d with
    | tup ys =>
      cases e
      obtain ⟨a, vs, e, h1, h2⟩ := r
      exact ⟨.tup a, vs, [], e, h1.sq, h2, nil, fun io2 H2 h2' s _ _ => ⟨vs, (s.tup _ _ h1).sq, s.repL h2⟩⟩
    | fro ys =>
      cases e
      obtain ⟨a, vs, e, h1, h2⟩ := r
      exact ⟨.lst a, vs, [], e, h1.sq, h2, nil, fun io2 H2 h2' s _ _ => ⟨vs, (s.fro _ _ h1).sq, s.repL h2⟩⟩
    | ref n =>
      obtain ⟨a, ha, rfl⟩ := r
      simp only [LV.seq, LV.items] at e
      split at e
      · rename_i ys q
        cases e
        obtain ⟨vs, hv, r⟩ := hr.cell n a _ ha q
        refine ⟨.lst a, vs, [], rfl, .of hv, r, nil, fun io2 H2 h2 s r2 lv => ?_⟩
        simp only [depsLive, srcDeps, depsOf, List.all_cons, List.all_nil, Bool.and_true] at lv
        split at lv
        · rename_i zs e2
          have e3 := of_decide_eq_true lv
          subst e3
          obtain ⟨ws, hw, rw'⟩ := r2.cell n a _ (s.get ha) e2
          exact ⟨ws, .of hw, rw'⟩
        · cases lv
      · cases e
    | _ => simp [LV.seq, LV.items] at e
end
abbrev SI (X : Cx) (cl : CL) (W : WX) (tg e : Expr) (m : MI) : Prop := PI X tg e (rdI X.K cl W m)
def iSrc (a : MO) : MI := fun env h => (a env h).bind fun lv h1 => match lv.seq h1 with
  | some xs => .ok ⟨xs, srcDeps lv xs⟩ h1
  | none => .stuck
def rngD (lo hi : Int) : List D := (List.range (hi - lo).toNat).map fun i => D.int (lo + (i : Nat))
def iR1 (b : ME) : MI := fun env h => (b env h).bind fun y h1 => match y with
  | .int hi => if -(2 ^ 60) ≤ hi ∧ hi ≤ 2 ^ 60 then .ok ⟨rngD 0 hi, []⟩ h1 else .stuck
  | _ => .stuck
def iZip2 (a b : MO) : MI := fun env h => (a env h).bind fun x h1 => (b env h1).bind fun y h2 => match x.seq h2, y.seq h2 with
  | some xs, some ys => .ok ⟨List.zipWith (fun p q => D.tup [p, q]) xs ys, srcDeps x xs ++ srcDeps y ys⟩ h2
  | _, _ => .stuck
section
variable {X : Cx} {cl : CL} {W : WX} {a b c e o tg : Expr} {es : List Expr} {ma mb mc : ME} {ml : MA} {mo mp mq : MO} {mt : MT} {mi : MI} {pos p p2 : Pos} {st : Stmt} {rest sa sb : List Stmt} {m n : MS}
theorem si_src (ha : SO X cl W a mo) : SI X cl W tg a (iSrc mo) :=
  (pi_src ha).imp fun sg H R ⟨env, h, io, E, hr, p⟩ => rd_mk E hr (p.bindAt .refl fun lv h1 v io1 H1 s1 r1 q1 p1 => by
    split at p1
    · rename_i xs e
      obtain ⟨u, vs, as, rfl, h2, h3, ap, h4⟩ := src_of r1 q1 e
      refine ⟨u, rfl, ⟨vs, h2⟩, p1 _ io1 H1 s1 r1 ⟨as, _, _, ap, walk_s, fun io2 H2 h2 s2 r2 l2 => ?_, fun i io2 H2 h2 x H' d s2 r2 l2 hd y => ?_⟩⟩
      · obtain ⟨ws, hw, rw'⟩ := h4 io2 H2 h2 s2 r2 l2
        exact ⟨ws, hw, rw'.length.symm⟩
      · obtain ⟨ws, hw, rw'⟩ := h4 io2 H2 h2 s2 r2 l2
        obtain ⟨rfl, hy⟩ := y
        obtain ⟨w, e2, r3⟩ := rw'.get hd
        rw [hy ws hw] at e2; cases e2
        exact ⟨.refl, r2, r3⟩
    · exact p1.elim)
theorem walk_rng {lo hi : Int} {K : PySem.W.Frag} {io : List Addr} {Hs H : Hp} : WalkRep K cl Hs io H ⟨rngD lo hi, []⟩ (L2.Itr lo (hi - lo).toNat) := by
  refine ⟨[], _, _, fun a m => by simp at m, by simpa [rngD] using walk_range (lo := lo) (n := (hi - lo).toNat), fun _ _ _ _ _ _ => trivial, fun i io2 H2 h2 x H' d s2 r2 l2 hd y => ?_⟩
  obtain ⟨rfl, rfl⟩ := y
  refine ⟨.refl, r2, ?_⟩
  simp only [rngD, List.getElem?_map] at hd
  cases q : (List.range (hi - lo).toNat)[i]? with
  | none => rw [q] at hd; cases hd
  | some j =>
    rw [q] at hd
    cases hd
    obtain ⟨h1, h2⟩ := List.getElem?_eq_some_iff.mp q
    simp at h2
    subst h2
    rfl
theorem si_rng1 (hm : X.mg "range" = none) (ha : SE X cl W a ma) (hg : Gl X "range" := by rfl) (hs : starEach [a] X.env = [(false, eval a X.env)] := by rfl) : SI X cl W tg (.Call (.Name "range" p) [a] [] pos) (iR1 ma) :=
  (pi_range1 hg hm (pa_cons ha pa_nil hs) hs).imp fun sg H R ⟨env, h, io, E, hr, p⟩ => rd_mk E hr (p.bind fun d h1 v io1 H1 e1 s1 r1 q1 p1 => by
    split at p1
    · rename_i hi
      cases q1
      split at p1
      · have := p1 _ io1 H1 .refl r1 walk_rng
        rw [Int.sub_zero] at this
        exact ⟨hi, rfl, by omega, by omega, this⟩
      · exact p1.elim
    · exact p1.elim)
variable {elts : List Expr} {kk : Nat} {tpos : Pos}
theorem rep_pair {K : PySem.W.Frag} {io : List Addr} {H : Hp} {T : Addr} {o : Obj} {ds : List D} {vs : List V} (hT : H T = none) (ho : o.dict = none) (r : RepL K io H ds vs) : Rep K io (upd H T (.frz o (.tup vs))) (.tup ds) (.ref T) :=
  ⟨T, vs, rfl, .of upd_same ho, r.step (Step.laid hT) _ _⟩
theorem get_zip {α β γ : Type} {f : α → β → γ} {xs : List α} {ys : List β} {i : Nat} {d : γ} (h : (List.zipWith f xs ys)[i]? = some d) : ∃ x y, xs[i]? = some x ∧ ys[i]? = some y ∧ d = f x y := by
  rw [List.getElem?_zipWith] at h
  cases q : xs[i]? with
  | none => rw [q] at h; cases h
  | some x =>
    cases q2 : ys[i]? with
    | none => rw [q, q2] at h; cases h
    | some y => rw [q, q2] at h; cases h; exact ⟨x, y, rfl, rfl, rfl⟩
theorem si_zip2 (hm : X.mg "zip" = none) (ha : SO X cl W a mo) (hb : SO X cl W b mp) (hg : Gl X "zip" := by rfl)
    (hs : starEach [a, b] X.env = (false, eval a X.env) :: starEach [b] X.env := by rfl) (hs2 : starEach [b] X.env = (false, eval b X.env) :: starEach [] X.env := by rfl) (hpl : (backTo pos (starEach [b] X.env)).any (·.1) = false := by rfl) :
    SI X cl W (.Tuple elts kk tpos) (.Call (.Name "zip" p) [a, b] [] pos) (iZip2 mo mp) :=
  (pi_z2 hg hm (pa_cons ha (pa_cons hb pa_nil hs2) hs) hs hpl).imp fun sg H R ⟨env, h, io, E, hr, p⟩ => rd_mk E hr (p.bindAt .refl fun lv h1 v io1 H1 s1 r1 q1 p1 => rd_mk (E.step s1) r1 (p1.bindAt s1 fun lv2 h2 v2 io2 H2 s2 r2 q2 p2 => by
    split at p2
    · rename_i xs ys e e'
      obtain ⟨u, vs, as, rfl, g1, g2, ap, g3⟩ := src_of (Hs := H) r2 (Gb.RLV.step (show RLV X.K H io1 H1 lv v from q1) s2) e
      obtain ⟨u', vs', as', rfl, g1', g2', ap', g3'⟩ := src_of (Hs := H) r2 (Back.back s1 s2.pre q2) e'
      refine ⟨u, u', vs, vs', rfl, g1, g1', p2 _ io2 H2 (s1.trans s2) r2 ⟨as ++ as', _, _, ap.app ap', walk_p2 (n1 := xs.length) (n2 := ys.length) (by simp), fun io3 H3 h3 s3 r3 l3 => ?_, fun i io3 H3 h3 x H' d s3 r3 l3 hd y => ?_⟩⟩
      · rw [live_eq, depsLive_app, Bool.and_eq_true] at l3
        obtain ⟨ws, hw, rw'⟩ := g3 io3 H3 h3 (s3.sub fun a m => by simp [m]) r3 l3.1
        obtain ⟨ws', hw', rw2⟩ := g3' io3 H3 h3 (s3.sub fun a m => by simp [m]) r3 l3.2
        exact ⟨ws, ws', ⟨hw, rw'.length.symm⟩, hw', rw2.length.symm⟩
      · rw [live_eq, depsLive_app, Bool.and_eq_true] at l3
        obtain ⟨ws, hw, rw'⟩ := g3 io3 H3 h3 (s3.sub fun a m => by simp [m]) r3 l3.1
        obtain ⟨ws', hw', rw2⟩ := g3' io3 H3 h3 (s3.sub fun a m => by simp [m]) r3 l3.2
        obtain ⟨T, o, z, z', rfl, hT, ho, rfl, hy, hy'⟩ := y
        obtain ⟨dx, dy, e3, e3', rfl⟩ := get_zip hd
        obtain ⟨w, e4, r4⟩ := rw'.get e3
        obtain ⟨w', e4', r4'⟩ := rw2.get e3'
        rw [hy ws hw] at e4; cases e4
        rw [hy' ws' hw'] at e4'; cases e4'
        exact ⟨Step.laid hT, r3.laid hT, rep_pair hT ho ⟨_, _, rfl, r4, _, _, rfl, r4', rfl⟩⟩
    · exact p2.elim))
theorem ss_for {g : TgM} {kill : List Nat} (hp : PassesOwn (model X.prog X.w) X.A X.env X.xe) (hc : X.calm = true) (hi : SI X cl W tg a mi) (hg : SG X tg g) (hb : SB X cl W sa m) (hs : ∀ x, foldedSetIterable a X.env x = pure x := by intro _; rfl) : SS X cl W (.For tg a sa [] pos) (sFor mi g m kill) :=
  (ps_for hp hc hi hg hb hs).imp fun D sg H ⟨env, h, io, E, hr, p⟩ => rdI_mk E hr (p.out E fun t h1 J io1 H1 e1 s1 r1 q1 p1 => by
    obtain ⟨as, G, Y, ap, w, hG, hY⟩ := q1
    refine for_it w (fun i sg H => ∃ env h io, Step X.K io1 H1 io H ∧ ERel X.K io H sg env ∧ HRel X.K cl io H h ∧ postS X.K cl W io H (forL g m kill t (t.items.drop i) env h) D) ⟨env, h1, io1, .refl, E.step s1, r1, p1⟩ ?_ ?_ ?_
    · rintro i sg2 H2 hi ⟨env2, h2, io2, s2, E2, r2, p2⟩
      refine hG io2 H2 h2 (s2.keeps ap) r2 ?_
      cases q : t.items.drop i with
      | nil =>
        rw [q] at p2
        unfold forL at p2
        split at p2
        · assumption
        · exact p2.elim
      | cons d ds =>
        rw [q] at p2
        unfold forL at p2
        split at p2
        · assumption
        · exact p2.elim
    · rintro i x sg2 H2 H' hi ⟨env2, h2, io2, s2, E2, r2, p2⟩ y
      obtain ⟨d, hd⟩ : ∃ d, t.items[i]? = some d := ⟨t.items[i], List.getElem?_eq_getElem hi⟩
      have ed : t.items.drop i = d :: t.items.drop (i + 1) := by
        rw [List.drop_eq_getElem_cons hi]
        rw [List.getElem?_eq_getElem hi] at hd
        cases hd
        rfl
      rw [ed] at p2
      unfold forL at p2
      split at p2
      · rename_i hl
        obtain ⟨s3, r3, rd⟩ := hY i io2 H2 h2 x H' d (s2.keeps ap) r2 hl hd y
        have E3 := (E2.wipe kill).step s3
        cases q2 : g.set d (wipeE env2 kill) with
        | none => rw [q2] at p2; exact p2.elim
        | some e3 =>
          rw [q2] at p2
          simp only at p2
          refine ⟨d, io2, _, e3, rd, E3, q2, fun sg' E' _ => ⟨e3, h2, io2, E', r3, ?_⟩⟩
          cases q3 : m e3 h2 with
          | nx e h3 =>
            rw [q3] at p2
            simp only at p2
            exact fun io' sg' H3 s4 E4 r4 => ⟨e, h3, io', (s2.trans s3).trans s4, E4, r4, p2.step (s3.trans s4)⟩
          | ct e h3 =>
            rw [q3] at p2
            simp only at p2
            exact fun io' sg' H3 s4 E4 r4 => ⟨e, h3, io', (s2.trans s3).trans s4, E4, r4, p2.step (s3.trans s4)⟩
          | bk e h3 => rw [q3] at p2; exact fun io' sg' H3 s4 E4 r4 => p2 io' sg' H3 (s3.trans s4) E4 r4
          | rt d h3 => rw [q3] at p2; exact fun v io' H3 s4 r4 q4 => p2 v io' H3 (s3.trans s4) r4 q4
          | exc x e h3 => rw [q3] at p2; exact fun cls dd io' sg' H3 s4 E4 r4 q4 => p2 cls dd io' sg' H3 (s3.trans s4) E4 r4 q4
          | stuck => rw [q3] at p2; exact p2.elim
      · exact p2.elim
    · rintro sg2 H2 ⟨env2, h2, io2, s2, E2, r2, p2⟩
      rw [List.drop_length] at p2
      unfold forL at p2
      split at p2
      · exact p2 io2 sg2 H2 .refl (E2.wipe kill) r2
      · exact p2.elim)
end
end Gb

namespace Gb
open PySem L2
def WF : WX := fun _ _ _ _ => False
theorem takesF (X : Cx) : Takes X WF := fun _ _ ⟨_, _, _, _, _, _, _, _, _, _, _, _, _, _, _, _, w⟩ => w.elim
theorem wipe_none {sg : L2.St} : ∀ {vs ws : List Nat}, (∀ i ∈ vs, i ∈ ws) → wipe (wipe sg vs) ws = wipe sg ws
  | [], _, _ => rfl
  | v :: vs, ws, h => by
    show wipe ((wipe sg vs).set v none) ws = _
    rw [wipe_set (h v (by simp)), wipe_none fun i m => h i (by simp [m])]
section
variable {K : PySem.W.Frag} {cl : CL} {W : WX} {io io1 : List Addr} {sg sg1 : L2.St} {H H1 : Hp} {h : PHeap} {Dd : Addr} {av ws : List V}
theorem postR.calm {α β γ δ : Type} {R : Hp → List Addr → Hp → α → β → Prop} {S : Hp → List Addr → Hp → γ → δ → Prop} {r : Res α} {f : α → PHeap → Res γ} {Q : δ → Hp → Prop} {Q' : β → Hp → Prop} (p : postR S K cl W io1 sg1 H1 (r.calm.bind f) Q)
    (k : ∀ a h b io2 H2, Step K io H io2 H2 → HRel K cl io2 H2 h → R H io2 H2 a b → postR S K cl W io1 sg1 H1 (f a h) Q → Q' b H2) : postR R K cl WF io sg H r Q' := by
  cases r with
  | ok a h => exact fun b io2 H2 s hr q => k a h b io2 H2 s hr q p
  | exc e h => exact p.elim
  | stuck => exact p
theorem tup_over (e : H Dd = some (.lst av)) {a : Addr} {vs : List V} (s : TupA K H a vs) : TupA K (upd H Dd (.lst ws)) a vs :=
  sqT_keep (fun b o u q => by rw [upd_ne (fun z => by rw [z, e] at q; cases q)]; exact q) s
theorem fro_over (e : H Dd = some (.lst av)) {a : Addr} {vs : FX} (s : FroL K H a vs) : FroL K (upd H Dd (.lst ws)) a vs :=
  fro_keep (fun b o u q => by rw [upd_ne (fun z => by rw [z, e] at q; cases q)]; exact q) s
theorem Rep.over (e : H Dd = some (.lst av)) {d : D} {v : V} (r : Rep K io H d v) : Rep K io (upd H Dd (.lst ws)) d v := r.mono (fun _ _ h => h) (fun _ _ => tup_over e) fun _ _ => fro_over e
theorem RepL.over (e : H Dd = some (.lst av)) {d : List D} {v : List V} (r : RepL K io H d v) : RepL K io (upd H Dd (.lst ws)) d v := r.mono (fun _ _ h => h) (fun _ _ => tup_over e) fun _ _ => fro_over e
theorem HRel.over (e : H Dd = some (.lst av)) (n : Dd ∉ io) (r : HRel K cl io H h) : HRel K cl io (upd H Dd (.lst ws)) h := by
  refine ⟨r.len, r.nd, tabs_upd r.tab e noTab_lst, only_upd r.only (by intro _ z; cases z), fun i a c h1 h2 => ?_⟩
  have na : a ≠ Dd := fun z => n (by rw [← z]; exact List.mem_of_getElem? h1)
  have q := r.cell i a c h1 h2
  cases c with
  | lst xs => obtain ⟨vs, g1, g2⟩ := q; exact ⟨vs, by rw [upd_ne na]; exact g1, g2.over e⟩
  | map xs => obtain ⟨o, ys, g1, g2, g3⟩ := q; exact ⟨o, ys, by rw [upd_ne na]; exact g1, g2, g3.mono (fun _ _ h => h) (fun _ _ => tup_over e) fun _ _ => fro_over e⟩
  | dead => obtain ⟨o, g1, nt⟩ := q; exact ⟨o, by rw [upd_ne na]; exact g1, nt⟩
  | kst ks => exact (upd_ne na).trans q
  | dks ks xs => obtain ⟨vs, g1, g2⟩ := q; exact ⟨vs, by rw [upd_ne na]; exact g1, g2.over e⟩
  | ins c fs => obtain ⟨dx, vs, g1, g2⟩ := q; exact ⟨dx, vs, by rw [upd_ne na]; exact g1, g2.1, g2.2.over e⟩
theorem Step.over (s : Step K io1 H1 io H) (n1 : H1 Dd = none) (e : H Dd = some (.lst av)) : Step K io1 H1 io (upd H Dd (.lst ws)) :=
  ⟨s.pre, s.new, fun b o h m t => by rw [upd_ne (fun z => by rw [z, n1] at h; cases h)]; exact s.keep b o h m t, fun b ps h => (by rw [upd_ne (fun z => by rw [z, n1] at h; cases h)]; exact s.tbl b ps h), fun a vs h => tup_over e (s.tup a vs h), fun a vs h => fro_over e (s.fro a vs h)⟩
theorem Keeps.over {as : List Addr} (s : Keeps K as io1 H1 io H) (n1 : Dd ∉ as) (e : H Dd = some (.lst av)) : Keeps K as io1 H1 io (upd H Dd (.lst ws)) :=
  ⟨s.pre, fun a vs h => tup_over e (s.tup a vs h), fun a vs h => fro_over e (s.fro a vs h), fun a m => by rw [upd_ne (fun z => n1 (by rw [← z]; exact m))]; exact s.same a m⟩
theorem Keeps.trans {as : List Addr} {io2 : List Addr} {H2 : Hp} {Hs : Hp} (s : Keeps K as io1 H1 io H) (ap : Apart Hs as io1 H1) (t : Step K io H io2 H2) (hn : ∀ a ∈ as, a ∉ io) : Keeps K as io1 H1 io2 H2 := by
  obtain ⟨l, e⟩ := s.pre
  obtain ⟨l2, e2⟩ := t.pre
  refine ⟨⟨l ++ l2, by rw [e2, e, List.append_assoc]⟩, fun a vs h => t.tup a vs (s.tup a vs h), fun a vs h => t.fro a vs (s.fro a vs h), fun a m => ?_⟩
  obtain ⟨_, _, o, eo, tb⟩ := ap a m
  rw [eo]
  exact t.keep a o (by rw [s.same a m]; exact eo) (hn a m) tb
end
section
variable {X : Cx} {cl : CL} {W : WX} {a b c e o tg elt iter : Expr} {ifs : List Expr} {es : List Expr} {ma mb mc me : ME} {ml : MA} {mo mp mq : MO} {mt : MT} {mi : MI} {pos p p2 : Pos} {scope : Scope} {own : List (Str × Nat)} {g : TgM}
theorem st_yes : PTs X [] (rd RBool X.K cl W tYesM) := ⟨fun pins s sg H Q I ⟨env, h, io, E, hr, p⟩ => pts_nil.run pins s sg H Q I (p.here hr rfl)⟩
theorem st_oneT (h : ST X cl W c mt) : PTs X [c] (rd RBool X.K cl W mt) := pts_one h
theorem lc_read {vs : List Nat} (hsl : ∀ i ∈ g.slots, i ∈ vs) {sg : L2.St} {H : Hp} {Q : VK} (q : rd (RNew X.K) X.K cl W (mLc mi g mt me vs) sg H Q) : tLc (rdI X.K cl W mi) (rdG X.K g) (rd RBool X.K cl WF mt) (rd (RRep X.K) X.K cl WF me) vs sg H Q := by
  obtain ⟨env, h, io, E, hr, p⟩ := q
  exact rdI_mk E hr (p.bind fun t h1 J io1 H1 e1 s1 r1 q1 p1 => by
    obtain ⟨as, G, Y, ap, w, hG, hY⟩ := q1
    intro Dd hD
    have hz : sizeLine = 16777216 := sizeLine_eq
    have E1 := (E.step s1).wipe2 vs
    refine lc_it (g := rdG X.K g) (tt := rd RBool X.K cl WF mt) (te := rd (RRep X.K) X.K cl WF me) w (fun i Hc => ∃ h io acc av, Step X.K io1 H1 io Hc ∧ HRel X.K cl io Hc h ∧ Hc Dd = some (.lst av) ∧ Dd ∉ io ∧ RepL X.K io Hc acc av ∧
      postR (RNew X.K) X.K cl W io1 sg H1 (lcL g mt me t (wipeE env vs) (t.items.drop i) acc h) Q) ⟨h1, io1, [], [], Step.laid hD, r1.laid hD, upd_same, r1.out hD, rfl, p1⟩ ?_ ?_ ?_
    · rintro i Hc hi ⟨h2, io2, acc, av, s2, r2, d2, n2, rl, p2⟩
      refine hG io2 Hc h2 (s2.keeps ap) r2 ?_
      cases q : t.items.drop i with
      | nil =>
        rw [q] at p2
        unfold lcL at p2
        split at p2
        · assumption
        · exact p2.elim
      | cons d ds =>
        rw [q] at p2
        unfold lcL at p2
        split at p2
        · assumption
        · exact p2.elim
    · rintro i x Hc H' hi ⟨h2, io2, acc, av, s2, r2, d2, n2, rl, p2⟩ y
      obtain ⟨d, hd⟩ : ∃ d, t.items[i]? = some d := ⟨t.items[i], List.getElem?_eq_getElem hi⟩
      have ed : t.items.drop i = d :: t.items.drop (i + 1) := by
        rw [List.drop_eq_getElem_cons hi]
        rw [List.getElem?_eq_getElem hi] at hd
        cases hd
        rfl
      rw [ed] at p2
      unfold lcL at p2
      split at p2
      · rename_i hl
        obtain ⟨s3, r3, rd'⟩ := hY i io2 Hc h2 x H' d (s2.keeps ap) r2 hl hd y
        have E3 := (E1.step s2).step s3
        have d3 := s3.keep Dd _ d2 n2 (by intro _ z; cases z)
        cases q2 : g.set d (wipeE env vs) with
        | none => rw [q2] at p2; exact p2.elim
        | some e3 =>
          rw [q2] at p2
          simp only at p2
          refine ⟨d, io2, _, e3, rd', E3, q2, fun sg' E' hw => ⟨by rw [hw _ hsl, wipe_none fun i m => m], ⟨e3, h2, io2, E', r3, p2.calm fun k h4 b io4 H4 s4 r4 q4 p4 => ?_⟩⟩⟩
          cases q4
          have d4 := s4.keep Dd _ d3 n2 (by intro _ z; cases z)
          have n4 := s4.out d3 n2
          cases k with
          | false => exact iteF ⟨h4, io4, acc, av, (s2.trans s3).trans s4, r4, d4, n4, (rl.step s3 _ _).step s4 _ _, p4⟩
          | true =>
            refine iteT ⟨e3, h4, io4, E'.step s4, r4, p4.calm fun y h5 yv io5 H5 s5 r5 q5 p5 => ?_⟩
            have d5 := s5.keep Dd _ d4 n4 (by intro _ z; cases z)
            have n5 := s5.out d4 n4
            have rl5 := ((rl.step s3 _ _).step s4 _ _).step s5 _ _
            have l5 := rl5.length
            split at p5
            · exact ⟨av, d5, by omega, h5, io5, acc ++ [y], av ++ [yv], (((s2.trans s3).trans s4).trans s5).over hD d5, r5.over d5 n5, upd_same, n5, (rl5.append (show RepL X.K io5 H5 [y] [yv] from ⟨yv, [], rfl, q5, rfl⟩)).over d5, p5⟩
            · exact p5.elim
      · exact p2.elim
    · rintro Hc ⟨h2, io2, acc, av, s2, r2, d2, n2, rl, p2⟩
      rw [List.drop_length] at p2
      unfold lcL at p2
      split at p2
      · exact p2 _ io2 Hc s2 r2 ⟨Dd, av, rfl, hD, n2, d2, rl⟩
      · exact p2.elim)
theorem sn_lc (hc : X.calm = true) (hN : X.N.Nodup) (hi : SI X cl W tg iter mi) (ok : BlkOk X.N X.env.scope scope own)
    (hg : ∀ (s : Shared) (H : Hp) (C : Addr) (cl' : List (Str × Addr)) (fp : List Addr), SG (X.blk s H scope (compEnvC scope cl' C X.env) fp) tg g)
    (ht : ∀ (s : Shared) (H : Hp) (C : Addr) (cl' : List (Str × Addr)) (fp : List Addr), PTs (X.blk s H scope (compEnvC scope cl' C X.env) fp) ifs (rd RBool X.K cl WF mt))
    (he : ∀ (s : Shared) (H : Hp) (C : Addr) (cl' : List (Str × Addr)) (fp : List Addr), SE (X.blk s H scope (compEnvC scope cl' C X.env) fp) cl WF elt me)
    (hsl : ∀ i ∈ g.slots, i ∈ own.map (·.2) := by decide) (hs : ∀ x, foldedSetIterable iter X.env x = pure x := by intro _; rfl) : SN X cl W (.ListComp elt [⟨tg, iter, ifs, 0⟩] scope pos) (mLc mi g mt me (own.map (·.2))) :=
  (pe_lc (g := rdG X.K g) (wi := rdI X.K cl W mi) (tt := rd RBool X.K cl WF mt) (te := rd (RRep X.K) X.K cl WF me) hc hN hi ok hg ht he hs).imp fun sg H Q q => lc_read hsl q
end
end Gb

namespace Gb
open PySem PySem.Spec PyProof.Rows L2

section
variable {K : PySem.W.Frag} {cl : CL} {io l : List Addr} {H : Hp} {h : PHeap}
mutual
theorem Rep.small : ∀ (d : D) (v : V), d.small io.length = true → Rep K (io ++ l) H d v → Rep K io H d v
  | .non, _, _, h => h
  | .bl _, _, _, h => h
  | .int _, _, _, h => h
  | .str _, _, _, h => h
  | .ref n, _, s, ⟨a, h, e⟩ => ⟨a, by
      have s' : n < io.length := of_decide_eq_true s
      rw [List.getElem?_append_left s'] at h; exact h, e⟩
  | .tup xs, _, s, ⟨a, vs, e, h, r⟩ => ⟨a, vs, e, h, RepL.small xs vs s r⟩
  | .fro xs, _, s, ⟨a, vs, e, h, r⟩ => ⟨a, vs, e, h, RepL.small xs vs s r⟩
  | .lst _, _, _, r => r
  | .dct _ _, _, _, r => r
  | .gl _, _, _, r => r
  | .map xs, _, s, ⟨a, o, ys, e, h, k, r⟩ => ⟨a, o, ys, e, h, k, RepI.small xs _ s r⟩
theorem RepL.small : ∀ (ds : List D) (vs : List V), D.smallL io.length ds = true → RepL K (io ++ l) H ds vs → RepL K io H ds vs
  | [], _, _, h => h
  | d :: ds, _, s, ⟨v, r, e, h, t⟩ => by
    simp only [D.smallL, Bool.and_eq_true] at s
    exact ⟨v, r, e, Rep.small d v s.1 h, RepL.small ds r s.2 t⟩
theorem RepI.small : ∀ (ds : List D) (vs : List (List V)), D.smallL io.length ds = true → RepI K (io ++ l) H ds vs → RepI K io H ds vs
  | [], _, _, h => h
  | .tup ds :: xs, _, s, ⟨v, r, e, h, t⟩ => by
    simp only [D.smallL, D.small, Bool.and_eq_true] at s
    exact ⟨v, r, e, RepL.small ds v s.1 h, RepI.small xs r s.2 t⟩
  | .non :: _, _, _, ⟨_, _, _, h, _⟩ => h.elim
  | .bl _ :: _, _, _, ⟨_, _, _, h, _⟩ => h.elim
  | .int _ :: _, _, _, ⟨_, _, _, h, _⟩ => h.elim
  | .str _ :: _, _, _, ⟨_, _, _, h, _⟩ => h.elim
  | .ref _ :: _, _, _, ⟨_, _, _, h, _⟩ => h.elim
  | .fro _ :: _, _, _, ⟨_, _, _, h, _⟩ => h.elim
  | .lst _ :: _, _, _, ⟨_, _, _, h, _⟩ => h.elim
  | .dct _ _ :: _, _, _, ⟨_, _, _, h, _⟩ => h.elim
  | .gl _ :: _, _, _, ⟨_, _, _, h, _⟩ => h.elim
  | .map _ :: _, _, _, ⟨_, _, _, h, _⟩ => h.elim
end
theorem smallL_map {n : Nat} : ∀ {fs : List (Str × D)}, (fs.all fun p => p.2.small n) = true → D.smallL n (fs.map (·.2)) = true
  | [], _ => rfl
  | p :: fs, s => by
    simp only [List.all_cons, Bool.and_eq_true] at s
    simp only [List.map_cons, D.smallL, s.1, smallL_map s.2, Bool.and_self]
theorem CellRep.small {a : Addr} {c : Cell} (s : c.small io.length = true) (r : CellRep K cl (io ++ l) H a c) : CellRep K cl io H a c := by
  cases c with
  | lst xs => obtain ⟨vs, h1, h2⟩ := r; exact ⟨vs, h1, RepL.small xs vs s h2⟩
  | map xs => obtain ⟨o, ys, h1, h2, h3⟩ := r; exact ⟨o, ys, h1, h2, RepI.small xs _ s h3⟩
  | dead => exact r
  | kst ks => exact r
  | dks ks xs => obtain ⟨vs, h1, h2⟩ := r; exact ⟨vs, h1, RepL.small xs vs s h2⟩
  | ins c fs => obtain ⟨dx, vs, h1, h2⟩ := r; exact ⟨dx, vs, h1, h2.1, RepL.small _ _ (smallL_map s) h2.2⟩
theorem gc_rep {io0 io1 : List Addr} {H0 H1 : Hp} {h1 : PHeap} {d : D} {v : V} (h0 : io0.length = h.length) (s : Step K io0 H0 io1 H1) (hr : HRel K cl io1 H1 h1) (r : Rep K io1 H1 d v) :
    ∃ io2, Step K io0 H0 io2 H1 ∧ HRel K cl io2 H1 (gc h.length d h1) ∧ Rep K io2 H1 d v := by
  unfold gc
  split
  · exact ⟨io1, s, hr, r⟩
  · rename_i hl
    split
    · rename_i hc
      simp only [Bool.and_eq_true] at hc
      obtain ⟨l, e⟩ := s.pre
      subst e
      refine ⟨io0, ⟨⟨[], by simp⟩, fun b m n => absurd m n, fun b o e n t => ?_, s.tbl, s.tup, s.fro⟩, ⟨?_, ?_, hr.tab, hr.only, fun n a c g1 g2 => ?_⟩, Rep.small d v (by rw [h0]; exact hc.1) r⟩
      · by_cases m : b ∈ io0 ++ l
        · rw [s.new b m n] at e; cases e
        · exact s.keep b o e n t
      · rw [List.length_take, h0]; omega
      · exact (List.nodup_append.mp hr.nd).1
      · have hn : n < io0.length := (List.getElem?_eq_some_iff.mp g1).1
        have hn2 : n < h.length := by rw [← h0]; exact hn
        rw [List.getElem?_take, if_pos hn2] at g2
        refine CellRep.small ?_ (hr.cell n a c (by rw [List.getElem?_append_left hn]; exact g1) g2)
        have m : c ∈ h1.take h.length := by
          refine List.mem_of_getElem? (i := n) ?_
          rw [List.getElem?_take, if_pos hn2]; exact g2
        rw [h0]
        exact List.all_eq_true.mp hc.2 c m
    · exact ⟨io1, s, hr, r⟩
end
def spOf (K : PySem.W.Frag) (cl : CL) (f : List D → PHeap → Res D) : Sp := fun vs H Q E => ∃ ds h io, RepL K io H ds vs ∧ HRel K cl io H h ∧ postR (RRep K) K cl (fun c d _ H => E c d H) io [] H (f ds h) Q
section
variable {P : Program} {w : World} {K : PySem.W.Frag} {mg : Str → Option Value} {base : Heap} {cl : CL}
theorem env_start {io : List Addr} {H : Hp} {ds : List D} {vs : List V} (N : List Str) (r : RepL K io H ds vs) : ERel K io H (L2.start N vs) (ds.map some ++ List.replicate (N.length - ds.length) none) := by
  have hl := r.length
  refine ⟨by simp [L2.start, hl], fun i d e => ?_⟩
  by_cases hi : i < ds.length
  · rw [List.getElem?_append_left (by simpa using hi), List.getElem?_map] at e
    cases q : ds[i]? with
    | none => rw [q] at e; cases e
    | some x =>
      rw [q] at e
      cases e
      obtain ⟨v, h1, h2⟩ := r.get q
      refine ⟨v, ?_, h2⟩
      unfold L2.start
      rw [List.getElem?_append_left (by simpa [← hl] using hi), List.getElem?_map, h1]
      rfl
  · rw [List.getElem?_append_right (by simpa using hi)] at e
    have := List.mem_of_getElem? e
    simp at this
end
section
variable {X : Cx} {cl : CL} {W : WX} {k : Nat} {f : Addr} {fd : FuncData} {ps : List Str} {g : List D → PHeap → Res D} {x : Str} {p pos : Pos} {e : Expr} {es : List Expr} {ml : MA}
theorem sp_use {sg : L2.St} {io : List Addr} {H : Hp} {Q : VK} {ds : List D} {vs : List V} {h : PHeap} (r : RepL X.K io H ds vs) (hr : HRel X.K cl io H h) (p : postR (RRep X.K) X.K cl W io sg H (g ds h) Q) : spOf X.K cl g vs H Q (WE W sg) := by
  refine ⟨ds, h, io, r, hr, ?_⟩
  cases q : g ds h with
  | ok d h1 => rw [q] at p; exact p
  | exc e h1 => rw [q] at p; exact p
  | stuck => rw [q] at p; exact p
end
theorem walk {l : PySem.W.OpenLaw} {q : Program} {loose : List Str} {XP : (Str → Option Value) → Heap → Prop} {YP : World → Heap → Prop} {d : DefRec} {K : Params → PySem.W.Frag} {x : Str} {kk : Nat} {cl : CL} {g : List D → PHeap → Res D} (hn : l.most = some 63) (hdf : d.params.defaults = []) (hr : Room kk callerA)
    (hY : ∀ (w : World) (h : Heap), YP w h → (K w.params).In h)
    (F : ∀ (w : World) (mg : Str → Option Value) (fa : Addr) (h : Heap), (K w.params).In h → h.Ns mainGlobals mg → mg d.name = some (.ref fa) →
      ∃ fd : FuncData, (∀ (s : Shared) (u : Value), BindsTo s fd ⟨[u], []⟩ [(x, u)]) ∧ ∀ base : Heap, (K w.params).In base → base.Ns mainGlobals mg → FnOk l.prog w (K w.params) mg base (L2.CX l.prog w) kk fa fd [x] (spOf (K w.params) cl g))
    (hT : cl.T = []) (hlaw : ∀ ns : List Int, ns.length ≤ 63 → ∃ h, g [.fro (ns.map .int)] [] = .ok (.bl true) h) :
    PySem.W.WalkO q loose XP YP l.row.toRowW d [] (fun f vs => PySem.call f vs) :=
  L2.walk_of (n := 63) (k := kk) (x := x) (CX := fun w => L2.CX l.prog w) (sp := fun w => spOf (K w.params) cl g) hn (by decide) hdf hr hY F (fun w H a ns hl hO hS => by
    obtain ⟨h, e⟩ := hlaw ns hl
    refine ⟨[.fro (ns.map .int)], [], [], ⟨_, [], rfl, ⟨a, ns.map V.int, rfl, ?_, ?_⟩, rfl⟩, ⟨rfl, List.nodup_nil, (by intro p hp; rw [hT] at hp; cases hp), (by
      intro b ps z
      rcases hO b with y | ⟨o, xs, y⟩
      · rw [z] at y; cases y
      · rw [z] at y; cases y), fun n a c h1 _ => by simp at h1⟩, ?_⟩
    · rcases hS with (hS | hS) | hS
      · rcases hO a with z | ⟨o, xs, z⟩
        · rw [hS] at z; cases z
        · rw [hS] at z; cases z
      · exact .inl hS
      · exact .inr hS
    · have : ∀ ns : List Int, RepL (K w.params) [] H (ns.map D.int) (ns.map V.int) := fun ns => by
        induction ns with
        | nil => rfl
        | cons n ns ih => exact ⟨_, _, rfl, rfl, ih⟩
      exact this ns
    · rw [e]
      exact fun v io' H' s r q => q) fun w H s e s' z => by
    obtain ⟨_, _, _, _, _, _, _, _, _, _, _, _, z⟩ := z
    exact z
end Gb

namespace Gb
open PySem PySem.Spec PyProof.Rows L2
theorem hu65 {k : Nat} {A : Around} (r : Room k A) : A.units + 65 < cLine := by have := r.un; omega
section
variable {X : Cx} {cl : CL} {W : WX} {a b c e : Expr} {ma mb mc : ME} {ml : MA} {mo mp : MO} {pos p p2 : Pos}
theorem sd_sub (ha : SE X cl W a ma) (hb : SE X cl W b mb) : SE X cl W (.BinOp a .Sub b pos) (mBin fSub ma mb) := sd_op op_sub o2_sub ha hb
theorem sd_div (ha : SE X cl W a ma) (hb : SE X cl W b mb) : SE X cl W (.BinOp a .FloorDiv b pos) (mBin fDiv ma mb) := sd_op op_fdivN o2_div ha hb
theorem sd_mod (ha : SE X cl W a ma) (hb : SE X cl W b mb) : SE X cl W (.BinOp a .Mod b pos) (mBin fMod ma mb) := sd_op op_modN o2_mod ha hb
theorem sd_pow (ha : SE X cl W a ma) (hb : SE X cl W b mb) : SE X cl W (.BinOp a .Pow b pos) (mBin fPow ma mb) := sd_op op_pow o2_pow ha hb
theorem sd_neg (ha : SE X cl W a ma) : SE X cl W (.UnaryOp .USub a pos) (mUn fNeg ma) := sd_un un_neg o1_neg ha
theorem sd_eq (hu : X.A.units + 65 < cLine) (ha : SO X cl W a mo) (hb : SO X cl W b mp) : SE X cl W (.Compare a [.Eq] [b] pos) (m2 (fEqO id) mo mp) := so_cmp (op_eqP hu) ov_eq ha hb (nomark _)
theorem st_eq (hu : X.A.units + 65 < cLine) (ha : SO X cl W a mo) (hb : SO X cl W b mp) : ST X cl W (.Compare a [.Eq] [b] pos) (mTB (m2 (fEqO id) mo mp)) := st_cmpO (op_eqP hu) ov_eq ha hb (nomark _)
theorem st_ne (hu : X.A.units + 65 < cLine) (ha : SO X cl W a mo) (hb : SO X cl W b mp) : ST X cl W (.Compare a [.NotEq] [b] pos) (mTB (m2 (fEqO not) mo mp)) := st_cmpO (op_neP hu) ov_eq ha hb (nomark _)
theorem st_in (hu : X.A.units + 65 < cLine) (ha : SO X cl W a mo) (hb : SO X cl W b mp) (hm : behindInMarks .In b = false := by rfl) : ST X cl W (.Compare a [.In] [b] pos) (mTB (m2 (fInO id) mo mp)) := st_cmpO (op_inP hu) ov_in ha hb hm
theorem st_notin (hu : X.A.units + 65 < cLine) (ha : SO X cl W a mo) (hb : SO X cl W b mp) (hm : behindInMarks .NotIn b = false := by rfl) : ST X cl W (.Compare a [.NotIn] [b] pos) (mTB (m2 (fInO not) mo mp)) := st_cmpO (op_notinP hu) ov_in ha hb hm
theorem sd_le (ha : SE X cl W a ma) (hb : SE X cl W b mb) : SE X cl W (.Compare a [.LtE] [b] pos) (mBin fLe ma mb) := sd_cmp op_le o2_cmpI ha hb (nomark _)
theorem sd_gt (ha : SE X cl W a ma) (hb : SE X cl W b mb) : SE X cl W (.Compare a [.Gt] [b] pos) (mBin fGt ma mb) := sd_cmp op_gt o2_cmpI ha hb (nomark _)
theorem st_lt (ha : SE X cl W a ma) (hb : SE X cl W b mb) : ST X cl W (.Compare a [.Lt] [b] pos) (mTB (mBin fLt ma mb)) := st_cmp op_lt o2_cmpI ha hb (nomark _)
theorem st_ge (ha : SE X cl W a ma) (hb : SE X cl W b mb) : ST X cl W (.Compare a [.GtE] [b] pos) (mTB (mBin fGe ma mb)) := st_cmp op_ge o2_cmpI ha hb (nomark _)
theorem st_is (ha : SE X cl W a ma) (hb : SE X cl W b mb) : ST X cl W (.Compare a [.Is] [b] pos) (mTB (mBin fIs ma mb)) := st_cmp op_isM o2_is ha hb (nomark _)
theorem st_isnot (ha : SE X cl W a ma) (hb : SE X cl W b mb) : ST X cl W (.Compare a [.IsNot] [b] pos) (mTB (mBin fIsNot ma mb)) := st_cmp op_isnotM o2_isnot ha hb (nomark _)
theorem sd_lele (ha : SE X cl W a ma) (hb : SE X cl W b mb) (hc : SE X cl W c mc) : SE X cl W (.Compare a [.LtE, .LtE] [b, c] pos) (mChain fLe fLe ma mb mc) := sd_chain op_le op_le o2_cmpI o2_cmpI ha hb hc (nomark c)
theorem st_lele (ha : SE X cl W a ma) (hb : SE X cl W b mb) (hc : SE X cl W c mc) : ST X cl W (.Compare a [.LtE, .LtE] [b, c] pos) (mTB (mChain fLe fLe ma mb mc)) := st_chain op_le op_le o2_cmpI o2_cmpI ha hb hc (nomark c)
end
end Gb

namespace Gb
open PySem PySem.Spec PyProof.Rows L2
structure FnG (P : Program) (w : World) (K : PySem.W.Frag) (mg : Str → Option Value) (base : Heap) (k : Nat) (f : Addr) (fd : FuncData) (ps : List Str) (sp : Sp) : Prop where
  len : ∀ vs H Q E, sp vs H Q E → vs.length = ps.length
  run : ∀ (A : Around) (outer : List Env) (s : Shared) (H : Hp) (args : Args) (us : List Value) (vs : List V) (Q : VK) (E : XK), Room k A → A.guards = some [] → Env0 P w K mg base A outer s H → BindsTo s fd args (ps.zip us) → Vals vs us → sp vs H Q E →
    codeAny (model P w) A (.call (.ref f) args) (CR (L2.CX P w) outer P w H s Q E) s
theorem FnG.mono {P : Program} {w : World} {K : PySem.W.Frag} {mg : Str → Option Value} {base : Heap} {j k : Nat} {f : Addr} {fd : FuncData} {ps : List Str} {sp : Sp} (F : FnG P w K mg base j f fd ps sp) (h : j ≤ k) : FnG P w K mg base k f fd ps sp :=
  ⟨F.len, fun A outer s H args us vs Q E hr => F.run A outer s H args us vs Q E (hr.mono h)⟩
theorem guards_deeper {A : Around} {env : Env} (h : A.guards = some []) : (A.deeper env).guards = some [] := by
  first
    | exact h
    | (show pushGuards _ A.guards = _; rw [h]; rfl)
    | simp [Around.deeper, Around.under, pushGuards, h, Code.guards, Code.isGuard]
section
variable {P : Program} {w : World} {K : PySem.W.Frag} {mg : Str → Option Value} {base : Heap} {cl : CL}
theorem fng_of {x qual : Str} {st : Stmt} {f : Addr} {fd : FuncData} {N ps : List Str} {k : Nat} {sp : Sp} (F : Fun K x qual st f fd) (S : FnScope N ps (defScope st)) (len : ∀ vs H Q E, sp vs H Q E → vs.length = ps.length)
    (hbody : ∀ (cdv : Value) (A : Around) (outer : List Env) (s : Shared) (H : Hp) (vs : List V) (Q : VK) (E : XK), Room k (A.deeper (envOfC qual (defScope st) s.heap.objs.size f cdv)) → A.guards = some [] → sp vs H Q E →
      ∃ t, PSs (cxOf (L2.CX P w) P w K mg base N qual (defScope st) f cdv A outer s H E) (defBody st) t ∧ t { nx := fun _ H' => Q .non H', rt := Q } (L2.start N vs) H) : FnG P w K mg base (k + 1) f fd ps sp := by
  obtain ⟨oc, od, kV, doc, pm, an, cdv, ct, osl, rfl, lk, hcd⟩ := F.ex
  refine ⟨len, fun A outer s H args us vs Q E hr hg e0 hb r hsp => ?_⟩
  have kp := fun b o e => (e0.bs b o e).1
  have KX : K.In s.heap := e0.mod.kin.keeps kp
  have lim : s.heap.NoLimit := e0.mod.nolimit.keeps kp
  have kinds : ∀ y ∈ ps.zip us, (defScope st).names.lookup y.1 = some .local ∨ ((defScope st).names.lookup y.1 = some .cell ∧ ((cellsFrom (s.heap.objs.size + 1) (defScope st).names []).lookup y.1).isSome = true) := fun y hy =>
    (S.par y.1 (List.of_mem_zip hy).1).imp id fun q => ⟨q, PySem.W.cellsFrom_some _ _ _ (.inl q)⟩
  refine codeAny_call_function hr.depth (KX _ _ lk) rfl S.co S.gen rfl (PySem.W.codeRec_of KX hcd) (hb _ _ _ _ (wpAny_newFunctionEnv_cells S.kind kinds fun env he s1 x => ?_))
  subst he
  obtain ⟨t, ht, hq⟩ := hbody cdv A outer s H vs Q E (hr.deeper _) hg hsp
  refine ⟨lim.keeps x.toInCall.keep, codeAny_func (wpAny_mono (ht.run [] s1 (L2.start N vs) H _ (inv_start S hr.hd e0 (len _ _ _ _ hsp) r x) hq) (fun fl s' hs => ?_) fun _ _ z => z)⟩
  cases fl with
  | ret u => obtain ⟨v, σ', H', J, rv, q⟩ := hs; exact ⟨v, H', J.os, J.bare, J.base, J.hok, rv, q⟩
  | next => obtain ⟨σ', H', J, q⟩ := hs; exact ⟨.non, H', J.os, J.bare, J.base, J.hok, rfl, q⟩
  | brk => obtain ⟨_, _, _, q⟩ := hs; exact q.elim
  | cont => obtain ⟨_, _, _, q⟩ := hs; exact q.elim
theorem fng_ok {x qual : Str} {st : Stmt} {f : Addr} {fd : FuncData} {N ps : List Str} {k np ns : Nat} {m : MS} (F : Fun K x qual st f fd) (S : FnScope N ps (defScope st)) (hN : N.length = ns) (hps : ps.length = np)
    (hb : ∀ (cdv : Value) (A : Around) (outer : List Env) (s : Shared) (H : Hp) (E : XK), Room k (A.deeper (envOfC qual (defScope st) s.heap.objs.size f cdv)) → (A.deeper (envOfC qual (defScope st) s.heap.objs.size f cdv)).guards = some [] →
      Takes (cxOf (L2.CX P w) P w K mg base N qual (defScope st) f cdv A outer s H E) (fun c d _ H => E c d H) →
      SB (cxOf (L2.CX P w) P w K mg base N qual (defScope st) f cdv A outer s H E) cl (fun c d _ H => E c d H) (defBody st) m) : FnG P w K mg base (k + 1) f fd ps (spOf K cl (runFn np ns m)) := by
  refine fng_of F S (fun vs H Q E h => ?_) (fun cdv A outer s H vs Q E hr hg h => ⟨_, hb cdv A outer s H E hr (guards_deeper hg) (takes_of rfl rfl rfl rfl), ?_⟩)
  · obtain ⟨ds, h, io, r, hr, p⟩ := h
    unfold runFn at p
    split at p
    · rename_i hl; rw [← r.length, hl, hps]
    · exact p.elim
  · obtain ⟨ds, h, io, r, hr, p⟩ := h
    unfold runFn at p
    split at p
    · rename_i hl
      have E0 := env_start N r
      rw [hN, hl] at E0
      refine rdS_mk E0 hr ?_
      cases q : m (ds.map some ++ List.replicate (ns - np) none) h with
      | nx e h1 =>
        rw [q] at p
        intro io' sg' H' s' E' r'
        obtain ⟨io2, g1, g2, g3⟩ := gc_rep (d := .non) (v := .non) hr.len s' r' rfl
        exact p _ io2 H' g1 g2 g3
      | rt d h1 =>
        rw [q] at p
        intro v io' H' s' r' rd
        obtain ⟨io2, g1, g2, g3⟩ := gc_rep hr.len s' r' rd
        exact p _ io2 H' g1 g2 g3
      | exc e e2 h1 => rw [q] at p; exact fun cls dd io' sg' H' s' E' r' x => p cls dd io' H' s' r' x
      | bk e h1 => rw [q] at p; exact p.elim
      | ct e h1 => rw [q] at p; exact p.elim
      | stuck => rw [q] at p; exact p.elim
    · exact p.elim
end
section
variable {X : Cx} {cl : CL} {W : WX} {k : Nat} {f : Addr} {fd : FuncData} {ps : List Str} {g : List D → PHeap → Res D} {x : Str} {p pos : Pos} {e : Expr} {es : List Expr} {ml : MA}
theorem sd_callG (F : FnG X.prog X.w X.K X.mg X.base k f fd ps (spOf X.K cl g)) (hr : Room k X.A) (hgd : X.A.guards = some []) (hm : X.mg x = some (.ref f)) (hk : PySem.W.keepIn X.K (.ref f) = true) (hb : Binds X.K fd ps []) (tk : Takes X W) (ha : SA X cl W (e :: es) ml)
    (hg : Gl X x := by rfl) (hdb : (x == ("__debug__" : Str)) = false := by decide) (he : starEach (e :: es) X.env = (false, eval e X.env) :: starEach es X.env := by rfl) (hpl : (backTo pos (starEach es X.env)).any (·.1) = false := by rfl) : SE X cl W (.Call (.Name x p) (e :: es) [] pos) (mCall g ml) := by
  refine PE.imp (t := tCallS (spOf X.K cl g) (WE W) (rd (RRepL X.K) X.K cl W ml)) ⟨fun pins s σ H Q I h => ?_⟩ fun sg H Q ⟨env, h, io, E, hr, p⟩ => rd_mk E hr (p.bind fun ds h1 vs io1 H1 e1 s1 r1 q1 p1 => sp_use q1 r1 p1)
  refine wpAny_Call_Name_kw (ld_glob I hg hm ?_ hdb)
  refine PySem.W.callWith_K (h₀ := X.base) I.ok.mod.kin hk (thn (ha.run pos pins s σ H _ I h) fun us s1 ⟨vs, H1, I1, r, q⟩ => ⟨I1.kIn, ?_⟩) he hpl
  have bd := hb s1 us I1.kIn (by rw [List.append_nil, ← r.length]; exact F.len _ _ _ _ q)
  rw [List.append_nil] at bd
  refine wpAny_call (codeAny_mono (F.run X.A X.stack s1 H1 ⟨us, []⟩ us vs Q (WE W σ) hr hgd I1.env0 bd r q) fun r' s' hq => ?_)
  cases r' with
  | error e => exact passAt tk σ pins H1 s1 e s' I1 hq
  | ok fl => cases fl with
    | ret u => exact I1.after hq
    | next => exact False.elim hq
    | brk => exact False.elim hq
    | cont => exact False.elim hq
end
section
variable {X : Cx} {cl : CL} {W : WX} {a e : Expr} {mo : MO} {p pos : Pos}
def fRepr : LV → PHeap → Res D := fun x h => match x.seq h with
  | some _ => match x.py h with
    | some d => if (d.showable && !d.hasDict) = true ∧ d.shown.length ≤ 16777216 then .ok (.str d.shown) h else .stuck
    | none => .stuck
  | none => .stuck
def rReprD (K : PySem.W.Frag) : List V → Hp → VK → Prop := fun xs H Q => ∃ a d, xs = [.ref a] ∧ Dp K H (.ref a) d ∧ d.showable = true ∧ d.hasDict = false ∧ d.shown.length ≤ sizeLine ∧ d.depth ≤ 61 ∧ Q (.str d.shown) H
theorem call_reprD (hgd : X.A.guards = some []) (hu : X.A.units + 65 < cLine) : CallR X (.builtin "repr") (rReprD X.K) := by
  intro pins s σ H xs us Q I r h
  obtain ⟨a, d, rfl, hd, hs, hn, hz, hdep, q⟩ := h
  obtain ⟨u, rfl, rx⟩ := vals1 r
  cases rx
  obtain ⟨as, r1⟩ := Dp.reads I d _ _ hd rfl
  exact PySem.repr_of_reads' r1 hs (fun z => by rw [hn] at z; cases z) hgd (by omega) (fun _ _ e => e) (fun h' u tk kp => ⟨.str d.shown, H, I.kept (t' := tk) kp, ⟨u, rfl⟩, q⟩) hz
theorem con_repr : Con1 (β := V) (RRep X.K) X.K cl (rReprD X.K) fRepr := by
  intro W io sg H h x v Q hr r p
  have hz : sizeLine = 16777216 := sizeLine_eq
  unfold fRepr at p
  split at p
  · rename_i xs e
    split at p
    · rename_i d e2
      split at p
      · rename_i c
        obtain ⟨a, vs, rfl, _⟩ := r.seq hr e
        obtain ⟨h1, h2, h3⟩ := r.py hr e2
        simp only [Bool.and_eq_true, Bool.not_eq_true'] at c
        exact ⟨a, d, rfl, h1, c.1.1, c.1.2, by omega, h3, p.here hr rfl⟩
      · exact p.elim
    · exact p.elim
  · exact p.elim
end
end Gb

namespace Gb
open PySem PySem.Spec PyProof.Rows L2
theorem sp_end {K : PySem.W.Frag} {cl : CL} {g : List D → PHeap → Res D} {H : Hp} {a : Addr} {ns : List Int} (hf : FroL K H a (ns.map V.int)) (hT : LamX.Tabs cl.T H) (hO : ∀ b ps, H b = some (.tbl ps) → ∃ q, (b, q) ∈ cl.T) (hl : ∃ h, g [.fro (ns.map .int)] [] = .ok (.bl true) h) : spOf K cl g [.ref a] H (fun v _ => v = .bl true) fun _ _ _ => False := by
  obtain ⟨h, e⟩ := hl
  have allInts : ∀ ns : List Int, RepL K [] H (ns.map D.int) (ns.map V.int) := fun ns => by
    induction ns with
    | nil => rfl
    | cons n ns ih => exact ⟨_, _, rfl, rfl, ih⟩
  refine ⟨[.fro (ns.map .int)], [], [], ⟨_, [], rfl, ⟨a, ns.map V.int, rfl, hf, allInts ns⟩, rfl⟩, ⟨rfl, List.nodup_nil, hT, hO, fun n a c h1 _ => by simp at h1⟩, ?_⟩
  rw [e]
  exact fun v io' H' s r q => q
end Gb

namespace Gb
open PySem L2
section
variable {α β : Type} {env : PEnv} {h : PHeap} {a b c : ME} {t u : MT} {r : MA} {mo mp mq : MO} {s s2 : MS} {d x y : D}
@[simp] theorem s_var0 : mVar 0 (some d :: env) h = .ok d h := rfl
@[simp] theorem s_varS {i : Nat} {o : Option D} : mVar (i + 1) (o :: env) h = mVar i env h := by simp [mVar]
@[simp] theorem s_c : mC d env h = .ok d h := rfl
@[simp] theorem s_bin {f : D → D → PHeap → Res D} : mBin f a b env h = (a env h).bind fun x h1 => (b env h1).bind fun y h2 => f x y h2 := rfl
@[simp] theorem s_un {f : D → PHeap → Res D} : mUn f a env h = (a env h).bind f := rfl
def pick {α : Type} (k : Bool) (x y : α) : α := match k with
  | true => x
  | false => y
@[simp] theorem pick_t {x y : α} : pick true x y = x := rfl
@[simp] theorem pick_f {x y : α} : pick false x y = y := rfl
@[simp] theorem pick_dec {p : Prop} [Decidable p] {x y : α} : pick (decide p) x y = if p then x else y := by by_cases h : p <;> simp [h]
@[simp] theorem s_if : mIf t a b env h = (t env h).bind fun k h1 => pick k (a env h1) (b env h1) := rfl
@[simp] theorem s_nil : mNil env h = .ok [] h := rfl
@[simp] theorem s_cons : mCons a r env h = (a env h).bind fun x h1 => (r env h1).bind fun xs h2 => .ok (x :: xs) h2 := rfl
@[simp] theorem s_tup : mTup r env h = (r env h).bind fun xs h1 => if xs.length ≤ 16777216 then .ok (.tup xs) h1 else .stuck := rfl
@[simp] theorem s_call {f : List D → PHeap → Res D} : mCall f r env h = (r env h).bind f := rfl
@[simp] theorem s_tst {f : D → PHeap → Res Bool} : mTst a f env h = (a env h).bind f := rfl
def tbD (d : D) (h : PHeap) : Res Bool := match d with
  | .bl b => .ok b h
  | _ => .stuck
@[simp] theorem s_tbD {k : Bool} : tbD (.bl k) h = .ok k h := rfl
@[simp] theorem s_tb : mTB a env h = (a env h).bind tbD := rfl
@[simp] theorem s_not : tNotM t env h = (t env h).bind fun k h1 => .ok (!k) h1 := rfl
@[simp] theorem s_and : tAndM t u env h = (t env h).bind fun k h1 => pick k (u env h1) (.ok false h1) := rfl
@[simp] theorem s_or : tOrM t u env h = (t env h).bind fun k h1 => pick k (.ok true h1) (u env h1) := rfl
@[simp] theorem tr_bl {k : Bool} : truthD (.bl k) h = .ok k h := rfl
@[simp] theorem tr_int {i : Int} : truthD (.int i) h = .ok (i != 0) h := rfl
@[simp] theorem tr_non : truthD .non h = .ok false h := rfl
@[simp] theorem tr_tup {xs : List D} : truthD (.tup xs) h = .ok (!xs.isEmpty) h := rfl
@[simp] theorem s_mand : mAnd a b env h = (a env h).bind fun d h1 => (truthD d h1).bind fun k h2 => pick k (b env h2) (.ok d h2) := rfl
@[simp] theorem s_mnot : mNot a env h = (a env h).bind fun d h1 => (truthD d h1).bind fun k h2 => .ok (.bl (!k)) h2 := rfl
@[simp] theorem s_chain {f g : D → D → PHeap → Res D} : mChain f g a b c env h = (a env h).bind fun x h1 => (b env h1).bind fun y h2 => (f x y h2).bind fun z h3 => (tbD z h3).bind fun k h4 => pick k ((c env h4).bind fun w h5 => g y w h5) (.ok (.bl false) h4) := by
  unfold mChain
  congr 1
  funext x h1
  congr 1
  funext y h2
  congr 1
  funext z h3
  cases z with
  | bl k => cases k <;> rfl
  | _ => rfl
@[simp] theorem s_val : mVal a env h = (a env h).bind fun d h1 => .ok (.val d) h1 := rfl
@[simp] theorem s_nl : mNL r env h = (r env h).bind fun xs h1 => .ok (.new xs) h1 := rfl
@[simp] theorem s_disp : mDisp r env h = (r env h).bind fun xs h1 => if xs.length ≤ 16777216 then .ok xs h1 else .stuck := rfl
@[simp] theorem s_m1 {f : LV → PHeap → Res α} : m1 f mo env h = (mo env h).bind f := rfl
@[simp] theorem s_m2 {f : LV → LV → PHeap → Res α} : m2 f mo mp env h = (mo env h).bind fun x h1 => (mp env h1).bind fun y h2 => f x y h2 := rfl
def matD (v : LV) (h : PHeap) : Res D := match v with
  | .val d => .ok d h
  | .new xs => .ok (.ref h.length) (h ++ [.lst xs])
@[simp] theorem matD_val : matD (.val d) h = .ok d h := rfl
@[simp] theorem matD_new {xs : List D} : matD (.new xs) h = .ok (.ref h.length) (h ++ [.lst xs]) := rfl
@[simp] theorem s_m : mM mo env h = (mo env h).bind matD := rfl
@[simp] theorem it_new {xs : List D} : (LV.new xs).items h = some xs := rfl
@[simp] theorem it_fro {xs : List D} : (LV.val (.fro xs)).items h = some xs := rfl
@[simp] theorem sq_new {xs : List D} : (LV.new xs).seq h = some xs := rfl
@[simp] theorem sq_fro {xs : List D} : (LV.val (.fro xs)).seq h = some xs := rfl
@[simp] theorem sq_tup {xs : List D} : (LV.val (.tup xs)).seq h = some xs := rfl
@[simp] theorem sq_int {i : Int} : (LV.val (.int i)).seq h = none := rfl
@[simp] theorem sq_bl {i : Bool} : (LV.val (.bl i)).seq h = none := rfl
@[simp] theorem sq_non : (LV.val .non).seq h = none := rfl
@[simp] theorem sq_str {z : Str} : (LV.val (.str z)).seq h = none := rfl
theorem sq_ref {n : Nat} {xs : List D} (e : h[n]? = some (.lst xs)) : (LV.val (.ref n)).seq h = some xs := by simp [LV.seq, LV.items, e]
theorem it_ref {n : Nat} {xs : List D} (e : h[n]? = some (.lst xs)) : (LV.val (.ref n)).items h = some xs := by simp [LV.items, e]
@[simp] theorem ow_new {xs : List D} : (LV.new xs).own h = some xs := rfl
@[simp] theorem ow_int {i : Int} : (LV.val (.int i)).own h = none := rfl
@[simp] theorem ow_tup {i : List D} : (LV.val (.tup i)).own h = none := rfl
@[simp] theorem ow_str {i : Str} : (LV.val (.str i)).own h = none := rfl
theorem ow_ref {n : Nat} {xs : List D} (e : h[n]? = some (.lst xs)) : (LV.val (.ref n)).own h = some xs := by simp [LV.own, e]
@[simp] theorem f_add {i j : Int} : fAddO (.val (.int i)) (.val (.int j)) h = .ok (.val (.int (i + j))) h := rfl
@[simp] theorem f_addT {i j : List D} : fAddO (.val (.tup i)) (.val (.tup j)) h = if i.length + j.length ≤ 16777216 then .ok (.val (.tup (i ++ j))) h else .stuck := by
  simp only [fAddO, ow_tup, fAdd, Res.val]
  split <;> rfl
@[simp] theorem f_mul {i j : Int} : fMulO (.val (.int i)) (.val (.int j)) h = if small64 i || small64 j then .ok (.val (.int (i * j))) h else .stuck := by
  simp only [fMulO, ow_int, fMul, Res.val]
  split <;> rfl
@[simp] theorem f_mulT {i : List D} {k : Int} : fMulO (.val (.tup i)) (.val (.int k)) h = if -1000 ≤ k ∧ k ≤ 1000 ∧ i.length ≤ 1000 then .ok (.val (.tup (List.replicate k.toNat i).flatten)) h else .stuck := by
  simp only [fMulO, ow_tup, fMul, Res.val]
  split <;> rfl
theorem f_addL {v w : LV} {xs ys : List D} (e : v.own h = some xs) (e2 : w.own h = some ys) (hl : xs.length + ys.length ≤ 16777216) : fAddO v w h = .ok (.new (xs ++ ys)) h := by
  simp only [fAddO, e, e2]
  rw [if_pos hl]
@[simp] theorem f_addNN {xs ys : List D} : fAddO (.new xs) (.new ys) h = if xs.length + ys.length ≤ 16777216 then .ok (.new (xs ++ ys)) h else .stuck := rfl
@[simp] theorem f_mulN {xs : List D} {k : Int} : fMulO (.new xs) (.val (.int k)) h = if -1000000 ≤ k ∧ k ≤ 1000000 ∧ xs.length * k.toNat ≤ 16777216 then .ok (.new (List.replicate k.toNat xs).flatten) h else .stuck := rfl
@[simp] theorem f_sub {i j : Int} : fSub (.int i) (.int j) h = .ok (.int (i - j)) h := rfl
@[simp] theorem f_div {i j : Int} : fDiv (.int i) (.int j) h = if j ≠ 0 ∧ j.natAbs < 1073741824 then .ok (.int (i.fdiv j)) h else .stuck := rfl
@[simp] theorem f_mod {i j : Int} : fMod (.int i) (.int j) h = if j ≠ 0 then .ok (.int (i.fmod j)) h else .stuck := rfl
@[simp] theorem f_pow {i j : Int} : fPow (.int i) (.int j) h = if 0 ≤ j ∧ j ≤ 1000000 ∧ i.natAbs < 2 ^ 64 then .ok (.int (i ^ j.toNat)) h else .stuck := rfl
@[simp] theorem f_neg {i : Int} : fNeg (.int i) h = .ok (.int (-i)) h := rfl
@[simp] theorem f_cmp {p : Int → Int → Bool} {i j : Int} : fCmpI p (.int i) (.int j) h = .ok (.bl (p i j)) h := rfl
@[simp] theorem f_isN : fIs d .non h = .ok (.bl (decide (d = .non))) h := rfl
@[simp] theorem f_isNN : fIsNot d .non h = .ok (.bl (!decide (d = .non))) h := rfl
@[simp] theorem f_isB {p q : Bool} : fIs (.bl p) (.bl q) h = .ok (.bl (decide (p = q))) h := rfl
@[simp] theorem f_lenT {xs : List D} : fLen (.val (.tup xs)) h = .ok (.int xs.length) h := rfl
@[simp] theorem f_lenF {xs : List D} : fLen (.val (.fro xs)) h = .ok (.int xs.length) h := rfl
@[simp] theorem f_lenN {xs : List D} : fLen (.new xs) h = .ok (.int xs.length) h := rfl
@[simp] theorem f_tuple {v : LV} : fTuple v h = match v.seq h with | some xs => .ok (.tup xs) h | none => .stuck := rfl
@[simp] theorem f_list {v : LV} : fList v h = match v.seq h with | some xs => .ok xs h | none => .stuck := rfl
@[simp] theorem f_int {i : Int} : fInt (.val (.int i)) h = .ok (.int i) h := rfl
@[simp] theorem f_intB {i : Bool} : fInt (.val (.bl i)) h = .ok (.int (if i then 1 else 0)) h := rfl
@[simp] theorem f_max {i j : Int} : fMax2 (.val (.int i)) (.val (.int j)) h = .ok (.int (if j > i then j else i)) h := rfl
@[simp] theorem f_min {i j : Int} : fMin2 (.val (.int i)) (.val (.int j)) h = .ok (.int (if j < i then j else i)) h := rfl
@[simp] theorem f_isiN {k : Kd} {xs : List D} : fIsi k (.new xs) h = .ok (.bl (Kd.lst.isi k)) h := rfl
@[simp] theorem f_isiI {k : Kd} {i : Int} : fIsi k (.val (.int i)) h = .ok (.bl (Kd.int.isi k)) h := rfl
@[simp] theorem f_isiB {k : Kd} {i : Bool} : fIsi k (.val (.bl i)) h = .ok (.bl (Kd.bl.isi k)) h := rfl
@[simp] theorem f_isiS {k : Kd} {i : Str} : fIsi k (.val (.str i)) h = .ok (.bl (Kd.str.isi k)) h := rfl
@[simp] theorem f_isiT {k : Kd} {i : List D} : fIsi k (.val (.tup i)) h = .ok (.bl (Kd.tup.isi k)) h := rfl
@[simp] theorem f_isi0 {k : Kd} : fIsi k (.val .non) h = .ok (.bl (Kd.non.isi k)) h := rfl
@[simp] theorem k1 : Kd.isi .int .int = true := rfl
@[simp] theorem k2 : Kd.isi .int .bl = false := rfl
@[simp] theorem k3 : Kd.isi .bl .int = true := rfl
@[simp] theorem k4 : Kd.isi .bl .bl = true := rfl
@[simp] theorem k5 : Kd.isi .tup .tup = true := rfl
@[simp] theorem k6 : Kd.isi .int .tup = false := rfl
def ixD (xs : List D) (i : Int) (h : PHeap) : Res D := match atI xs i with
  | some d => .ok d h
  | none => .stuck
@[simp] theorem f_ixT {xs : List D} {i : Int} : fIx (.val (.tup xs)) (.val (.int i)) h = ixD xs i h := rfl
@[simp] theorem f_ixF {xs : List D} {i : Int} : fIx (.val (.fro xs)) (.val (.int i)) h = ixD xs i h := rfl
@[simp] theorem f_ixN {xs : List D} {i : Int} : fIx (.new xs) (.val (.int i)) h = ixD xs i h := rfl
theorem f_ixR {xs : List D} {n : Nat} {i : Int} (e : h[n]? = some (.lst xs)) : fIx (.val (.ref n)) (.val (.int i)) h = ixD xs i h := by
  simp only [fIx, sq_ref e]
  rfl
theorem atI_nat {α : Type} {xs : List α} (i : Nat) (hi : i < xs.length) : atI xs (i : Int) = xs[i]? := by
  unfold atI ixN
  rw [if_pos (by omega), if_pos (by omega)]
  simp
@[simp] theorem ix0 {x : D} {xs : List D} : ixD (x :: xs) 0 h = .ok x h := by
  have := atI_nat (xs := x :: xs) 0 (by simp)
  simp only [Int.natCast_zero] at this
  simp [ixD, show atI (x :: xs) 0 = (x :: xs)[0]? from this]
@[simp] theorem ix1 {x y : D} {xs : List D} : ixD (x :: y :: xs) 1 h = .ok y h := by
  have := atI_nat (xs := x :: y :: xs) 1 (by simp)
  simp [ixD, show atI (x :: y :: xs) 1 = (x :: y :: xs)[1]? from this]
@[simp] theorem ix2 {x y z : D} {xs : List D} : ixD (x :: y :: z :: xs) 2 h = .ok z h := by
  have := atI_nat (xs := x :: y :: z :: xs) 2 (by simp)
  simp [ixD, show atI (x :: y :: z :: xs) 2 = (x :: y :: z :: xs)[2]? from this]
@[simp] theorem ix3 {x y z u : D} {xs : List D} : ixD (x :: y :: z :: u :: xs) 3 h = .ok u h := by
  have := atI_nat (xs := x :: y :: z :: u :: xs) 3 (by simp)
  simp [ixD, show atI (x :: y :: z :: u :: xs) 3 = (x :: y :: z :: u :: xs)[3]? from this]
@[simp] theorem ix4 {x y z u v : D} {xs : List D} : ixD (x :: y :: z :: u :: v :: xs) 4 h = .ok v h := by
  have := atI_nat (xs := x :: y :: z :: u :: v :: xs) 4 (by simp)
  simp [ixD, show atI (x :: y :: z :: u :: v :: xs) 4 = (x :: y :: z :: u :: v :: xs)[4]? from this]
@[simp] theorem ix5 {x y z u v w : D} {xs : List D} : ixD (x :: y :: z :: u :: v :: w :: xs) 5 h = .ok w h := by
  have := atI_nat (xs := x :: y :: z :: u :: v :: w :: xs) 5 (by simp)
  simp [ixD, show atI (x :: y :: z :: u :: v :: w :: xs) 5 = (x :: y :: z :: u :: v :: w :: xs)[5]? from this]
@[simp] theorem ix6 {x y z u v w p : D} {xs : List D} : ixD (x :: y :: z :: u :: v :: w :: p :: xs) 6 h = .ok p h := by
  have := atI_nat (xs := x :: y :: z :: u :: v :: w :: p :: xs) 6 (by simp)
  simp [ixD, show atI (x :: y :: z :: u :: v :: w :: p :: xs) 6 = (x :: y :: z :: u :: v :: w :: p :: xs)[6]? from this]
@[simp] theorem ix7 {x y z u v w p q : D} {xs : List D} : ixD (x :: y :: z :: u :: v :: w :: p :: q :: xs) 7 h = .ok q h := by
  have := atI_nat (xs := x :: y :: z :: u :: v :: w :: p :: q :: xs) 7 (by simp)
  simp [ixD, show atI (x :: y :: z :: u :: v :: w :: p :: q :: xs) 7 = (x :: y :: z :: u :: v :: w :: p :: q :: xs)[7]? from this]
@[simp] theorem f_slT {xs : List D} {l u : Option Int} : fSl (.val (.tup xs)) l u h = .ok (.val (.tup (cutD xs l u))) h := rfl
@[simp] theorem s_sl {l u : MP} : mSl mo l u env h = (mo env h).bind fun x h1 => (l env h1).bind fun l h2 => (u env h2).bind fun u h3 => fSl x l u h3 := rfl
@[simp] theorem s_pn : pNone env h = .ok none h := rfl
def partD (d : D) (h : PHeap) : Res (Option Int) := match d with
  | .int i => .ok (some i) h
  | _ => .stuck
@[simp] theorem s_partD {i : Int} : partD (.int i) h = .ok (some i) h := rfl
@[simp] theorem s_ps : pSome a env h = (a env h).bind partD := rfl
def Out.thn (o : Out) (s : MS) : Out := match o with
  | .nx e h1 => s e h1
  | o => o
@[simp] theorem thn_nx : (Out.nx env h).thn s = s env h := rfl
@[simp] theorem thn_rt : (Out.rt d h).thn s = .rt d h := rfl
@[simp] theorem thn_bk : (Out.bk env h).thn s = .bk env h := rfl
@[simp] theorem thn_ct : (Out.ct env h).thn s = .ct env h := rfl
@[simp] theorem thn_ex : (Out.exc d env h).thn s = .exc d env h := rfl
@[simp] theorem thn_st : Out.stuck.thn s = .stuck := rfl
@[simp] theorem s_seq : sSeq s s2 env h = (s env h).thn s2 := rfl
@[simp] theorem s_next : sNext env h = .nx env h := rfl
@[simp] theorem s_stk : sStuck env h = .stuck := rfl
def setO (g : TgM) (env : PEnv) (d : D) (h : PHeap) : Out := match g.set d env with
  | some e => .nx e h
  | none => .stuck
@[simp] theorem s_asg {g : TgM} : sAsg a g env h = (a env h).out env (setO g env) := rfl
@[simp] theorem set_name {i : Nat} : setO (.name i) env d h = .nx (env.set i (some d)) h := rfl
@[simp] theorem set_tup {gs : List TgM} {xs : List D} : setO (.tup gs) env (.tup xs) h = match TgM.sets gs xs env with | some e => .nx e h | none => .stuck := by
  unfold setO
  rw [TgM.set]
@[simp] theorem tg_name {i : Nat} : TgM.set (.name i) d env = some (env.set i (some d)) := by rw [TgM.set]
@[simp] theorem tg_tup {gs : List TgM} {xs : List D} : TgM.set (.tup gs) (.tup xs) env = TgM.sets gs xs env := by rw [TgM.set]
@[simp] theorem tg_nil : TgM.sets [] [] env = some env := by rw [TgM.sets]
@[simp] theorem tg_cons {g : TgM} {gs : List TgM} {xs : List D} : TgM.sets (g :: gs) (d :: xs) env = (g.set d env).bind (TgM.sets gs xs) := by
  rw [TgM.sets]
  cases g.set d env <;> rfl
@[simp] theorem s_par {is : List Nat} : sPar is r env h = (r env h).out env fun xs h1 => if xs.length = is.length then .nx ((is.zip xs).foldl (fun e p => e.set p.1 (some p.2)) env) h1 else .stuck := rfl
@[simp] theorem s_drop : sDrop a env h = (a env h).out env fun _ h1 => .nx env h1 := rfl
@[simp] theorem s_ret : sRet a env h = (a env h).out env fun d h1 => .rt d h1 := rfl
@[simp] theorem s_sif : sIf t s s2 env h = (t env h).out env fun k h1 => pick k (s env h1) (s2 env h1) := rfl
@[simp] theorem s_for {i : MI} {g : TgM} {kill : List Nat} : sFor i g s kill env h = (i env h).out env fun t h1 => forL g s kill t t.items env h1 := rfl
@[simp] theorem s_lc {i : MI} {g : TgM} {own : List Nat} : mLc i g t a own env h = (i env h).bind fun t' h1 => lcL g t a t' (wipeE env own) t'.items [] h1 := rfl
@[simp] theorem s_yes : tYesM env h = .ok true h := rfl
@[simp] theorem w_nil : wipeE env [] = env := rfl
@[simp] theorem w_cons {v : Nat} {vs : List Nat} : wipeE env (v :: vs) = (wipeE env vs).set v none := rfl
def retO (n : Nat) (o : Out) : Res D := match o with
  | .nx _ h1 => .ok .non (gc n .non h1)
  | .rt d h1 => .ok d (gc n d h1)
  | .exc e _ h1 => .exc e h1
  | _ => .stuck
@[simp] theorem ret_nx {n : Nat} : retO n (.nx env h) = .ok .non (gc n .non h) := rfl
@[simp] theorem ret_rt {n : Nat} : retO n (.rt d h) = .ok d (gc n d h) := rfl
@[simp] theorem ret_ex {n : Nat} : retO n (.exc d env h) = .exc d h := rfl
theorem s_fn {np ns : Nat} {as : List D} (hl : as.length = np) : runFn np ns s as h = retO h.length (s (as.map some ++ List.replicate (ns - np) none) h) := by
  unfold runFn
  rw [if_pos hl]
  cases s (as.map some ++ List.replicate (ns - np) none) h <;> rfl
@[simp] theorem s_fnS {np ns : Nat} {as : List D} : runFn np ns s as h = if as.length = np then retO h.length (s (as.map some ++ List.replicate (ns - np) none) h) else .stuck := by
  split
  · rename_i hl; exact s_fn hl
  · rename_i hl; unfold runFn; rw [if_neg hl]
theorem gc_same {n : Nat} (hl : h.length ≤ n) : gc n d h = h := by
  unfold gc
  rw [if_pos hl]
theorem gc_self : gc h.length d h = h := gc_same (Nat.le_refl _)
def storeO (d x y : D) (env : PEnv) (h : PHeap) : Out := match x, y with
  | .ref n, .int k => match h[n]? with
    | some (.lst xs) => match ixN xs.length k with
      | some j => .nx env (h.set n (.lst (xs.set j d)))
      | none => .stuck
    | _ => .stuck
  | _, _ => .stuck
@[simp] theorem s_sub {v o i : ME} : sSub v o i env h = (v env h).out env fun d h1 => (o env h1).out env fun x h2 => (i env h2).out env fun y h3 => storeO d x y env h3 := rfl
def mtE (f : List D → List D → Option (D × List D)) (n : Nat) (ys : List D) (h2 : PHeap) : Res D := match h2[n]? with
  | some (.lst xs) => match f xs ys with
    | some (z, zs) => .ok z (h2.set n (.lst zs))
    | none => .stuck
  | _ => .stuck
def mtD (f : List D → List D → Option (D × List D)) (as : MA) (env : PEnv) (d : D) (h1 : PHeap) : Res D := match d with
  | .ref n => match h1[n]? with
    | some (.lst _) => (as env h1).bind (mtE f n)
    | _ => .stuck
  | _ => .stuck
@[simp] theorem s_mt {f : List D → List D → Option (D × List D)} {o : ME} : mMt f o r env h = (o env h).bind (mtD f r env) := rfl
@[simp] theorem mtD_ref {f : List D → List D → Option (D × List D)} {n : Nat} : mtD f r env (.ref n) h = match h[n]? with | some (.lst _) => (r env h).bind (mtE f n) | _ => .stuck := rfl
theorem mtE_append {n : Nat} {xs : List D} (e : h[n]? = some (.lst xs)) (hl : xs.length < 16777216) : mtE fAppend n [d] h = .ok .non (h.set n (.lst (xs ++ [d]))) := by
  simp only [mtE, e, fAppend]
  rw [if_pos hl]
@[simp] theorem s_src : iSrc mo env h = (mo env h).bind fun lv h1 => match lv.seq h1 with | some xs => .ok ⟨xs, srcDeps lv xs⟩ h1 | none => .stuck := rfl
@[simp] theorem s_z2 : iZip2 mo mp env h = (mo env h).bind fun x h1 => (mp env h1).bind fun y h2 => match x.seq h2, y.seq h2 with | some xs, some ys => .ok ⟨List.zipWith (fun p q => D.tup [p, q]) xs ys, srcDeps x xs ++ srcDeps y ys⟩ h2 | _, _ => .stuck := rfl
@[simp] theorem s_r1 : iR1 a env h = (a env h).bind fun y h1 => match y with | .int hi => if -(2 ^ 60) ≤ hi ∧ hi ≤ 2 ^ 60 then .ok ⟨rngD 0 hi, []⟩ h1 else .stuck | _ => .stuck := rfl
@[simp] theorem sd_tup' {xs ys : List D} : srcDeps (.val (.tup xs)) ys = [] := rfl
@[simp] theorem sd_fro' {xs ys : List D} : srcDeps (.val (.fro xs)) ys = [] := rfl
@[simp] theorem sd_new' {xs ys : List D} : srcDeps (.new xs) ys = [] := rfl
@[simp] theorem sd_ref' {n : Nat} {ys : List D} : srcDeps (.val (.ref n)) ys = [(n, ys)] := rfl
@[simp] theorem lv_nil {xs : List D} : Itr.live ⟨xs, []⟩ h = true := rfl
theorem lc_inv {g : TgM} {t' : Itr} {I : Nat → List D → PHeap → Prop} (h0 : I 0 [] h) (hn : t'.items.length ≤ 16777216) (hl : ∀ i acc h, I i acc h → t'.live h = true)
    (hs : ∀ i acc d h, acc.length ≤ i → i < 16777216 → t'.items[i]? = some d → I i acc h → ∃ e1, g.set d env = some e1 ∧ ∃ k h1, t e1 h = .ok k h1 ∧ ((k = false ∧ I (i + 1) acc h1) ∨ (k = true ∧ ∃ y h2, a e1 h1 = .ok y h2 ∧ I (i + 1) (acc ++ [y]) h2))) :
    ∃ acc h', lcL g t a t' env t'.items [] h = .ok acc h' ∧ I t'.items.length acc h' := by
  have key : ∀ (ds : List D) (i : Nat) (acc : List D) (h : PHeap), t'.items.drop i = ds → i + ds.length = t'.items.length → acc.length ≤ i → I i acc h → ∃ acc' h', lcL g t a t' env ds acc h = .ok acc' h' ∧ I t'.items.length acc' h' := by
    intro ds
    induction ds with
    | nil =>
      intro i acc h _ el _ q
      have ei : i = t'.items.length := by simpa using el
      subst ei
      exact ⟨acc, h, by unfold lcL; rw [if_pos (hl _ _ _ q)], q⟩
    | cons d ds ih =>
      intro i acc h e0 el ea q
      have hi : i < t'.items.length := by rw [List.length_cons] at el; omega
      rw [List.drop_eq_getElem_cons hi] at e0
      injection e0 with e1 e2
      obtain ⟨e3, g1, k, h1, g2, g3⟩ := hs i acc d h ea (by omega) (by rw [List.getElem?_eq_getElem hi, e1]) q
      unfold lcL
      rw [if_pos (hl i acc h q), g1]
      simp only [g2, Res.calm_ok, Res.bind_ok]
      rcases g3 with ⟨rfl, q3⟩ | ⟨rfl, y, h2, g4, q3⟩
      · exact ih (i + 1) acc h1 e2 (by rw [List.length_cons] at el; omega) (by omega) q3
      · simp only [g4, Res.calm_ok, Res.bind_ok]
        rw [if_pos (by omega)]
        exact ih (i + 1) (acc ++ [y]) h2 e2 (by rw [List.length_cons] at el; omega) (by simp; omega) q3
  exact key t'.items 0 [] h rfl (by omega) (Nat.zero_le _) h0
theorem lc_pure {g : TgM} {t' : Itr} {p : D → Bool} {f : D → D} (hn : t'.items.length ≤ 16777216) (hl : t'.live h = true) (hs : ∀ d ∈ t'.items, ∃ e1, g.set d env = some e1 ∧ t e1 h = .ok (p d) h ∧ (p d = true → a e1 h = .ok (f d) h)) :
    lcL g t a t' env t'.items [] h = .ok ((t'.items.filter p).map f) h := by
  obtain ⟨acc, h', e, q⟩ := lc_inv (env := env) (h := h) (g := g) (t := t) (a := a) (t' := t') (I := fun i acc h' => h' = h ∧ acc = ((t'.items.take i).filter p).map f) ⟨rfl, rfl⟩ hn (fun i acc h' q => by rw [q.1]; exact hl) (by
    rintro i acc d h' ha hi hd ⟨rfl, rfl⟩
    obtain ⟨e1, g1, g2, g3⟩ := hs d (List.mem_of_getElem? hd)
    obtain ⟨hi2, hd2⟩ := List.getElem?_eq_some_iff.mp hd
    have et : t'.items.take (i + 1) = t'.items.take i ++ [d] := by rw [List.take_succ, hd]; rfl
    refine ⟨e1, g1, p d, _, g2, ?_⟩
    cases hp : p d with
    | false => exact .inl ⟨rfl, rfl, by rw [et]; simp [hp]⟩
    | true => exact .inr ⟨rfl, f d, _, g3 hp, rfl, by rw [et]; simp [hp]⟩)
  obtain ⟨rfl, rfl⟩ := q
  rw [e, List.take_length]

theorem toPy_int {n : Nat} {i : Int} : toPy h (n + 1) (.int i) = some (.int i) := by rw [toPy]
theorem toPy_bl {n : Nat} {i : Bool} : toPy h (n + 1) (.bl i) = some (.bool i) := by rw [toPy]
theorem toPy_non {n : Nat} : toPy h (n + 1) .non = some .none := by rw [toPy]
theorem toPy_tupE {n : Nat} {xs : List D} : toPy h (n + 1) (.tup xs) = (travO (toPy h n) xs).map .tuple := by rw [toPy]
@[simp] theorem py_int {i : Int} : (LV.val (.int i)).py h = some (.int i) := show toPy h (59 + 1) (.int i) = _ from toPy_int
@[simp] theorem py_bl {i : Bool} : (LV.val (.bl i)).py h = some (.bool i) := show toPy h (59 + 1) (.bl i) = _ from toPy_bl
@[simp] theorem py_non : (LV.val .non).py h = some .none := show toPy h (59 + 1) .non = _ from toPy_non
@[simp] theorem f_eqI {k : Bool → Bool} {i j : Int} : fEqO k (.val (.int i)) (.val (.int j)) h = .ok (.bl (k (decide (i = j)))) h := by
  simp only [fEqO, py_int, PyData.eqv]
  congr 3
theorem trav_ints {n : Nat} : ∀ (xs : List Int), travO (toPy h (n + 1)) (xs.map D.int) = some (xs.map PyData.int)
  | [] => rfl
  | x :: xs => by simp only [List.map_cons, travO, toPy_int, trav_ints xs]
theorem py_ints {xs : List Int} : (LV.val (.tup (xs.map D.int))).py h = some (.tuple (xs.map PyData.int)) := by
  show toPy h (59 + 1) (.tup (xs.map D.int)) = _
  rw [toPy_tupE, trav_ints (n := 58)]
  rfl
theorem f_inI {k : Bool → Bool} {i : Int} {xs : List Int} : fInO k (.val (.int i)) (.val (.tup (xs.map D.int))) h = .ok (.bl (k (decide (i ∈ xs)))) h := by
  simp only [fInO, py_int, py_ints, itemsP]
  congr 3
  rw [List.any_map]
  rw [Bool.eq_iff_iff]
  simp only [List.any_eq_true, Function.comp, PyData.eqv, decide_eq_true_eq, beq_iff_eq]
  exact ⟨fun ⟨x, m, e⟩ => e ▸ m, fun m => ⟨i, m, rfl⟩⟩
@[simp] theorem f_in2 {k : Bool → Bool} {i a b : Int} : fInO k (.val (.int i)) (.val (.tup [.int a, .int b])) h = .ok (.bl (k (decide (i ∈ [a, b])))) h := f_inI (xs := [a, b])
@[simp] theorem f_in3 {k : Bool → Bool} {i a b c : Int} : fInO k (.val (.int i)) (.val (.tup [.int a, .int b, .int c])) h = .ok (.bl (k (decide (i ∈ [a, b, c])))) h := f_inI (xs := [a, b, c])
@[simp] theorem sm_int {n : Nat} {i : Int} : (D.int i).small n = true := rfl
@[simp] theorem sm_bl {n : Nat} {i : Bool} : (D.bl i).small n = true := rfl
@[simp] theorem sm_non {n : Nat} : D.non.small n = true := rfl
@[simp] theorem sm_str {n : Nat} {z : Str} : (D.str z).small n = true := rfl
@[simp] theorem sm_tup {n : Nat} {xs : List D} : (D.tup xs).small n = D.smallL n xs := rfl
@[simp] theorem sm_ref {n k : Nat} : (D.ref k).small n = decide (k < n) := rfl
@[simp] theorem sm_nilL {n : Nat} : D.smallL n [] = true := rfl
@[simp] theorem sm_consL {n : Nat} {x : D} {xs : List D} : D.smallL n (x :: xs) = (x.small n && D.smallL n xs) := rfl

theorem lcL_nil {g : TgM} {t' : Itr} {acc : List D} : lcL g t a t' env [] acc h = if t'.live h then .ok acc h else .stuck := by rw [lcL]
theorem lcL_cons {g : TgM} {t' : Itr} {ds acc : List D} : lcL g t a t' env (d :: ds) acc h = if t'.live h then (match g.set d env with
    | none => .stuck
    | some e1 => (t e1 h).calm.bind fun k h1 => pick k ((a e1 h1).calm.bind fun y h2 => if acc.length < 16777216 then lcL g t a t' env ds (acc ++ [y]) h2 else .stuck) (lcL g t a t' env ds acc h1)) else .stuck := by
  rw [lcL]
  congr 1
  cases g.set d env with
  | none => rfl
  | some e1 =>
    simp only
    congr 1
    funext k h1
    cases k <;> rfl
end
end Gb

namespace Gb
open PySem PySem.Spec PyProof.Rows L2
section
variable {X : Cx} {cl : CL} {W : WX} {a b c e o : Expr} {es : List Expr} {ma mb mc : ME} {ml : MA} {mo mp : MO} {tg : Expr} {p pos : Pos}
def atomV : D → V
  | .int i => .int i
  | .str x => .str x
  | .bl b => .bl b
  | _ => .non
def atomB : D → Bool
  | .int _ => true
  | .str _ => true
  | .bl _ => true
  | .non => true
  | _ => false
def KTupD (K : PySem.W.Frag) (u : Value) (xs : List D) : Prop := ∃ (a : Addr) (o : Obj) (its : Array Value) (n : Nat), u = .ref a ∧ K.lookup a = some o ∧ o.cls = .type "tuple" ∧ o.dict = none ∧ o.data = .seq its n ∧ its.size ≤ sizeLine ∧ Vals (xs.map atomV) its.toList
theorem rep_atoms {K : PySem.W.Frag} {io : List Addr} {H : Hp} : ∀ {xs : List D}, xs.all atomB = true → RepL K io H xs (xs.map atomV)
  | [], _ => rfl
  | x :: xs, h => by
    rw [List.all_cons, Bool.and_eq_true] at h
    refine ⟨_, _, rfl, ?_, rep_atoms h.2⟩
    cases x <;> first | rfl | (exact absurd h.1 (by simp [atomB]))
theorem sd_gctD {x : Str} {xs : List D} (hg : Gl X x) (ha : xs.all atomB = true) (h : ∃ u, X.mg x = some u ∧ KTupD X.K u xs) (hd : (x == ("__debug__" : Str)) = false := by decide) : SE X cl W (.Name x pos) (mC (.tup xs)) := by
  obtain ⟨u, h1, a, o, its, n, rfl, k1, k2, k3, k4, k5, k6⟩ := h
  refine (pe_glob (v := .ref a) hg h1 rfl hd).imp fun sg H Q ⟨env, h, io, E, hr, p⟩ => p.here hr ?_
  exact ⟨a, xs.map atomV, rfl, .inr ⟨o, its, n, k1, k2, k3, k4, k5, k6⟩, rep_atoms ha⟩
end
end Gb

namespace Gb
open PySem PySem.Spec PyProof.Rows L2
mutual
def D.okT : D → Bool
  | .tup xs => D.okTL xs
  | .ref _ => false
  | .fro _ => false
  | .lst _ => false
  | .non => true
  | .bl _ => true
  | .int _ => true
  | .str _ => true
  | .dct _ _ => true
  | .map _ => false
  | .gl _ => false
def D.okTL : List D → Bool
  | [] => true
  | x :: xs => x.okT && D.okTL xs
end
mutual
def pyX : D → PyData
  | .non => .none
  | .bl b => .bool b
  | .int i => .int i
  | .str x => .str x
  | .tup xs => .tuple (pyXL xs)
  | .dct ks vs => .dict ((pyXL ks).zip (pyXL vs))
  | .lst _ => .none
  | .map _ => .none
  | .gl _ => .none
  | .fro _ => .none
  | .ref _ => .none
def pyXL : List D → List PyData
  | [] => []
  | x :: xs => pyX x :: pyXL xs
end
def intP (ns : List (Int × Int)) : List (PyData × PyData) := ns.map fun p => (.int p.1, .int p.2)
theorem pyX_dct (ns : List (Int × Int)) : pyX (.dct (ns.map fun p => D.int p.1) (ns.map fun p => D.int p.2)) = .dict (intP ns) := by
  rw [pyX]
  congr 1
  induction ns with
  | nil => rfl
  | cons n ns ih => simp only [List.map_cons, pyXL, List.zip_cons_cons, pyX, intP, ih]
mutual
inductive Dt (K : PySem.W.Frag) (H : Hp) : V → PyData → Prop
  | non : Dt K H .non .none
  | bl (b : Bool) : Dt K H (.bl b) (.bool b)
  | int (i : Int) : Dt K H (.int i) (.int i)
  | str (x : Str) : Dt K H (.str x) (.str x)
  | tup {a : Addr} {xs : List V} {ds : List PyData} (s : SqT K H a xs) (q : DtAll K H xs ds) : Dt K H (.ref a) (.tuple ds)
  | dct {a : Addr} {ns : List (Int × Int)} (s : FroL K H a (.d ns)) : Dt K H (.ref a) (.dict (intP ns))
inductive DtAll (K : PySem.W.Frag) (H : Hp) : List V → List PyData → Prop
  | nil : DtAll K H [] []
  | cons {v : V} {vs : List V} {d : PyData} {ds : List PyData} (h : Dt K H v d) (t : DtAll K H vs ds) : DtAll K H (v :: vs) (d :: ds)
end
section
variable {K : PySem.W.Frag} {io : List Addr} {H : Hp}
mutual
theorem dt_of : ∀ (d : D) (v : V), d.okT = true → Rep K io H d v → Dt K H v (pyX d)
  | .non, _, _, r => by cases r; exact .non
  | .bl b, _, _, r => by cases r; exact .bl b
  | .int i, _, _, r => by cases r; exact .int i
  | .str x, _, _, r => by cases r; exact .str x
  | .tup xs, _, e, ⟨a, vs, e2, s, r⟩ => by
    subst e2
    rw [pyX]
    exact .tup s.sq (dtL_of xs vs (by simpa only [D.okT] using e) r)
  | .dct ks ws, _, _, ⟨a, ns, e2, s, e3, e4⟩ => by
    subst e2 e3 e4
    rw [pyX_dct]
    exact .dct s
  | .ref _, _, e, _ => by simp [D.okT] at e
  | .map _, _, e, _ => by simp [D.okT] at e
  | .gl _, _, e, _ => by simp [D.okT] at e
  | .fro _, _, e, _ => by simp [D.okT] at e
  | .lst _, _, e, _ => by simp [D.okT] at e
theorem dtL_of : ∀ (ds : List D) (vs : List V), D.okTL ds = true → RepL K io H ds vs → DtAll K H vs (pyXL ds)
  | [], _, _, r => by
    have r' : _ = _ := r
    subst r'
    exact .nil
  | d :: ds, _, e, ⟨v, t, e2, r1, r2⟩ => by
    subst e2
    simp only [D.okTL, Bool.and_eq_true] at e
    exact .cons (dt_of d v e.1 r1) (dtL_of ds t e.2 r2)
end
end
theorem pairs_reads {P : Program} {w : World} {h : Heap} : ∀ {ns : List (Int × Int)} {es : List DictEntry} {kvs : List (Key × Value)}, KV (dkv ns) kvs → Pairs (mixKind P w) es kvs →
    ReadsAll h (es.map (·.key)) ((intP ns).map (·.1)) [] ∧ ReadsAll h (es.map (·.val)) ((intP ns).map (·.2)) []
  | [], es, kvs, r, q => by
    have r' : KV ([] : List (Key × V)) kvs := r
    cases r'
    cases q
    exact ⟨.nil, .nil⟩
  | n :: ns, es, kvs, r, q => by
    have r' : KV ((Sum.inl n.1, V.int n.2) :: dkv ns) kvs := r
    cases r' with
    | @cons _ b _ bs r1 r2 =>
      cases q with
      | @cons e _ es' _ q1 q2 q3 =>
        obtain ⟨h1, h2⟩ := pairs_reads (h := h) r2 q3
        obtain ⟨b1, b2⟩ := b
        obtain ⟨e1, t2, e2⟩ := r1
        cases e1
        obtain ⟨t1, e3⟩ := Value.isInt_shape (show Value.isInt n.1 e.key = true from q1)
        refine ⟨?_, ?_⟩
        · show ReadsAll h (e.key :: es'.map (·.key)) (PyData.int n.1 :: (intP ns).map (·.1)) ([] ++ [])
          exact .cons (by rw [e3]; exact .int _ _) h1
        · show ReadsAll h (e.val :: es'.map (·.val)) (PyData.int n.2 :: (intP ns).map (·.2)) ([] ++ [])
          exact .cons (by rw [q2]; show Reads h b2 _ _; rw [show b2 = _ from e2]; exact .int _ _) h2
section
variable {X : Cx} {pins : List (Addr × Obj)} {σ : L2.St} {H : Hp} {s : Shared}
mutual
theorem Dt.reads (I : Inv X pins σ H s) : ∀ (d : PyData) (v : V) (u : Value), Dt X.K H v d → RelV v u → ∃ as, Reads s.heap u d as ∧ sysModules ∉ as
  | .none, _, u, h, r => by
    cases h
    have r : u = _ := r
    rw [r]
    exact ⟨_, .none, by simp⟩
  | .bool b, _, u, h, r => by
    cases h
    have r : u = _ := r
    rw [r]
    exact ⟨_, .bool b, by simp⟩
  | .int i, _, _, h, r => by
    cases h
    obtain ⟨t, e⟩ := r
    rw [e]
    exact ⟨_, .int i t, by simp⟩
  | .str x, _, _, h, r => by
    cases h
    obtain ⟨t, e⟩ := r
    rw [e]
    exact ⟨_, .str x t, by simp⟩
  | .list _, _, _, h, _ => by cases h
  | .tuple ds, _, u, h, r => by
    cases h with
    | tup hs ha =>
      have r : u = _ := r
      rw [r]
      obtain ⟨its, rv, ⟨o, ho, hc, n, hd⟩, _⟩ := I.tuple hs
      obtain ⟨as, h1, h2⟩ := DtAll.reads I ds _ its ha rv
      exact ⟨as, .tuple ho hc hd h1, h2⟩
  | .dict _, _, u, h, r => by
    cases h with
    | @dct a ns hs =>
      have r : u = _ := r
      rw [r]
      obtain ⟨o, ho⟩ := hs
      obtain ⟨ho, _, hn, kvs, rel, o2, es, ep, g1, g2, g3, _, g5, _⟩ := I.hok a _ ho
      obtain ⟨h1, h2⟩ := pairs_reads (h := s.heap) rel g5
      have nb : sysModules ≠ a := fun z => by rw [← z] at hn; simp at hn
      exact ⟨_, .dict g1 g2.1 g3 h1 h2, by simpa using nb⟩
theorem DtAll.reads (I : Inv X pins σ H s) : ∀ (ds : List PyData) (vs : List V) (us : List Value), DtAll X.K H vs ds → Vals vs us → ∃ as, ReadsAll s.heap us ds as ∧ sysModules ∉ as
  | [], _, _, h, r => by
    cases h
    cases r
    exact ⟨_, .nil, by simp⟩
  | d :: ds, _, _, h, r => by
    cases h with
    | cons h1 h2 =>
      cases r with
      | cons r1 r2 =>
        obtain ⟨as, q1, n1⟩ := Dt.reads I d _ _ h1 r1
        obtain ⟨bs, q2, n2⟩ := DtAll.reads I ds _ _ h2 r2
        exact ⟨_, .cons q1 q2, by rw [List.mem_append]; exact fun z => z.elim n1 n2⟩
end
end
section
variable {X : Cx} {cl : CL} {W : WX} {a e : Expr} {mo : MO} {p pos : Pos}
def fReprX : LV → PHeap → Res D := fun x h => match x with
  | .val d => match d.okT with
    | true => if (pyX d).showable = true ∧ (pyX d).depth ≤ 61 ∧ (pyX d).shown.length ≤ 16777216 then .ok (.str (pyX d).shown) h else .stuck
    | false => fRepr x h
  | .new _ => fRepr x h
def rReprX (K : PySem.W.Frag) : List V → Hp → VK → Prop := fun xs H Q => rReprD K xs H Q ∨ ∃ v d, xs = [v] ∧ Dt K H v d ∧ d.showable = true ∧ d.shown.length ≤ sizeLine ∧ d.depth ≤ 61 ∧ Q (.str d.shown) H
theorem call_reprX (hgd : X.A.guards = some []) (hu : X.A.units + 65 < cLine) : CallR X (.builtin "repr") (rReprX X.K) := by
  intro pins s σ H xs us Q I r h
  rcases h with h | ⟨v, d, rfl, hd, hs, hz, hdep, q⟩
  · exact call_reprD hgd hu pins s σ H xs us Q I r h
  · obtain ⟨u, rfl, rx⟩ := vals1 r
    have ends : ∀ t, EP X pins σ Q (.str d.shown t) { s with toks := s.toks + 1 } := fun t => ⟨.str d.shown, H, I.tok _, ⟨t, rfl⟩, q⟩
    have byRef : ∀ a, u = .ref a → wpAny (model X.prog X.w) X.A (call (.builtin "repr") [u]) (EP X pins σ Q) X.xe s := fun a e => by
      subst e
      obtain ⟨as, r1, n1⟩ := Dt.reads I d _ _ hd rx
      exact PySem.repr_of_reads' r1 hs (fun _ => n1) hgd (by omega) (fun _ _ e => e) (fun h' u tk kp => ⟨.str d.shown, H, I.kept (t' := tk) kp, ⟨u, rfl⟩, q⟩) hz
    cases hd with
    | non =>
      have rx : u = _ := rx
      rw [rx]
      exact PySem.P.repr_of_none (ends _)
    | bl b =>
      have rx : u = _ := rx
      rw [rx]
      refine PySem.P.repr_of_bool ?_
      have e : (if b then "True" else "False" : Str) = PyData.shown (.bool b) := by first | rfl | (cases b <;> rfl)
      first
        | exact ends _
        | (rw [e]; exact ends _)
        | (cases b <;> exact ends _)
    | int i =>
      obtain ⟨t, e⟩ := rx
      rw [e]
      exact PySem.P.repr_of_int (of_decide_eq_true hs) (ends _)
    | str x =>
      obtain ⟨t, e⟩ := rx
      rw [e]
      exact PySem.P.repr_of_str (ends _) hz
    | tup hs' ha => exact byRef _ rx
    | dct hs' => exact byRef _ rx
theorem con_reprX : Con1 (β := V) (RRep X.K) X.K cl (rReprX X.K) fReprX := by
  intro W io sg H h x v Q hr r p
  have hz : sizeLine = 16777216 := sizeLine_eq
  cases x with
  | new xs => exact .inl (con_repr W io sg H h _ v Q hr r p)
  | val d =>
    simp only [fReprX] at p
    split at p
    · rename_i e
      split at p
      · rename_i c
        exact .inr ⟨v, _, rfl, dt_of d v e r, c.1, by omega, c.2.1, p.here hr rfl⟩
      · exact p.elim
    · exact .inl (con_repr W io sg H h _ v Q hr r p)
theorem sd_reprX (hgd : X.A.guards = some []) (hu : X.A.units + 65 < cLine) (he : SO X cl W e mo) (hm : X.mg "repr" = none) (hg : Gl X "repr" := by rfl) (hs : starEach [e] X.env = (false, eval e X.env) :: starEach [] X.env := by rfl) : SE X cl W (.Call (.Name "repr" p) [e] [] pos) (m1 fReprX mo) :=
  sc_b1 (call_reprX hgd hu) con_reprX he hg hm (by decide +kernel) (by decide) (by decide) hs
theorem pe_frozen {e : Expr} {t : TE} {ns : List (Int × Int)} (h : PE X e t) (ht : ∀ σ H, t σ H fun v H1 => ∃ p, v = .ref p ∧ H p = none ∧ H1 = upd H p (.dK (dkv ns))) :
    PE X e (fun _ H Q => ∀ p o, H p = none → Q (.ref p) (upd H p (.frz o (.dK (dkv ns))))) := ⟨fun pins s σ H Q I q => by
  refine thn (h.run pins s σ H _ I (ht σ H)) fun u s1 ⟨v, H1, I1, r, p, e1, hp, e2⟩ => ?_
  subst e2
  obtain ⟨od, I2⟩ := I1.lock (d := p) (u := .dK (dkv ns)) upd_same True.intro
  rw [upd_upd] at I2
  exact ⟨v, _, I2, r, by rw [e1]; exact q p od hp⟩⟩
theorem sd_frozen {ns : List (Int × Int)} (h : PE X e (fun _ H Q => ∀ p o, H p = none → Q (.ref p) (upd H p (.frz o (.dK (dkv ns)))))) : SE X cl W e (mC (.dct (ns.map fun p => D.int p.1) (ns.map fun p => D.int p.2))) :=
  h.imp fun sg H Q ⟨env, h, io, E, hr, p⟩ q o hq => p _ io _ (Step.laid hq) (hr.laid hq) ⟨q, ns, rfl, ⟨o, upd_same⟩, rfl, rfl⟩
theorem sd_dct0 : SE X cl W (.Dict [] [] pos) (mC (.dct [] [])) :=
  sd_frozen (ns := []) (pe_frozen pe_dnewK fun σ H p hp => ⟨p, rfl, hp, rfl⟩)
theorem sd_dct1 {i j : Int} {k k' p p'} : SE X cl W (.Dict [some (.Constant (.int i) k p)] [.Constant (.int j) k' p'] pos) (mC (.dct [.int i] [.int j])) :=
  sd_frozen (ns := [(i, j)]) (pe_frozen (pe_disp (pps_cons pe_int pe_int pps_nil) rfl rfl (by simp) (by simp)) fun σ H p hp => ⟨upd_same, [(.inl i, .int j)], rfl, by simp, p, rfl, hp, by rw [upd_upd]; rfl⟩)
end
end Gb

namespace Gb
open PySem PySem.Spec PyProof.Rows L2
section
variable {prog : Program} {w : World} {A : Around} {E : Value → Shared → Prop} {s : Shared}
end
section
variable {X : Cx}
end
section
variable {X : Cx} {cl : CL} {W : WX} {a e : Expr} {mo : MO} {p pos : Pos}
end
section
variable {X : Cx} {cl : CL} {W : WX} {k : Nat} {f : Addr} {fd : FuncData} {g : List D → PHeap → Res D} {x : Str} {p pos : Pos}
theorem sd_callG0 (F : FnG X.prog X.w X.K X.mg X.base k f fd [] (spOf X.K cl g)) (hr : Room k X.A) (hgd : X.A.guards = some []) (hm : X.mg x = some (.ref f)) (hk : PySem.W.keepIn X.K (.ref f) = true) (hb : Binds X.K fd [] []) (tk : Takes X W)
    (hg : Gl X x := by rfl) (hdb : (x == ("__debug__" : Str)) = false := by decide) : SE X cl W (.Call (.Name x p) [] [] pos) (mCall g mNil) := by
  refine PE.imp (t := tCallS (spOf X.K cl g) (WE W) (rd (RRepL X.K) X.K cl W mNil)) ⟨fun pins s σ H Q I h => ?_⟩ fun sg H Q ⟨env, h, io, E, hr, p⟩ => rd_mk E hr (p.bind fun ds h1 vs io1 H1 e1 s1 r1 q1 p1 => sp_use q1 r1 p1)
  have h0 : spOf X.K cl g [] H (fun v H' => Q v H') (WE W σ) := by
    obtain ⟨env, ph, io, E, hr, p⟩ := h
    exact p [] io H .refl hr rfl
  refine wpAny_Call_Name_kw (ld_glob I hg hm ?_ hdb)
  refine PySem.W.callWith_K0 I.kIn hk ?_
  have bd := hb s [] I.kIn rfl
  refine wpAny_call (codeAny_mono (F.run X.A X.stack s H ⟨[], []⟩ [] [] Q (WE W σ) hr hgd I.env0 (by simpa using bd) .nil h0) fun r' s' hq => ?_)
  cases r' with
  | error e => exact passAt tk σ pins H s e s' I hq
  | ok fl => cases fl with
    | ret u => exact I.after hq
    | next => exact False.elim hq
    | brk => exact False.elim hq
    | cont => exact False.elim hq
end
end Gb

namespace Gb
open PySem L2

inductive UR (α : Type) where
  | ok (a : α) (v : PEnv)
  | exc (e : D) (v : PEnv)
  | stuck
inductive UO where
  | nx (v : PEnv)
  | rt (d : D) (v : PEnv)
  | bk (v : PEnv)
  | ct (v : PEnv)
  | exc (e : D) (v : PEnv)
  | stuck
def UR.bind {α β : Type} (r : UR α) (f : α → PEnv → UR β) : UR β := match r with
  | .ok a v => f a v
  | .exc e v => .exc e v
  | .stuck => .stuck
def UR.out {α : Type} (r : UR α) (f : α → PEnv → UO) : UO := match r with
  | .ok a v => f a v
  | .exc e v => .exc e v
  | .stuck => .stuck
def UR.of {α : Type} (o : Option α) (v : PEnv) : UR α := match o with
  | some a => .ok a v
  | none => .stuck
section
variable {α β : Type}
@[simp] theorem UR.bind_ok (a : α) (v : PEnv) (f : α → PEnv → UR β) : (UR.ok a v).bind f = f a v := rfl
@[simp] theorem UR.bind_exc (e : D) (v : PEnv) (f : α → PEnv → UR β) : (UR.exc e v : UR α).bind f = .exc e v := rfl
@[simp] theorem UR.bind_stuck (f : α → PEnv → UR β) : (UR.stuck : UR α).bind f = .stuck := rfl
@[simp] theorem UR.out_ok (a : α) (v : PEnv) (f : α → PEnv → UO) : (UR.ok a v).out f = f a v := rfl
@[simp] theorem UR.out_exc (e : D) (v : PEnv) (f : α → PEnv → UO) : (UR.exc e v : UR α).out f = .exc e v := rfl
@[simp] theorem UR.out_stuck (f : α → PEnv → UO) : (UR.stuck : UR α).out f = .stuck := rfl
@[simp] theorem UR.of_some (a : α) (v : PEnv) : UR.of (some a) v = .ok a v := rfl
@[simp] theorem UR.of_none (v : PEnv) : UR.of (none : Option α) v = .stuck := rfl
end

mutual
def Den (L : Nat → Prop) (h : PHeap) : D → D → Prop
  | .lst us, d => ∃ n ds, d = .ref n ∧ ¬ L n ∧ h[n]? = some (.lst ds) ∧ DenL L h us ds
  | .fro us, d => ∃ ds, d = .fro ds ∧ DenL L h us ds
  | .dct ks vs, d => d = .dct ks vs
  | .tup us, d => ∃ ds, d = .tup ds ∧ DenL L h us ds
  | .map us, d => ∃ ds, d = .map ds ∧ DenL L h us ds
  | .ref _, _ => False
  | .non, d => d = .non
  | .bl b, d => d = .bl b
  | .int i, d => d = .int i
  | .str x, d => d = .str x
  | .gl x, d => d = .gl x
def DenL (L : Nat → Prop) (h : PHeap) : List D → List D → Prop
  | [], ds => ds = []
  | u :: us, ds => ∃ d r, ds = d :: r ∧ Den L h u d ∧ DenL L h us r
end
def Kp (L : Nat → Prop) (h : PHeap) (L' : Nat → Prop) (h' : PHeap) : Prop := ∀ n ds, ¬ L n → h[n]? = some (.lst ds) → ¬ L' n ∧ h'[n]? = some (.lst ds)
mutual
theorem Den.kp {L L' : Nat → Prop} {h h' : PHeap} (k : Kp L h L' h') : ∀ u d, Den L h u d → Den L' h' u d
  | .lst us, d, q => by
    rw [Den] at q ⊢
    obtain ⟨n, ds, e, l, g, q⟩ := q
    exact ⟨n, ds, e, (k n ds l g).1, (k n ds l g).2, DenL.kp k us ds q⟩
  | .fro us, d, q => by
    rw [Den] at q ⊢
    obtain ⟨ds, e, q⟩ := q
    exact ⟨ds, e, DenL.kp k us ds q⟩
  | .dct _ _, d, q => by rw [Den] at q ⊢; exact q
  | .tup us, d, q => by
    rw [Den] at q ⊢
    obtain ⟨ds, e, q⟩ := q
    exact ⟨ds, e, DenL.kp k us ds q⟩
  | .map us, d, q => by
    rw [Den] at q ⊢
    obtain ⟨ds, e, q⟩ := q
    exact ⟨ds, e, DenL.kp k us ds q⟩
  | .ref _, d, q => by rw [Den] at q; exact q.elim
  | .non, d, q => by rw [Den] at q ⊢; exact q
  | .bl _, d, q => by rw [Den] at q ⊢; exact q
  | .int _, d, q => by rw [Den] at q ⊢; exact q
  | .str _, d, q => by rw [Den] at q ⊢; exact q
  | .gl _, d, q => by rw [Den] at q ⊢; exact q
theorem DenL.kp {L L' : Nat → Prop} {h h' : PHeap} (k : Kp L h L' h') : ∀ us ds, DenL L h us ds → DenL L' h' us ds
  | [], ds, q => by rw [DenL] at q ⊢; exact q
  | u :: us, ds, q => by
    rw [DenL] at q ⊢
    obtain ⟨d, r, e, q1, q2⟩ := q
    exact ⟨d, r, e, Den.kp k u d q1, DenL.kp k us r q2⟩
end
section
variable {L L' : Nat → Prop} {h h' : PHeap}
theorem denL_nil {ds : List D} : DenL L h [] ds ↔ ds = [] := by rw [DenL]
theorem DenL.mk {u d : D} {us ds : List D} (q1 : Den L h u d) (q2 : DenL L h us ds) : DenL L h (u :: us) (d :: ds) := by rw [DenL]; exact ⟨d, ds, rfl, q1, q2⟩
theorem DenL.len : ∀ {us ds : List D}, DenL L h us ds → us.length = ds.length
  | [], ds, q => by rw [DenL] at q; rw [q]
  | u :: us, ds, q => by
    rw [DenL] at q
    obtain ⟨d, r, e, _, q2⟩ := q
    rw [e, List.length_cons, List.length_cons, DenL.len q2]
theorem DenL.app : ∀ {us ds vs es : List D}, DenL L h us ds → DenL L h vs es → DenL L h (us ++ vs) (ds ++ es)
  | [], ds, vs, es, q, r => by rw [DenL] at q; rw [q]; exact r
  | u :: us, ds, vs, es, q, r => by
    rw [DenL] at q
    obtain ⟨d, r', e, q1, q2⟩ := q
    rw [e]
    exact DenL.mk q1 (DenL.app q2 r)
theorem DenL.one {u d : D} (q : Den L h u d) : DenL L h [u] [d] := DenL.mk q (by rw [DenL])
theorem DenL.get : ∀ {us ds : List D} {i : Nat} {u : D}, DenL L h us ds → us[i]? = some u → ∃ d, ds[i]? = some d ∧ Den L h u d
  | [], ds, i, u, q, e => by simp at e
  | v :: us, ds, i, u, q, e => by
    rw [DenL] at q
    obtain ⟨d, r, e', q1, q2⟩ := q
    rw [e']
    cases i with
    | zero => simp at e; subst e; exact ⟨d, by simp, q1⟩
    | succ i => simp at e; obtain ⟨d', a, b⟩ := DenL.get q2 e; exact ⟨d', by simpa using a, b⟩
theorem DenL.drop : ∀ {n : Nat} {us ds : List D}, DenL L h us ds → DenL L h (us.drop n) (ds.drop n)
  | 0, us, ds, q => q
  | n + 1, [], ds, q => by rw [DenL] at q; rw [q]; simp; rw [DenL]
  | n + 1, u :: us, ds, q => by
    rw [DenL] at q
    obtain ⟨d, r, e, q1, q2⟩ := q
    rw [e]
    exact DenL.drop (n := n) q2
theorem DenL.take : ∀ {n : Nat} {us ds : List D}, DenL L h us ds → DenL L h (us.take n) (ds.take n)
  | 0, us, ds, q => by simp; rw [DenL]
  | n + 1, [], ds, q => by rw [DenL] at q; rw [q]; simp; rw [DenL]
  | n + 1, u :: us, ds, q => by
    rw [DenL] at q
    obtain ⟨d, r, e, q1, q2⟩ := q
    rw [e]
    exact DenL.mk q1 (DenL.take q2)
theorem DenL.set : ∀ {n : Nat} {us ds : List D} {u d : D}, DenL L h us ds → Den L h u d → DenL L h (us.set n u) (ds.set n d)
  | n, [], ds, u, d, q, r => by rw [DenL] at q; rw [q]; simp; rw [DenL]
  | 0, v :: us, ds, u, d, q, r => by
    rw [DenL] at q
    obtain ⟨d', r', e, q1, q2⟩ := q
    rw [e]
    exact DenL.mk r q2
  | n + 1, v :: us, ds, u, d, q, r => by
    rw [DenL] at q
    obtain ⟨d', r', e, q1, q2⟩ := q
    rw [e]
    exact DenL.mk q1 (DenL.set q2 r)
theorem DenL.rep {us ds : List D} (q : DenL L h us ds) : ∀ n, DenL L h (List.replicate n us).flatten (List.replicate n ds).flatten
  | 0 => by simp; rw [DenL]
  | n + 1 => by rw [List.replicate_succ, List.replicate_succ, List.flatten_cons, List.flatten_cons]; exact q.app (DenL.rep q n)
theorem DenL.zip : ∀ {us ds vs es : List D}, DenL L h us ds → DenL L h vs es → DenL L h (List.zipWith (fun p q => D.tup [p, q]) us vs) (List.zipWith (fun p q => D.tup [p, q]) ds es)
  | [], ds, vs, es, q, r => by rw [DenL] at q; rw [q]; simp; rw [DenL]
  | u :: us, ds, [], es, q, r => by rw [DenL] at r; rw [r]; simp; rw [DenL]
  | u :: us, ds, v :: vs, es, q, r => by
    rw [DenL] at q r
    obtain ⟨d, x, e, q1, q2⟩ := q
    obtain ⟨c, y, e', r1, r2⟩ := r
    rw [e, e', List.zipWith_cons_cons, List.zipWith_cons_cons]
    exact DenL.mk (by rw [Den]; exact ⟨_, rfl, DenL.mk q1 (.one r1)⟩) (DenL.zip q2 r2)
theorem DenL.ints : ∀ ns : List Int, DenL L h (ns.map D.int) (ns.map D.int)
  | [] => by simp; rw [DenL]
  | n :: ns => DenL.mk (by rw [Den]) (DenL.ints ns)
end
mutual
def D.gnd : D → Bool
  | .ref _ => false
  | .lst _ => false
  | .fro _ => false
  | .dct _ _ => true
  | .tup xs => D.gndL xs
  | .map _ => false
  | _ => true
def D.gndL : List D → Bool
  | [] => true
  | x :: xs => x.gnd && D.gndL xs
end
mutual
theorem gnd_den {L : Nat → Prop} {h : PHeap} : ∀ u, D.gnd u = true → Den L h u u
  | .ref _, e => by rw [D.gnd] at e; cases e
  | .lst _, e => by rw [D.gnd] at e; cases e
  | .fro _, e => by rw [D.gnd] at e; cases e
  | .dct _ _, _ => by rw [Den]
  | .tup us, e => by rw [D.gnd] at e; rw [Den]; exact ⟨us, rfl, gndL_den us e⟩
  | .map us, e => by rw [D.gnd] at e; cases e
  | .non, _ => by rw [Den]
  | .bl _, _ => by rw [Den]
  | .int _, _ => by rw [Den]
  | .str _, _ => by rw [Den]
  | .gl _, _ => by rw [Den]
theorem gndL_den {L : Nat → Prop} {h : PHeap} : ∀ us, D.gndL us = true → DenL L h us us
  | [], _ => by rw [DenL]
  | u :: us, e => by
    rw [D.gndL, Bool.and_eq_true] at e
    exact DenL.mk (gnd_den u e.1) (gndL_den us e.2)
end
mutual
theorem den_gnd {L : Nat → Prop} {h : PHeap} : ∀ u d, D.gnd u = true → Den L h u d → d = u
  | .ref _, d, e, q => by rw [D.gnd] at e; cases e
  | .lst _, d, e, q => by rw [D.gnd] at e; cases e
  | .fro _, d, e, q => by rw [D.gnd] at e; cases e
  | .dct _ _, d, _, q => by rw [Den] at q; exact q
  | .tup us, d, e, q => by
    rw [D.gnd] at e
    rw [Den] at q
    obtain ⟨ds, rfl, q⟩ := q
    rw [denL_gnd us ds e q]
  | .map us, d, e, q => by rw [D.gnd] at e; cases e
  | .non, d, _, q => by rw [Den] at q; exact q
  | .bl _, d, _, q => by rw [Den] at q; exact q
  | .int _, d, _, q => by rw [Den] at q; exact q
  | .str _, d, _, q => by rw [Den] at q; exact q
  | .gl _, d, _, q => by rw [Den] at q; exact q
theorem denL_gnd {L : Nat → Prop} {h : PHeap} : ∀ us ds, D.gndL us = true → DenL L h us ds → ds = us
  | [], ds, _, q => by rw [DenL] at q; exact q
  | u :: us, ds, e, q => by
    rw [D.gndL, Bool.and_eq_true] at e
    rw [DenL] at q
    obtain ⟨d, r, rfl, q1, q2⟩ := q
    rw [den_gnd u d e.1 q1, denL_gnd us r e.2 q2]
end
mutual
theorem den_small {L : Nat → Prop} {h : PHeap} {n : Nat} (w : (h.take n).all (Cell.small n) = true) : ∀ u d, d.small n = true → Den L h u d → Den L (h.take n) u d
  | .fro us, d, s, q => by
    rw [Den] at q ⊢
    obtain ⟨ds, rfl, q⟩ := q
    exact ⟨ds, rfl, denL_small w us ds (by simpa [D.small] using s) q⟩
  | .dct _ _, d, s, q => by rw [Den] at q ⊢; exact q
  | .lst us, d, s, q => by
    rw [Den] at q ⊢
    obtain ⟨m, ds, rfl, l, g, q⟩ := q
    have hm : m < n := by simpa using s
    have g' : (h.take n)[m]? = some (.lst ds) := by rw [List.getElem?_take, if_pos hm]; exact g
    refine ⟨m, ds, rfl, l, g', denL_small w us ds ?_ q⟩
    exact List.all_eq_true.mp w _ (List.mem_of_getElem? g')
  | .tup us, d, s, q => by
    rw [Den] at q ⊢
    obtain ⟨ds, rfl, q⟩ := q
    exact ⟨ds, rfl, denL_small w us ds (by simpa using s) q⟩
  | .map us, d, s, q => by
    rw [Den] at q ⊢
    obtain ⟨ds, rfl, q⟩ := q
    exact ⟨ds, rfl, denL_small w us ds (by simpa [D.small] using s) q⟩
  | .ref _, d, s, q => by rw [Den] at q; exact q.elim
  | .non, d, s, q => by rw [Den] at q ⊢; exact q
  | .bl _, d, s, q => by rw [Den] at q ⊢; exact q
  | .int _, d, s, q => by rw [Den] at q ⊢; exact q
  | .str _, d, s, q => by rw [Den] at q ⊢; exact q
  | .gl _, d, s, q => by rw [Den] at q ⊢; exact q
theorem denL_small {L : Nat → Prop} {h : PHeap} {n : Nat} (w : (h.take n).all (Cell.small n) = true) : ∀ us ds, D.smallL n ds = true → DenL L h us ds → DenL L (h.take n) us ds
  | [], ds, s, q => by rw [DenL] at q ⊢; exact q
  | u :: us, ds, s, q => by
    rw [DenL] at q ⊢
    obtain ⟨d, r, rfl, q1, q2⟩ := q
    rw [sm_consL, Bool.and_eq_true] at s
    exact ⟨d, r, rfl, den_small w u d s.1 q1, denL_small w us r s.2 q2⟩
end
theorem gc_cases (n : Nat) (d : D) (h : PHeap) : gc n d h = h ∨ (n < h.length ∧ d.small n = true ∧ (h.take n).all (Cell.small n) = true ∧ gc n d h = h.take n) := by
  unfold gc
  split
  · exact .inl rfl
  · rename_i hl
    split
    · rename_i w
      rw [Bool.and_eq_true] at w
      exact .inr ⟨by omega, w.1, w.2, rfl⟩
    · exact .inl rfl
theorem gc_den {L : Nat → Prop} {h : PHeap} {n : Nat} {u d : D} (q : Den L h u d) : Den L (gc n d h) u d := by
  rcases gc_cases n d h with e | ⟨_, s, w, e⟩
  · rw [e]; exact q
  · rw [e]; exact den_small w u d s q
theorem gc_get {h : PHeap} {n m : Nat} {d : D} {c : Cell} (hm : m < n) (q : h[m]? = some c) : (gc n d h)[m]? = some c := by
  rcases gc_cases n d h with e | ⟨_, _, _, e⟩
  · rw [e]; exact q
  · rw [e, List.getElem?_take, if_pos hm]; exact q
theorem gc_len {h : PHeap} {n : Nat} {d : D} (hn : n ≤ h.length) : n ≤ (gc n d h).length := by
  rcases gc_cases n d h with e | ⟨_, _, _, e⟩
  · rw [e]; exact hn
  · rw [e, List.length_take]; omega
theorem gc_denL {L : Nat → Prop} {h : PHeap} {n m : Nat} {d : D} {us ds : List D} (hm : m < n) (g : h[m]? = some (.lst ds)) (q : DenL L h us ds) : DenL L (gc n d h) us ds := by
  rcases gc_cases n d h with e | ⟨_, _, w, e⟩
  · rw [e]; exact q
  · rw [e]
    refine denL_small w us ds ?_ q
    have g' : (h.take n)[m]? = some (.lst ds) := by rw [List.getElem?_take, if_pos hm]; exact g
    exact List.all_eq_true.mp w _ (List.mem_of_getElem? g')
end Gb

namespace Gb
open PySem L2
structure Sx where
  O : List Nat
  P : List Nat
  M : List Nat
  fr : Bool
  Q : List Nat
def bxD (b : Bool) (us : List D) : D := match b with
  | false => .lst us
  | true => .map us
def bxC (b : Bool) (ds : List D) : Cell := match b with
  | false => .lst ds
  | true => .map ds
abbrev Sx.q (S : Sx) (i : Nat) : Bool := decide (i ∈ S.Q)
abbrev Ow := Nat → Option Nat
def lk (B : Nat → Prop) (ow : Ow) : Nat → Prop := fun n => B n ∨ ∃ i, ow i = some n
structure Rl (S : Sx) (k : Nat) (B : Nat → Prop) (ow : Ow) (h : PHeap) (env ven : PEnv) : Prop where
  kl : k ≤ h.length
  lt : ∀ n, B n → n < h.length
  inj : ∀ i j n, ow i = some n → ow j = some n → i = j
  dis : ∀ i n, ow i = some n → ¬ B n
  frs : ∀ i n, ow i = some n → i ∉ S.P → k ≤ n
  own : ∀ i n, ow i = some n → i ∈ S.O ∧ env[i]? = some (some (.ref n)) ∧ ∃ us ds, ven[i]? = some (some (bxD (S.q i) us)) ∧ h[n]? = some (bxC (S.q i) ds) ∧ DenL (lk B ow) h us ds
  all : ∀ i u, i ∈ S.O → ven[i]? = some (some u) → ∃ n, ow i = some n
  len : env.length = ven.length
  oth : ∀ i u, i ∉ S.O → ven[i]? = some (some u) → ∃ d, env[i]? = some (some d) ∧ Den (lk B ow) h u d
structure Stp (S : Sx) (ow : Ow) (h : PHeap) (ow' : Ow) (h' : PHeap) : Prop where
  len : h.length ≤ h'.length
  keep : ∀ (n : Nat) (c : Cell), (∀ i, ow i = some n → i ∉ S.M) → h[n]? = some c → h'[n]? = some c
  sub : ∀ i n, ow' i = some n → ow i = some n ∨ h.length ≤ n
  pin : ∀ i, i ∈ S.P → ow' i = ow i
theorem get_lt {h : PHeap} {n : Nat} {c : Cell} (e : h[n]? = some c) : n < h.length := (List.getElem?_eq_some_iff.mp e).1
section
variable {S : Sx} {k : Nat} {B : Nat → Prop} {ow ow' ow2 : Ow} {h h' h2 : PHeap} {env ven env' ven' : PEnv}
theorem Rl.ownL (r : Rl S k B ow h env ven) {i n : Nat} (hq : i ∉ S.Q) (e : ow i = some n) : i ∈ S.O ∧ env[i]? = some (some (.ref n)) ∧ ∃ us ds, ven[i]? = some (some (.lst us)) ∧ h[n]? = some (.lst ds) ∧ DenL (lk B ow) h us ds := by
  have := r.own i n e
  rw [show S.q i = false from decide_eq_false hq] at this
  exact this
theorem Stp.refl : Stp S ow h ow h := ⟨Nat.le_refl _, fun _ _ _ e => e, fun _ _ e => .inl e, fun _ _ => rfl⟩
theorem Stp.trans (a : Stp S ow h ow' h') (b : Stp S ow' h' ow2 h2) : Stp S ow h ow2 h2 := by
  refine ⟨Nat.le_trans a.len b.len, fun n c q e => b.keep n c (fun i e2 => ?_) (a.keep n c q e), fun i n e => ?_, fun i m => (b.pin i m).trans (a.pin i m)⟩
  · rcases a.sub i n e2 with e3 | e3
    · exact q i e3
    · have := get_lt e; omega
  · rcases b.sub i n e with e3 | e3
    · exact a.sub i n e3
    · exact .inr (Nat.le_trans a.len e3)
theorem Stp.kp (a : Stp S ow h ow' h') : Kp (lk B ow) h (lk B ow') h' := by
  intro n ds l e
  refine ⟨fun l2 => ?_, a.keep n _ (fun i e2 => absurd (Or.inr ⟨i, e2⟩) l) e⟩
  rcases l2 with l2 | ⟨i, e2⟩
  · exact l (.inl l2)
  · rcases a.sub i n e2 with e3 | e3
    · exact l (.inr ⟨i, e3⟩)
    · have := get_lt e; omega
theorem Stp.wide {M' : List Nat} (a : Stp { S with M := M' } ow h ow' h') (hm : ∀ i, i ∈ M' → i ∈ S.M) : Stp S ow h ow' h' :=
  ⟨a.len, fun n c q e => a.keep n c (fun i e2 m => q i e2 (hm i m)) e, a.sub, a.pin⟩
theorem Rl.toM {M' : List Nat} (r : Rl S k B ow h env ven) : Rl { S with M := M' } k B ow h env ven := ⟨r.kl, r.lt, r.inj, r.dis, r.frs, r.own, r.all, r.len, r.oth⟩
theorem Rl.ofM {M' : List Nat} (r : Rl { S with M := M' } k B ow h env ven) : Rl S k B ow h env ven := ⟨r.kl, r.lt, r.inj, r.dis, r.frs, r.own, r.all, r.len, r.oth⟩
theorem Rl.fresh (r : Rl S k B ow h env ven) {n : Nat} (hn : h.length ≤ n) : ¬ lk B ow n := by
  rintro (q | ⟨i, e⟩)
  · have := r.lt n q; omega
  · obtain ⟨_, _, us, ds, _, e2, _⟩ := r.own i n e
    have := get_lt e2; omega
theorem get_app {h l : PHeap} {n : Nat} {c : Cell} (e : h[n]? = some c) : (h ++ l)[n]? = some c := by
  rw [List.getElem?_append_left (get_lt e)]; exact e
theorem Rl.app (r : Rl S k B ow h env ven) (l : PHeap) : Rl S k B ow (h ++ l) env ven := by
  have kp : Kp (lk B ow) h (lk B ow) (h ++ l) := fun n ds q e => ⟨q, get_app e⟩
  refine ⟨by have := r.kl; simp; omega, fun n q => by have := r.lt n q; simp; omega, r.inj, r.dis, r.frs, fun i n e => ?_, r.all, r.len, fun i u a b => ?_⟩
  · obtain ⟨a, b, us, ds, c, d, q⟩ := r.own i n e
    exact ⟨a, b, us, ds, c, get_app d, DenL.kp kp us ds q⟩
  · obtain ⟨d, e, q⟩ := r.oth i u a b
    exact ⟨d, e, Den.kp kp u d q⟩
theorem Stp.app (l : PHeap) : Stp S ow h ow (h ++ l) := ⟨by simp, fun _ _ _ e => get_app e, fun _ _ e => .inl e, fun _ _ => rfl⟩
theorem Rl.pass (r : Rl S k B ow h env ven) (hl : h.length ≤ h'.length) (hk : ∀ (n : Nat) (c : Cell), h[n]? = some c → h'[n]? = some c) : Rl S k B ow h' env ven := by
  have kp : Kp (lk B ow) h (lk B ow) h' := fun n ds q e => ⟨q, hk n _ e⟩
  refine ⟨Nat.le_trans r.kl hl, fun n q => Nat.lt_of_lt_of_le (r.lt n q) hl, r.inj, r.dis, r.frs, fun i n e => ?_, r.all, r.len, fun i u a b => ?_⟩
  · obtain ⟨a, b, us, ds, c, d, q⟩ := r.own i n e
    exact ⟨a, b, us, ds, c, hk _ _ d, DenL.kp kp us ds q⟩
  · obtain ⟨d, e, q⟩ := r.oth i u a b
    exact ⟨d, e, Den.kp kp u d q⟩
theorem Stp.pass (hl : h.length ≤ h'.length) (hk : ∀ (n : Nat) (c : Cell), h[n]? = some c → h'[n]? = some c) : Stp S ow h ow h' := ⟨hl, fun n c _ e => hk n c e, fun _ _ e => .inl e, fun _ _ => rfl⟩
def dropO (ow : Ow) (X : List Nat) : Ow := fun i => if i ∈ X then none else ow i
theorem dropO_some {X : List Nat} {i n : Nat} (e : dropO ow X i = some n) : ow i = some n ∧ i ∉ X := by
  unfold dropO at e
  split at e
  · cases e
  · exact ⟨e, by assumption⟩
theorem dropO_kp {X : List Nat} : Kp (lk B ow) h (lk B (dropO ow X)) h := fun n ds q e => ⟨by
  rintro (l | ⟨i, e2⟩)
  · exact q (.inl l)
  · exact q (.inr ⟨i, (dropO_some e2).1⟩), e⟩
theorem Stp.drop {X : List Nat} (hp : ∀ i, i ∈ S.P → i ∉ X) : Stp S ow h (dropO ow X) h := ⟨Nat.le_refl _, fun _ _ _ e => e, fun _ _ e => .inl (dropO_some e).1, fun i m => by unfold dropO; rw [if_neg (hp i m)]⟩
theorem Rl.forget (r : Rl S k B ow h env ven) {X : List Nat} (hl : ven'.length = ven.length) (hle : env'.length = env.length) (hv : ∀ i u, ven'[i]? = some (some u) → ven[i]? = some (some u) ∧ i ∉ X) (hv2 : ∀ i u, i ∉ X → ven[i]? = some (some u) → ven'[i]? = some (some u)) (he : ∀ i, i ∉ X → env'[i]? = env[i]?) : Rl S k B (dropO ow X) h env' ven' := by
  refine ⟨r.kl, r.lt, fun i j n a b => r.inj i j n (dropO_some a).1 (dropO_some b).1, fun i n a => r.dis i n (dropO_some a).1, fun i n a => r.frs i n (dropO_some a).1, fun i n e => ?_, fun i u m e => ?_, by rw [hl, hle, r.len], fun i u m e => ?_⟩
  · obtain ⟨e1, e2⟩ := dropO_some e
    obtain ⟨a, b, us, ds, c, d, q⟩ := r.own i n e1
    exact ⟨a, by rw [he i e2]; exact b, us, ds, hv2 i _ e2 c, d, DenL.kp dropO_kp us ds q⟩
  · obtain ⟨e1, e2⟩ := hv i u e
    obtain ⟨n, e3⟩ := r.all i u m e1
    exact ⟨n, by unfold dropO; rw [if_neg e2]; exact e3⟩
  · obtain ⟨e1, e2⟩ := hv i u e
    obtain ⟨d, e3, q⟩ := r.oth i u m e1
    exact ⟨d, by rw [he i e2]; exact e3, Den.kp dropO_kp u d q⟩
theorem wipeE_get {env : PEnv} {i : Nat} : ∀ {vs : List Nat}, i ∉ vs → (wipeE env vs)[i]? = env[i]?
  | [], _ => rfl
  | v :: vs, q => by
    show ((wipeE env vs).set v none)[i]? = _
    rw [List.getElem?_set_ne (fun e => q (by rw [e]; exact List.mem_cons_self ..)), wipeE_get fun m => q (List.mem_cons_of_mem _ m)]
theorem Rl.wipe (r : Rl S k B ow h env ven) (X : List Nat) : Rl S k B (dropO ow X) h (wipeE env X) (wipeE ven X) :=
  r.forget (wipeE_length _ _) (wipeE_length _ _) (fun i u e => wipeE_some e) (fun i u m e => by rw [wipeE_get m]; exact e) (fun i m => wipeE_get m)
theorem Rl.set (r : Rl S k B ow h env ven) {i : Nat} {u d : D} (hi : i ∉ S.O) (q : Den (lk B ow) h u d) : Rl S k B ow h (env.set i (some d)) (ven.set i (some u)) := by
  refine ⟨r.kl, r.lt, r.inj, r.dis, r.frs, fun j n e => ?_, fun j v m e => ?_, by simp [r.len], fun j v m e => ?_⟩
  · obtain ⟨a, b, us, ds, c, d, q⟩ := r.own j n e
    have hij : i ≠ j := fun e => hi (e ▸ a)
    exact ⟨a, by rw [List.getElem?_set_ne hij]; exact b, us, ds, by rw [List.getElem?_set_ne hij]; exact c, d, q⟩
  · have hij : i ≠ j := fun e => hi (e ▸ m)
    rw [List.getElem?_set_ne hij] at e
    exact r.all j v m e
  · by_cases hij : i = j
    · subst hij
      have hl : i < ven.length := by
        have := (List.getElem?_eq_some_iff.mp e).1; simpa using this
      rw [List.getElem?_set_self hl] at e
      cases e
      exact ⟨d, by rw [List.getElem?_set_self (by rw [r.len]; exact hl)], q⟩
    · rw [List.getElem?_set_ne hij] at e ⊢
      exact r.oth j v m e
def setOw (ow : Ow) (i n : Nat) : Ow := fun j => if j = i then some n else ow j
theorem setOw_some {ow : Ow} {i n j m : Nat} (e : setOw ow i n j = some m) : (j = i ∧ m = n) ∨ (j ≠ i ∧ ow j = some m) := by
  unfold setOw at e
  split at e
  · cases e; exact .inl ⟨by assumption, rfl⟩
  · exact .inr ⟨by assumption, e⟩
theorem setOw_same {ow : Ow} {i n : Nat} : setOw ow i n i = some n := by unfold setOw; rw [if_pos rfl]
theorem setOw_ne {ow : Ow} {i n j : Nat} (hj : j ≠ i) : setOw ow i n j = ow j := by unfold setOw; rw [if_neg hj]
theorem Rl.setOb (r : Rl S k B ow h env ven) {i n : Nat} {us ds : List D} {bb : Bool} (hb : S.q i = bb) (hi : i ∈ S.O) (hl : h.length ≤ h'.length) (hk : ∀ (n : Nat) (c : Cell), h[n]? = some c → h'[n]? = some c)
    (hn : h.length ≤ n) (hg : h'[n]? = some (bxC bb ds)) (q : DenL (fun m => lk B ow m ∨ m = n) h' us ds)
    (hv : i < ven.length) : Rl S k B (setOw ow i n) h' (env.set i (some (.ref n))) (ven.set i (some (bxD bb us))) := by
  subst hb
  have hf := r.fresh hn
  have ne : ∀ {j m}, ow j = some m → m ≠ n := fun {j m} e e2 => hf (.inr ⟨j, e2 ▸ e⟩)
  have kp0 : Kp (fun m => lk B ow m ∨ m = n) h' (lk B (setOw ow i n)) h' := fun m cs l e => ⟨by
    rintro (l2 | ⟨j, e2⟩)
    · exact l (.inl (.inl l2))
    · rcases setOw_some e2 with ⟨_, e3⟩ | ⟨_, e3⟩
      · exact l (.inr e3)
      · exact l (.inl (.inr ⟨j, e3⟩)), e⟩
  have kp : Kp (lk B ow) h (lk B (setOw ow i n)) h' := fun m cs l e => ⟨by
    rintro (l2 | ⟨j, e2⟩)
    · exact l (.inl l2)
    · rcases setOw_some e2 with ⟨_, e3⟩ | ⟨_, e3⟩
      · have := get_lt e; omega
      · exact l (.inr ⟨j, e3⟩), hk m _ e⟩
  refine ⟨Nat.le_trans r.kl hl, fun m q => Nat.lt_of_lt_of_le (r.lt m q) hl, fun a b m e1 e2 => ?_, fun a m e => ?_, fun a m e hp2 => ?_, fun a m e => ?_, fun a v m e => ?_, by simp [r.len], fun a v m e => ?_⟩
  · rcases setOw_some e1 with ⟨e3, e4⟩ | ⟨e3, e4⟩ <;> rcases setOw_some e2 with ⟨e5, e6⟩ | ⟨e5, e6⟩
    · rw [e3, e5]
    · exact absurd e4 (ne e6)
    · exact absurd e6 (ne e4)
    · exact r.inj a b m e4 e6
  · rcases setOw_some e with ⟨e3, e4⟩ | ⟨e3, e4⟩
    · subst e4; exact fun q => hf (.inl q)
    · exact r.dis a m e4
  · rcases setOw_some e with ⟨e3, e4⟩ | ⟨e3, e4⟩
    · have := r.kl; omega
    · exact r.frs a m e4 hp2
  · rcases setOw_some e with ⟨e3, e4⟩ | ⟨e3, e4⟩
    · subst e3; subst e4
      exact ⟨hi, List.getElem?_set_self (by rw [r.len]; exact hv), us, ds, List.getElem?_set_self hv, hg, DenL.kp kp0 us ds q⟩
    · obtain ⟨x1, x2, vs, cs, x3, x4, x5⟩ := r.own a m e4
      exact ⟨x1, by rw [List.getElem?_set_ne (fun e => e3 e.symm)]; exact x2, vs, cs, by rw [List.getElem?_set_ne (fun e => e3 e.symm)]; exact x3, hk _ _ x4, DenL.kp kp vs cs x5⟩
  · by_cases ea : a = i
    · exact ⟨n, by rw [ea]; exact setOw_same⟩
    · rw [List.getElem?_set_ne (fun e => ea e.symm)] at e
      obtain ⟨x, y⟩ := r.all a v m e
      exact ⟨x, by rw [setOw_ne ea]; exact y⟩
  · have ea : a ≠ i := fun e => m (e ▸ hi)
    rw [List.getElem?_set_ne (fun e => ea e.symm)] at e ⊢
    obtain ⟨d, y1, y2⟩ := r.oth a v m e
    exact ⟨d, y1, Den.kp kp v d y2⟩
theorem Rl.setO (r : Rl S k B ow h env ven) {i n : Nat} {us ds : List D} (hi : i ∈ S.O) (hl : h.length ≤ h'.length) (hk : ∀ (n : Nat) (c : Cell), h[n]? = some c → h'[n]? = some c)
    (hn : h.length ≤ n) (hg : h'[n]? = some (.lst ds)) (q : DenL (fun m => lk B ow m ∨ m = n) h' us ds)
    (hv : i < ven.length) (hq : i ∉ S.Q) : Rl S k B (setOw ow i n) h' (env.set i (some (.ref n))) (ven.set i (some (.lst us))) := r.setOb (bb := false) (decide_eq_false hq) hi hl hk hn hg q hv
theorem Stp.setO {i n : Nat} (hp : i ∉ S.P) (hl : h.length ≤ h'.length) (hk : ∀ (n : Nat) (c : Cell), h[n]? = some c → h'[n]? = some c) (hn : h.length ≤ n) : Stp S ow h (setOw ow i n) h' :=
  ⟨hl, fun n c _ e => hk n c e, fun j m e => by
    rcases setOw_some e with ⟨_, e3⟩ | ⟨_, e3⟩
    · exact .inr (by omega)
    · exact .inl e3, fun j m => setOw_ne fun e => hp (e ▸ m)⟩
theorem Rl.writeB (r : Rl S k B ow h env ven) {i n : Nat} {us ds : List D} {bb : Bool} (hb : S.q i = bb) (e : ow i = some n) (q : DenL (lk B ow) h us ds) : Rl S k B ow (h.set n (bxC bb ds)) env (ven.set i (some (bxD bb us))) := by
  subst hb
  obtain ⟨x1, x2, vs, cs, x3, x4, x5⟩ := r.own i n e
  have hl := get_lt x4
  have hi : i < ven.length := (List.getElem?_eq_some_iff.mp x3).1
  have kp : Kp (lk B ow) h (lk B ow) (h.set n (bxC (S.q i) ds)) := fun m es l g => ⟨l, by rw [List.getElem?_set_ne (fun e2 : n = m => l (.inr ⟨i, by rw [← e2]; exact e⟩))]; exact g⟩
  refine ⟨by simpa using r.kl, fun m q => by simpa using r.lt m q, r.inj, r.dis, r.frs, fun j m g => ?_, fun j v m g => ?_, by simp [r.len], fun j v m g => ?_⟩
  · by_cases hj : j = i
    · subst hj
      rw [e] at g; cases g
      exact ⟨x1, x2, us, ds, List.getElem?_set_self hi, List.getElem?_set_self hl, DenL.kp kp us ds q⟩
    · obtain ⟨y1, y2, ws, es, y3, y4, y5⟩ := r.own j m g
      have hm : n ≠ m := fun e2 => hj (r.inj j i m g (e2 ▸ e))
      exact ⟨y1, y2, ws, es, by rw [List.getElem?_set_ne (fun e => hj e.symm)]; exact y3, by rw [List.getElem?_set_ne hm]; exact y4, DenL.kp kp ws es y5⟩
  · by_cases hj : j = i
    · subst hj; exact ⟨n, e⟩
    · rw [List.getElem?_set_ne (fun e => hj e.symm)] at g
      exact r.all j v m g
  · have hj : j ≠ i := fun e => m (e ▸ x1)
    rw [List.getElem?_set_ne (fun e => hj e.symm)] at g
    obtain ⟨d, y1, y2⟩ := r.oth j v m g
    exact ⟨d, y1, Den.kp kp v d y2⟩
theorem Rl.write (r : Rl S k B ow h env ven) {i n : Nat} {us ds : List D} (e : ow i = some n) (q : DenL (lk B ow) h us ds) (hq : i ∉ S.Q) : Rl S k B ow (h.set n (.lst ds)) env (ven.set i (some (.lst us))) := r.writeB (bb := false) (decide_eq_false hq) e q
theorem Stp.write {i n : Nat} {c : Cell} (e : ow i = some n) (hm : i ∈ S.M) : Stp S ow h ow (h.set n c) :=
  ⟨by simp, fun m c q g => by rw [List.getElem?_set_ne (fun e2 : n = m => q i (by rw [← e2]; exact e) hm)]; exact g, fun _ _ e => .inl e, fun _ _ => rfl⟩
end

abbrev Re (β α : Type) := (Nat → Prop) → Ow → PHeap → β → α → Prop
def RD : Re D D := fun B ow h u d => Den (lk B ow) h u d
def RL : Re (List D) (List D) := fun B ow h u d => DenL (lk B ow) h u d
def RB {α : Type} : Re α α := fun _ _ _ u d => u = d
def DenV (L : Nat → Prop) (h : PHeap) (u : D) : LV → Prop
  | .val d => Den L h u d
  | .new ds => ∃ us, u = .lst us ∧ DenL L h us ds
def RV : Re D LV := fun B ow h u x => DenV (lk B ow) h u x
def DenW (L : Nat → Prop) (h : PHeap) (u : D) (x : LV) : Prop := DenV L h u x ∨ ∃ n us ds, x = .val (.ref n) ∧ u = .lst us ∧ h[n]? = some (.lst ds) ∧ DenL L h us ds
def RW : Re D LV := fun B ow h u x => DenW (lk B ow) h u x
def RI (X : List Nat) : Re (List D) Itr := fun B ow h us t => DenL (lk B ow) h us t.items ∧ ∀ p ∈ t.deps, h[p.1]? = some (.lst p.2) ∧ ¬ B p.1 ∧ ∀ i, ow i = some p.1 → i ∈ X
section
variable {α β γ δ : Type}
class Sta (S : Sx) (R : Re β α) : Prop where
  sta : ∀ {B ow h ow' h' u a}, Stp S ow h ow' h' → R B ow h u a → R B ow' h' u a
instance {S : Sx} : Sta S RD := ⟨fun s q => Den.kp s.kp _ _ q⟩
instance {S : Sx} : Sta S RL := ⟨fun s q => DenL.kp s.kp _ _ q⟩
instance {S : Sx} : Sta S (RB (α := α)) := ⟨fun s q => q⟩
instance {S : Sx} : Sta S RV := ⟨fun {B ow h ow' h' u a} s q => by
  cases a with
  | val d => exact Den.kp s.kp _ _ q
  | new ds => obtain ⟨us, e, q⟩ := q; exact ⟨us, e, DenL.kp s.kp _ _ q⟩⟩
theorem RI.sta {S : Sx} {X : List Nat} (hX : ∀ i, i ∈ X → i ∉ S.M) {B ow h ow' h' u a} (s : Stp S ow h ow' h') (q : RI X B ow h u a) : RI X B ow' h' u a := by
  refine ⟨DenL.kp s.kp _ _ q.1, fun p m => ?_⟩
  obtain ⟨g, b, o⟩ := q.2 p m
  refine ⟨s.keep _ _ (fun i e => hX i (o i e)) g, b, fun i e => ?_⟩
  rcases s.sub i _ e with e2 | e2
  · exact o i e2
  · have := get_lt g; omega
theorem RI.live {X : List Nat} {B ow h u a} (q : RI X B ow h u a) : a.live h = true := by
  unfold Itr.live
  refine List.all_eq_true.mpr fun p m => ?_
  rw [(q.2 p m).1]
  exact decide_eq_true rfl
def Post (S : Sx) (R : Re β α) (k : Nat) (B : Nat → Prop) (ow : Ow) (h : PHeap) (env : PEnv) (r : Res α) (w : UR β) : Prop := match w with
  | .ok u ven' => ∃ a h' ow', r = .ok a h' ∧ Rl S k B ow' h' env ven' ∧ Stp S ow h ow' h' ∧ R B ow' h' u a
  | .exc e ven' => ∃ h' ow', r = .exc e h' ∧ Rl S k B ow' h' env ven' ∧ Stp S ow h ow' h'
  | .stuck => True
def JU (S : Sx) (R : Re β α) (m : PEnv → PHeap → Res α) (v : PEnv → UR β) : Prop := ∀ k B ow h env ven, Rl S k B ow h env ven → Post S R k B ow h env (m env h) (v ven)
variable {S : Sx} {R : Re β α} {R' : Re δ γ} {k : Nat} {B : Nat → Prop} {ow : Ow} {h : PHeap} {env ven : PEnv}
theorem Post.bind {r : Res α} {w : UR β} {f : α → PHeap → Res γ} {g : β → PEnv → UR δ} (p : Post S R k B ow h env r w)
    (hf : ∀ a h1 ow1 ven1 u, Rl S k B ow1 h1 env ven1 → Stp S ow h ow1 h1 → R B ow1 h1 u a → Post S R' k B ow1 h1 env (f a h1) (g u ven1)) : Post S R' k B ow h env (r.bind f) (w.bind g) := by
  cases w with
  | ok u ven1 =>
    obtain ⟨a, h1, ow1, rfl, r1, s1, q1⟩ := p
    have := hf a h1 ow1 ven1 u r1 s1 q1
    simp only [Res.bind_ok, UR.bind_ok]
    generalize g u ven1 = w2 at this
    cases w2 with
    | ok u2 v2 => obtain ⟨a2, h2, ow2, e, r2, s2, q2⟩ := this; exact ⟨a2, h2, ow2, e, r2, s1.trans s2, q2⟩
    | exc e v2 => obtain ⟨h2, ow2, e, r2, s2⟩ := this; exact ⟨h2, ow2, e, r2, s1.trans s2⟩
    | stuck => trivial
  | exc e ven1 =>
    obtain ⟨h1, ow1, rfl, r1, s1⟩ := p
    exact ⟨h1, ow1, rfl, r1, s1⟩
  | stuck => trivial
theorem Post.ok {a : α} {u : β} (r : Rl S k B ow h env ven) (q : R B ow h u a) : Post S R k B ow h env (.ok a h) (.ok u ven) := ⟨a, h, ow, rfl, r, .refl, q⟩
theorem Post.map {R2 : Re β α} {r : Res α} {w : UR β} (p : Post S R k B ow h env r w) (hf : ∀ {h1 ow1 ven1 u a}, Rl S k B ow1 h1 env ven1 → R B ow1 h1 u a → R2 B ow1 h1 u a) : Post S R2 k B ow h env r w := by
  cases w with
  | ok u v => obtain ⟨a, h1, ow1, e, r1, s1, q1⟩ := p; exact ⟨a, h1, ow1, e, r1, s1, hf r1 q1⟩
  | exc e v => exact p
  | stuck => trivial
def UR.calm (w : UR β) : UR β := match w with
  | .exc _ _ => .stuck
  | w => w
theorem Post.calm {r : Res α} {w : UR β} (p : Post S R k B ow h env r w) : Post S R k B ow h env r.calm w.calm := by
  cases w with
  | ok u v => obtain ⟨a, h1, ow1, rfl, r1⟩ := p; exact ⟨a, h1, ow1, rfl, r1⟩
  | exc e v => trivial
  | stuck => trivial
theorem Post.of {g : Option β} {r : Res α} (rl : Rl S k B ow h env ven) (q : ∀ u, g = some u → ∃ a, r = .ok a h ∧ R B ow h u a) : Post S R k B ow h env r (UR.of g ven) := by
  cases g with
  | none => trivial
  | some u => obtain ⟨a, e, q⟩ := q u rfl; exact ⟨a, h, ow, e, rl, .refl, q⟩
end
end Gb

namespace Gb
open PySem L2
abbrev UE := PEnv → UR D
abbrev UT := PEnv → UR Bool
abbrev UA := PEnv → UR (List D)
inductive UX where
  | ok (d : D)
  | exc (e : D)
  | stuck
inductive UM where
  | ok (d : D) (s : List D)
  | exc (e : D) (s : List D)
  | stuck
abbrev UF := List D → UX
abbrev UG := List D → List D → UM
def uVar (i : Nat) : UE := fun v => match v[i]? with
  | some (some d) => .ok d v
  | _ => .stuck
def uC (d : D) : UE := fun v => .ok d v
def uBin (g : D → D → Option D) (a b : UE) : UE := fun v => (a v).bind fun x v1 => (b v1).bind fun y v2 => .of (g x y) v2
def uUn (g : D → Option D) (a : UE) : UE := fun v => (a v).bind fun x v1 => .of (g x) v1
def uNil : UA := fun v => .ok [] v
def uCons (a : UE) (r : UA) : UA := fun v => (a v).bind fun x v1 => (r v1).bind fun xs v2 => .ok (x :: xs) v2
def uTup (a : UA) : UE := fun v => (a v).bind fun xs v1 => if xs.length ≤ 16777216 then .ok (.tup xs) v1 else .stuck
def uNew (a : UA) : UE := fun v => (a v).bind fun xs v1 => .ok (.lst xs) v1
def uDisp (a : UA) : UA := fun v => (a v).bind fun xs v1 => if xs.length ≤ 16777216 then .ok xs v1 else .stuck
def uTst (a : UE) (g : D → Option Bool) : UT := fun v => (a v).bind fun x v1 => .of (g x) v1
def uTB (a : UE) : UT := fun v => (a v).bind fun d v1 => match d with
  | .bl b => .ok b v1
  | _ => .stuck
def uTNot (c : UT) : UT := fun v => (c v).bind fun k v1 => .ok (!k) v1
def uTOr (a b : UT) : UT := fun v => (a v).bind fun k v1 => match k with
  | true => .ok true v1
  | false => b v1
def uTYes : UT := fun v => .ok true v
def gTruth : D → Option Bool := fun d => match d with
  | .non => some false
  | .bl b => some b
  | .int i => some (i != 0)
  | .str x => if x.length ≤ 16777216 then some ((x.length : Int) != 0) else none
  | .tup xs => some (!xs.isEmpty)
  | .lst xs => some (!xs.isEmpty)
  | .fro xs => some (!xs.isEmpty)
  | .dct _ _ => none
  | .map _ => none
  | .gl _ => none
  | .ref _ => none
def uAnd (a b : UE) : UE := fun v => (a v).bind fun d v1 => (UR.of (gTruth d) v1).bind fun k v2 => match k with
  | true => b v2
  | false => .ok d v2
def uNot (a : UE) : UE := fun v => (a v).bind fun d v1 => (UR.of (gTruth d) v1).bind fun k v2 => .ok (.bl (!k)) v2
def uChain (f g : D → D → Option D) (a b c : UE) : UE := fun v => (a v).bind fun x v1 => (b v1).bind fun y v2 => match f x y with
  | some (.bl true) => (c v2).bind fun w v4 => .of (g y w) v4
  | some (.bl false) => .ok (.bl false) v2
  | _ => .stuck
def u1 {β : Type} (g : D → Option β) (a : UE) : PEnv → UR β := fun v => (a v).bind fun x v1 => .of (g x) v1
def u2 {β : Type} (g : D → D → Option β) (a b : UE) : PEnv → UR β := fun v => (a v).bind fun x v1 => (b v1).bind fun y v2 => .of (g x y) v2
def u2o {β : Type} (g : D → D → Option β) (i : Nat) (b : UE) : PEnv → UR β := fun v => (uVar i v).bind fun _ v1 => (b v1).bind fun y v2 => (uVar i v2).bind fun x v3 => .of (g x y) v3
def UX.res (r : UX) (v : PEnv) : UR D := match r with
  | .ok d => .ok d v
  | .exc e => .exc e v
  | .stuck => .stuck
def UM.res (r : UM) (i : Nat) (v : PEnv) : UR D := match r with
  | .ok d s => .ok d (v.set i (some (.lst s)))
  | .exc e s => .exc e (v.set i (some (.lst s)))
  | .stuck => .stuck
def uOwn (i : Nat) : UA := fun v => match v[i]? with
  | some (some (.lst xs)) => .ok xs v
  | _ => .stuck
def uCall (F : UF) (a : UA) : UE := fun v => (a v).bind fun ds v1 => (F ds).res v1
def uCallM (F : UG) (i : Nat) (a : UA) : UE := fun v => (uOwn i v).bind fun _ v0 => (a v0).bind fun ds v1 => (uOwn i v1).bind fun s v2 => (F s ds).res i v2
def UX.gnd (r : UX) : UX := match r with
  | .ok d => if d.gnd = true then .ok d else .stuck
  | r => r
section
variable {α β : Type} {S : Sx} {a b c : ME} {va vb vc : UE} {m : MA} {w : UA} {t t2 : MT} {x x2 : UT} {mo mp : MO} {i : Nat}
theorem uVar_cases (i : Nat) (v : PEnv) : uVar i v = .stuck ∨ ∃ u, v[i]? = some (some u) ∧ uVar i v = .ok u v := by
  unfold uVar
  split
  · rename_i u e; exact .inr ⟨u, e, rfl⟩
  · exact .inl rfl
theorem uOwn_cases (i : Nat) (v : PEnv) : uOwn i v = .stuck ∨ ∃ us, v[i]? = some (some (.lst us)) ∧ uOwn i v = .ok us v := by
  unfold uOwn
  split
  · rename_i u e; exact .inr ⟨u, e, rfl⟩
  · exact .inl rfl
theorem mVar_at {env : PEnv} {h : PHeap} {d : D} (e : env[i]? = some (some d)) : mVar i env h = .ok d h := by unfold mVar; rw [e]
theorem ue_var (hi : i ∉ S.O) : JU S RD (mVar i) (uVar i) := by
  intro k B ow h env ven r
  rcases uVar_cases i ven with e | ⟨u, e, e1⟩
  · rw [e]; trivial
  · obtain ⟨d, e2, q⟩ := r.oth i u hi e
    rw [e1, mVar_at e2]
    exact .ok r q
theorem ue_c {d : D} (hd : d.gnd = true := by rfl) : JU S RD (mC d) (uC d) := fun k B ow h env ven r => .ok r (gnd_den d hd)
def MB (f : D → D → PHeap → Res D) (g : D → D → Option D) : Prop := ∀ L h u w d e z, Den L h u d → Den L h w e → g u w = some z → f d e h = .ok z h ∧ z.gnd = true
def MU (f : D → PHeap → Res D) (g : D → Option D) : Prop := ∀ L h u d z, Den L h u d → g u = some z → f d h = .ok z h ∧ z.gnd = true
theorem ue_bin {f : D → D → PHeap → Res D} {g : D → D → Option D} (hf : MB f g) (ha : JU S RD a va) (hb : JU S RD b vb) : JU S RD (mBin f a b) (uBin g va vb) := fun k B ow h env ven r =>
  (ha k B ow h env ven r).bind fun d h1 ow1 v1 u r1 s1 q1 => (hb k B ow1 h1 env v1 r1).bind fun e h2 ow2 v2 w r2 s2 q2 => .of r2 fun z ez => by
    obtain ⟨e1, e2⟩ := hf (lk B ow2) h2 u w d e z (Sta.sta s2 q1) q2 ez
    exact ⟨z, e1, gnd_den z e2⟩
theorem ue_un {f : D → PHeap → Res D} {g : D → Option D} (hf : MU f g) (ha : JU S RD a va) : JU S RD (mUn f a) (uUn g va) := fun k B ow h env ven r =>
  (ha k B ow h env ven r).bind fun d h1 ow1 v1 u r1 s1 q1 => .of r1 fun z ez => by
    obtain ⟨e1, e2⟩ := hf (lk B ow1) h1 u d z q1 ez
    exact ⟨z, e1, gnd_den z e2⟩
theorem ua_nil : JU S RL mNil uNil := fun k B ow h env ven r => .ok r (denL_nil.mpr rfl)
theorem ua_cons (ha : JU S RD a va) (hm : JU S RL m w) : JU S RL (mCons a m) (uCons va w) := fun k B ow h env ven r =>
  (ha k B ow h env ven r).bind fun d h1 ow1 v1 u r1 s1 q1 => (hm k B ow1 h1 env v1 r1).bind fun e h2 ow2 v2 w r2 s2 q2 => .ok r2 (DenL.mk (Sta.sta s2 q1) q2)
theorem ue_tup (hm : JU S RL m w) : JU S RD (mTup m) (uTup w) := fun k B ow h env ven r =>
  (hm k B ow h env ven r).bind fun d h1 ow1 v1 u r1 s1 q1 => by
    have e : u.length = d.length := DenL.len q1
    rw [e]
    split
    · exact .ok r1 (show Den _ _ _ _ by rw [Den]; exact ⟨d, rfl, q1⟩)
    · trivial
theorem uo_new (hm : JU S RL m w) : JU S RV (mNL m) (uNew w) := fun k B ow h env ven r =>
  (hm k B ow h env ven r).bind fun d h1 ow1 v1 u r1 s1 q1 => .ok r1 ⟨u, rfl, q1⟩
theorem ua_disp (hm : JU S RL m w) : JU S RL (mDisp m) (uDisp w) := fun k B ow h env ven r =>
  (hm k B ow h env ven r).bind fun d h1 ow1 v1 u r1 s1 q1 => by
    have e : u.length = d.length := DenL.len q1
    rw [e]
    split
    · exact .ok r1 q1
    · trivial
theorem isEmpty_len {α β : Type} : ∀ {us : List α} {ds : List β}, us.length = ds.length → us.isEmpty = ds.isEmpty
  | [], [], _ => rfl
  | _ :: _, _ :: _, _ => rfl
  | [], _ :: _, e => by simp at e
  | _ :: _, [], e => by simp at e
theorem truth_den {L : Nat → Prop} {h : PHeap} {u d : D} {k : Bool} (q : DenW L h u (.val d)) (e : gTruth u = some k) : truthD d h = .ok k h := by
  rcases q with q | ⟨n, us, ds, e1, rfl, g, q⟩
  · replace q : Den L h u d := q
    cases u with
    | non => rw [Den] at q; subst q; cases e; rfl
    | bl b => rw [Den] at q; subst q; cases e; rfl
    | int b => rw [Den] at q; subst q; cases e; rfl
    | str s =>
      rw [Den] at q; subst q
      simp only [gTruth] at e
      split at e
      · rename_i hl
        cases e
        simp only [truthD]
        rw [if_pos hl]
      · cases e
    | tup us =>
      rw [Den] at q
      obtain ⟨ds, rfl, q⟩ := q
      cases e
      simp only [truthD, isEmpty_len q.len]
    | lst us =>
      rw [Den] at q
      cases e
      obtain ⟨n, ds, rfl, _, g, q⟩ := q
      simp only [truthD, g, isEmpty_len q.len]
    | fro us =>
      rw [Den] at q
      cases e
      obtain ⟨ds, rfl, q⟩ := q
      simp only [truthD, isEmpty_len q.len]
    | dct _ _ => cases e
    | map _ => cases e
    | gl _ => cases e
    | ref n => cases e
  · cases e1
    cases e
    simp only [truthD, g, isEmpty_len q.len]
theorem ut_truth (ha : JU S RD a va) : JU S RB (mTst a truthD) (uTst va gTruth) := fun k B ow h env ven r =>
  (ha k B ow h env ven r).bind fun d h1 ow1 v1 u r1 s1 q1 => .of r1 fun z ez => ⟨z, truth_den (.inl q1) ez, rfl⟩
theorem ut_tb (ha : JU S RD a va) : JU S RB (mTB a) (uTB va) := fun k B ow h env ven r =>
  (ha k B ow h env ven r).bind fun d h1 ow1 v1 u r1 s1 q1 => by
    cases u with
    | bl b => rw [RD, Den] at q1; subst q1; exact .ok r1 rfl
    | _ => trivial
theorem ut_not (hc : JU S RB t x) : JU S RB (tNotM t) (uTNot x) := fun k B ow h env ven r =>
  (hc k B ow h env ven r).bind fun d h1 ow1 v1 u r1 s1 q1 => by cases q1; exact .ok r1 rfl
theorem ut_or (hc : JU S RB t x) (hd : JU S RB t2 x2) : JU S RB (tOrM t t2) (uTOr x x2) := fun k B ow h env ven r =>
  (hc k B ow h env ven r).bind fun d h1 ow1 v1 u r1 s1 q1 => by
    cases q1
    cases d
    · exact hd k B ow1 h1 env v1 r1
    · exact .ok r1 rfl
theorem ut_yes : JU S RB tYesM uTYes := fun k B ow h env ven r => .ok r rfl
theorem truth_post {k : Nat} {B : Nat → Prop} {ow : Ow} {h : PHeap} {env ven : PEnv} {u d : D} (r : Rl S k B ow h env ven) (q : RD B ow h u d) : Post S RB k B ow h env (truthD d h) (UR.of (gTruth u) ven) :=
  .of r fun z ez => ⟨z, truth_den (.inl q) ez, rfl⟩
theorem ue_and (ha : JU S RD a va) (hb : JU S RD b vb) : JU S RD (mAnd a b) (uAnd va vb) := fun k B ow h env ven r =>
  (ha k B ow h env ven r).bind fun d h1 ow1 v1 u r1 s1 q1 => (truth_post r1 q1).bind fun kk h2 ow2 v2 u2 r2 s2 q2 => by
    cases q2
    cases kk
    · exact .ok r2 (Sta.sta s2 q1)
    · exact hb k B ow2 h2 env v2 r2
theorem ue_not (ha : JU S RD a va) : JU S RD (mNot a) (uNot va) := fun k B ow h env ven r =>
  (ha k B ow h env ven r).bind fun d h1 ow1 v1 u r1 s1 q1 => (truth_post r1 q1).bind fun kk h2 ow2 v2 u2 r2 s2 q2 => by
    cases q2
    exact .ok r2 (gnd_den (.bl (!kk)) rfl)
theorem ue_chain {f g : D → D → PHeap → Res D} {f2 g2 : D → D → Option D} (hf : MB f f2) (hg : MB g g2) (ha : JU S RD a va) (hb : JU S RD b vb) (hc : JU S RD c vc) : JU S RD (mChain f g a b c) (uChain f2 g2 va vb vc) := fun k B ow h env ven r =>
  (ha k B ow h env ven r).bind fun d h1 ow1 v1 u r1 s1 q1 => (hb k B ow1 h1 env v1 r1).bind fun e h2 ow2 v2 w r2 s2 q2 => by
    cases ez : f2 u w with
    | none => simp only [ez]; trivial
    | some z =>
      obtain ⟨e1, e2⟩ := hf (lk B ow2) h2 u w d e z (Sta.sta s2 q1) q2 ez
      simp only [e1, ez, Res.bind_ok]
      cases z with
      | bl b =>
        cases b
        · exact .ok r2 (gnd_den (.bl false) rfl)
        · exact (hc k B ow2 h2 env v2 r2).bind fun e' h3 ow3 v3 w3 r3 s3 q3 => .of r3 fun z ez => by
            obtain ⟨e1, e2⟩ := hg (lk B ow3) h3 w w3 e e' z (Sta.sta s3 q2) q3 ez
            exact ⟨z, e1, gnd_den z e2⟩
      | _ => trivial
theorem uo_val (ha : JU S RD a va) : JU S RV (mVal a) va := fun k B ow h env ven r => by
  have := ha k B ow h env ven r
  unfold mVal
  cases e : va ven with
  | ok u v =>
    rw [e] at this
    obtain ⟨d, h1, ow1, e1, r1, s1, q1⟩ := this
    rw [e1]
    exact ⟨_, h1, ow1, rfl, r1, s1, q1⟩
  | exc e2 v => rw [e] at this; obtain ⟨h1, ow1, e1, r1⟩ := this; rw [e1]; exact ⟨h1, ow1, rfl, r1⟩
  | stuck => trivial
theorem own_W {k : Nat} {B : Nat → Prop} {ow : Ow} {h : PHeap} {env ven : PEnv} {u : D} (r : Rl S k B ow h env ven) (hi : i ∈ S.O) (e : ven[i]? = some (some u)) (hq : i ∉ S.Q) : ∃ n, ow i = some n ∧ env[i]? = some (some (.ref n)) ∧ RW B ow h u (.val (.ref n)) := by
  obtain ⟨n, e0⟩ := r.all i u hi e
  obtain ⟨_, e2, us, ds, e3, e4, q⟩ := r.ownL hq e0
  rw [e] at e3
  cases e3
  exact ⟨n, e0, e2, .inr ⟨n, us, ds, rfl, rfl, e4, q⟩⟩
theorem uo_own (hi : i ∈ S.O) (hq : i ∉ S.Q := by decide) : JU S RW (mVal (mVar i)) (uVar i) := by
  intro k B ow h env ven r
  rcases uVar_cases i ven with e | ⟨u, e, e1⟩
  · rw [e]; trivial
  · obtain ⟨n, _, e2, q⟩ := own_W r hi e hq
    rw [e1, s_val, mVar_at e2]
    exact .ok r q
theorem uo_w (hm : JU S RV mo va) : JU S RW mo va := fun k B ow h env ven r => (hm k B ow h env ven r).map fun _ q => .inl q
theorem ue_mat (hm : JU S RV mo va) : JU S RD (mM mo) va := by
  intro k B ow h env ven r
  have := hm k B ow h env ven r
  rw [s_m]
  cases e : va ven with
  | ok u v =>
    rw [e] at this
    obtain ⟨x, h1, ow1, e1, r1, s1, q1⟩ := this
    rw [e1]
    cases x with
    | val d => exact ⟨d, h1, ow1, rfl, r1, s1, q1⟩
    | new ds =>
      obtain ⟨us, rfl, q1⟩ := q1
      refine ⟨.ref h1.length, h1 ++ [.lst ds], ow1, rfl, r1.app _, s1.trans (.app _), ?_⟩
      show Den _ _ _ _
      rw [Den]
      exact ⟨_, ds, rfl, r1.fresh (Nat.le_refl _), by simp, DenL.kp (fun n cs l g => ⟨l, get_app g⟩) us ds q1⟩
  | exc e2 v => rw [e] at this; obtain ⟨h1, ow1, e1, r1⟩ := this; rw [e1]; exact ⟨h1, ow1, rfl, r1⟩
  | stuck => trivial
def Mo1 {α β : Type} (R : Re β α) (f : LV → PHeap → Res α) (g : D → Option β) : Prop := ∀ B ow h u x z, DenW (lk B ow) h u x → g u = some z → ∃ a, f x h = .ok a h ∧ R B ow h z a
def Mo2 {α β : Type} (R : Re β α) (f : LV → LV → PHeap → Res α) (g : D → D → Option β) : Prop := ∀ B ow h u x w y z, DenW (lk B ow) h u x → DenW (lk B ow) h w y → g u w = some z → ∃ a, f x y h = .ok a h ∧ R B ow h z a
theorem ue_m1 {R : Re β α} {f : LV → PHeap → Res α} {g : D → Option β} (hf : Mo1 R f g) (ha : JU S RW mo va) : JU S R (m1 f mo) (u1 g va) := fun k B ow h env ven r =>
  (ha k B ow h env ven r).bind fun d h1 ow1 v1 u r1 s1 q1 => .of r1 fun z ez => hf B ow1 h1 u d z q1 ez
theorem ue_m2 {R : Re β α} {f : LV → LV → PHeap → Res α} {g : D → D → Option β} (hf : Mo2 R f g) (ha : JU S RV mo va) (hb : JU S RW mp vb) : JU S R (m2 f mo mp) (u2 g va vb) := fun k B ow h env ven r =>
  (ha k B ow h env ven r).bind fun d h1 ow1 v1 u r1 s1 q1 => (hb k B ow1 h1 env v1 r1).bind fun e h2 ow2 v2 w r2 s2 q2 => .of r2 fun z ez => hf B ow2 h2 u d w e z (.inl (Sta.sta s2 q1)) q2 ez
theorem own_stays {k : Nat} {B : Nat → Prop} {ow ow' : Ow} {h h' : PHeap} {env ven ven' : PEnv} {u u' : D} (r : Rl S k B ow h env ven) (r' : Rl S k B ow' h' env ven') (hi : i ∈ S.O) (e : ven[i]? = some (some u)) (e' : ven'[i]? = some (some u')) (hq : i ∉ S.Q) : ∃ n, env[i]? = some (some (.ref n)) ∧ RW B ow' h' u' (.val (.ref n)) := by
  obtain ⟨n, _, e2, _⟩ := own_W r hi e hq
  obtain ⟨n', _, e3, q⟩ := own_W r' hi e' hq
  rw [e2] at e3
  cases e3
  exact ⟨n, e2, q⟩
theorem ue_m2o {R : Re β α} {f : LV → LV → PHeap → Res α} {g : D → D → Option β} (hf : Mo2 R f g) (hi : i ∈ S.O) (hb : JU S RW mp vb) (hq : i ∉ S.Q := by decide) : JU S R (m2 f (mVal (mVar i)) mp) (u2o g i vb) := by
  intro k B ow h env ven r
  unfold u2o
  rcases uVar_cases i ven with e | ⟨u, e, e1⟩
  · rw [e]; trivial
  · obtain ⟨n, _, e2, q⟩ := own_W r hi e hq
    rw [s_m2, s_val, mVar_at e2, e1]
    exact (hb k B ow h env ven r).bind fun y h2 ow2 v2 w r2 s2 q2 => by
      rcases uVar_cases i v2 with e' | ⟨u', e', e1'⟩
      · rw [e']; trivial
      · obtain ⟨n', e3, q3⟩ := own_stays r r2 hi e e' hq
        rw [e2] at e3
        cases e3
        rw [e1']
        exact .of r2 fun z ez => hf B ow2 h2 u' (.val (.ref n)) w y z q3 q2 ez
end

def Ret (fr : Bool) (k : Nat) (L : Nat → Prop) (h : PHeap) (u d : D) : Prop := match fr with
  | false => Den L h u d
  | true => ∃ n us ds, d = .ref n ∧ k ≤ n ∧ u = .lst us ∧ h[n]? = some (.lst ds) ∧ ¬ L n ∧ DenL (fun m => L m ∨ m = n) h us ds
theorem Ret.den {fr : Bool} {k : Nat} {L : Nat → Prop} {h : PHeap} {u d : D} (q : Ret fr k L h u d) : Den L h u d := by
  cases fr with
  | false => exact q
  | true =>
    obtain ⟨n, us, ds, rfl, _, rfl, g, l, q⟩ := q
    rw [Den]
    exact ⟨n, ds, rfl, l, g, DenL.kp (fun m cs l2 g2 => ⟨fun l3 => l2 (.inl l3), g2⟩) us ds q⟩
def Pass (h h' : PHeap) : Prop := h.length ≤ h'.length ∧ ∀ (n : Nat) (c : Cell), h[n]? = some c → h'[n]? = some c
def PassN (n : Nat) (h h' : PHeap) : Prop := h.length ≤ h'.length ∧ ∀ (m : Nat) (c : Cell), m ≠ n → h[m]? = some c → h'[m]? = some c
def FP (fr : Bool) (p : List D → PHeap → Res D) (F : UF) : Prop := ∀ (B : Nat → Prop) h us ds, (∀ n, B n → n < h.length) → DenL B h us ds → match F us with
  | .ok u => ∃ d h', p ds h = .ok d h' ∧ Pass h h' ∧ Ret fr h.length B h' u d
  | .exc e => ∃ h', p ds h = .exc e h' ∧ Pass h h'
  | .stuck => True
def FM (fr : Bool) (p : List D → PHeap → Res D) (F : UG) : Prop := ∀ (B : Nat → Prop) h xs cs n us ds, (∀ n, B n → n < h.length) → ¬ B n → h[n]? = some (.lst cs) → DenL (fun m => B m ∨ m = n) h xs cs → DenL (fun m => B m ∨ m = n) h us ds → match F xs us with
  | .ok u ys => ∃ d h' es, p (.ref n :: ds) h = .ok d h' ∧ PassN n h h' ∧ h'[n]? = some (.lst es) ∧ DenL (fun m => B m ∨ m = n) h' ys es ∧ Ret fr h.length (fun m => B m ∨ m = n) h' u d
  | .exc e ys => ∃ h' es, p (.ref n :: ds) h = .exc e h' ∧ PassN n h h' ∧ h'[n]? = some (.lst es) ∧ DenL (fun m => B m ∨ m = n) h' ys es
  | .stuck => True
section
variable {S : Sx} {m : MA} {w : UA} {p : List D → PHeap → Res D} {F : UF} {G : UG} {fr : Bool} {i : Nat}
theorem Rl.ltL {k : Nat} {B : Nat → Prop} {ow : Ow} {h : PHeap} {env ven : PEnv} (r : Rl S k B ow h env ven) : ∀ n, lk B ow n → n < h.length := fun n q => by
  by_cases hl : h.length ≤ n
  · exact absurd q (r.fresh hl)
  · omega
theorem ue_call (hf : FP fr p F) (hm : JU S RL m w) : JU S RD (mCall p m) (uCall F w) := fun k B ow h env ven r =>
  (hm k B ow h env ven r).bind fun ds h1 ow1 v1 us r1 s1 q1 => by
    have := hf (lk B ow1) h1 us ds r1.ltL q1
    revert this
    cases F us with
    | ok u => intro ⟨d, h2, e1, ps, q⟩; exact ⟨d, h2, ow1, e1, r1.pass ps.1 ps.2, .pass ps.1 ps.2, q.den⟩
    | exc e2 => intro ⟨h2, e1, ps⟩; exact ⟨h2, ow1, e1, r1.pass ps.1 ps.2, .pass ps.1 ps.2⟩
    | stuck => intro _; trivial
theorem Rl.passN {k : Nat} {B : Nat → Prop} {ow : Ow} {h h' : PHeap} {env ven : PEnv} {n : Nat} {ys es : List D} (r : Rl S k B ow h env ven) (e : ow i = some n) (ps : PassN n h h') (g : h'[n]? = some (.lst es)) (q : DenL (lk B ow) h' ys es) (hq : i ∉ S.Q) : Rl S k B ow h' env (ven.set i (some (.lst ys))) := by
  obtain ⟨x1, x2, vs, cs, x3, x4, x5⟩ := r.own i n e
  have hi : i < ven.length := (List.getElem?_eq_some_iff.mp x3).1
  have kp : Kp (lk B ow) h (lk B ow) h' := fun m cs l g => ⟨l, ps.2 m _ (fun e2 => l (.inr ⟨i, by rw [e2]; exact e⟩)) g⟩
  refine ⟨Nat.le_trans r.kl ps.1, fun m q => Nat.lt_of_lt_of_le (r.lt m q) ps.1, r.inj, r.dis, r.frs, fun j m g2 => ?_, fun j v m g2 => ?_, by simp [r.len], fun j v m g2 => ?_⟩
  · by_cases hj : j = i
    · subst hj
      rw [e] at g2; cases g2
      exact ⟨x1, x2, ys, es, by rw [show S.q j = false from decide_eq_false hq]; exact List.getElem?_set_self hi, by rw [show S.q j = false from decide_eq_false hq]; exact g, q⟩
    · obtain ⟨y1, y2, ws, es, y3, y4, y5⟩ := r.own j m g2
      have hm : m ≠ n := fun e2 => hj (r.inj j i m g2 (by rw [e2]; exact e))
      exact ⟨y1, y2, ws, es, by rw [List.getElem?_set_ne (fun e => hj e.symm)]; exact y3, ps.2 m _ hm y4, DenL.kp kp ws es y5⟩
  · by_cases hj : j = i
    · subst hj; exact ⟨n, e⟩
    · rw [List.getElem?_set_ne (fun e => hj e.symm)] at g2
      exact r.all j v m g2
  · have hj : j ≠ i := fun e => m (e ▸ x1)
    rw [List.getElem?_set_ne (fun e => hj e.symm)] at g2
    obtain ⟨d, y1, y2⟩ := r.oth j v m g2
    exact ⟨d, y1, Den.kp kp v d y2⟩
theorem Stp.passN {ow : Ow} {h h' : PHeap} {n : Nat} (e : ow i = some n) (hm : i ∈ S.M) (ps : PassN n h h') : Stp S ow h ow h' :=
  ⟨ps.1, fun m c q g => ps.2 m c (fun e2 => q i (by rw [e2]; exact e) hm) g, fun _ _ e => .inl e, fun _ _ => rfl⟩
theorem ue_callM (hf : FM fr p G) (hi : i ∈ S.O) (hM : i ∈ S.M) (hm : JU S RL m w) (hq : i ∉ S.Q := by decide) : JU S RD (mCall p (mCons (mVar i) m)) (uCallM G i w) := by
  intro k B ow h env ven r
  unfold uCallM
  rcases uOwn_cases i ven with e | ⟨u, e, e1⟩
  · rw [e]; trivial
  · obtain ⟨n, eo, e2, _⟩ := own_W r hi e hq
    rw [s_call, s_cons, mVar_at e2, e1]
    have key : Post S RD k B ow h env ((m env h).bind fun xs h1 => p (.ref n :: xs) h1) ((w ven).bind fun ds v1 => (uOwn i v1).bind fun s v2 => (G s ds).res i v2) := (hm k B ow h env ven r).bind fun ds h1 ow1 v1 us r1 s1 q1 => by
      rcases uOwn_cases i v1 with e' | ⟨xs, e', e1'⟩
      · rw [e']; trivial
      · rw [e1']
        obtain ⟨n', eo', e3, _⟩ := own_W r1 hi e' hq
        rw [e2] at e3
        cases e3
        obtain ⟨x1, x2, xs', cs, x3, x4, x5⟩ := r1.ownL hq eo'
        rw [e'] at x3
        cases x3
        have inv : ∀ {m : Nat}, lk B ow1 m → (lk B (dropO ow1 [i])) m ∨ m = n := fun {m} l => by
          rcases l with l | ⟨j, l⟩
          · exact .inl (.inl l)
          · by_cases hj : j = i
            · subst hj; rw [eo'] at l; cases l; exact .inr rfl
            · exact .inl (.inr ⟨j, by unfold dropO; rw [if_neg (by simpa using hj)]; exact l⟩)
        have vni : ∀ {m : Nat}, ((lk B (dropO ow1 [i])) m ∨ m = n) → lk B ow1 m := fun {m} l2 => by
          rcases l2 with l2 | l2
          · rcases l2 with l2 | ⟨j, l2⟩
            · exact .inl l2
            · exact .inr ⟨j, (dropO_some l2).1⟩
          · exact .inr ⟨i, by rw [l2]; exact eo'⟩
        have inc : ∀ {us ds : List D} {h : PHeap}, DenL (lk B ow1) h us ds → DenL (fun m => (lk B (dropO ow1 [i])) m ∨ m = n) h us ds := fun {us ds h} q => DenL.kp (fun m cs l g => ⟨fun l2 => l (vni l2), g⟩) us ds q
        have exc : ∀ {us ds : List D} {h : PHeap}, DenL (fun m => (lk B (dropO ow1 [i])) m ∨ m = n) h us ds → DenL (lk B ow1) h us ds := fun {us ds h} q => DenL.kp (fun m cs l g => ⟨fun l2 => l (inv l2), g⟩) us ds q
        have hB : ∀ m, lk B (dropO ow1 [i]) m → m < h1.length := fun m l => r1.ltL m (vni (.inl l))
        have hn : ¬ lk B (dropO ow1 [i]) n := by
          rintro (l | ⟨j, l⟩)
          · exact r1.dis i n eo' l
          · obtain ⟨l1, l2⟩ := dropO_some l
            exact l2 (by rw [r1.inj j i n l1 eo']; exact List.mem_singleton.mpr rfl)
        have := hf (lk B (dropO ow1 [i])) h1 xs cs n us ds hB hn x4 (inc x5) (inc q1)
        revert this
        simp only [UR.bind_ok]
        cases G xs us with
        | ok z ys =>
          intro ⟨d, h2, es, e1, ps, g, q2, q3⟩
          have q4 : Den (lk B ow1) h2 z d := Den.kp (fun m cs l g => ⟨fun l2 => l (inv l2), g⟩) z d q3.den
          exact ⟨d, h2, ow1, e1, r1.passN eo' ps g (exc q2) hq, .passN eo' hM ps, q4⟩
        | exc z ys =>
          intro ⟨h2, es, e1, ps, g, q2⟩
          exact ⟨h2, ow1, e1, r1.passN eo' ps g (exc q2) hq, .passN eo' hM ps⟩
        | stuck => intro _; trivial
    simp only [Res.bind_ok, UR.bind_ok]
    generalize m env h = mm at key ⊢
    cases mm <;> exact key
theorem lk_B {B : Nat → Prop} {ow : Ow} {h : PHeap} : Kp (lk B ow) h B h := fun n cs l g => ⟨fun l2 => l (.inl l2), g⟩
theorem Post.wide {α β : Type} {R : Re β α} {k : Nat} {B : Nat → Prop} {ow : Ow} {h : PHeap} {env : PEnv} {r : Res α} {w : UR β} {M' : List Nat} (p : Post { S with M := M' } R k B ow h env r w) (hm : ∀ i, i ∈ M' → i ∈ S.M) : Post S R k B ow h env r w := by
  cases w with
  | ok u v => obtain ⟨a, h1, ow1, e, r1, s1, q1⟩ := p; exact ⟨a, h1, ow1, e, r1.ofM, s1.wide hm, q1⟩
  | exc e v => obtain ⟨h1, ow1, e, r1, s1⟩ := p; exact ⟨h1, ow1, e, r1.ofM, s1.wide hm⟩
  | stuck => trivial
def MtU (f g : List D → List D → Option (D × List D)) : Prop := ∀ L h us ds ws es z us', DenL L h us ds → DenL L h ws es → g us ws = some (z, us') → ∃ z' ds', f ds es = some (z', ds') ∧ Den L h z z' ∧ DenL L h us' ds'
def uMt (g : List D → List D → Option (D × List D)) (i : Nat) (a : UA) : UE := fun v => (uOwn i v).bind fun _ v0 => (a v0).bind fun ws v1 => (uOwn i v1).bind fun us v2 => match g us ws with
  | some (z, us') => .ok z (v2.set i (some (.lst us')))
  | none => .stuck
theorem ue_mt {f g : List D → List D → Option (D × List D)} (hf : MtU f g) (hi : i ∈ S.O) (hM : i ∈ S.M) (hm : JU S RL m w) (hq : i ∉ S.Q := by decide) : JU S RD (mMt f (mVar i) m) (uMt g i w) := by
  intro k B ow h env ven r
  unfold uMt
  rcases uOwn_cases i ven with e | ⟨u, e, e1⟩
  · rw [e]; trivial
  · obtain ⟨n, eo⟩ := r.all i _ hi e
    obtain ⟨_, e2, us, ds, e3, e4, q⟩ := r.ownL hq eo
    rw [e1, s_mt, mVar_at e2]
    simp only [Res.bind_ok, UR.bind_ok, mtD_ref, e4]
    exact (hm k B ow h env ven r).bind fun es h1 ow1 v1 ws r1 s1 q1 => by
      rcases uOwn_cases i v1 with e' | ⟨us1, e', e1'⟩
      · rw [e']; trivial
      · rw [e1']
        obtain ⟨n', eo'⟩ := r1.all i _ hi e'
        obtain ⟨_, e2', us', ds', e3', e4', q'⟩ := r1.ownL hq eo'
        rw [e2] at e2'
        cases e2'
        rw [e'] at e3'
        cases e3'
        simp only [UR.bind_ok, mtE, e4']
        cases eg : g us1 ws with
        | none => trivial
        | some zz =>
          obtain ⟨z, us2⟩ := zz
          obtain ⟨z', ds2, e5, q5, q6⟩ := hf (lk B ow1) h1 us1 ds' ws es z us2 q' q1 eg
          simp only [e5]
          have r2 := r1.write eo' q6 hq
          have s2 : Stp S ow1 h1 ow1 (h1.set n (.lst ds2)) := .write eo' hM
          exact ⟨z', _, ow1, rfl, r2, s2, Den.kp s2.kp z z' q5⟩
end
end Gb

namespace Gb
open PySem L2
abbrev UI := PEnv → UR (List D)
abbrev US := PEnv → UO
def gSeq : D → Option (List D) := fun u => match u with
  | .tup xs => some xs
  | .lst xs => some xs
  | .fro xs => some xs
  | _ => none
def uSrc (a : UE) : UI := fun v => (a v).bind fun u v1 => .of (gSeq u) v1
def uR1 (b : UE) : UI := fun v => (b v).bind fun y v1 => match y with
  | .int hi => if -(2 ^ 60) ≤ hi ∧ hi ≤ 2 ^ 60 then .ok (rngD 0 hi) v1 else .stuck
  | _ => .stuck
def zip2D (xs ys : List D) : List D := List.zipWith (fun p q => D.tup [p, q]) xs ys
def uZip2 (a b : UE) : UI := fun v => (a v).bind fun x v1 => (b v1).bind fun y v2 => match gSeq x, gSeq y with
  | some xs, some ys => .ok (zip2D xs ys) v2
  | _, _ => .stuck
def RWX (X : List Nat) : Re D LV := fun B ow h u x => RV B ow h u x ∨ ∃ i n us ds, i ∈ X ∧ ow i = some n ∧ x = .val (.ref n) ∧ u = .lst us ∧ h[n]? = some (.lst ds) ∧ DenL (lk B ow) h us ds
section
variable {S : Sx} {X : List Nat} {mo mp mq : MO} {va vb vc : UE} {a b c : ME}
theorem ux_v (hm : JU S RV mo va) : JU S (RWX X) mo va := fun k B ow h env ven r => (hm k B ow h env ven r).map fun _ q => .inl q
theorem seq_den {k : Nat} {B : Nat → Prop} {ow : Ow} {h : PHeap} {env ven : PEnv} {u : D} {x : LV} {us : List D} (r : Rl S k B ow h env ven) (q : RWX X B ow h u x) (e : gSeq u = some us) : ∃ ds, x.seq h = some ds ∧ DenL (lk B ow) h us ds ∧ ∀ p ∈ srcDeps x ds, h[p.1]? = some (.lst p.2) ∧ ¬ B p.1 ∧ ∀ i, ow i = some p.1 → i ∈ X := by
  rcases q with q | ⟨i, n, us', ds, hi, eo, rfl, rfl, g, q⟩
  · cases x with
    | val d =>
      replace q : Den (lk B ow) h u d := q
      cases u with
      | tup us' =>
        cases e
        rw [Den] at q
        obtain ⟨ds, rfl, q⟩ := q
        exact ⟨ds, rfl, q, fun p m => by cases m⟩
      | lst us' =>
        cases e
        rw [Den] at q
        obtain ⟨n, ds, rfl, l, g, q⟩ := q
        refine ⟨ds, sq_ref g, q, fun p m => ?_⟩
        rw [sd_ref', List.mem_singleton] at m
        subst m
        exact ⟨g, fun l2 => l (.inl l2), fun i e => absurd (Or.inr ⟨i, e⟩) l⟩
      | fro us' =>
        cases e
        rw [Den] at q
        obtain ⟨ds, rfl, q⟩ := q
        exact ⟨ds, rfl, q, fun p m => by cases m⟩
      | _ => cases e
    | new ds =>
      obtain ⟨us', rfl, q⟩ := q
      cases e
      exact ⟨ds, rfl, q, fun p m => by cases m⟩
  · cases e
    refine ⟨ds, sq_ref g, q, fun p m => ?_⟩
    rw [sd_ref', List.mem_singleton] at m
    subst m
    exact ⟨g, r.dis i n eo, fun j e => by rw [r.inj j i n e eo]; exact hi⟩
theorem ui_src (hm : JU S (RWX X) mo va) : JU S (RI X) (iSrc mo) (uSrc va) := fun k B ow h env ven r =>
  (hm k B ow h env ven r).bind fun x h1 ow1 v1 u r1 s1 q1 => by
    cases e : gSeq u with
    | none => trivial
    | some us =>
      obtain ⟨ds, e1, q, d⟩ := seq_den r1 q1 e
      simp only [e1, UR.of_some]
      exact .ok r1 ⟨q, d⟩
theorem ui_r1 (hm : JU S RD a va) : JU S (RI X) (iR1 a) (uR1 va) := fun k B ow h env ven r =>
  (hm k B ow h env ven r).bind fun x h1 ow1 v1 u r1 s1 q1 => by
    cases u with
    | int i =>
      rw [RD, Den] at q1
      subst q1
      simp only
      split
      · exact .ok r1 ⟨by show DenL _ _ (rngD 0 i) (rngD 0 i); unfold rngD; rw [← Function.comp_def D.int, ← List.map_map]; exact DenL.ints _, fun p m => by cases m⟩
      · trivial
    | _ => trivial
theorem RWX.sta {B : Nat → Prop} {ow ow' : Ow} {h h' : PHeap} {u : D} {x : LV} (hX : ∀ i, i ∈ X → i ∉ S.M) (hk : ∀ i, i ∈ X → ow' i = ow i) (s : Stp S ow h ow' h') {k : Nat} {env ven : PEnv} (r : Rl S k B ow h env ven) (q : RWX X B ow h u x) : RWX X B ow' h' u x := by
  rcases q with q | ⟨i, n, us', ds, hi, eo, e1, e2, g, q⟩
  · exact .inl (Sta.sta s q)
  · exact .inr ⟨i, n, us', ds, hi, by rw [hk i hi]; exact eo, e1, e2, s.keep n _ (fun j e => by rw [r.inj j i n e eo]; exact hX i hi) g, DenL.kp s.kp _ _ q⟩
theorem ui_zip2 (hm : JU S RV mo va) (hb : JU S (RWX X) mp vb) : JU S (RI X) (iZip2 mo mp) (uZip2 va vb) := fun k B ow h env ven r =>
  (hm k B ow h env ven r).bind fun x h1 ow1 v1 u r1 s1 q1 => (hb k B ow1 h1 env v1 r1).bind fun y h2 ow2 v2 w r2 s2 q2 => by
    cases e : gSeq u with
    | none => trivial
    | some us =>
      cases e' : gSeq w with
      | none => trivial
      | some ws =>
        obtain ⟨ds, e1, q, d⟩ := seq_den (X := X) r2 (.inl (Sta.sta s2 q1)) e
        obtain ⟨es, e2, q', d'⟩ := seq_den r2 q2 e'
        simp only [e1, e2]
        exact .ok r2 ⟨DenL.zip q q', fun p m => (List.mem_append.mp m).elim (d p) (d' p)⟩
end

mutual
theorem set_den {S : Sx} {k : Nat} {B : Nat → Prop} {ow : Ow} {h : PHeap} : ∀ (g : TgM) {env ven ven' : PEnv} {u d : D}, (∀ i, i ∈ g.slots → i ∉ S.O) → Rl S k B ow h env ven → Den (lk B ow) h u d → g.set u ven = some ven' → ∃ env', g.set d env = some env' ∧ Rl S k B ow h env' ven'
  | .name i, env, ven, ven', u, d, hg, r, q, e => by
    rw [tg_name] at e
    cases e
    exact ⟨_, tg_name, r.set (hg i (by simp [TgM.slots])) q⟩
  | .tup ts, env, ven, ven', u, d, hg, r, q, e => by
    cases u with
    | tup us =>
      rw [Den] at q
      obtain ⟨ds, rfl, q⟩ := q
      rw [tg_tup] at e ⊢
      exact sets_den ts (by simpa [TgM.slots] using hg) r q e
    | _ => simp [TgM.set] at e
theorem sets_den {S : Sx} {k : Nat} {B : Nat → Prop} {ow : Ow} {h : PHeap} : ∀ (g : List TgM) {env ven ven' : PEnv} {us ds : List D}, (∀ i, i ∈ TgM.slotsL g → i ∉ S.O) → Rl S k B ow h env ven → DenL (lk B ow) h us ds → TgM.sets g us ven = some ven' → ∃ env', TgM.sets g ds env = some env' ∧ Rl S k B ow h env' ven'
  | [], env, ven, ven', us, ds, hg, r, q, e => by
    cases us with
    | nil =>
      rw [DenL] at q
      subst q
      rw [tg_nil] at e ⊢
      cases e
      exact ⟨_, rfl, r⟩
    | cons u us => simp [TgM.sets] at e
  | t :: ts, env, ven, ven', us, ds, hg, r, q, e => by
    cases us with
    | nil => simp [TgM.sets] at e
    | cons u us =>
      rw [DenL] at q
      obtain ⟨d, ds', rfl, q1, q2⟩ := q
      rw [tg_cons] at e ⊢
      cases e1 : t.set u ven with
      | none => rw [e1] at e; cases e
      | some v1 =>
        rw [e1] at e
        obtain ⟨env1, e2, r1⟩ := set_den t (fun i m => hg i (by simp [TgM.slotsL, m])) r q1 e1
        rw [e2]
        exact sets_den ts (fun i m => hg i (by simp [TgM.slotsL, m])) r1 q2 e
end
mutual
theorem set_same : ∀ (g : TgM) {env env' : PEnv} {d : D} {i : Nat}, g.set d env = some env' → i ∉ g.slots → env'[i]? = env[i]?
  | .name j, env, env', d, i, e, hi => by
    rw [tg_name] at e
    cases e
    exact List.getElem?_set_ne (fun e => hi (by simp [TgM.slots, e]))
  | .tup ts, env, env', d, i, e, hi => by
    cases d with
    | tup ds => rw [tg_tup] at e; exact sets_same ts e (by simpa [TgM.slots] using hi)
    | _ => simp [TgM.set] at e
theorem sets_same : ∀ (g : List TgM) {env env' : PEnv} {ds : List D} {i : Nat}, TgM.sets g ds env = some env' → i ∉ TgM.slotsL g → env'[i]? = env[i]?
  | [], env, env', ds, i, e, hi => by
    cases ds with
    | nil => rw [tg_nil] at e; cases e; rfl
    | cons d ds => simp [TgM.sets] at e
  | t :: ts, env, env', ds, i, e, hi => by
    cases ds with
    | nil => simp [TgM.sets] at e
    | cons d ds =>
      rw [tg_cons] at e
      cases e1 : t.set d env with
      | none => rw [e1] at e; cases e
      | some v1 =>
        rw [e1] at e
        have h2 : i ∉ t.slots ∧ i ∉ TgM.slotsL ts := by simpa [TgM.slotsL] using hi
        rw [sets_same ts (env := v1) e h2.2, set_same t e1 h2.1]
end
mutual
theorem set_len : ∀ (g : TgM) {env env' : PEnv} {d : D}, g.set d env = some env' → env'.length = env.length
  | .name j, env, env', d, e => by
    rw [tg_name] at e
    cases e
    exact List.length_set
  | .tup ts, env, env', d, e => by
    cases d with
    | tup ds => rw [tg_tup] at e; exact sets_len ts e
    | _ => simp [TgM.set] at e
theorem sets_len : ∀ (g : List TgM) {env env' : PEnv} {ds : List D}, TgM.sets g ds env = some env' → env'.length = env.length
  | [], env, env', ds, e => by
    cases ds with
    | nil => rw [tg_nil] at e; cases e; rfl
    | cons d ds => simp [TgM.sets] at e
  | t :: ts, env, env', ds, e => by
    cases ds with
    | nil => simp [TgM.sets] at e
    | cons d ds =>
      rw [tg_cons] at e
      cases e1 : t.set d env with
      | none => rw [e1] at e; cases e
      | some v1 =>
        rw [e1] at e
        rw [sets_len ts (env := v1) e, set_len t e1]
end
def ulcL (g : TgM) (c : UT) (elt : UE) (own : List Nat) : List D → List D → PEnv → UR (List D)
  | [], acc, v => .ok acc v
  | d :: ds, acc, v => match g.set d v with
    | none => .stuck
    | some v1 => (c v1).calm.bind fun k v2 => match k with
      | false => ulcL g c elt own ds acc (wipeE v2 own)
      | true => (elt v2).calm.bind fun y v3 => if acc.length < 16777216 then ulcL g c elt own ds (acc ++ [y]) (wipeE v3 own) else .stuck
def uLc (i : UI) (g : TgM) (c : UT) (elt : UE) (own : List Nat) : UA := fun v => (i v).bind fun ds v1 => ulcL g c elt own ds [] (wipeE v1 own)
section
variable {S : Sx} {g g1 : TgM} {c c1 : MT} {vc vc1 : UT} {elt : ME} {velt : UE} {own own1 : List Nat} {X X1 : List Nat}
theorem dropO_none {ow : Ow} {X : List Nat} (h : ∀ i n, ow i = some n → i ∉ X) : dropO ow X = ow := by
  funext i
  unfold dropO
  split
  · rename_i hi
    cases e : ow i with
    | none => rfl
    | some n => exact absurd hi (h i n e)
  · rfl
theorem Rl.block {k : Nat} {B : Nat → Prop} {ow : Ow} {h : PHeap} {env e1 v3 : PEnv} (r : Rl S k B ow h e1 v3) (ho : ∀ i, i ∈ own → i ∉ S.O) (hl : e1.length = env.length) (he : ∀ i, i ∉ own → e1[i]? = env[i]?) : Rl S k B ow h env (wipeE v3 own) := by
  have := r.forget (X := own) (ven' := wipeE v3 own) (env' := env) (wipeE_length _ _) hl.symm (fun i u e => wipeE_some e) (fun i u m e => by rw [wipeE_get m]; exact e) (fun i m => (he i m).symm)
  rwa [dropO_none fun i n e m => ho i m (r.own i n e).1] at this
theorem JU.at {α β : Type} {R : Re β α} {m : PEnv → PHeap → Res α} {v : PEnv → UR β} (j : JU S R m v) {k : Nat} {B : Nat → Prop} {ow : Ow} {h : PHeap} {env ven ven' : PEnv} {u : β} (r : Rl S k B ow h env ven) (e : v ven = .ok u ven') : ∃ a h' ow', m env h = .ok a h' ∧ Rl S k B ow' h' env ven' ∧ Stp S ow h ow' h' ∧ R B ow' h' u a := by
  have := j k B ow h env ven r
  rw [e] at this
  exact this
theorem Post.after {α β : Type} {R : Re β α} {k : Nat} {B : Nat → Prop} {ow ow1 : Ow} {h h1 : PHeap} {env : PEnv} {r : Res α} {w : UR β} (s : Stp S ow h ow1 h1) (p : Post S R k B ow1 h1 env r w) : Post S R k B ow h env r w := by
  cases w with
  | ok u v => obtain ⟨a, h1, ow1, e, r1, s1, q1⟩ := p; exact ⟨a, h1, ow1, e, r1, s.trans s1, q1⟩
  | exc e v => obtain ⟨h1, ow1, e, r1, s1⟩ := p; exact ⟨h1, ow1, e, r1, s.trans s1⟩
  | stuck => trivial
theorem Rl.unwipe0 {k : Nat} {B : Nat → Prop} {ow : Ow} {h : PHeap} {env v3 : PEnv} (r : Rl S k B ow h (wipeE env own) v3) : Rl S k B ow h env v3 := by
  have nv : ∀ i (d : D), (wipeE env own)[i]? = some (some d) → env[i]? = some (some d) := fun i d e => (wipeE_some e).1
  refine ⟨r.kl, r.lt, r.inj, r.dis, r.frs, fun i n e => ?_, r.all, by rw [← r.len, wipeE_length], fun i u m e => ?_⟩
  · obtain ⟨x1, x2, x3⟩ := r.own i n e
    exact ⟨x1, nv _ _ x2, x3⟩
  · obtain ⟨d, x1, x2⟩ := r.oth i u m e
    exact ⟨d, nv _ _ x1, x2⟩
theorem Rl.unwipe {k : Nat} {B : Nat → Prop} {ow : Ow} {h : PHeap} {env v3 : PEnv} (r : Rl S k B ow h (wipeE env own) v3) (ho : ∀ i, i ∈ own → i ∉ S.O) : Rl S k B ow h env v3 := r.unwipe0
theorem lc_den {t : Itr} (hg : ∀ i, i ∈ g.slots → i ∈ own) (ho : ∀ i, i ∈ own → i ∉ S.O) (hc : JU S RB c vc) (he : JU S RD elt velt) (hX : ∀ i, i ∈ X → i ∉ S.M) {B : Nat → Prop} {env : PEnv} {k : Nat} : ∀ (us ds : List D) {acc acc' : List D} {ow : Ow} {h : PHeap} {ven : PEnv} {xs : List D},
    Rl S k B ow h env ven → DenL (lk B ow) h us ds → DenL (lk B ow) h acc acc' → RI X B ow h xs t → Post S RL k B ow h env (lcL g c elt t env ds acc' h) (ulcL g vc velt own us acc ven)
  | [], ds, acc, acc', ow, h, ven, xs, r, q, qa, qt => by
    rw [denL_nil] at q
    subst q
    rw [lcL_nil, if_pos qt.live]
    exact .ok r qa
  | u :: us, ds, acc, acc', ow, h, ven, xs, r, q, qa, qt => by
    rw [DenL] at q
    obtain ⟨d, ds', rfl, q1, q2⟩ := q
    rw [lcL_cons, if_pos qt.live, ulcL]
    cases es : g.set u ven with
    | none => trivial
    | some v1 =>
      obtain ⟨e1, es1, r1⟩ := set_den g (fun i m => ho i (hg i m)) r q1 es
      simp only [es1]
      have back : ∀ {ow : Ow} {h : PHeap} {v3 : PEnv}, Rl S k B ow h e1 v3 → Rl S k B ow h env (wipeE v3 own) := fun r => r.block ho (set_len g es1) fun i m => set_same g es1 fun m2 => m (hg i m2)
      cases ec : vc v1 with
      | stuck => trivial
      | exc x v2 => trivial
      | ok kk v2 =>
        obtain ⟨kk', h2, ow2, e2, r2, s2, q3⟩ := hc.at r1 ec
        cases q3
        rw [e2]
        simp only [Res.calm_ok, Res.bind_ok, UR.calm, UR.bind_ok]
        cases kk with
        | false => exact Post.after s2 (lc_den hg ho hc he hX us ds' (back r2) (DenL.kp s2.kp _ _ q2) (DenL.kp s2.kp _ _ qa) (qt.sta hX s2))
        | true =>
          simp only [pick_t]
          cases ee : velt v2 with
          | stuck => trivial
          | exc x v3 => trivial
          | ok y v3 =>
            obtain ⟨y', h3, ow3, e3, r3, s3, q4⟩ := he.at r2 ee
            rw [e3]
            have s4 := s2.trans s3
            simp only [Res.calm_ok, Res.bind_ok, UR.calm, UR.bind_ok]
            rw [qa.len]
            split
            · exact Post.after s4 (lc_den hg ho hc he hX us ds' (back r3) (DenL.kp s4.kp _ _ q2) ((DenL.kp s4.kp _ _ qa).app (.one q4)) (qt.sta hX s4))
            · trivial
theorem ua_lc {i : MI} {vi : UI} (hi : JU S (RI X) i vi) (hg : ∀ i, i ∈ g.slots → i ∈ own) (ho : ∀ i, i ∈ own → i ∉ S.O) (hX : ∀ i, i ∈ X → i ∉ S.M) (hc : JU S RB c vc) (he : JU S RD elt velt) : JU S RL (mLc i g c elt own) (uLc vi g vc velt own) := fun k B ow h env ven r =>
  (hi k B ow h env ven r).bind fun t h1 ow1 v1 us r1 s1 q1 => by
    have r2 := r1.wipe own
    rw [dropO_none fun i n e m => ho i m (r1.own i n e).1] at r2
    have p := lc_den hg ho hc he hX us t.items (acc := []) (acc' := []) r2 q1.1 (denL_nil.mpr rfl) q1
    revert p
    cases ulcL g vc velt own us [] (wipeE v1 own) with
    | stuck => intro _; trivial
    | exc x v2 => intro ⟨h2, ow2, e2, r2, s2⟩; exact ⟨h2, ow2, e2, r2.unwipe ho, s2⟩
    | ok y v2 => intro ⟨a, h2, ow2, e2, r2, s2, q2⟩; exact ⟨a, h2, ow2, e2, r2.unwipe ho, s2, q2⟩
end
end Gb

namespace Gb
open PySem L2
section
variable {S : Sx} {g g1 : TgM} {c c1 : MT} {vc vc1 : UT} {elt : ME} {velt : UE} {own own1 : List Nat} {X X1 : List Nat} {i1 : MI} {vi1 : UI}
end

def PostS (S : Sx) (k : Nat) (B : Nat → Prop) (ow : Ow) (h : PHeap) (o : Out) (w : UO) : Prop := match w with
  | .nx v => ∃ e h' ow', o = .nx e h' ∧ Rl S k B ow' h' e v ∧ Stp S ow h ow' h'
  | .bk v => ∃ e h' ow', o = .bk e h' ∧ Rl S k B ow' h' e v ∧ Stp S ow h ow' h'
  | .ct v => ∃ e h' ow', o = .ct e h' ∧ Rl S k B ow' h' e v ∧ Stp S ow h ow' h'
  | .rt u v => ∃ d e h' ow', o = .rt d h' ∧ Rl S k B ow' h' e v ∧ Stp S ow h ow' h' ∧ Ret S.fr k (lk B ow') h' u d
  | .exc x v => ∃ e h' ow', o = .exc x e h' ∧ Rl S k B ow' h' e v ∧ Stp S ow h ow' h'
  | .stuck => True
def SU (S : Sx) (m : MS) (v : US) : Prop := ∀ k B ow h env ven, Rl S k B ow h env ven → PostS S k B ow h (m env h) (v ven)
def UO.thn (o : UO) (s : US) : UO := match o with
  | .nx v => s v
  | o => o
def uSeq (a b : US) : US := fun v => (a v).thn b
def uNext : US := fun v => .nx v
def uAsg (a : UE) (g : TgM) : US := fun v => (a v).out fun d v1 => match g.set d v1 with
  | some v2 => .nx v2
  | none => .stuck
def setS (v : PEnv) : List (Nat × D) → PEnv
  | [] => v
  | p :: ps => setS (v.set p.1 (some p.2)) ps
def uPar (is : List Nat) (a : UA) : US := fun v => (a v).out fun xs v1 => if xs.length = is.length then .nx (setS v1 (is.zip xs)) else .stuck
def uDrop (a : UE) : US := fun v => (a v).out fun _ v1 => .nx v1
def uRet (a : UE) : US := fun v => (a v).out fun d v1 => .rt d v1
def uSIf (c : UT) (a b : US) : US := fun v => (c v).out fun k v1 => match k with
  | true => a v1
  | false => b v1
def uforL (g : TgM) (body : US) (kill : List Nat) : List D → PEnv → UO
  | [], v => .nx (wipeE v kill)
  | d :: ds, v => match g.set d (wipeE v kill) with
    | none => .stuck
    | some v1 => match body v1 with
      | .nx v2 => uforL g body kill ds v2
      | .ct v2 => uforL g body kill ds v2
      | .bk v2 => .nx v2
      | .rt d v2 => .rt d v2
      | .exc x v2 => .exc x v2
      | .stuck => .stuck
def uFor (i : UI) (g : TgM) (body : US) (kill : List Nat) : US := fun v => (i v).out fun ds v1 => uforL g body kill ds v1
def uSub (a : UE) (i : Nat) (b : UE) : US := fun v => (a v).out fun d v1 => (uOwn i v1).out fun _ v2 => (b v2).out fun y v3 => (uOwn i v3).out fun xs v4 => match y with
  | .int k => match ixN xs.length k with
    | some j => .nx (v4.set i (some (.lst (xs.set j d))))
    | none => .stuck
  | _ => .stuck
section
variable {S : Sx} {k : Nat} {B : Nat → Prop} {ow ow1 : Ow} {h h1 : PHeap} {env ven : PEnv}
theorem PostS.after {o : Out} {w : UO} (s : Stp S ow h ow1 h1) (p : PostS S k B ow1 h1 o w) : PostS S k B ow h o w := by
  cases w with
  | nx v => obtain ⟨e, h', ow', a, b, c⟩ := p; exact ⟨e, h', ow', a, b, s.trans c⟩
  | bk v => obtain ⟨e, h', ow', a, b, c⟩ := p; exact ⟨e, h', ow', a, b, s.trans c⟩
  | ct v => obtain ⟨e, h', ow', a, b, c⟩ := p; exact ⟨e, h', ow', a, b, s.trans c⟩
  | rt u v => obtain ⟨d, e, h', ow', a, b, c, q⟩ := p; exact ⟨d, e, h', ow', a, b, s.trans c, q⟩
  | exc x v => obtain ⟨e, h', ow', a, b, c⟩ := p; exact ⟨e, h', ow', a, b, s.trans c⟩
  | stuck => trivial
theorem Post.out {α β : Type} {R : Re β α} {r : Res α} {w : UR β} {f : α → PHeap → Out} {g : β → PEnv → UO} (p : Post S R k B ow h env r w)
    (hf : ∀ a h1 ow1 ven1 u, Rl S k B ow1 h1 env ven1 → Stp S ow h ow1 h1 → R B ow1 h1 u a → PostS S k B ow1 h1 (f a h1) (g u ven1)) : PostS S k B ow h (r.out env f) (w.out g) := by
  cases w with
  | ok u ven1 =>
    obtain ⟨a, h1, ow1, rfl, r1, s1, q1⟩ := p
    exact PostS.after s1 (hf a h1 ow1 ven1 u r1 s1 q1)
  | exc e ven1 =>
    obtain ⟨h1, ow1, rfl, r1, s1⟩ := p
    exact ⟨env, h1, ow1, rfl, r1, s1⟩
  | stuck => trivial
theorem PostS.wide {o : Out} {w : UO} {M' : List Nat} (p : PostS { S with M := M' } k B ow h o w) (hm : ∀ i, i ∈ M' → i ∈ S.M) : PostS S k B ow h o w := by
  cases w with
  | nx v => obtain ⟨e, h', ow', a, b, c⟩ := p; exact ⟨e, h', ow', a, b.ofM, c.wide hm⟩
  | bk v => obtain ⟨e, h', ow', a, b, c⟩ := p; exact ⟨e, h', ow', a, b.ofM, c.wide hm⟩
  | ct v => obtain ⟨e, h', ow', a, b, c⟩ := p; exact ⟨e, h', ow', a, b.ofM, c.wide hm⟩
  | rt u v => obtain ⟨d, e, h', ow', a, b, c, q⟩ := p; exact ⟨d, e, h', ow', a, b.ofM, c.wide hm, q⟩
  | exc x v => obtain ⟨e, h', ow', a, b, c⟩ := p; exact ⟨e, h', ow', a, b.ofM, c.wide hm⟩
  | stuck => trivial
end
section
variable {S : Sx} {a b c : ME} {va vb vc : UE} {m : MA} {w : UA} {t : MT} {x : UT} {mo mp : MO} {i : Nat} {s s2 : MS} {u u2 : US} {g : TgM}
theorem us_seq (h1 : SU S s u) (h2 : SU S s2 u2) : SU S (sSeq s s2) (uSeq u u2) := by
  intro k B ow h env ven r
  have p := h1 k B ow h env ven r
  unfold uSeq sSeq
  cases e : u ven with
  | nx v => rw [e] at p; obtain ⟨e2, h', ow', a, b, c⟩ := p; rw [a]; exact PostS.after c (h2 k B ow' h' e2 v b)
  | bk v => rw [e] at p; obtain ⟨e2, h', ow', a, b, c⟩ := p; rw [a]; exact ⟨e2, h', ow', rfl, b, c⟩
  | ct v => rw [e] at p; obtain ⟨e2, h', ow', a, b, c⟩ := p; rw [a]; exact ⟨e2, h', ow', rfl, b, c⟩
  | rt z v => rw [e] at p; obtain ⟨d, e2, h', ow', a, b, c, q⟩ := p; rw [a]; exact ⟨d, e2, h', ow', rfl, b, c, q⟩
  | exc z v => rw [e] at p; obtain ⟨e2, h', ow', a, b, c⟩ := p; rw [a]; exact ⟨e2, h', ow', rfl, b, c⟩
  | stuck => trivial
theorem us_next : SU S sNext uNext := fun k B ow h env ven r => ⟨env, h, ow, rfl, r, .refl⟩
theorem us_asg (ha : JU S RD a va) (hg : ∀ i, i ∈ g.slots → i ∉ S.O) : SU S (sAsg a g) (uAsg va g) := fun k B ow h env ven r =>
  (ha k B ow h env ven r).out fun d h1 ow1 v1 z r1 s1 q1 => by
    cases e : g.set z v1 with
    | none => simp only; trivial
    | some v2 =>
      obtain ⟨e2, e3, r2⟩ := set_den g hg r1 q1 e
      simp only [e3]
      exact ⟨e2, h1, ow1, rfl, r2, .refl⟩
def RN : Re D LV := fun B ow h u x => ∃ us ds, x = .new ds ∧ u = .lst us ∧ DenL (lk B ow) h us ds
theorem un_new (hm : JU S RL m w) : JU S RN (mNL m) (uNew w) := fun k B ow h env ven r =>
  (hm k B ow h env ven r).bind fun d h1 ow1 v1 u r1 s1 q1 => .ok r1 ⟨u, d, rfl, rfl, q1⟩
theorem Rl.setOut {k : Nat} {B : Nat → Prop} {ow : Ow} {h : PHeap} {env ven : PEnv} (r : Rl S k B ow h env ven) {d u : D} (hl : ¬ i < ven.length) : Rl S k B ow h (env.set i (some d)) (ven.set i (some u)) := by
  have e1 : env.set i (some d) = env := List.set_eq_of_length_le (by rw [r.len]; omega)
  have e2 : ven.set i (some u) = ven := List.set_eq_of_length_le (by omega)
  rw [e1, e2]
  exact r
theorem us_asgN (hm : JU S RN mo va) (hi : i ∈ S.O) (hp : i ∉ S.P) (hq : i ∉ S.Q := by decide) : SU S (sAsg (mM mo) (.name i)) (uAsg va (.name i)) := by
  intro k B ow h env ven r
  have := hm k B ow h env ven r
  unfold uAsg
  rw [s_asg, s_m]
  cases e : va ven with
  | ok u v =>
    rw [e] at this
    obtain ⟨x, h1, ow1, e1, r1, s1, us, ds, rfl, rfl, q1⟩ := this
    rw [e1]
    simp only [Res.bind_ok, matD_new, Res.out_ok, set_name, UR.out_ok, tg_name]
    by_cases hl : i < v.length
    · refine ⟨_, _, setOw ow1 i h1.length, rfl, r1.setO hi (by simp) (fun n c e => get_app e) (Nat.le_refl _) (by simp) (DenL.kp (fun n cs l g => ⟨?_, get_app g⟩) us ds q1) hl hq, s1.trans (.setO hp (by simp) (fun n c e => get_app e) (Nat.le_refl _))⟩
      rintro (l2 | l2)
      · exact l l2
      · have := get_lt g; omega
    · exact ⟨_, _, ow1, rfl, (r1.app _).setOut hl, s1.trans (.app _)⟩
  | exc e2 v => rw [e] at this; obtain ⟨h1, ow1, e1, r1, s1⟩ := this; rw [e1]; exact ⟨env, h1, ow1, rfl, r1, s1⟩
  | stuck => trivial
theorem us_drop (ha : JU S RD a va) : SU S (sDrop a) (uDrop va) := fun k B ow h env ven r =>
  (ha k B ow h env ven r).out fun d h1 ow1 v1 z r1 s1 q1 => ⟨env, h1, ow1, rfl, r1, .refl⟩
theorem us_ret (hS : S.fr = false) (ha : JU S RD a va) : SU S (sRet a) (uRet va) := fun k B ow h env ven r =>
  (ha k B ow h env ven r).out fun d h1 ow1 v1 z r1 s1 q1 => ⟨d, env, h1, ow1, rfl, r1, .refl, by rw [hS]; exact q1⟩
theorem us_if (ht : JU S RB t x) (h1 : SU S s u) (h2 : SU S s2 u2) : SU S (sIf t s s2) (uSIf x u u2) := fun k B ow h env ven r =>
  (ht k B ow h env ven r).out fun d h1' ow1 v1 z r1 s1 q1 => by
    cases q1
    cases d
    · exact h2 k B ow1 h1' env v1 r1
    · exact h1 k B ow1 h1' env v1 r1
theorem us_sub (ha : JU S RD a va) (hi : i ∈ S.O) (hM : i ∈ S.M) (hb : JU S RD b vb) (hq : i ∉ S.Q := by decide) : SU S (sSub a (mVar i) b) (uSub va i vb) := fun k B ow h env ven r =>
  (ha k B ow h env ven r).out fun d h1 ow1 v1 z r1 s1 q1 => by
    rcases uOwn_cases i v1 with e | ⟨us, e, e1⟩
    · rw [e]; trivial
    · obtain ⟨n, eo⟩ := r1.all i _ hi e
      obtain ⟨_, e2, us1, ds1, e3, e4, q⟩ := r1.ownL hq eo
      rw [e1, mVar_at e2]
      simp only [Res.out_ok, UR.out_ok]
      exact (hb k B ow1 h1 env v1 r1).out fun y h2 ow2 v2 w r2 s2 q2 => by
        rcases uOwn_cases i v2 with e' | ⟨us', e', e1'⟩
        · rw [e']; trivial
        · rw [e1']
          obtain ⟨n', eo'⟩ := r2.all i _ hi e'
          obtain ⟨_, e2', us2, ds2, e3', e4', q'⟩ := r2.ownL hq eo'
          rw [e2] at e2'
          cases e2'
          rw [e'] at e3'
          cases e3'
          simp only [UR.out_ok]
          cases w with
          | int kk =>
            rw [RD, Den] at q2
            subst q2
            simp only [e4', q'.len]
            cases ex : ixN ds2.length kk with
            | none => trivial
            | some j =>
              simp only
              exact ⟨env, _, ow2, rfl, r2.write eo' (q'.set (Sta.sta s2 q1)) hq, .write eo' hM⟩
          | _ => trivial
theorem for_den {kill : List Nat} {X : List Nat} {t : Itr} (hg : ∀ i, i ∈ g.slots → i ∉ S.O) (hk : ∀ i, i ∈ S.P → i ∉ kill) (hX : ∀ i, i ∈ X → i ∉ S.M) (hs : SU S s u) : ∀ (us ds : List D) {k : Nat} {B : Nat → Prop} {ow : Ow} {h : PHeap} {env ven : PEnv} {xs : List D},
    Rl S k B ow h env ven → DenL (lk B ow) h us ds → RI X B ow h xs t → PostS S k B ow h (forL g s kill t ds env h) (uforL g u kill us ven)
  | [], ds, k, B, ow, h, env, ven, xs, r, q, qt => by
    rw [denL_nil] at q
    subst q
    rw [forL, if_pos qt.live]
    exact ⟨_, h, _, rfl, r.wipe kill, .drop hk⟩
  | z :: us, ds, k, B, ow, h, env, ven, xs, r, q, qt => by
    rw [DenL] at q
    obtain ⟨d, ds', rfl, q1, q2⟩ := q
    rw [forL, if_pos qt.live, uforL]
    have r0 := r.wipe kill
    have s0 : Stp S ow h (dropO ow kill) h := .drop hk
    cases es : g.set z (wipeE ven kill) with
    | none => trivial
    | some v1 =>
      obtain ⟨e1, es1, r1⟩ := set_den g hg r0 (Sta.sta (R := RD) s0 q1) es
      simp only [es1]
      have p := hs k B _ h e1 v1 r1
      cases eb : u v1 with
      | nx v2 =>
        rw [eb] at p
        obtain ⟨e2, h2, ow2, a, b, c⟩ := p
        rw [a]
        have sc := s0.trans c
        exact PostS.after sc (for_den hg hk hX hs us ds' b (DenL.kp sc.kp _ _ q2) (qt.sta hX sc))
      | ct v2 =>
        rw [eb] at p
        obtain ⟨e2, h2, ow2, a, b, c⟩ := p
        rw [a]
        have sc := s0.trans c
        exact PostS.after sc (for_den hg hk hX hs us ds' b (DenL.kp sc.kp _ _ q2) (qt.sta hX sc))
      | bk v2 => rw [eb] at p; obtain ⟨e2, h2, ow2, a, b, c⟩ := p; rw [a]; exact ⟨e2, h2, ow2, rfl, b, s0.trans c⟩
      | rt y v2 => rw [eb] at p; obtain ⟨dd, e2, h2, ow2, a, b, c, q⟩ := p; rw [a]; exact ⟨dd, e2, h2, ow2, rfl, b, s0.trans c, q⟩
      | exc y v2 => rw [eb] at p; obtain ⟨e2, h2, ow2, a, b, c⟩ := p; rw [a]; exact ⟨e2, h2, ow2, rfl, b, s0.trans c⟩
      | stuck => trivial
theorem us_for {i : MI} {vi : UI} {kill : List Nat} {X M' : List Nat} (hM : ∀ i, i ∈ M' → i ∈ S.M) (hi : JU S (RI X) i vi) (hg : ∀ i, i ∈ g.slots → i ∉ S.O) (hk : ∀ i, i ∈ S.P → i ∉ kill) (hX : ∀ i, i ∈ X → i ∉ M') (hs : SU { S with M := M' } s u) : SU S (sFor i g s kill) (uFor vi g u kill) := fun k B ow h env ven r =>
  (hi k B ow h env ven r).out fun d h1 ow1 v1 z r1 s1 q1 => PostS.wide (for_den (S := { S with M := M' }) hg hk hX hs z d.items r1.toM q1.1 q1) hM
end
end Gb

namespace Gb
open PySem L2
def PL (S : Sx) (k : Nat) (B : Nat → Prop) (h : PHeap) (L : Nat → Prop) : List (Nat × Bool) → List Nat → List D → List D → Prop
  | [], X, us, ds => X = [] ∧ us = [] ∧ ds = []
  | (i, false) :: fl, X, us, ds => ∃ u us' d ds', us = u :: us' ∧ ds = d :: ds' ∧ i ∉ S.O ∧ Den L h u d ∧ PL S k B h L fl X us' ds'
  | (i, true) :: fl, X, us, ds => ∃ n X' us' vs cs ds', X = n :: X' ∧ us = .lst vs :: us' ∧ ds = .ref n :: ds' ∧ i ∈ S.O ∧ i ∉ S.P ∧ i ∉ S.Q ∧ k ≤ n ∧ ¬ B n ∧ n ∉ X' ∧ h[n]? = some (.lst cs) ∧ DenL L h vs cs ∧ PL S k B h L fl X' us' ds'
theorem foldl_setS : ∀ (ps : List (Nat × D)) (v : PEnv), ps.foldl (fun e p => e.set p.1 (some p.2)) v = setS v ps
  | [], v => rfl
  | p :: ps, v => by rw [List.foldl_cons, foldl_setS ps, setS]
section
variable {S : Sx} {k : Nat} {B : Nat → Prop} {ow ow' : Ow} {h : PHeap} {env ven : PEnv}
theorem Rl.takeB {n i : Nat} {us ds : List D} {Y : Nat → Prop} (r : Rl S k (fun m => Y m ∨ m = n) ow h env ven) (hi : i ∈ S.O) (hq : i ∉ S.Q) (hk : k ≤ n) (hY : ¬ Y n) (hg : h[n]? = some (.lst ds)) (q : DenL (lk (fun m => Y m ∨ m = n) ow) h us ds) :
    ∃ ow2, Rl S k Y ow2 h (env.set i (some (.ref n))) (ven.set i (some (.lst us))) ∧ (∀ m, lk Y ow2 m → lk (fun m => Y m ∨ m = n) ow m) ∧ (∀ j m, ow2 j = some m → ow j = some m ∨ m = n) ∧ (∀ j, j ≠ i → ow2 j = ow j) := by
  by_cases hv : i < ven.length
  · have kp : Kp (lk (fun m => Y m ∨ m = n) ow) h (lk Y (setOw ow i n)) h := fun m cs l e => ⟨by
      rintro (l2 | ⟨j, e2⟩)
      · exact l (.inl (.inl l2))
      · rcases setOw_some e2 with ⟨_, e3⟩ | ⟨_, e3⟩
        · exact l (.inl (.inr e3))
        · exact l (.inr ⟨j, e3⟩), e⟩
    have ne : ∀ {j m}, ow j = some m → m ≠ n := fun {j m} e e2 => r.dis j m e (.inr e2)
    refine ⟨setOw ow i n, ⟨r.kl, fun m q => r.lt m (.inl q), fun a b m e1 e2 => ?_, fun a m e => ?_, fun a m e hp2 => ?_, fun a m e => ?_, fun a v m e => ?_, by simp [r.len], fun a v m e => ?_⟩, fun m l => ?_, fun j m e => ?_, fun j hj => setOw_ne hj⟩
    · rcases setOw_some e1 with ⟨e3, e4⟩ | ⟨e3, e4⟩ <;> rcases setOw_some e2 with ⟨e5, e6⟩ | ⟨e5, e6⟩
      · rw [e3, e5]
      · exact absurd e4 (ne e6)
      · exact absurd e6 (ne e4)
      · exact r.inj a b m e4 e6
    · rcases setOw_some e with ⟨e3, e4⟩ | ⟨e3, e4⟩
      · subst e4; exact hY
      · exact fun q => r.dis a m e4 (.inl q)
    · rcases setOw_some e with ⟨e3, e4⟩ | ⟨e3, e4⟩
      · omega
      · exact r.frs a m e4 hp2
    · rcases setOw_some e with ⟨e3, e4⟩ | ⟨e3, e4⟩
      · subst e3; subst e4
        exact ⟨hi, List.getElem?_set_self (by rw [r.len]; exact hv), us, ds, by rw [show S.q a = false from decide_eq_false hq]; exact List.getElem?_set_self hv, by rw [show S.q a = false from decide_eq_false hq]; exact hg, DenL.kp kp us ds q⟩
      · obtain ⟨x1, x2, vs, cs, x3, x4, x5⟩ := r.own a m e4
        exact ⟨x1, by rw [List.getElem?_set_ne (fun e => e3 e.symm)]; exact x2, vs, cs, by rw [List.getElem?_set_ne (fun e => e3 e.symm)]; exact x3, x4, DenL.kp kp vs cs x5⟩
    · by_cases ea : a = i
      · exact ⟨n, by rw [ea]; exact setOw_same⟩
      · rw [List.getElem?_set_ne (fun e => ea e.symm)] at e
        obtain ⟨x, y⟩ := r.all a v m e
        exact ⟨x, by rw [setOw_ne ea]; exact y⟩
    · have ea : a ≠ i := fun e => m (e ▸ hi)
      rw [List.getElem?_set_ne (fun e => ea e.symm)] at e ⊢
      obtain ⟨d, y1, y2⟩ := r.oth a v m e
      exact ⟨d, y1, Den.kp kp v d y2⟩
    · rcases l with l | ⟨j, l⟩
      · exact .inl (.inl l)
      · rcases setOw_some l with ⟨_, e3⟩ | ⟨_, e3⟩
        · exact .inl (.inr e3)
        · exact .inr ⟨j, e3⟩
    · rcases setOw_some e with ⟨_, e3⟩ | ⟨_, e3⟩
      · exact .inr e3
      · exact .inl e3
  · have kp : Kp (lk (fun m => Y m ∨ m = n) ow) h (lk Y ow) h := fun m cs l e => ⟨by
      rintro (l2 | ⟨j, e2⟩)
      · exact l (.inl (.inl l2))
      · exact l (.inr ⟨j, e2⟩), e⟩
    have r2 : Rl S k Y ow h env ven := ⟨r.kl, fun m q => r.lt m (.inl q), r.inj, fun a m e q => r.dis a m e (.inl q), r.frs, fun a m e => by
      obtain ⟨x1, x2, vs, cs, x3, x4, x5⟩ := r.own a m e
      exact ⟨x1, x2, vs, cs, x3, x4, DenL.kp kp vs cs x5⟩, r.all, r.len, fun a v m e => by
      obtain ⟨d, y1, y2⟩ := r.oth a v m e
      exact ⟨d, y1, Den.kp kp v d y2⟩⟩
    exact ⟨ow, r2.setOut hv, fun m l => l.imp .inl id, fun j m e => .inl e, fun j hj => rfl⟩
theorem pl_set : ∀ {fl : List (Nat × Bool)} {X : List Nat} {us ds : List D} {L : Nat → Prop} {ow : Ow} {env ven : PEnv},
    Rl S k (fun m => B m ∨ m ∈ X) ow h env ven → (∀ m, lk (fun m => B m ∨ m ∈ X) ow m → L m) → PL S k B h L fl X us ds → us.length = fl.length ∧ ds.length = fl.length ∧ ∃ ow2, Rl S k B ow2 h (setS env ((fl.map (·.1)).zip ds)) (setS ven ((fl.map (·.1)).zip us)) ∧ (∀ j m, ow2 j = some m → ow j = some m ∨ m ∈ X) ∧ (∀ j, j ∈ S.P → ow2 j = ow j)
  | [], X, us, ds, L, ow, env, ven, r, hL, q => by
    obtain ⟨rfl, rfl, rfl⟩ := q
    refine ⟨rfl, rfl, ow, ?_, fun j m e => .inl e, fun j hj => rfl⟩
    have e : (fun m => B m ∨ m ∈ ([] : List Nat)) = B := by funext m; simp
    rw [e] at r
    exact r
  | (i, false) :: fl, X, us, ds, L, ow, env, ven, r, hL, q => by
    obtain ⟨u, us', d, ds', rfl, rfl, hi, q1, q2⟩ := q
    have r1 := r.set (i := i) (u := u) (d := d) hi (Den.kp (fun n cs l g => ⟨fun l2 => l (hL n l2), g⟩) u d q1)
    obtain ⟨e1, e2, ow2, r2, o2, p2⟩ := pl_set r1 hL q2
    exact ⟨by simp [e1], by simp [e2], ow2, r2, o2, p2⟩
  | (i, true) :: fl, X, us, ds, L, ow, env, ven, r, hL, q => by
    obtain ⟨n, X', us', vs, cs, ds', rfl, rfl, rfl, hi, hp, hq, hk, hB, hX, hg, q1, q2⟩ := q
    have e0 : (fun m => B m ∨ m ∈ n :: X') = fun m => (B m ∨ m ∈ X') ∨ m = n := by
      funext m
      simp only [List.mem_cons]
      apply propext
      constructor
      · rintro (a | a | a)
        · exact .inl (.inl a)
        · exact .inr a
        · exact .inl (.inr a)
      · rintro ((a | a) | a)
        · exact .inl a
        · exact .inr (.inr a)
        · exact .inr (.inl a)
    rw [e0] at r hL
    have hY : ¬ (B n ∨ n ∈ X') := fun a => a.elim hB hX
    obtain ⟨ow1, r1, l1, o1, p1⟩ := r.takeB (us := vs) (ds := cs) (Y := fun m => B m ∨ m ∈ X') hi hq hk hY hg (DenL.kp (fun n cs l g => ⟨fun l2 => l (hL n l2), g⟩) vs cs q1)
    obtain ⟨e1, e2, ow2, r2, o2, p2⟩ := pl_set r1 (fun m l => hL m (l1 m l)) q2
    refine ⟨by simp [e1], by simp [e2], ow2, r2, fun j m e => ?_, fun j hj => (p2 j hj).trans (p1 j fun e => hp (e ▸ hj))⟩
    rcases o2 j m e with e | e
    · rcases o1 j m e with e | e
      · exact .inl e
      · exact .inr (by rw [e]; exact List.mem_cons_self ..)
    · exact .inr (List.mem_cons_of_mem _ e)
theorem PL.kp {B' : Nat → Prop} {L L' : Nat → Prop} {h' : PHeap} (hB : ∀ n, B n → B' n) : ∀ {fl : List (Nat × Bool)} {X : List Nat} {us ds : List D}, PL S k B' h L fl X us ds → PL S k B h L fl X us ds
  | [], X, us, ds, q => q
  | (i, false) :: fl, X, us, ds, q => by
    obtain ⟨u, us', d, ds', e1, e2, hi, q1, q2⟩ := q
    exact ⟨u, us', d, ds', e1, e2, hi, q1, PL.kp (h' := h') (L' := L') hB q2⟩
  | (i, true) :: fl, X, us, ds, q => by
    obtain ⟨n, X', us', vs, cs, ds', e1, e2, e3, hi, hp, hq, hk, hb, hX, hg, q1, q2⟩ := q
    exact ⟨n, X', us', vs, cs, ds', e1, e2, e3, hi, hp, hq, hk, fun b => hb (hB n b), hX, hg, q1, PL.kp (h' := h') (L' := L') hB q2⟩
end
def JP (S : Sx) (fl : List (Nat × Bool)) (m : MA) (w : UA) : Prop := ∀ k B ow h env ven, Rl S k B ow h env ven → match w ven with
  | .ok us ven' => ∃ ds h' ow' X, m env h = .ok ds h' ∧ Rl S k (fun m => B m ∨ m ∈ X) ow' h' env ven' ∧ Stp S ow h ow' h' ∧ PL S k B h' (lk (fun m => B m ∨ m ∈ X) ow') fl X us ds ∧ ∀ n ∈ X, h.length ≤ n
  | .exc e ven' => ∃ h' ow', m env h = .exc e h' ∧ Rl S k B ow' h' env ven' ∧ Stp S ow h ow' h'
  | .stuck => True
section
variable {S : Sx} {fl : List (Nat × Bool)} {m : MA} {w : UA} {a : ME} {va : UE} {mo : MO} {i : Nat}
theorem jp_nil : JP S [] mNil uNil := fun k B ow h env ven r => by
  have e : (fun m => B m ∨ m ∈ ([] : List Nat)) = B := by funext m; simp
  exact ⟨[], h, ow, [], rfl, by rw [e]; exact r, .refl, ⟨rfl, rfl, rfl⟩, fun n m => by cases m⟩
theorem jp_val (i : Nat) (hi : i ∉ S.O) (ha : JU S RD a va) (hm : JP S fl m w) : JP S ((i, false) :: fl) (mCons a m) (uCons va w) := by
  intro k B ow h env ven r
  unfold uCons
  rw [s_cons]
  cases ea : va ven with
  | stuck => trivial
  | exc x v =>
    have := ha k B ow h env ven r
    rw [ea] at this
    obtain ⟨h1, ow1, e1, r1, s1⟩ := this
    rw [e1]
    exact ⟨h1, ow1, rfl, r1, s1⟩
  | ok u v =>
    obtain ⟨d, h1, ow1, e1, r1, s1, q1⟩ := ha.at r ea
    rw [e1]
    simp only [Res.bind_ok, UR.bind_ok]
    have := hm k B ow1 h1 env v r1
    revert this
    cases w v with
    | stuck => intro _; trivial
    | exc x v2 => intro ⟨h2, ow2, e2, r2, s2⟩; rw [e2]; exact ⟨h2, ow2, rfl, r2, s1.trans s2⟩
    | ok us v2 =>
      intro ⟨ds, h2, ow2, X, e2, r2, s2, q2, f2⟩
      rw [e2]
      refine ⟨d :: ds, h2, ow2, X, rfl, r2, s1.trans s2, ⟨u, us, d, ds, rfl, rfl, hi, Den.kp (fun n cs l g => ⟨?_, (s2.kp (B := B) n cs l g).2⟩) u d q1, q2⟩, fun n m => Nat.le_trans s1.len (f2 n m)⟩
      rintro ((l2 | l2) | l2)
      · exact l (.inl l2)
      · have := get_lt g; have := f2 n l2; omega
      · exact (s2.kp (B := B) n cs l g).1 (.inr l2)
theorem us_par {is : List Nat} (hm : JP S fl m w) (he : fl.map (·.1) = is) : SU S (sPar is m) (uPar is w) := by
  subst he
  intro k B ow h env ven r
  have := hm k B ow h env ven r
  unfold uPar
  rw [s_par]
  revert this
  cases w ven with
  | stuck => intro _; trivial
  | exc x v2 => intro ⟨h2, ow2, e2, r2, s2⟩; rw [e2]; exact ⟨env, h2, ow2, rfl, r2, s2⟩
  | ok us v2 =>
    intro ⟨ds, h2, ow2, X, e2, r2, s2, q2, f2⟩
    rw [e2]
    obtain ⟨l1, l2, ow3, r3, o3, p3⟩ := pl_set r2 (fun m l => l) q2
    simp only [Res.out_ok, UR.out_ok, List.length_map]
    rw [if_pos l1, if_pos l2, foldl_setS]
    refine ⟨_, h2, ow3, rfl, r3, ⟨s2.len, s2.keep, fun j n e => ?_, fun j hj => (p3 j hj).trans (s2.pin j hj)⟩⟩
    rcases o3 j n e with e | e
    · exact s2.sub j n e
    · exact .inr (f2 n e)
end
def uRunP (fr : Bool) (np ns : Nat) (body : US) : UF := fun args => if args.length = np then (match body (args.map some ++ List.replicate (ns - np) none) with
  | .nx _ => match fr with
    | true => .stuck
    | false => .ok .non
  | .rt d _ => .ok d
  | .exc e _ => .exc e
  | _ => .stuck) else .stuck
def stateOf (v : PEnv) : Option (List D) := match v with
  | some (.lst xs) :: _ => some xs
  | _ => none
def uRunM (fr : Bool) (np ns : Nat) (body : US) : UG := fun s args => if args.length + 1 = np then (match body (some (.lst s) :: args.map some ++ List.replicate (ns - np) none) with
  | .nx v => match stateOf v with
    | some t => match fr with
      | true => .stuck
      | false => .ok .non t
    | none => .stuck
  | .rt d v => match stateOf v with
    | some t => .ok d t
    | none => .stuck
  | .exc e v => match stateOf v with
    | some t => .exc e t
    | none => .stuck
  | _ => .stuck) else .stuck
theorem args_get {np : Nat} {args : List D} {n : Nat} (hl : args.length = np) {i : Nat} {u : D} (e : (args.map some ++ List.replicate n none)[i]? = some (some u)) : args[i]? = some u := by
  by_cases hi : i < args.length
  · rw [List.getElem?_append_left (by simpa using hi), List.getElem?_map] at e
    cases q : args[i]? with
    | none => rw [q] at e; cases e
    | some d => rw [q] at e; cases e; rfl
  · rw [List.getElem?_append_right (by simp; omega), List.getElem?_replicate] at e
    split at e <;> cases e
theorem args_at {args : List D} {n : Nat} {i : Nat} {d : D} (e : args[i]? = some d) : (args.map some ++ List.replicate n none)[i]? = some (some d) := by
  have hi := (List.getElem?_eq_some_iff.mp e).1
  rw [List.getElem?_append_left (by simpa using hi), List.getElem?_map, e]
  rfl
theorem fp_of {O M Q : List Nat} {fr : Bool} {np ns : Nat} {b : MS} {v : US} (hb : SU ⟨O, [], M, fr, Q⟩ b v) (hO : ∀ i ∈ O, np ≤ i) : FP fr (runFn np ns b) (uRunP fr np ns v) := by
  intro B h us ds hB q
  unfold uRunP
  by_cases hl : us.length = np
  · have hl2 : ds.length = np := by rw [← q.len]; exact hl
    rw [if_pos hl, s_fn hl2]
    have r : Rl ⟨O, [], M, fr, Q⟩ h.length B (fun _ => none) h (ds.map some ++ List.replicate (ns - np) none) (us.map some ++ List.replicate (ns - np) none) := by
      have lkB : lk B (fun _ => none) = B := by funext n; apply propext; exact ⟨fun l => l.elim id fun ⟨_, e⟩ => (by cases e), .inl⟩
      refine ⟨Nat.le_refl _, hB, fun i j n e => (by cases e), fun i n e => (by cases e), fun i n e => (by cases e), fun i n e => (by cases e), fun i u m e => ?_, by simp [hl, hl2], fun i u m e => ?_⟩
      · have := args_get hl e
        have := (List.getElem?_eq_some_iff.mp this).1
        have := hO i m
        omega
      · obtain ⟨d, e1, e2⟩ := q.get (args_get hl e)
        exact ⟨d, args_at e1, by rw [lkB]; exact e2⟩
    have p := hb h.length B _ h _ _ r
    have fin : ∀ {u d : D} {h1 : PHeap} {ow1 : Ow} {e v : PEnv}, Rl ⟨O, [], M, fr, Q⟩ h.length B ow1 h1 e v → Stp ⟨O, [], M, fr, Q⟩ (fun _ => none) h ow1 h1 → Ret fr h.length (lk B ow1) h1 u d → Pass h (gc h.length d h1) ∧ Ret fr h.length B (gc h.length d h1) u d := fun {u d h1 ow1 e v} r1 s1 q1 => by
      refine ⟨⟨gc_len s1.len, fun n c g => gc_get (get_lt g) (s1.keep n c (fun i e => (by cases e)) g)⟩, ?_⟩
      cases fr with
      | false => exact gc_den (Den.kp lk_B _ _ q1)
      | true =>
        obtain ⟨n, us, ds, rfl, hk, rfl, g, l, q⟩ := q1
        have eg : gc h.length (.ref n) h1 = h1 := by
          rcases gc_cases h.length (.ref n) h1 with e | ⟨_, s, _⟩
          · exact e
          · rw [sm_ref, decide_eq_true_eq] at s; omega
        rw [eg]
        exact ⟨n, us, ds, rfl, hk, rfl, g, fun b => l (.inl b), DenL.kp (fun m cs l2 g2 => ⟨fun l3 => l2 (l3.imp .inl id), g2⟩) us ds q⟩
    revert p
    generalize v (us.map some ++ List.replicate (ns - np) none) = w
    cases w with
    | nx v2 =>
      intro ⟨e, h1, ow1, e1, r1, s1⟩
      rw [e1]
      cases fr with
      | false => obtain ⟨f1, f2⟩ := fin (u := .non) (d := .non) r1 s1 (gnd_den (L := lk B ow1) (h := h1) .non rfl); exact ⟨.non, _, rfl, f1, f2⟩
      | true => trivial
    | rt u v2 =>
      intro ⟨d, e, h1, ow1, e1, r1, s1, q1⟩
      rw [e1]
      obtain ⟨f1, f2⟩ := fin r1 s1 q1
      exact ⟨d, _, rfl, f1, f2⟩
    | exc x v2 =>
      intro ⟨e, h1, ow1, e1, r1, s1⟩
      rw [e1]
      exact ⟨h1, rfl, s1.len, fun n c g => s1.keep n c (fun i e => (by cases e)) g⟩
    | bk v2 => intro _; trivial
    | ct v2 => intro _; trivial
    | stuck => intro _; trivial
  · rw [if_neg hl]; trivial
end Gb

namespace Gb
open PySem L2
def ow0 (n : Nat) : Ow := fun i => if i = 0 then some n else none
theorem ow0_some {n i m : Nat} (e : ow0 n i = some m) : i = 0 ∧ m = n := by
  unfold ow0 at e
  split at e
  · cases e; exact ⟨by assumption, rfl⟩
  · cases e
theorem state_get {v : PEnv} {t : List D} (e : stateOf v = some t) : v[0]? = some (some (.lst t)) := by
  unfold stateOf at e
  split at e
  · cases e; rfl
  · cases e
theorem fm_of {O M Q : List Nat} {fr : Bool} {np ns : Nat} {b : MS} {v : US} (hb : SU ⟨O, [0], M, fr, Q⟩ b v) (h0 : 0 ∈ O) (hO : ∀ i ∈ O, i = 0 ∨ np ≤ i) (hQ : 0 ∉ Q := by decide) : FM fr (runFn np ns b) (uRunM fr np ns v) := by
  intro B h xs cs n us ds hB hn hg qx q
  unfold uRunM
  by_cases hl : us.length + 1 = np
  · have hl2 : (D.ref n :: ds).length = np := by rw [List.length_cons, ← q.len]; exact hl
    rw [if_pos hl, s_fn hl2]
    have lkB : lk B (ow0 n) = fun m => B m ∨ m = n := by
      funext m
      apply propext
      constructor
      · rintro (l | ⟨i, l⟩)
        · exact .inl l
        · exact .inr (ow0_some l).2
      · rintro (l | l)
        · exact .inl l
        · exact .inr ⟨0, by rw [l]; rfl⟩
    have hnl := get_lt hg
    have r : Rl ⟨O, [0], M, fr, Q⟩ h.length B (ow0 n) h ((D.ref n :: ds).map some ++ List.replicate (ns - np) none) (some (.lst xs) :: us.map some ++ List.replicate (ns - np) none) := by
      refine ⟨Nat.le_refl _, hB, fun i j m e e2 => by rw [(ow0_some e).1, (ow0_some e2).1], fun i m e => by rw [(ow0_some e).2]; exact hn, fun i m e h => absurd (show i ∈ [0] by rw [(ow0_some e).1]; simp) h, fun i m e => ?_, fun i u m e => ?_, by simp [← q.len], fun i u m e => ?_⟩
      · obtain ⟨rfl, rfl⟩ := ow0_some e
        exact ⟨h0, rfl, xs, cs, by rw [show Sx.q ⟨O, [0], M, fr, Q⟩ 0 = false from decide_eq_false hQ]; rfl, by rw [show Sx.q ⟨O, [0], M, fr, Q⟩ 0 = false from decide_eq_false hQ]; exact hg, by rw [lkB]; exact qx⟩
      · rcases hO i m with rfl | hi
        · exact ⟨n, rfl⟩
        · have hz : i < us.length + 1 := by
            have hz : (some (D.lst xs) :: us.map some ++ List.replicate (ns - np) none) = ((D.lst xs :: us).map some ++ List.replicate (ns - np) none) := rfl
            rw [hz] at e
            have := args_get (args := .lst xs :: us) (np := np) (by simpa using hl) e
            have := (List.getElem?_eq_some_iff.mp this).1
            simpa using this
          omega
      · have hz : (some (D.lst xs) :: us.map some ++ List.replicate (ns - np) none) = ((D.lst xs :: us).map some ++ List.replicate (ns - np) none) := rfl
        rw [hz] at e
        have e1 := args_get (args := .lst xs :: us) (np := np) (by simpa using hl) e
        cases i with
        | zero => exact absurd h0 m
        | succ i =>
          obtain ⟨d, e2, e3⟩ := q.get (by simpa using e1)
          exact ⟨d, args_at (args := .ref n :: ds) (by simpa using e2), by rw [lkB]; exact e3⟩
    have p := hb h.length B _ h _ _ r
    have st : ∀ {ow1 : Ow} {h1 : PHeap} {e v : PEnv} {t : List D}, Rl ⟨O, [0], M, fr, Q⟩ h.length B ow1 h1 e v → Stp ⟨O, [0], M, fr, Q⟩ (ow0 n) h ow1 h1 → stateOf v = some t → ow1 0 = some n ∧ ∃ es, h1[n]? = some (.lst es) ∧ DenL (fun m => B m ∨ m = n) h1 t es := fun {ow1 h1 e v t} r1 s1 e2 => by
      have e3 : ow1 0 = some n := s1.pin 0 (List.mem_singleton.mpr rfl)
      obtain ⟨x1, x2, vs, es, x3, x4, x5⟩ := r1.ownL hQ e3
      rw [state_get e2] at x3
      cases x3
      exact ⟨e3, es, x4, DenL.kp (fun m cs l g => ⟨fun l2 => l (l2.imp id fun l3 => ⟨0, by rw [l3]; exact e3⟩), g⟩) _ _ x5⟩
    have pn : ∀ {ow1 : Ow} {h1 : PHeap}, Stp ⟨O, [0], M, fr, Q⟩ (ow0 n) h ow1 h1 → PassN n h h1 := fun {ow1 h1} s1 => ⟨s1.len, fun m c hm g => s1.keep m c (fun i e => absurd (ow0_some e).2 hm) g⟩
    have fin : ∀ {u d : D} {h1 : PHeap} {ow1 : Ow} {e v : PEnv} {t : List D}, Rl ⟨O, [0], M, fr, Q⟩ h.length B ow1 h1 e v → Stp ⟨O, [0], M, fr, Q⟩ (ow0 n) h ow1 h1 → stateOf v = some t → Ret fr h.length (lk B ow1) h1 u d →
        ∃ es, PassN n h (gc h.length d h1) ∧ (gc h.length d h1)[n]? = some (.lst es) ∧ DenL (fun m => B m ∨ m = n) (gc h.length d h1) t es ∧ Ret fr h.length (fun m => B m ∨ m = n) (gc h.length d h1) u d := fun {u d h1 ow1 e v t} r1 s1 e2 q1 => by
      obtain ⟨e3, es, g, qe⟩ := st r1 s1 e2
      have p1 := pn s1
      refine ⟨es, ⟨gc_len s1.len, fun m c hm g => gc_get (get_lt g) (p1.2 m c hm g)⟩, gc_get hnl g, gc_denL hnl g qe, ?_⟩
      have low : ∀ {m : Nat}, (B m ∨ m = n) → lk B ow1 m := fun {m} l => l.imp id fun l3 => ⟨0, by rw [l3]; exact e3⟩
      cases fr with
      | false => exact gc_den (Den.kp (fun m cs l g => ⟨fun l2 => l (low l2), g⟩) _ _ q1)
      | true =>
        obtain ⟨m, us, ds, rfl, hk, rfl, g, l, q⟩ := q1
        have eg : gc h.length (.ref m) h1 = h1 := by
          rcases gc_cases h.length (.ref m) h1 with e | ⟨_, s, _⟩
          · exact e
          · rw [sm_ref, decide_eq_true_eq] at s; omega
        rw [eg]
        exact ⟨m, us, ds, rfl, hk, rfl, g, fun b => l (low b), DenL.kp (fun m cs l2 g2 => ⟨fun l3 => l2 (l3.imp low id), g2⟩) us ds q⟩
    revert p
    generalize v (some (.lst xs) :: us.map some ++ List.replicate (ns - np) none) = w
    cases w with
    | nx v2 =>
      intro ⟨e, h1, ow1, e1, r1, s1⟩
      rw [e1]
      cases e2 : stateOf v2 with
      | none => simp only [e2]
      | some t =>
        simp only [e2, ret_nx]
        cases fr with
        | false =>
          obtain ⟨es, f1, f2, f3, f4⟩ := fin (u := .non) (d := .non) r1 s1 e2 (gnd_den (L := lk B ow1) (h := h1) .non rfl)
          exact ⟨.non, _, es, rfl, f1, f2, f3, f4⟩
        | true => trivial
    | rt u v2 =>
      intro ⟨d, e, h1, ow1, e1, r1, s1, q1⟩
      rw [e1]
      cases e2 : stateOf v2 with
      | none => simp only [e2]
      | some t =>
        simp only [e2, ret_rt]
        obtain ⟨es, f1, f2, f3, f4⟩ := fin r1 s1 e2 q1
        exact ⟨d, _, es, rfl, f1, f2, f3, f4⟩
    | exc x v2 =>
      intro ⟨e, h1, ow1, e1, r1, s1⟩
      rw [e1]
      cases e2 : stateOf v2 with
      | none => simp only [e2]
      | some t =>
        simp only [e2, ret_ex]
        obtain ⟨e3, es, g, qe⟩ := st r1 s1 e2
        exact ⟨h1, es, rfl, pn s1, g, qe⟩
    | bk v2 => intro _; trivial
    | ct v2 => intro _; trivial
    | stuck => intro _; trivial
  · rw [if_neg hl]; trivial

def gSub : D → D → Option D := fun x y => match x, y with | .int i, .int j => some (.int (i - j)) | _, _ => none
def gDiv : D → D → Option D := fun x y => match x, y with | .int i, .int j => if j ≠ 0 ∧ j.natAbs < 1073741824 then some (.int (i.fdiv j)) else none | _, _ => none
def gMod : D → D → Option D := fun x y => match x, y with | .int i, .int j => if j ≠ 0 then some (.int (i.fmod j)) else none | _, _ => none
def gPow : D → D → Option D := fun x y => match x, y with | .int i, .int j => if 0 ≤ j ∧ j ≤ 1000000 ∧ i.natAbs < 2 ^ 64 then some (.int (i ^ j.toNat)) else none | _, _ => none
def gCmp (c : Int → Int → Bool) : D → D → Option D := fun x y => match x, y with | .int i, .int j => some (.bl (c i j)) | _, _ => none
abbrev gLt := gCmp fun i j => decide (i < j)
abbrev gLe := gCmp fun i j => decide (i ≤ j)
abbrev gGt := gCmp fun i j => decide (j < i)
abbrev gGe := gCmp fun i j => decide (j ≤ i)
def gNeg : D → Option D := fun x => match x with | .int i => some (.int (-i)) | _ => none
theorem g_sub : MB fSub gSub := by
  intro L h u w d e z q r g
  unfold gSub at g
  split at g
  · cases g; rw [Den] at q r; subst q; subst r; exact ⟨rfl, rfl⟩
  · cases g
theorem g_div : MB fDiv gDiv := by
  intro L h u w d e z q r g
  unfold gDiv at g
  split at g
  · rw [Den] at q r; subst q; subst r
    split at g
    · rename_i c; cases g; rw [f_div, if_pos c]; exact ⟨rfl, rfl⟩
    · cases g
  · cases g
theorem g_mod : MB fMod gMod := by
  intro L h u w d e z q r g
  unfold gMod at g
  split at g
  · rw [Den] at q r; subst q; subst r
    split at g
    · rename_i c; cases g; rw [f_mod, if_pos c]; exact ⟨rfl, rfl⟩
    · cases g
  · cases g
theorem g_pow : MB fPow gPow := by
  intro L h u w d e z q r g
  unfold gPow at g
  split at g
  · rw [Den] at q r; subst q; subst r
    split at g
    · rename_i c; cases g; rw [f_pow, if_pos c]; exact ⟨rfl, rfl⟩
    · cases g
  · cases g
theorem g_cmp {c : Int → Int → Bool} : MB (fCmpI c) (gCmp c) := by
  intro L h u w d e z q r g
  unfold gCmp at g
  split at g
  · rw [Den] at q r; subst q; subst r; cases g; exact ⟨rfl, rfl⟩
  · cases g
theorem g_neg : MU fNeg gNeg := by
  intro L h u d z q g
  unfold gNeg at g
  split at g
  · rw [Den] at q; subst q; cases g; exact ⟨rfl, rfl⟩
  · cases g

theorem seqW {L : Nat → Prop} {h : PHeap} {u : D} {x : LV} {us : List D} (q : DenW L h u x) (e : gSeq u = some us) : ∃ ds, x.seq h = some ds ∧ DenL L h us ds := by
  rcases q with q | ⟨n, us', ds, rfl, rfl, g, q⟩
  · cases x with
    | val d =>
      replace q : Den L h u d := q
      cases u with
      | tup us' => cases e; rw [Den] at q; obtain ⟨ds, rfl, q⟩ := q; exact ⟨ds, rfl, q⟩
      | lst us' =>
        cases e
        rw [Den] at q
        obtain ⟨n, ds, rfl, l, g, q⟩ := q
        exact ⟨ds, sq_ref g, q⟩
      | fro us' =>
        cases e
        rw [Den] at q
        obtain ⟨ds, rfl, q⟩ := q
        exact ⟨ds, rfl, q⟩
      | _ => cases e
    | new ds => obtain ⟨us', rfl, q⟩ := q; cases e; exact ⟨ds, rfl, q⟩
  · cases e; exact ⟨ds, sq_ref g, q⟩
def gItems : D → Option (List D) := fun u => match u with | .lst xs => some xs | _ => none
theorem itemsW {L : Nat → Prop} {h : PHeap} {u : D} {x : LV} {us : List D} (q : DenW L h u x) (e : gItems u = some us) : ∃ ds, x.items h = some ds ∧ DenL L h us ds := by
  cases u with
  | lst us' =>
    cases e
    rcases q with q | ⟨n, us', ds, rfl, e, g, q⟩
    · cases x with
      | val d =>
        replace q : Den L h (.lst us) d := q
        rw [Den] at q
        obtain ⟨n, ds, rfl, l, g, q⟩ := q
        exact ⟨ds, it_ref g, q⟩
      | new ds => obtain ⟨us', e, q⟩ := q; cases e; exact ⟨ds, rfl, q⟩
    · cases e; exact ⟨ds, it_ref g, q⟩
  | _ => cases e
theorem atomW {L : Nat → Prop} {h : PHeap} {u : D} {x : LV} (q : DenW L h u x) (hu : u.gnd = true) : x = .val u := by
  rcases q with q | ⟨n, us', ds, rfl, rfl, g, q⟩
  · cases x with
    | val d => rw [den_gnd u d hu q]
    | new ds => obtain ⟨us', rfl, q⟩ := q; cases hu
  · cases hu
def gLen : D → Option D := fun u => match u with
  | .str z => if z.length ≤ 16777216 then some (.int z.length) else none
  | .tup xs => some (.int xs.length)
  | .lst xs => some (.int xs.length)
  | .fro xs => some (.int xs.length)
  | _ => none
theorem g_len : Mo1 RD fLen gLen := by
  intro B ow h u x z q g
  cases u with
  | str s =>
    rw [atomW q rfl]
    simp only [gLen] at g
    split at g
    · rename_i c; cases g; exact ⟨_, by simp only [fLen]; rw [if_pos c], gnd_den _ rfl⟩
    · cases g
  | tup us =>
    cases g
    obtain ⟨ds, e, q2⟩ := seqW q rfl
    have : fLen x h = .ok (.int ds.length) h := by
      unfold fLen
      split
      · simp [LV.seq, LV.items] at e
      · simp only [e]
    exact ⟨_, this, by rw [← q2.len]; exact gnd_den _ rfl⟩
  | lst us =>
    cases g
    obtain ⟨ds, e, q2⟩ := seqW q rfl
    have : fLen x h = .ok (.int ds.length) h := by
      unfold fLen
      split
      · simp [LV.seq, LV.items] at e
      · simp only [e]
    exact ⟨_, this, by rw [← q2.len]; exact gnd_den _ rfl⟩
  | fro us =>
    cases g
    obtain ⟨ds, e, q2⟩ := seqW q rfl
    have : fLen x h = .ok (.int ds.length) h := by
      unfold fLen
      split
      · simp [LV.seq, LV.items] at e
      · simp only [e]
    exact ⟨_, this, by rw [← q2.len]; exact gnd_den _ rfl⟩
  | _ => cases g
def gTuple : D → Option D := fun u => (gSeq u).map D.tup
theorem g_tuple : Mo1 RD fTuple gTuple := by
  intro B ow h u x z q g
  unfold gTuple at g
  cases e : gSeq u with
  | none => rw [e] at g; cases g
  | some us =>
    rw [e] at g
    cases g
    obtain ⟨ds, e, q2⟩ := seqW q e
    exact ⟨.tup ds, by simp only [fTuple, e], by show Den _ _ _ _; rw [Den]; exact ⟨ds, rfl, q2⟩⟩
theorem bools_den {L : Nat → Prop} {h : PHeap} : ∀ {us ds : List D} {bs : List Bool}, DenL L h us ds → bools us = some bs → bools ds = some bs
  | [], ds, bs, q, e => by rw [DenL] at q; rw [q]; exact e
  | u :: us, ds, bs, q, e => by
    rw [DenL] at q
    obtain ⟨d, ds', rfl, q1, q2⟩ := q
    cases u with
    | bl b =>
      rw [Den] at q1
      subst q1
      simp only [bools] at e ⊢
      cases e1 : bools us with
      | none => rw [e1] at e; cases e
      | some bs' => rw [e1] at e; rw [bools_den q2 e1]; exact e
    | _ => simp [bools] at e
def gAll : D → Option D := fun u => ((gItems u).bind bools).map fun bs => .bl (bs.all id)
theorem g_all : Mo1 RD fAll gAll := by
  intro B ow h u x z q g
  unfold gAll at g
  cases e : gItems u with
  | none => rw [e] at g; cases g
  | some us =>
    cases e2 : bools us with
    | none => rw [e, Option.bind_some, e2] at g; cases g
    | some bs =>
      rw [e, Option.bind_some, e2] at g
      cases g
      obtain ⟨ds, e3, q2⟩ := itemsW q e
      exact ⟨_, by simp only [fAll, e3, bools_den q2 e2], gnd_den _ rfl⟩
def gInt : D → Option D := fun u => match u with | .int i => some (.int i) | .bl b => some (.int (if b then 1 else 0)) | _ => none
def gMin2 : D → D → Option D := fun u w => match u, w with | .int i, .int j => some (.int (if j < i then j else i)) | _, _ => none
theorem g_int : Mo1 RD fInt gInt := by
  intro B ow h u x z q g
  unfold gInt at g
  split at g
  · cases g; rw [atomW q rfl]; exact ⟨_, rfl, gnd_den _ rfl⟩
  · cases g; rw [atomW q rfl]; exact ⟨_, rfl, gnd_den _ rfl⟩
  · cases g
theorem g_min2 : Mo2 RD fMin2 gMin2 := by
  intro B ow h u x w y z q r g
  unfold gMin2 at g
  split at g
  · cases g; rw [atomW q rfl, atomW r rfl]; exact ⟨_, rfl, gnd_den _ rfl⟩
  · cases g
def gIx : D → D → Option D := fun u w => match w with
  | .int i => match u with
    | .tup xs => atI xs i
    | .lst xs => atI xs i
    | .fro xs => atI xs i
    | .str z => if z.length ≤ 16777216 then (match atI z.cps.toList i with
      | some c => some (.str ⟨#[c]⟩)
      | none => none) else none
    | _ => none
  | _ => none
theorem atI_den {L : Nat → Prop} {h : PHeap} {us ds : List D} {i : Int} {u : D} (q : DenL L h us ds) (e : atI us i = some u) : ∃ d, atI ds i = some d ∧ Den L h u d := by
  unfold atI at e ⊢
  rw [q.len] at e
  cases e1 : ixN ds.length i with
  | none => rw [e1] at e; cases e
  | some j => rw [e1] at e; exact q.get e
theorem g_ix : Mo2 RD fIx gIx := by
  intro B ow h u x w y z q r g
  unfold gIx at g
  cases w with
  | int i =>
    rw [atomW r rfl]
    simp only at g
    cases u with
    | tup us =>
      obtain ⟨ds, e, q2⟩ := seqW q rfl
      obtain ⟨d, e2, q3⟩ := atI_den q2 g
      exact ⟨d, by simp only [fIx, e, e2], q3⟩
    | lst us =>
      obtain ⟨ds, e, q2⟩ := seqW q rfl
      obtain ⟨d, e2, q3⟩ := atI_den q2 g
      exact ⟨d, by simp only [fIx, e, e2], q3⟩
    | fro us =>
      obtain ⟨ds, e, q2⟩ := seqW q rfl
      obtain ⟨d, e2, q3⟩ := atI_den q2 g
      exact ⟨d, by simp only [fIx, e, e2], q3⟩
    | str s =>
      rw [atomW q rfl]
      simp only at g
      split at g
      · rename_i c
        cases e : atI s.cps.toList i with
        | none => rw [e] at g; cases g
        | some cc => rw [e] at g; cases g; exact ⟨_, by simp only [fIx, sq_str, e]; rw [if_pos c], gnd_den _ rfl⟩
      · cases g
    | _ => cases g
  | _ => cases g
end Gb

namespace Gb
open PySem L2
theorem ownW {L : Nat → Prop} {h : PHeap} {x : LV} {us : List D} (q : DenW L h (.lst us) x) : ∃ ds, x.own h = some ds ∧ DenL L h us ds := by
  rcases q with q | ⟨n, us', ds, rfl, e, g, q⟩
  · cases x with
    | val d =>
      replace q : Den L h (.lst us) d := q
      rw [Den] at q
      obtain ⟨n, ds, rfl, l, g, q⟩ := q
      exact ⟨ds, ow_ref g, q⟩
    | new ds => obtain ⟨us', e, q⟩ := q; cases e; exact ⟨ds, rfl, q⟩
  · cases e; exact ⟨ds, ow_ref g, q⟩
theorem tupW {L : Nat → Prop} {h : PHeap} {x : LV} {us : List D} (q : DenW L h (.tup us) x) : ∃ ds, x = .val (.tup ds) ∧ DenL L h us ds := by
  rcases q with q | ⟨n, us', ds, rfl, e, g, q⟩
  · cases x with
    | val d =>
      replace q : Den L h (.tup us) d := q
      rw [Den] at q
      obtain ⟨ds, rfl, q⟩ := q
      exact ⟨ds, rfl, q⟩
    | new ds => obtain ⟨us', e, q⟩ := q; cases e
  · cases e
theorem den_tup {L : Nat → Prop} {h : PHeap} {us ds : List D} (q : DenL L h us ds) : Den L h (.tup us) (.tup ds) := by rw [Den]; exact ⟨ds, rfl, q⟩
def gAdd : D → D → Option D := fun u w => match u, w with
  | .int i, .int j => some (.int (i + j))
  | .tup xs, .tup ys => if xs.length + ys.length ≤ 16777216 then some (.tup (xs ++ ys)) else none
  | .str a, .str b => if a.length + b.length ≤ 16777216 then some (.str (a ++ b)) else none
  | .lst xs, .lst ys => if xs.length + ys.length ≤ 16777216 then some (.lst (xs ++ ys)) else none
  | _, _ => none
theorem g_add : Mo2 RV fAddO gAdd := by
  intro B ow h u x w y z q r g
  unfold gAdd at g
  split at g
  · cases g
    rw [atomW q rfl, atomW r rfl]
    exact ⟨_, f_add, gnd_den _ rfl⟩
  · obtain ⟨ds, rfl, q1⟩ := tupW q
    obtain ⟨es, rfl, q2⟩ := tupW r
    split at g
    · rename_i c
      cases g
      rw [f_addT, if_pos (by rw [← q1.len, ← q2.len]; exact c)]
      exact ⟨_, rfl, den_tup (q1.app q2)⟩
    · cases g
  · rw [atomW q rfl, atomW r rfl]
    split at g
    · rename_i c
      cases g
      refine ⟨.val (.str _), ?_, gnd_den (L := lk B ow) (h := h) _ rfl⟩
      simp only [fAddO, ow_str, fAdd, Res.val]
      rw [if_pos c]
      rfl
    · cases g
  · obtain ⟨ds, e1, q1⟩ := ownW q
    obtain ⟨es, e2, q2⟩ := ownW r
    split at g
    · rename_i c
      cases g
      exact ⟨_, f_addL e1 e2 (by rw [← q1.len, ← q2.len]; exact c), _, rfl, q1.app q2⟩
    · cases g
  · cases g
def gMul : D → D → Option D := fun u w => match u, w with
  | .int i, .int j => if small64 i || small64 j then some (.int (i * j)) else none
  | .tup xs, .int k => if -1000 ≤ k ∧ k ≤ 1000 ∧ xs.length ≤ 1000 then some (.tup (List.replicate k.toNat xs).flatten) else none
  | .lst xs, .int k => if -1000000 ≤ k ∧ k ≤ 1000000 ∧ xs.length * k.toNat ≤ 16777216 then some (.lst (List.replicate k.toNat xs).flatten) else none
  | _, _ => none
theorem g_mul : Mo2 RV fMulO gMul := by
  intro B ow h u x w y z q r g
  unfold gMul at g
  split at g
  · rw [atomW q rfl, atomW r rfl]
    split at g
    · rename_i c
      cases g
      rw [f_mul, if_pos c]
      exact ⟨_, rfl, gnd_den _ rfl⟩
    · cases g
  · obtain ⟨ds, rfl, q1⟩ := tupW q
    rw [atomW r rfl]
    split at g
    · rename_i c
      cases g
      rw [f_mulT, if_pos (by rw [← q1.len]; exact c)]
      exact ⟨_, rfl, den_tup (q1.rep _)⟩
    · cases g
  · obtain ⟨ds, e1, q1⟩ := ownW q
    rw [atomW r rfl]
    split at g
    · rename_i c
      cases g
      refine ⟨.new _, ?_, _, rfl, q1.rep _⟩
      simp only [fMulO, e1]
      rw [if_pos (by rw [← q1.len]; exact c)]
    · cases g
  · cases g
abbrev UP := PEnv → UR (Option Int)
section
variable {S : Sx} {a b c : ME} {va vb vc : UE} {m : MA} {w : UA} {mo mp : MO} {i : Nat} {lo hi : MP} {vlo vhi : UP}
end
def gKind : D → Option Kd := fun u => match u with
  | .non => some .non
  | .bl _ => some .bl
  | .int _ => some .int
  | .str _ => some .str
  | .tup _ => some .tup
  | .lst _ => some .lst
  | .dct _ _ => some .dct
  | _ => none
def gIsi (t : Kd) : D → Option D := fun u => (gKind u).map fun k => .bl (k.isi t)
theorem g_isi {t : Kd} : Mo1 RD (fIsi t) (gIsi t) := by
  intro B ow h u x z q g
  unfold gIsi at g
  cases e : gKind u with
  | none => rw [e] at g; cases g
  | some k =>
    rw [e] at g
    cases g
    refine ⟨_, ?_, gnd_den (L := lk B ow) (h := h) _ rfl⟩
    rcases q with q | ⟨n, us, ds, rfl, rfl, g, q⟩
    · cases x with
      | val d =>
        replace q : Den (lk B ow) h u d := q
        have : kindD h d = some k := by
          cases u with
          | non => rw [Den] at q; subst q; exact e
          | bl b => rw [Den] at q; subst q; exact e
          | int b => rw [Den] at q; subst q; exact e
          | str b => rw [Den] at q; subst q; exact e
          | tup us => rw [Den] at q; obtain ⟨ds, rfl, q⟩ := q; exact e
          | lst us => rw [Den] at q; obtain ⟨n, ds, rfl, _, g, q⟩ := q; simp only [kindD, g]; exact e
          | dct ks ws => rw [Den] at q; subst q; exact e
          | _ => cases e
        simp only [fIsi, this]
      | new ds => obtain ⟨us, rfl, q⟩ := q; cases e; rfl
    · cases e
      simp only [fIsi, kindD, g]
mutual
def pyU : D → PyData
  | .bl b => .bool b
  | .int i => .int i
  | .str x => .str x
  | .tup xs => .tuple (pyL xs)
  | .lst xs => .list (pyL xs)
  | _ => .none
def pyL : List D → List PyData
  | [] => []
  | x :: xs => pyU x :: pyL xs
end
mutual
def D.dep : D → Nat
  | .tup xs => D.depL xs + 1
  | .lst xs => D.depL xs + 1
  | .fro _ => 1000
  | .dct _ _ => 1000
  | .map _ => 1000
  | .gl _ => 1000
  | .ref _ => 1000
  | _ => 1
def D.depL : List D → Nat
  | [] => 0
  | x :: xs => max x.dep (D.depL xs)
end
mutual
theorem py_den {L : Nat → Prop} {h : PHeap} : ∀ (u d : D) (n : Nat), Den L h u d → u.dep ≤ n → n < 1000 → toPy h n d = some (pyU u)
  | u, d, 0, q, hn, _ => by
    have : 0 < u.dep := by cases u <;> simp [D.dep]
    omega
  | .non, d, n + 1, q, hn, _ => by rw [Den] at q; subst q; rfl
  | .bl b, d, n + 1, q, hn, _ => by rw [Den] at q; subst q; rfl
  | .int b, d, n + 1, q, hn, _ => by rw [Den] at q; subst q; rfl
  | .str b, d, n + 1, q, hn, _ => by rw [Den] at q; subst q; rfl
  | .ref _, d, n + 1, q, hn, _ => by rw [Den] at q; exact q.elim
  | .dct _ _, d, n + 1, q, hn, hl => by simp only [D.dep] at hn; omega
  | .map _, d, n + 1, q, hn, hl => by simp only [D.dep] at hn; omega
  | .gl _, d, n + 1, q, hn, hl => by simp only [D.dep] at hn; omega
  | .fro _, d, n + 1, q, hn, hl => by simp only [D.dep] at hn; omega
  | .tup us, d, n + 1, q, hn, hl => by
    rw [Den] at q
    obtain ⟨ds, rfl, q⟩ := q
    simp only [D.dep] at hn
    rw [toPy, pyL_den us ds n q (by omega) (by omega)]
    simp only [Option.map_some, pyU]
  | .lst us, d, n + 1, q, hn, hl => by
    rw [Den] at q
    obtain ⟨m, ds, rfl, _, g, q⟩ := q
    simp only [D.dep] at hn
    rw [toPy]
    simp only [g]
    rw [pyL_den us ds n q (by omega) (by omega)]
    simp only [Option.map_some, pyU]
theorem pyL_den {L : Nat → Prop} {h : PHeap} : ∀ (us ds : List D) (n : Nat), DenL L h us ds → D.depL us ≤ n → n < 1000 → travO (toPy h n) ds = some (pyL us)
  | [], ds, n, q, hn, _ => by rw [DenL] at q; subst q; rfl
  | u :: us, ds, n, q, hn, hl => by
    rw [DenL] at q
    obtain ⟨d, r, rfl, q1, q2⟩ := q
    simp only [D.depL] at hn
    rw [travO, py_den u d n q1 (by omega) hl, pyL_den us r n q2 (by omega) hl]
    simp only [pyL]
end
theorem pyW {L : Nat → Prop} {h : PHeap} {u : D} {x : LV} (q : DenW L h u x) (hd : u.dep ≤ 60) : x.py h = some (pyU u) := by
  rcases q with q | ⟨n, us, ds, rfl, rfl, g, q⟩
  · cases x with
    | val d => exact py_den u d 60 q hd (by decide)
    | new ds =>
      obtain ⟨us, rfl, q⟩ := q
      simp only [D.dep] at hd
      show (travO (toPy h 60) ds).map PyData.list = _
      rw [pyL_den us ds 60 q (by omega) (by decide)]
      simp only [Option.map_some, pyU]
  · simp only [D.dep] at hd
    show toPy h (59 + 1) (.ref n) = _
    rw [toPy]
    simp only [g]
    rw [pyL_den us ds 59 q (by omega) (by decide)]
    simp only [Option.map_some, pyU]
def gEq (k : Bool → Bool) : D → D → Option D := fun u w => if u.dep ≤ 60 ∧ w.dep ≤ 60 then some (.bl (k (PyData.eqv (pyU u) (pyU w)))) else none
theorem g_eq {k : Bool → Bool} : Mo2 RD (fEqO k) (gEq k) := by
  intro B ow h u x w y z q r g
  unfold gEq at g
  split at g
  · rename_i c
    cases g
    exact ⟨_, by simp only [fEqO, pyW q c.1, pyW r c.2], gnd_den _ rfl⟩
  · cases g
def gRepr : D → Option D := fun u => if (gSeq u).isSome = true ∧ u.dep ≤ 60 ∧ ((pyU u).showable && !(pyU u).hasDict) = true ∧ (pyU u).shown.length ≤ 16777216 then some (.str (pyU u).shown) else none
theorem g_repr : Mo1 RD fRepr gRepr := by
  intro B ow h u x z q g
  unfold gRepr at g
  split at g
  · rename_i c
    obtain ⟨c1, c2, c3, c4⟩ := c
    cases g
    obtain ⟨us, e⟩ := Option.isSome_iff_exists.mp c1
    obtain ⟨ds, e1, q1⟩ := seqW q e
    exact ⟨_, by simp only [fRepr, e1, pyW q c2]; rw [if_pos ⟨c3, c4⟩], gnd_den _ rfl⟩
  · cases g
section
variable {S : Sx} {m : MA} {w : UA} {mo : MO} {va : UE} {i : Nat}
end
theorem m_append : MtU fAppend fAppend := by
  intro L h us ds ws es z us' q r e
  unfold fAppend at e ⊢
  cases ws with
  | nil => cases e
  | cons w ws =>
    cases ws with
    | cons _ _ => cases e
    | nil =>
      rw [DenL] at r
      obtain ⟨d, r', rfl, r1, r2⟩ := r
      rw [DenL] at r2
      subst r2
      simp only at e ⊢
      rw [← q.len]
      split at e
      · rename_i c
        cases e
        exact ⟨.non, _, by rw [if_pos c], by rw [Den], q.app (.one r1)⟩
      · cases e
end Gb

namespace Gb
open PySem L2
theorem noRfl {α : Type} {a b : α} (h : a = b) (t : True) : a = b := h
section
variable {α β : Type} {v w : PEnv} {a b c : UE} {t t2 : UT} {r : UA} {s s2 : US} {d x y z : D} {i j : Nat} {m n : Int} {p q : Bool}
@[simp] theorem u_var : uVar i v = (match v[i]? with | some (some d) => .ok d v | _ => .stuck) := rfl
@[simp] theorem u_own : uOwn i v = (match v[i]? with | some (some (.lst xs)) => .ok xs v | _ => .stuck) := rfl
@[simp] theorem u_c : uC d v = .ok d v := rfl
@[simp] theorem u_bin {g : D → D → Option D} : uBin g a b v = (a v).bind fun x v1 => (b v1).bind fun y v2 => .of (g x y) v2 := rfl
@[simp] theorem u_un {g : D → Option D} : uUn g a v = (a v).bind fun x v1 => .of (g x) v1 := rfl
@[simp] theorem u_nil : uNil v = .ok [] v := rfl
@[simp] theorem u_cons : uCons a r v = (a v).bind fun x v1 => (r v1).bind fun xs v2 => .ok (x :: xs) v2 := rfl
@[simp] theorem u_tup : uTup r v = (r v).bind fun xs v1 => if xs.length ≤ 16777216 then .ok (.tup xs) v1 else .stuck := noRfl rfl trivial
@[simp] theorem u_new : uNew r v = (r v).bind fun xs v1 => .ok (.lst xs) v1 := rfl
@[simp] theorem u_disp : uDisp r v = (r v).bind fun xs v1 => if xs.length ≤ 16777216 then .ok xs v1 else .stuck := noRfl rfl trivial
@[simp] theorem u_tst {g : D → Option Bool} : uTst a g v = (a v).bind fun x v1 => .of (g x) v1 := rfl
def tbU (d : D) (v : PEnv) : UR Bool := match d with
  | .bl b => .ok b v
  | _ => .stuck
@[simp] theorem tbU_bl : tbU (.bl p) v = .ok p v := rfl
@[simp] theorem u_tb : uTB a v = (a v).bind tbU := rfl
@[simp] theorem u_tnot : uTNot t v = (t v).bind fun k v1 => .ok (!k) v1 := rfl
@[simp] theorem u_tor : uTOr t t2 v = (t v).bind fun k v1 => pick k (.ok true v1) (t2 v1) := rfl
@[simp] theorem u_yes : uTYes v = .ok true v := rfl
@[simp] theorem gt_bl : gTruth (.bl p) = some p := rfl
@[simp] theorem gt_int : gTruth (.int m) = some (m != 0) := rfl
@[simp] theorem gt_non : gTruth .non = some false := rfl
@[simp] theorem gt_tup {xs : List D} : gTruth (.tup xs) = some (!xs.isEmpty) := rfl
@[simp] theorem gt_lst {xs : List D} : gTruth (.lst xs) = some (!xs.isEmpty) := rfl
@[simp] theorem u_and : uAnd a b v = (a v).bind fun d v1 => (UR.of (gTruth d) v1).bind fun k v2 => pick k (b v2) (.ok d v2) := rfl
@[simp] theorem u_not : uNot a v = (a v).bind fun d v1 => (UR.of (gTruth d) v1).bind fun k v2 => .ok (.bl (!k)) v2 := rfl
def chainU (o : Option D) (x y : PEnv → UR D) (v : PEnv) : UR D := match o with
  | some (.bl true) => x v
  | some (.bl false) => y v
  | _ => .stuck
@[simp] theorem chainU_b {x y : PEnv → UR D} : chainU (some (.bl p)) x y v = pick p (x v) (y v) := by cases p <;> rfl
@[simp] theorem u_chain {f g : D → D → Option D} : uChain f g a b c v = (a v).bind fun x v1 => (b v1).bind fun y v2 => chainU (f x y) (fun v2 => (c v2).bind fun w v4 => .of (g y w) v4) (fun v2 => .ok (.bl false) v2) v2 := by
  rfl
@[simp] theorem u_1 {g : D → Option β} : u1 g a v = (a v).bind fun x v1 => .of (g x) v1 := rfl
@[simp] theorem u_2 {g : D → D → Option β} : u2 g a b v = (a v).bind fun x v1 => (b v1).bind fun y v2 => .of (g x y) v2 := rfl
@[simp] theorem u_2o {g : D → D → Option β} : u2o g i b v = (uVar i v).bind fun _ v1 => (b v1).bind fun y v2 => (uVar i v2).bind fun x v3 => .of (g x y) v3 := rfl
@[simp] theorem x_ok : (UX.ok d).res v = .ok d v := rfl
@[simp] theorem x_exc : (UX.exc d).res v = .exc d v := rfl
@[simp] theorem x_stuck : UX.stuck.res v = .stuck := rfl
@[simp] theorem x_gok : (UX.ok d).gnd = if d.gnd = true then .ok d else .stuck := rfl
@[simp] theorem y_ok {xs : List D} : (UM.ok d xs).res i v = .ok d (v.set i (some (.lst xs))) := rfl
@[simp] theorem y_exc {xs : List D} : (UM.exc d xs).res i v = .exc d (v.set i (some (.lst xs))) := rfl
@[simp] theorem y_stuck : UM.stuck.res i v = .stuck := rfl
@[simp] theorem u_call {F : UF} : uCall F r v = (r v).bind fun ds v1 => (F ds).res v1 := rfl
@[simp] theorem u_callM {F : UG} : uCallM F i r v = (uOwn i v).bind fun _ v0 => (r v0).bind fun ds v1 => (uOwn i v1).bind fun s v2 => (F s ds).res i v2 := rfl
def mtU (g : List D → List D → Option (D × List D)) (i : Nat) (us ws : List D) (v : PEnv) : UR D := match g us ws with
  | some (z, us') => .ok z (v.set i (some (.lst us')))
  | none => .stuck
@[simp] theorem u_mt {g : List D → List D → Option (D × List D)} : uMt g i r v = (uOwn i v).bind fun _ v0 => (r v0).bind fun ws v1 => (uOwn i v1).bind fun us v2 => mtU g i us ws v2 := rfl
@[simp] theorem mt_app {us : List D} : mtU fAppend i us [x] v = if us.length < 16777216 then .ok .non (v.set i (some (.lst (us ++ [x])))) else .stuck := by
  unfold mtU fAppend
  by_cases h : us.length < 16777216 <;> simp [h]
@[simp] theorem g_sub' : gSub (.int m) (.int n) = some (.int (m - n)) := rfl
@[simp] theorem g_div' : gDiv (.int m) (.int n) = if n ≠ 0 ∧ n.natAbs < 1073741824 then some (.int (m.fdiv n)) else none := noRfl rfl trivial
@[simp] theorem g_mod' : gMod (.int m) (.int n) = if n ≠ 0 then some (.int (m.fmod n)) else none := noRfl rfl trivial
@[simp] theorem g_pow' : gPow (.int m) (.int n) = if 0 ≤ n ∧ n ≤ 1000000 ∧ m.natAbs < 2 ^ 64 then some (.int (m ^ n.toNat)) else none := noRfl rfl trivial
@[simp] theorem g_cmp' {f : Int → Int → Bool} : gCmp f (.int m) (.int n) = some (.bl (f m n)) := rfl
@[simp] theorem g_neg' : gNeg (.int m) = some (.int (-m)) := rfl
@[simp] theorem gs_tup {xs : List D} : gSeq (.tup xs) = some xs := rfl
@[simp] theorem gs_lst {xs : List D} : gSeq (.lst xs) = some xs := rfl
@[simp] theorem gs_fro {xs : List D} : gSeq (.fro xs) = some xs := rfl
@[simp] theorem gi_lst {xs : List D} : gItems (.lst xs) = some xs := rfl
@[simp] theorem gl_tup {xs : List D} : gLen (.tup xs) = some (.int xs.length) := rfl
@[simp] theorem gl_lst {xs : List D} : gLen (.lst xs) = some (.int xs.length) := rfl
@[simp] theorem gl_fro {xs : List D} : gLen (.fro xs) = some (.int xs.length) := rfl
@[simp] theorem gtu_tup {xs : List D} : gTuple (.tup xs) = some (.tup xs) := rfl
@[simp] theorem gtu_lst {xs : List D} : gTuple (.lst xs) = some (.tup xs) := rfl
theorem bools_mapU : ∀ (bs : List Bool), bools (bs.map D.bl) = some bs
  | [] => rfl
  | b :: bs => by simp [bools, bools_mapU bs]
@[simp] theorem ga_map {bs : List Bool} : gAll (.lst (bs.map D.bl)) = some (.bl (bs.all id)) := by simp [gAll, bools_mapU]
@[simp] theorem gint_i : gInt (.int m) = some (.int m) := rfl
@[simp] theorem gint_b : gInt (.bl p) = some (.int (if p then 1 else 0)) := rfl
@[simp] theorem gmin_i : gMin2 (.int m) (.int n) = some (.int (if n < m then n else m)) := rfl
@[simp] theorem gix_t {xs : List D} : gIx (.tup xs) (.int m) = atI xs m := rfl
@[simp] theorem gix_l {xs : List D} : gIx (.lst xs) (.int m) = atI xs m := rfl
@[simp] theorem gix_f {xs : List D} : gIx (.fro xs) (.int m) = atI xs m := rfl
@[simp] theorem at0 {x : α} {xs : List α} : atI (x :: xs) 0 = some x := atI_nat (xs := x :: xs) 0 (by simp)
@[simp] theorem at1 {x y : α} {xs : List α} : atI (x :: y :: xs) 1 = some y := (atI_nat (xs := x :: y :: xs) 1 (by simp)).trans rfl
@[simp] theorem at2 {x y z : α} {xs : List α} : atI (x :: y :: z :: xs) 2 = some z := (atI_nat (xs := x :: y :: z :: xs) 2 (by simp)).trans rfl
@[simp] theorem at3 {x y z a : α} {xs : List α} : atI (x :: y :: z :: a :: xs) 3 = some a := (atI_nat (xs := x :: y :: z :: a :: xs) 3 (by simp)).trans rfl
@[simp] theorem at4 {x y z a b : α} {xs : List α} : atI (x :: y :: z :: a :: b :: xs) 4 = some b := (atI_nat (xs := x :: y :: z :: a :: b :: xs) 4 (by simp)).trans rfl
@[simp] theorem at5 {x y z a b c : α} {xs : List α} : atI (x :: y :: z :: a :: b :: c :: xs) 5 = some c := (atI_nat (xs := x :: y :: z :: a :: b :: c :: xs) 5 (by simp)).trans rfl
@[simp] theorem at6 {x y z a b c d : α} {xs : List α} : atI (x :: y :: z :: a :: b :: c :: d :: xs) 6 = some d := (atI_nat (xs := x :: y :: z :: a :: b :: c :: d :: xs) 6 (by simp)).trans rfl
@[simp] theorem at7 {x y z a b c d e : α} {xs : List α} : atI (x :: y :: z :: a :: b :: c :: d :: e :: xs) 7 = some e := (atI_nat (xs := x :: y :: z :: a :: b :: c :: d :: e :: xs) 7 (by simp)).trans rfl
@[simp] theorem gadd_i : gAdd (.int m) (.int n) = some (.int (m + n)) := rfl
@[simp] theorem gadd_t {xs ys : List D} : gAdd (.tup xs) (.tup ys) = if xs.length + ys.length ≤ 16777216 then some (.tup (xs ++ ys)) else none := noRfl rfl trivial
@[simp] theorem gadd_l {xs ys : List D} : gAdd (.lst xs) (.lst ys) = if xs.length + ys.length ≤ 16777216 then some (.lst (xs ++ ys)) else none := noRfl rfl trivial
@[simp] theorem gmul_i : gMul (.int m) (.int n) = if small64 m || small64 n then some (.int (m * n)) else none := noRfl rfl trivial
@[simp] theorem gmul_t {xs : List D} : gMul (.tup xs) (.int n) = if -1000 ≤ n ∧ n ≤ 1000 ∧ xs.length ≤ 1000 then some (.tup (List.replicate n.toNat xs).flatten) else none := noRfl rfl trivial
@[simp] theorem gmul_l {xs : List D} : gMul (.lst xs) (.int n) = if -1000000 ≤ n ∧ n ≤ 1000000 ∧ xs.length * n.toNat ≤ 16777216 then some (.lst (List.replicate n.toNat xs).flatten) else none := noRfl rfl trivial
@[simp] theorem gk_i {t : Kd} : gIsi t (.int m) = some (.bl (Kd.int.isi t)) := rfl
@[simp] theorem gk_b {t : Kd} : gIsi t (.bl p) = some (.bl (Kd.bl.isi t)) := rfl
@[simp] theorem gk_s {t : Kd} {z : Str} : gIsi t (.str z) = some (.bl (Kd.str.isi t)) := rfl
@[simp] theorem gk_t {t : Kd} {xs : List D} : gIsi t (.tup xs) = some (.bl (Kd.tup.isi t)) := rfl
@[simp] theorem gk_l {t : Kd} {xs : List D} : gIsi t (.lst xs) = some (.bl (Kd.lst.isi t)) := rfl
@[simp] theorem gk_n {t : Kd} : gIsi t .non = some (.bl (Kd.non.isi t)) := rfl
@[simp] theorem uo_nx : (UO.nx v).thn s = s v := rfl
@[simp] theorem uo_rt : (UO.rt d v).thn s = .rt d v := rfl
@[simp] theorem uo_bk : (UO.bk v).thn s = .bk v := rfl
@[simp] theorem uo_ct : (UO.ct v).thn s = .ct v := rfl
@[simp] theorem uo_ex : (UO.exc d v).thn s = .exc d v := rfl
@[simp] theorem uo_st : UO.stuck.thn s = .stuck := rfl
@[simp] theorem u_seq : uSeq s s2 v = (s v).thn s2 := rfl
@[simp] theorem u_next : uNext v = .nx v := rfl
def setU (o : Option PEnv) : UO := match o with
  | some v => .nx v
  | none => .stuck
@[simp] theorem setU_s : setU (some v) = .nx v := rfl
@[simp] theorem setU_n : setU none = .stuck := rfl
@[simp] theorem u_asg {g : TgM} : uAsg a g v = (a v).out fun d v1 => setU (g.set d v1) := rfl
@[simp] theorem u_par {is : List Nat} : uPar is r v = (r v).out fun xs v1 => if xs.length = is.length then .nx (setS v1 (is.zip xs)) else .stuck := rfl
@[simp] theorem set_nil : setS v [] = v := rfl
@[simp] theorem set_cons {e : Nat × D} {ps : List (Nat × D)} : setS v (e :: ps) = setS (v.set e.1 (some e.2)) ps := rfl
@[simp] theorem u_drop : uDrop a v = (a v).out fun _ v1 => .nx v1 := rfl
@[simp] theorem u_ret : uRet a v = (a v).out fun d v1 => .rt d v1 := rfl
@[simp] theorem u_sif : uSIf t s s2 v = (t v).out fun k v1 => pick k (s v1) (s2 v1) := rfl
@[simp] theorem u_for {g : TgM} {kill : List Nat} {ui : UI} : uFor ui g s kill v = (ui v).out fun ds v1 => uforL g s kill ds v1 := rfl
def subU (i : Nat) (d y : D) (v3 : PEnv) : UO := (uOwn i v3).out fun xs v4 => match y with
  | .int k => match ixN xs.length k with
    | some j => .nx (v4.set i (some (.lst (xs.set j d))))
    | none => .stuck
  | _ => .stuck
@[simp] theorem u_sub : uSub a i b v = (a v).out fun d v1 => (uOwn i v1).out fun _ v2 => (b v2).out fun y v3 => subU i d y v3 := rfl
@[simp] theorem subU_i : subU i d (.int m) v = (uOwn i v).out fun xs v4 => match ixN xs.length m with
    | some j => .nx (v4.set i (some (.lst (xs.set j d))))
    | none => .stuck := rfl
@[simp] theorem u_src : uSrc a v = (a v).bind fun u v1 => .of (gSeq u) v1 := rfl
def r1U (y : D) (v1 : PEnv) : UR (List D) := match y with
  | .int hi => if -(2 ^ 60) ≤ hi ∧ hi ≤ 2 ^ 60 then .ok (rngD 0 hi) v1 else .stuck
  | _ => .stuck
@[simp] theorem u_r1 : uR1 a v = (a v).bind r1U := rfl
@[simp] theorem r1U_i : r1U (.int m) v = if -(2 ^ 60) ≤ m ∧ m ≤ 2 ^ 60 then .ok (rngD 0 m) v else .stuck := noRfl rfl trivial
def zip2U (x y : D) (v : PEnv) : UR (List D) := match gSeq x, gSeq y with
  | some xs, some ys => .ok (zip2D xs ys) v
  | _, _ => .stuck
@[simp] theorem z2_tt {xs ys : List D} : zip2U (.tup xs) (.tup ys) v = .ok (zip2D xs ys) v := rfl
@[simp] theorem z2_tl {xs ys : List D} : zip2U (.tup xs) (.lst ys) v = .ok (zip2D xs ys) v := rfl
@[simp] theorem z2_lt {xs ys : List D} : zip2U (.lst xs) (.tup ys) v = .ok (zip2D xs ys) v := rfl
@[simp] theorem z2_ll {xs ys : List D} : zip2U (.lst xs) (.lst ys) v = .ok (zip2D xs ys) v := rfl
@[simp] theorem u_z2 : uZip2 a b v = (a v).bind fun x v1 => (b v1).bind fun y v2 => zip2U x y v2 := rfl
@[simp] theorem u_lc {ui : UI} {g : TgM} {own : List Nat} : uLc ui g t a own v = (ui v).bind fun ds v1 => ulcL g t a own ds [] (wipeE v1 own) := rfl
def retP (fr : Bool) (o : UO) : UX := match o with
  | .nx _ => match fr with
    | true => .stuck
    | false => .ok .non
  | .rt d _ => .ok d
  | .exc e _ => .exc e
  | _ => .stuck
@[simp] theorem retP_rt {fr : Bool} : retP fr (.rt d v) = .ok d := rfl
@[simp] theorem retP_nx : retP false (.nx v) = .ok .non := rfl
@[simp] theorem retP_ex {fr : Bool} : retP fr (.exc d v) = .exc d := rfl
@[simp] theorem run_p {fr : Bool} {np ns : Nat} {as : List D} : uRunP fr np ns s as = if as.length = np then retP fr (s (as.map some ++ List.replicate (ns - np) none)) else .stuck := by
  unfold uRunP
  split
  · cases s (as.map some ++ List.replicate (ns - np) none) <;> rfl
  · rfl
def retM (fr : Bool) (o : UO) : UM := match o with
  | .nx v => match stateOf v with
    | some t => match fr with
      | true => .stuck
      | false => .ok .non t
    | none => .stuck
  | .rt d v => match stateOf v with
    | some t => .ok d t
    | none => .stuck
  | .exc e v => match stateOf v with
    | some t => .exc e t
    | none => .stuck
  | _ => .stuck
@[simp] theorem retM_rt {fr : Bool} {xs : List D} : retM fr (.rt d (some (.lst xs) :: v)) = .ok d xs := rfl
@[simp] theorem retM_nx {xs : List D} : retM false (.nx (some (.lst xs) :: v)) = .ok .non xs := rfl
@[simp] theorem retM_ex {fr : Bool} {xs : List D} : retM fr (.exc d (some (.lst xs) :: v)) = .exc d xs := rfl
@[simp] theorem run_m {fr : Bool} {np ns : Nat} {as st : List D} : uRunM fr np ns s st as = if as.length + 1 = np then retM fr (s (some (.lst st) :: as.map some ++ List.replicate (ns - np) none)) else .stuck := by
  unfold uRunM
  split
  · cases s (some (.lst st) :: as.map some ++ List.replicate (ns - np) none) <;> rfl
  · rfl
@[simp] theorem ulc_nil {g : TgM} {own : List Nat} {acc : List D} : ulcL g t a own [] acc v = .ok acc v := by rw [ulcL]
theorem ulc_cons {g : TgM} {own : List Nat} {acc ds : List D} : ulcL g t a own (d :: ds) acc v = match g.set d v with
    | none => .stuck
    | some v1 => (t v1).calm.bind fun k v2 => pick k ((a v2).calm.bind fun y v3 => if acc.length < 16777216 then ulcL g t a own ds (acc ++ [y]) (wipeE v3 own) else .stuck) (ulcL g t a own ds acc (wipeE v2 own)) := by
  rw [ulcL]
  cases g.set d v with
  | none => rfl
  | some v1 =>
    simp only
    congr 1
    funext k v2
    cases k <;> rfl
@[simp] theorem calm_ok {e : α} : (UR.ok e v).calm = .ok e v := rfl
@[simp] theorem calm_st : (UR.stuck : UR α).calm = .stuck := rfl
theorem ulc_pure {g : TgM} {own : List Nat} (p : D → Bool) (f : D → D) : ∀ {us acc : List D}, (acc.length + us.length ≤ 16777216) → (∀ d ∈ us, ∃ v1, g.set d v = some v1 ∧ t v1 = .ok (p d) v1 ∧ (p d = true → a v1 = .ok (f d) v1) ∧ wipeE v1 own = v) → ulcL g t a own us acc v = .ok (acc ++ (us.filter p).map f) v
  | [], acc, hn, hs => by rw [ulc_nil]; simp
  | d :: us, acc, hn, hs => by
    obtain ⟨v1, e1, e2, e3, e4⟩ := hs d (List.mem_cons_self ..)
    rw [List.length_cons] at hn
    rw [ulc_cons, e1]
    simp only [e2, calm_ok, UR.bind_ok]
    cases hp : p d with
    | false =>
      rw [pick_f, e4, ulc_pure p f (by omega) fun d m => hs d (List.mem_cons_of_mem _ m), List.filter_cons_of_neg (by simp [hp])]
    | true =>
      rw [pick_t, e3 hp]
      simp only [calm_ok, UR.bind_ok]
      rw [if_pos (by omega), e4, ulc_pure p f (by simp; omega) fun d m => hs d (List.mem_cons_of_mem _ m), List.filter_cons_of_pos hp]
      simp
theorem ulc_map {g : TgM} {own : List Nat} (f : D → D) {us : List D} (hn : us.length ≤ 16777216) (hs : ∀ d ∈ us, ∃ v1, g.set d v = some v1 ∧ a v1 = .ok (f d) v1 ∧ wipeE v1 own = v) : ulcL g uTYes a own us [] v = .ok (us.map f) v := by
  rw [ulc_pure (fun _ => true) f (by simpa using hn) fun d m => by obtain ⟨v1, e1, e2, e3⟩ := hs d m; exact ⟨v1, e1, rfl, fun _ => e2, e3⟩]
  rw [List.filter_eq_self.mpr (fun _ _ => rfl), List.nil_append]
end
end Gb

namespace Gb
open PySem L2
def All2 (P : D → D → Prop) : List D → List D → Prop
  | [], ys => ys = []
  | x :: xs, ys => ∃ y r, ys = y :: r ∧ P x y ∧ All2 P xs r
theorem All2.len {P : D → D → Prop} : ∀ {xs ys : List D}, All2 P xs ys → ys.length = xs.length
  | [], ys, q => by rw [All2] at q; rw [q]
  | x :: xs, ys, q => by
    rw [All2] at q
    obtain ⟨y, r, rfl, _, q⟩ := q
    simp [q.len]
theorem All2.mem {P : D → D → Prop} {Q : D → Prop} (h : ∀ x y, P x y → Q y) : ∀ {xs ys : List D}, All2 P xs ys → ∀ y ∈ ys, Q y
  | [], ys, q, y, m => by rw [All2] at q; subst q; cases m
  | x :: xs, ys, q, y, m => by
    rw [All2] at q
    obtain ⟨y', r, rfl, p, q⟩ := q
    rcases List.mem_cons.mp m with rfl | m
    · exact h _ _ p
    · exact q.mem h y m
section
variable {σ : Type} {v : PEnv} {t : UT} {a : UE} {s : US}
theorem ulc_draw {g : TgM} {own : List Nat} {E : σ → PEnv} (P : D → D → Prop) {k : σ} : ∀ {us acc : List D}, acc.length + us.length ≤ 16777216 →
    (∀ k d, d ∈ us → ∃ v1, g.set d (E k) = some v1 ∧ ∃ y v2 l, a v1 = .ok y v2 ∧ wipeE v2 own = E l ∧ P d y) →
    ∃ ys l, ulcL g uTYes a own us acc (E k) = .ok (acc ++ ys) (E l) ∧ All2 P us ys
  | [], acc, hn, hs => ⟨[], k, by rw [ulc_nil]; simp, rfl⟩
  | d :: us, acc, hn, hs => by
    obtain ⟨v1, e1, y, v2, l, e2, e3, p⟩ := hs k d (List.mem_cons_self ..)
    rw [List.length_cons] at hn
    obtain ⟨ys, l', e4, q⟩ := ulc_draw (k := l) (acc := acc ++ [y]) P (by simp; omega) fun k d m => hs k d (List.mem_cons_of_mem _ m)
    refine ⟨y :: ys, l', ?_, y, ys, rfl, p, q⟩
    rw [ulc_cons, e1]
    simp only [u_yes, calm_ok, UR.bind_ok, pick_t, e2]
    rw [if_pos (by omega), e3, e4]
    simp
theorem ufor_draw {g : TgM} {kill : List Nat} {E : σ → List D → PEnv} (P : D → D → Prop) : ∀ {us acc : List D} {k : σ} {v : PEnv}, wipeE v kill = E k acc →
    (∀ k acc' d, d ∈ us → acc'.length < acc.length + us.length → ∃ v1, g.set d (E k acc') = some v1 ∧ ∃ y v2 l, (s v1 = .nx v2 ∨ s v1 = .ct v2) ∧ wipeE v2 kill = E l (acc' ++ [y]) ∧ P d y) →
    ∃ ys l, uforL g s kill us v = .nx (E l (acc ++ ys)) ∧ All2 P us ys
  | [], acc, k, v, hv, hs => ⟨[], k, by rw [uforL, hv]; simp, rfl⟩
  | d :: us, acc, k, v, hv, hs => by
    obtain ⟨v1, e1, y, v2, l, e2, e3, p⟩ := hs k acc d (List.mem_cons_self ..) (by simp)
    obtain ⟨ys, l', e4, q⟩ := ufor_draw (k := l) (acc := acc ++ [y]) P e3 fun k acc' d m h => hs k acc' d (List.mem_cons_of_mem _ m) (by simp at h ⊢; omega)
    refine ⟨y :: ys, l', ?_, y, ys, rfl, p, q⟩
    rw [uforL, hv, e1]
    rcases e2 with e2 | e2 <;> simp only [e2] <;> rw [e4] <;> simp
theorem ufor_go {g : TgM} {kill : List Nat} {E : σ → PEnv} : ∀ {us : List D} {k : σ} {v : PEnv}, wipeE v kill = E k →
    (∀ k d, d ∈ us → ∃ v1, g.set d (E k) = some v1 ∧ ∃ v2 l, (s v1 = .nx v2 ∨ s v1 = .ct v2) ∧ wipeE v2 kill = E l) →
    ∃ l, uforL g s kill us v = .nx (E l)
  | [], k, v, hv, hs => ⟨k, by rw [uforL, hv]⟩
  | d :: us, k, v, hv, hs => by
    obtain ⟨v1, e1, v2, l, e2, e3⟩ := hs k d (List.mem_cons_self ..)
    obtain ⟨l', e4⟩ := ufor_go e3 fun k d m => hs k d (List.mem_cons_of_mem _ m)
    refine ⟨l', ?_⟩
    rw [uforL, hv, e1]
    rcases e2 with e2 | e2 <;> simp only [e2] <;> exact e4
end
theorem rngD_len {lo hi : Int} : (rngD lo hi).length = (hi - lo).toNat := by simp [rngD]
theorem rngD_mem {lo hi : Int} {d : D} (m : d ∈ rngD lo hi) : ∃ i, d = .int i ∧ lo ≤ i ∧ i < hi := by
  obtain ⟨j, hj, rfl⟩ := List.mem_map.mp m
  have := List.mem_range.mp hj
  exact ⟨_, rfl, by omega, by omega⟩
@[simp] theorem kd_non_int : Kd.isi .non .int = false := rfl
@[simp] theorem kd_non_bl : Kd.isi .non .bl = false := rfl
@[simp] theorem kd_non_str : Kd.isi .non .str = false := rfl
@[simp] theorem kd_non_tup : Kd.isi .non .tup = false := rfl
@[simp] theorem kd_non_lst : Kd.isi .non .lst = false := rfl
@[simp] theorem kd_non_dct : Kd.isi .non .dct = false := rfl
@[simp] theorem kd_bl_int : Kd.isi .bl .int = true := rfl
@[simp] theorem kd_bl_bl : Kd.isi .bl .bl = true := rfl
@[simp] theorem kd_bl_str : Kd.isi .bl .str = false := rfl
@[simp] theorem kd_bl_tup : Kd.isi .bl .tup = false := rfl
@[simp] theorem kd_bl_lst : Kd.isi .bl .lst = false := rfl
@[simp] theorem kd_bl_dct : Kd.isi .bl .dct = false := rfl
@[simp] theorem kd_int_int : Kd.isi .int .int = true := rfl
@[simp] theorem kd_int_bl : Kd.isi .int .bl = false := rfl
@[simp] theorem kd_int_str : Kd.isi .int .str = false := rfl
@[simp] theorem kd_int_tup : Kd.isi .int .tup = false := rfl
@[simp] theorem kd_int_lst : Kd.isi .int .lst = false := rfl
@[simp] theorem kd_int_dct : Kd.isi .int .dct = false := rfl
@[simp] theorem kd_str_int : Kd.isi .str .int = false := rfl
@[simp] theorem kd_str_bl : Kd.isi .str .bl = false := rfl
@[simp] theorem kd_str_str : Kd.isi .str .str = true := rfl
@[simp] theorem kd_str_tup : Kd.isi .str .tup = false := rfl
@[simp] theorem kd_str_lst : Kd.isi .str .lst = false := rfl
@[simp] theorem kd_str_dct : Kd.isi .str .dct = false := rfl
@[simp] theorem kd_tup_int : Kd.isi .tup .int = false := rfl
@[simp] theorem kd_tup_bl : Kd.isi .tup .bl = false := rfl
@[simp] theorem kd_tup_str : Kd.isi .tup .str = false := rfl
@[simp] theorem kd_tup_tup : Kd.isi .tup .tup = true := rfl
@[simp] theorem kd_tup_lst : Kd.isi .tup .lst = false := rfl
@[simp] theorem kd_tup_dct : Kd.isi .tup .dct = false := rfl
@[simp] theorem kd_lst_int : Kd.isi .lst .int = false := rfl
@[simp] theorem kd_lst_bl : Kd.isi .lst .bl = false := rfl
@[simp] theorem kd_lst_str : Kd.isi .lst .str = false := rfl
@[simp] theorem kd_lst_tup : Kd.isi .lst .tup = false := rfl
@[simp] theorem kd_lst_lst : Kd.isi .lst .lst = true := rfl
@[simp] theorem kd_lst_dct : Kd.isi .lst .dct = false := rfl
@[simp] theorem ga_mapf {α : Type} {xs : List α} {f : α → Bool} : gAll (.lst (xs.map fun d => D.bl (f d))) = some (.bl (xs.all f)) := by
  rw [show (xs.map fun d => D.bl (f d)) = (xs.map f).map D.bl by rw [List.map_map]; rfl, ga_map]
  simp [Function.comp_def]
@[simp] theorem geq_i {k : Bool → Bool} {i j : Int} : gEq k (.int i) (.int j) = some (.bl (k (decide (i = j)))) := by
  unfold gEq
  simp only [D.dep, pyU, PyData.eqv]
  rw [if_pos (by decide)]
  rfl
theorem mem_zipWith {α β γ : Type} {f : α → β → γ} : ∀ {xs : List α} {ys : List β} {z : γ}, z ∈ List.zipWith f xs ys → ∃ x y, x ∈ xs ∧ y ∈ ys ∧ z = f x y
  | [], _, z, m => by simp at m
  | x :: xs, [], z, m => by simp at m
  | x :: xs, y :: ys, z, m => by
    rw [List.zipWith_cons_cons] at m
    rcases List.mem_cons.mp m with rfl | m
    · exact ⟨x, y, by simp, by simp, rfl⟩
    · obtain ⟨x', y', a, b, c⟩ := mem_zipWith m
      exact ⟨x', y', by simp [a], by simp [b], c⟩
end Gb

namespace Gb
open PySem L2 PyProof.Rows
mutual
def D.tiny : D → Bool
  | .non => true
  | .bl _ => true
  | .int i => decide (-1000000000000 < i) && decide (i < 1000000000000)
  | .str x => x.cps.toList.all fun c => decide (c < 16 ^ 8)
  | .tup xs => D.tinyL xs
  | .lst xs => D.tinyL xs
  | _ => false
def D.tinyL : List D → Bool
  | [] => true
  | x :: xs => x.tiny && D.tinyL xs
end
mutual
def D.blk : D → Nat
  | .str x => x.cps.size
  | .tup xs => D.blkL xs
  | .lst xs => D.blkL xs
  | _ => 0
def D.blkL : List D → Nat
  | [] => 0
  | x :: xs => x.blk + 1 + D.blkL xs
end
theorem int_len {i : Int} (h0 : -1000000000000 < i) (h1 : i < 1000000000000) : (PyData.shown (.int i)).length ≤ 13 := by
  exact PyData.shown_int_le2 (by omega) (by omega)
mutual
theorem tiny_short : ∀ u : D, u.tiny = true → (pyU u).leavesShort 13 = true ∧ (pyU u).showable = true ∧ (pyU u).hasDict = false ∧ (pyU u).bulk = u.blk
  | .non, _ => ⟨rfl, rfl, rfl, rfl⟩
  | .bl b, _ => ⟨rfl, rfl, rfl, rfl⟩
  | .int i, h => by
    simp only [D.tiny, Bool.and_eq_true, decide_eq_true_eq] at h
    refine ⟨decide_eq_true (int_len h.1 h.2), decide_eq_true ?_, rfl, rfl⟩
    have : i.natAbs < 2 ^ 40 := by omega
    by_cases hz : i.natAbs = 0
    · rw [hz]; decide
    · have := (Nat.log2_lt hz).mpr this
      omega
  | .str x, h => ⟨h, rfl, rfl, rfl⟩
  | .tup xs, h => by
    obtain ⟨a, b, c, d⟩ := tiny_shortL xs h
    exact ⟨a, b, c, d⟩
  | .lst xs, h => by
    obtain ⟨a, b, c, d⟩ := tiny_shortL xs h
    exact ⟨a, b, c, d⟩
  | .ref _, h => by cases h
  | .fro _, h => by cases h
  | .dct _ _, h => by cases h
  | .map _, h => by cases h
  | .gl _, h => by cases h
theorem tiny_shortL : ∀ us : List D, D.tinyL us = true → PyData.leavesShortAll 13 (pyL us) = true ∧ PyData.showableAll (pyL us) = true ∧ PyData.hasDictAll (pyL us) = false ∧ PyData.bulkAll (pyL us) = D.blkL us
  | [], _ => ⟨rfl, rfl, rfl, rfl⟩
  | u :: us, h => by
    rw [D.tinyL, Bool.and_eq_true] at h
    obtain ⟨a, b, c, d⟩ := tiny_short u h.1
    obtain ⟨a', b', c', d'⟩ := tiny_shortL us h.2
    simp only [pyL, PyData.leavesShortAll, PyData.showableAll, PyData.hasDictAll, PyData.bulkAll, D.blkL, a, b, c, d, a', b', c', d', Bool.and_self, Bool.or_self, and_self]
end
structure Sm (k n : Nat) (u : D) : Prop where
  t : u.tiny = true
  d : u.dep ≤ k
  b : u.blk ≤ n
structure SmL (k n : Nat) (us : List D) : Prop where
  t : D.tinyL us = true
  d : D.depL us ≤ k
  b : D.blkL us ≤ n
section
variable {k n m : Nat} {u : D} {us : List D}
theorem Sm.tup (h : SmL k n us) : Sm (k + 1) n (.tup us) := ⟨h.t, by simp only [D.dep]; have := h.d; omega, h.b⟩
theorem Sm.lst (h : SmL k n us) : Sm (k + 1) n (.lst us) := ⟨h.t, by simp only [D.dep]; have := h.d; omega, h.b⟩
theorem Sm.int {i : Int} (h0 : -1000000000000 < i) (h1 : i < 1000000000000) : Sm 1 0 (.int i) := ⟨by simp [D.tiny, h0, h1], by simp [D.dep], by simp [D.blk]⟩
theorem Sm.bl {b : Bool} : Sm 1 0 (.bl b) := ⟨rfl, by simp [D.dep], by simp [D.blk]⟩
theorem Sm.non : Sm 1 0 .non := ⟨rfl, by simp [D.dep], by simp [D.blk]⟩
theorem Sm.le {k' n' : Nat} (h : Sm k n u) (hk : k ≤ k') (hn : n ≤ n') : Sm k' n' u := ⟨h.t, Nat.le_trans h.d hk, Nat.le_trans h.b hn⟩
theorem SmL.le {k' n' : Nat} (h : SmL k n us) (hk : k ≤ k') (hn : n ≤ n') : SmL k' n' us := ⟨h.t, Nat.le_trans h.d hk, Nat.le_trans h.b hn⟩
theorem SmL.nil : SmL k 0 [] := ⟨rfl, by simp [D.depL], by simp [D.blkL]⟩
theorem SmL.cons (h : Sm k n u) (hs : SmL k m us) : SmL k (n + 1 + m) (u :: us) := by
  refine ⟨by rw [D.tinyL, h.t, hs.t]; rfl, ?_, ?_⟩
  · have := h.d; have := hs.d; simp only [D.depL]; omega
  · have := h.b; have := hs.b; simp only [D.blkL]; omega
theorem SmL.all : ∀ {us : List D}, (∀ u ∈ us, Sm k n u) → SmL k (us.length * (n + 1)) us
  | [], _ => SmL.nil.le (Nat.le_refl _) (by simp)
  | u :: us, h => (SmL.cons (h u (List.mem_cons_self ..)) (SmL.all fun v m => h v (List.mem_cons_of_mem _ m))).le (Nat.le_refl _) (by rw [List.length_cons, Nat.succ_mul]; omega)
theorem SmL.ints {ns : List Int} (h : ∀ i ∈ ns, -1000000000000 < i ∧ i < 1000000000000) : SmL 1 ns.length (ns.map D.int) :=
  (SmL.all (k := 1) (n := 0) fun u m => by obtain ⟨i, mi, rfl⟩ := List.mem_map.mp m; exact .int (h i mi).1 (h i mi).2).le (Nat.le_refl _) (by simp)
end
theorem geq_s {k : Bool → Bool} {a b : Str} : gEq k (.str a) (.str b) = some (.bl (k (PyData.eqv (.str a) (.str b)))) := by
  unfold gEq
  rw [if_pos ⟨by simp [D.dep], by simp [D.dep]⟩]
  simp only [pyU]
@[simp] theorem eqv_same {a : Str} : PyData.eqv (.str a) (.str a) = true := by
  simp [PyData.eqv]
@[simp] theorem geq_ss {k : Bool → Bool} {a : Str} : gEq k (.str a) (.str a) = some (.bl (k true)) := by
  rw [geq_s, eqv_same]
end Gb

namespace Gb
open PySem L2
mutual
theorem eqv_pyU : ∀ u : D, PyData.eqv (pyU u) (pyU u) = true
  | .tup xs => by simp only [pyU, PyData.eqv]; exact eqv_pyL xs
  | .lst xs => by simp only [pyU, PyData.eqv]; exact eqv_pyL xs
  | .non => rfl
  | .bl b => by simp [pyU, PyData.eqv]
  | .int b => by simp [pyU, PyData.eqv]
  | .str b => by simp [pyU, PyData.eqv]
  | .ref _ => rfl
  | .fro _ => rfl
  | .dct _ _ => rfl
  | .map _ => rfl
  | .gl _ => rfl
theorem eqv_pyL : ∀ us : List D, PyData.eqvAll (pyL us) (pyL us) = true
  | [] => rfl
  | u :: us => by simp only [pyL, PyData.eqvAll, eqv_pyU u, eqv_pyL us, Bool.and_self]
end
end Gb

namespace Gb
open PySem L2 PyProof.Rows
section
variable {L : Nat → Prop} {h : PHeap}
mutual
theorem okT_den : ∀ u d, Den L h u d → d.okT = u.okT
  | .lst us, d, q => by rw [Den] at q; obtain ⟨n, ds, rfl, _⟩ := q; rfl
  | .fro us, d, q => by rw [Den] at q; obtain ⟨ds, rfl, _⟩ := q; rfl
  | .dct _ _, d, q => by rw [Den] at q; subst q; rfl
  | .map us, d, q => by rw [Den] at q; obtain ⟨ds, rfl, _⟩ := q; rfl
  | .tup us, d, q => by
    rw [Den] at q
    obtain ⟨ds, rfl, q⟩ := q
    simp only [D.okT]
    exact okTL_den us ds q
  | .ref _, d, q => by rw [Den] at q; exact q.elim
  | .non, d, q => by rw [Den] at q; subst q; rfl
  | .bl _, d, q => by rw [Den] at q; subst q; rfl
  | .int _, d, q => by rw [Den] at q; subst q; rfl
  | .str _, d, q => by rw [Den] at q; subst q; rfl
  | .gl _, d, q => by rw [Den] at q; subst q; rfl
theorem okTL_den : ∀ us ds, DenL L h us ds → D.okTL ds = D.okTL us
  | [], ds, q => by rw [DenL] at q; subst q; rfl
  | u :: us, ds, q => by
    rw [DenL] at q
    obtain ⟨d, r, rfl, q1, q2⟩ := q
    simp only [D.okTL, okT_den u d q1, okTL_den us r q2]
end
mutual
theorem okT_gnd : ∀ u : D, u.okT = true → u.gnd = true
  | .lst us, q => by simp [D.okT] at q
  | .fro us, q => by simp [D.okT] at q
  | .dct _ _, q => rfl
  | .map _, q => by simp [D.okT] at q
  | .gl _, q => by simp [D.okT] at q
  | .tup us, q => by simp only [D.okT] at q; simp only [D.gnd]; exact okTL_gnd us q
  | .ref _, q => by simp [D.okT] at q
  | .non, _ => rfl
  | .bl _, _ => rfl
  | .int _, _ => rfl
  | .str _, _ => rfl
theorem okTL_gnd : ∀ us : List D, D.okTL us = true → D.gndL us = true
  | [], _ => rfl
  | u :: us, q => by
    simp only [D.okTL, Bool.and_eq_true] at q
    simp only [D.gndL, okT_gnd u q.1, okTL_gnd us q.2, Bool.and_self]
end
end
def gReprX : D → Option D := fun u => match u.okT with
  | true => if (pyX u).showable = true ∧ (pyX u).depth ≤ 61 ∧ (pyX u).shown.length ≤ 16777216 then some (.str (pyX u).shown) else none
  | false => gRepr u
theorem g_reprX : Mo1 RD fReprX gReprX := by
  intro B ow h u x z q g
  unfold gReprX at g
  split at g
  · rename_i e
    split at g
    · rename_i c
      cases g
      rcases q with q | ⟨n, us, ds, rfl, rfl, _⟩
      · cases x with
        | val d =>
          replace q : Den (lk B ow) h u d := q
          have := den_gnd u d (okT_gnd u e) q
          subst this
          exact ⟨_, by simp only [fReprX, e]; rw [if_pos c], gnd_den _ rfl⟩
        | new ds => obtain ⟨us, rfl, _⟩ := q; simp [D.okT] at e
      · simp [D.okT] at e
    · cases g
  · rename_i e
    obtain ⟨a, e1, q1⟩ := g_repr B ow h u x z q g
    refine ⟨a, ?_, q1⟩
    cases x with
    | new ds => exact e1
    | val d =>
      have : d.okT = false := by
        rcases q with q | ⟨n, us, ds, e2, rfl, _⟩
        · rw [okT_den u d q, e]
        · cases e2; rfl
      simp only [fReprX, this]
      exact e1
mutual
def D.tinyX : D → Bool
  | .non => true
  | .bl _ => true
  | .int i => decide (-1000000000000 < i) && decide (i < 1000000000000)
  | .str x => x.cps.toList.all fun c => decide (c < 16 ^ 8)
  | .tup xs => D.tinyXL xs
  | .dct ks vs => D.tinyXL ks && D.tinyXL vs
  | .lst _ => false
  | .fro _ => false
  | .map _ => false
  | .gl _ => false
  | .ref _ => false
def D.tinyXL : List D → Bool
  | [] => true
  | x :: xs => x.tinyX && D.tinyXL xs
end
mutual
def D.blkX : D → Nat
  | .str x => x.cps.size
  | .tup xs => D.blkXL xs
  | .dct ks vs => D.blkXL ks + D.blkXL vs
  | .non => 0
  | .bl _ => 0
  | .int _ => 0
  | .lst _ => 0
  | .fro _ => 0
  | .map _ => 0
  | .gl _ => 0
  | .ref _ => 0
def D.blkXL : List D → Nat
  | [] => 0
  | x :: xs => x.blkX + 1 + D.blkXL xs
end
mutual
def D.depX : D → Nat
  | .tup xs => D.depXL xs + 1
  | .dct ks vs => max (D.depXL ks) (D.depXL vs) + 1
  | .str _ => 0
  | .non => 0
  | .bl _ => 0
  | .int _ => 0
  | .lst _ => 0
  | .fro _ => 0
  | .map _ => 0
  | .gl _ => 0
  | .ref _ => 0
def D.depXL : List D → Nat
  | [] => 0
  | x :: xs => max x.depX (D.depXL xs)
end
theorem zipX : ∀ as bs : List PyData, (PyData.leavesShortAll 13 as = true → PyData.leavesShortAll 13 bs = true → PyData.leavesShortKv 13 (as.zip bs) = true) ∧
    (PyData.showableAll as = true → PyData.showableAll bs = true → PyData.showableKv (as.zip bs) = true) ∧ PyData.bulkKv (as.zip bs) ≤ PyData.bulkAll as + PyData.bulkAll bs ∧ PyData.depthKv (as.zip bs) ≤ max (PyData.depthAll as) (PyData.depthAll bs)
  | [], bs => by simp [PyData.leavesShortKv, PyData.showableKv, PyData.bulkKv, PyData.depthKv]
  | a :: as, [] => by simp [PyData.leavesShortKv, PyData.showableKv, PyData.bulkKv, PyData.depthKv]
  | a :: as, b :: bs => by
    obtain ⟨h1, h2, h3, h4⟩ := zipX as bs
    simp only [List.zip_cons_cons, PyData.leavesShortKv, PyData.leavesShortAll, PyData.showableKv, PyData.showableAll, PyData.bulkKv, PyData.bulkAll, PyData.depthKv, PyData.depthAll, Bool.and_eq_true]
    refine ⟨fun x y => ⟨⟨x.1, y.1⟩, h1 x.2 y.2⟩, fun x y => ⟨⟨x.1, y.1⟩, h2 x.2 y.2⟩, by omega, by omega⟩
mutual
theorem tinyX_ok : ∀ u : D, u.tinyX = true → u.okT = true ∧ (pyX u).leavesShort 13 = true ∧ (pyX u).showable = true ∧ (pyX u).bulk ≤ u.blkX ∧ (pyX u).depth ≤ u.depX
  | .non, _ => ⟨rfl, rfl, rfl, Nat.le_refl _, Nat.le_refl _⟩
  | .bl b, _ => ⟨rfl, rfl, rfl, Nat.le_refl _, Nat.le_refl _⟩
  | .int i, h => by
    have t := tiny_short (.int i) h
    exact ⟨rfl, t.1, t.2.1, Nat.le_refl _, Nat.le_refl _⟩
  | .str x, h => ⟨rfl, h, rfl, Nat.le_refl _, Nat.le_refl _⟩
  | .tup xs, h => by
    simp only [D.tinyX] at h
    obtain ⟨a, b, c, d, e⟩ := tinyXL_ok xs h
    refine ⟨by simp only [D.okT, a], by simp only [pyX, PyData.leavesShort, b], by simp only [pyX, PyData.showable, c], by simp only [pyX, PyData.bulk, D.blkX, d], ?_⟩
    simp only [pyX, PyData.depth, D.depX]; omega
  | .dct ks vs, h => by
    simp only [D.tinyX, Bool.and_eq_true] at h
    obtain ⟨a, b, c, d, e⟩ := tinyXL_ok ks h.1
    obtain ⟨a', b', c', d', e'⟩ := tinyXL_ok vs h.2
    obtain ⟨z1, z2, z3, z4⟩ := zipX (pyXL ks) (pyXL vs)
    refine ⟨rfl, by simp only [pyX, PyData.leavesShort, z1 b b'], by simp only [pyX, PyData.showable, z2 c c'], ?_, ?_⟩
    · simp only [pyX, PyData.bulk, D.blkX]; omega
    · simp only [pyX, PyData.depth, D.depX]; omega
  | .lst _, h => by simp [D.tinyX] at h
  | .fro _, h => by simp [D.tinyX] at h
  | .map _, h => by simp [D.tinyX] at h
  | .gl _, h => by simp [D.tinyX] at h
  | .ref _, h => by simp [D.tinyX] at h
theorem tinyXL_ok : ∀ us : List D, D.tinyXL us = true → D.okTL us = true ∧ PyData.leavesShortAll 13 (pyXL us) = true ∧ PyData.showableAll (pyXL us) = true ∧ PyData.bulkAll (pyXL us) ≤ D.blkXL us ∧ PyData.depthAll (pyXL us) ≤ D.depXL us
  | [], _ => ⟨rfl, rfl, rfl, Nat.le_refl _, Nat.le_refl _⟩
  | u :: us, h => by
    simp only [D.tinyXL, Bool.and_eq_true] at h
    obtain ⟨a, b, c, d, e⟩ := tinyX_ok u h.1
    obtain ⟨a', b', c', d', e'⟩ := tinyXL_ok us h.2
    refine ⟨by simp only [D.okTL, a, a', Bool.and_self], by simp only [pyXL, PyData.leavesShortAll, b, b', Bool.and_self], by simp only [pyXL, PyData.showableAll, c, c', Bool.and_self], ?_, ?_⟩
    · simp only [pyXL, PyData.bulkAll, D.blkXL]; omega
    · simp only [pyXL, PyData.depthAll, D.depXL]; omega
end
structure SmX (k n : Nat) (u : D) : Prop where
  t : u.tinyX = true
  d : u.depX ≤ k
  b : u.blkX ≤ n
structure SmXL (k n : Nat) (us : List D) : Prop where
  t : D.tinyXL us = true
  d : D.depXL us ≤ k
  b : D.blkXL us ≤ n
section
variable {k n m : Nat} {u : D} {us : List D}
theorem SmX.tup (h : SmXL k n us) : SmX (k + 1) n (.tup us) := ⟨h.t, by simp only [D.depX]; have := h.d; omega, h.b⟩
theorem SmX.int {i : Int} (h0 : -1000000000000 < i) (h1 : i < 1000000000000) : SmX 0 0 (.int i) := ⟨by simp [D.tinyX, h0, h1], by simp [D.depX], by simp [D.blkX]⟩
theorem SmX.bl {b : Bool} : SmX 0 0 (.bl b) := ⟨rfl, by simp [D.depX], by simp [D.blkX]⟩
theorem SmX.le {k' n' : Nat} (h : SmX k n u) (hk : k ≤ k') (hn : n ≤ n') : SmX k' n' u := ⟨h.t, Nat.le_trans h.d hk, Nat.le_trans h.b hn⟩
theorem SmXL.le {k' n' : Nat} (h : SmXL k n us) (hk : k ≤ k') (hn : n ≤ n') : SmXL k' n' us := ⟨h.t, Nat.le_trans h.d hk, Nat.le_trans h.b hn⟩
theorem SmXL.nil : SmXL k 0 [] := ⟨rfl, by simp [D.depXL], by simp [D.blkXL]⟩
theorem SmXL.cons (h : SmX k n u) (hs : SmXL k m us) : SmXL k (n + 1 + m) (u :: us) := by
  refine ⟨by rw [D.tinyXL, h.t, hs.t]; rfl, ?_, ?_⟩
  · have := h.d; have := hs.d; simp only [D.depXL]; omega
  · have := h.b; have := hs.b; simp only [D.blkXL]; omega
theorem e_reprX (h : SmX 60 n u) (hn : n ≤ 1000000) : gReprX u = some (.str (pyX u).shown) := by
  obtain ⟨a, b, c, d, e⟩ := tinyX_ok u h.t
  have l := PyData.shown_le_bulk 13 (by decide) (pyX u) b
  have := h.b
  have := h.d
  unfold gReprX
  simp only [a]
  rw [if_pos ⟨c, by omega, by omega⟩]
end
@[simp] theorem gisi_dct {t : Kd} {a b : List D} : gIsi t (.dct a b) = some (.bl (Kd.isi .dct t)) := rfl
@[simp] theorem kd_dct_non : Kd.isi .dct .non = false := rfl
@[simp] theorem kd_dct_bl : Kd.isi .dct .bl = false := rfl
@[simp] theorem kd_dct_int : Kd.isi .dct .int = false := rfl
@[simp] theorem kd_dct_str : Kd.isi .dct .str = false := rfl
@[simp] theorem kd_dct_tup : Kd.isi .dct .tup = false := rfl
@[simp] theorem kd_dct_lst : Kd.isi .dct .lst = false := rfl
@[simp] theorem kd_dct_dct : Kd.isi .dct .dct = true := rfl
end Gb

namespace Gb
open PySem L2 PySem.Spec PyProof.Rows
section
variable {X : Cx} {cl : CL} {W : WX} {a b : Expr} {mo mp : MO} {pos : Pos}
def rEqN (K : PySem.W.Frag) (k : Bool → Bool) : R2 := fun x y H Q => ∃ a b xs, x = .ref a ∧ y = .ref b ∧ SqL K H a xs ∧ SqL K H b [] ∧ Q (.bl (k xs.isEmpty)) H
theorem eqN_dp {K : PySem.W.Frag} {H : Hp} {k : Bool → Bool} {a b : Addr} {Q : VK} (h1 : SqL K H a []) (h2 : SqL K H b []) (q : Q (.bl (k true)) H) : rEqP K k (.ref a) (.ref b) H Q :=
  ⟨.list [], .list [], .lst h1 .nil, .lst h2 .nil, rfl, rfl, by decide, q⟩
theorem op_neN (hu : X.A.units + 65 < cLine) : OpR X (compareOp .NotEq) (rEqN X.K not) := by
  intro pins s σ H x y v u Q I rx ry h
  obtain ⟨a, b, xs, rfl, rfl, h1, h2, q⟩ := h
  cases xs with
  | nil => exact op_neP hu pins s σ H _ _ v u Q I rx ry (eqN_dp h1 h2 q)
  | cons z zs =>
    cases rx; cases ry
    obtain ⟨its, r1, p1, _⟩ := I.list h1
    obtain ⟨jts, r2, p2, _⟩ := I.list h2
    cases r2
    cases r1
    exact SeqAt.RcNeAt.lists_lengths p1.isList p2.isList (by simp) (by omega) _ _ _ _ ⟨.bl _, H, I, rfl, q⟩
def fEqN (k : Bool → Bool) : LV → LV → PHeap → Res D := fun x y h => match x.items h, y.items h with
  | some xs, some [] => .ok (.bl (k xs.isEmpty)) h
  | _, _ => fEqO k x y h
theorem ov_eqN {k : Bool → Bool} : OpV (RRep X.K) X.K cl (fun x y H Q => rEqN X.K k x y H Q ∨ rEqP X.K k x y H Q) (fEqN k) := by
  intro W io sg H h x y v u Q hr rx ry p
  unfold fEqN at p
  split at p
  · rename_i xs e1 e2
    obtain ⟨a, vs, rfl, s1, q1⟩ := rx.items hr e1
    obtain ⟨b, ws, rfl, s2, q2⟩ := ry.items hr e2
    replace q2 : ws = [] := q2
    subst q2
    refine .inl ⟨a, b, vs, rfl, rfl, s1, s2, p.here hr ?_⟩
    have := q1.nil_iff
    simp only [Bool.not_eq_not, Bool.not_inj_iff] at this
    show V.bl (k vs.isEmpty) = V.bl (k xs.isEmpty)
    rw [this]
  · exact .inr (ov_eq W io sg H h x y v u Q hr rx ry p)
theorem st_neN (hu : X.A.units + 65 < cLine) (ha : SO X cl W a mo) (hb : SO X cl W b mp) : ST X cl W (.Compare a [.NotEq] [b] pos) (mTB (m2 (fEqN not) mo mp)) := st_cmpO ((op_neN hu).or (op_neP hu)) ov_eqN ha hb (nomark _)
end
end Gb

namespace Gb
open PySem L2 PySem.Spec PyProof.Rows PySem.W
mutual
def D.okS : D → Bool
  | .int _ => true
  | .tup xs => D.okSL xs
  | .non => false
  | .bl _ => false
  | .str _ => false
  | .ref _ => false
  | .fro _ => false
  | .lst _ => false
  | .dct _ _ => false
  | .map _ => false
  | .gl _ => false
def D.okSL : List D → Bool
  | [] => true
  | x :: xs => x.okS && D.okSL xs
end
mutual
def pyS : D → PyData
  | .int i => .int i
  | .tup xs => .tuple (pySL xs)
  | .non => .none
  | .bl _ => .none
  | .str _ => .none
  | .ref _ => .none
  | .fro _ => .none
  | .lst _ => .none
  | .dct _ _ => .none
  | .map _ => .none
  | .gl _ => .none
def pySL : List D → List PyData
  | [] => []
  | x :: xs => pyS x :: pySL xs
end
mutual
theorem pyS_inj : ∀ a b : D, a.okS = true → b.okS = true → pyS a = pyS b → a = b
  | .int i, b, _, hb, e => by
    cases b with
    | int j => simp only [pyS, PyData.int.injEq] at e; rw [e]
    | tup ys => simp [pyS] at e
    | _ => simp [D.okS] at hb
  | .tup xs, b, ha, hb, e => by
    cases b with
    | tup ys =>
      simp only [pyS, PyData.tuple.injEq] at e
      simp only [D.okS] at ha hb
      rw [pySL_inj xs ys ha hb e]
    | int j => simp [pyS] at e
    | _ => simp [D.okS] at hb
  | .non, _, h, _, _ => by simp [D.okS] at h
  | .bl _, _, h, _, _ => by simp [D.okS] at h
  | .str _, _, h, _, _ => by simp [D.okS] at h
  | .ref _, _, h, _, _ => by simp [D.okS] at h
  | .fro _, _, h, _, _ => by simp [D.okS] at h
  | .lst _, _, h, _, _ => by simp [D.okS] at h
  | .dct _ _, _, h, _, _ => by simp [D.okS] at h
  | .map _, _, h, _, _ => by simp [D.okS] at h
  | .gl _, _, h, _, _ => by simp [D.okS] at h
theorem pySL_inj : ∀ a b : List D, D.okSL a = true → D.okSL b = true → pySL a = pySL b → a = b
  | [], [], _, _, _ => rfl
  | [], _ :: _, _, _, e => by simp [pySL] at e
  | _ :: _, [], _, _, e => by simp [pySL] at e
  | x :: xs, y :: ys, ha, hb, e => by
    simp only [D.okSL, Bool.and_eq_true] at ha hb
    simp only [pySL, List.cons.injEq] at e
    rw [pyS_inj x y ha.1 hb.1 e.1, pySL_inj xs ys ha.2 hb.2 e.2]
end
section
variable {K : PySem.W.Frag} {io : List Addr} {H : Hp}
mutual
theorem dpS_of : ∀ (d : D) (v : V), d.okS = true → Rep K io H d v → Dp K H v (pyS d)
  | .int i, _, _, r => by cases r; exact .int i
  | .tup xs, _, e, ⟨a, vs, e2, s, r⟩ => by
    subst e2
    rw [pyS]
    exact .tup s.sq (dpSL_of xs vs (by simpa only [D.okS] using e) r)
  | .non, _, h, _ => by simp [D.okS] at h
  | .bl _, _, h, _ => by simp [D.okS] at h
  | .str _, _, h, _ => by simp [D.okS] at h
  | .ref _, _, h, _ => by simp [D.okS] at h
  | .fro _, _, h, _ => by simp [D.okS] at h
  | .lst _, _, h, _ => by simp [D.okS] at h
  | .dct _ _, _, h, _ => by simp [D.okS] at h
  | .map _, _, h, _ => by simp [D.okS] at h
  | .gl _, _, h, _ => by simp [D.okS] at h
theorem dpSL_of : ∀ (ds : List D) (vs : List V), D.okSL ds = true → RepL K io H ds vs → DpAll K H vs (pySL ds)
  | [], _, _, r => by
    have r' : _ = _ := r
    subst r'
    exact .nil
  | d :: ds, _, e, ⟨v, t, e2, r1, r2⟩ => by
    subst e2
    simp only [D.okSL, Bool.and_eq_true] at e
    exact .cons (dpS_of d v e.1 r1) (dpSL_of ds t e.2 r2)
end
end
section
variable {K : PySem.W.Frag} {cl : CL} {io : List Addr} {H : Hp} {h : PHeap}
end
section
variable {X : Cx} {cl : CL} {W : WX} {a b c e : Expr} {ma mb mc : ME} {ml : MA} {mo mp : MO} {pos p : Pos}
end
end Gb

namespace Gb
open PySem L2 PySem.Spec PyProof.Rows PySem.W
mutual
theorem nk_inj : ∀ (a b : D) (k : NestedKey), nk a = some k → nk b = some k → a = b
  | .non, b, k, ha, hb => by
    cases b with
    | non => rfl
    | int j => simp only [nk, Option.some.injEq] at ha hb; subst ha; cases hb
    | tup ys => simp only [nk] at ha hb; cases ha; cases q : nkL ys <;> rw [q] at hb <;> simp at hb
    | _ => simp [nk] at hb
  | .int i, b, k, ha, hb => by
    cases b with
    | int j => simp only [nk, Option.some.injEq] at ha hb; subst ha; cases hb; rfl
    | non => simp only [nk, Option.some.injEq] at ha hb; subst ha; cases hb
    | tup ys => simp only [nk] at ha hb; cases ha; cases q : nkL ys <;> rw [q] at hb <;> simp at hb
    | _ => simp [nk] at hb
  | .tup xs, b, k, ha, hb => by
    cases b with
    | tup ys =>
      simp only [nk] at ha hb
      cases q : nkL xs with
      | none => rw [q] at ha; cases ha
      | some ks =>
        rw [q] at ha
        cases ha
        cases q2 : nkL ys with
        | none => rw [q2] at hb; cases hb
        | some ks2 =>
          rw [q2] at hb
          simp only [Option.map_some, Option.some.injEq, NestedKey.tup.injEq] at hb
          subst hb
          rw [nkL_inj xs ys _ q q2]
    | non => simp only [nk, Option.some.injEq] at ha hb; cases hb; cases q : nkL xs <;> rw [q] at ha <;> simp at ha
    | int j => simp only [nk, Option.some.injEq] at ha hb; cases hb; cases q : nkL xs <;> rw [q] at ha <;> simp at ha
    | _ => simp [nk] at hb
  | .bl _, _, _, h, _ => by simp [nk] at h
  | .str _, _, _, h, _ => by simp [nk] at h
  | .ref _, _, _, h, _ => by simp [nk] at h
  | .fro _, _, _, h, _ => by simp [nk] at h
  | .lst _, _, _, h, _ => by simp [nk] at h
  | .dct _ _, _, _, h, _ => by simp [nk] at h
  | .map _, _, _, h, _ => by simp [nk] at h
  | .gl _, _, _, h, _ => by simp [nk] at h
theorem nkL_inj : ∀ (a b : List D) (k : List NestedKey), nkL a = some k → nkL b = some k → a = b
  | [], [], _, _, _ => rfl
  | [], y :: ys, k, ha, hb => by
    simp only [nkL, Option.some.injEq] at ha
    subst ha
    simp only [nkL] at hb
    split at hb <;> simp at hb
  | x :: xs, [], k, ha, hb => by
    simp only [nkL, Option.some.injEq] at hb
    subst hb
    simp only [nkL] at ha
    split at ha <;> simp at ha
  | x :: xs, y :: ys, k, ha, hb => by
    simp only [nkL] at ha hb
    split at ha
    · rename_i k1 ks1 e1 e2
      split at hb
      · rename_i k2 ks2 e3 e4
        cases ha
        simp only [Option.some.injEq, List.cons.injEq] at hb
        obtain ⟨rfl, rfl⟩ := hb
        rw [nk_inj x y _ e1 e3, nkL_inj xs ys _ e2 e4]
      · simp at hb
    · simp at ha
end
mutual
theorem nk_noText : ∀ (a : D) (k : NestedKey), nk a = some k → nkB k = true
  | .non, k, h => by simp only [nk, Option.some.injEq] at h; subst h; rfl
  | .int i, k, h => by simp only [nk, Option.some.injEq] at h; subst h; rfl
  | .tup xs, k, h => by
    simp only [nk] at h
    cases q : nkL xs with
    | none => rw [q] at h; cases h
    | some ks => rw [q] at h; cases h; rw [nkB]; exact nkL_noText xs ks q
  | .bl _, _, h => by simp [nk] at h
  | .str _, _, h => by simp [nk] at h
  | .ref _, _, h => by simp [nk] at h
  | .fro _, _, h => by simp [nk] at h
  | .lst _, _, h => by simp [nk] at h
  | .dct _ _, _, h => by simp [nk] at h
  | .map _, _, h => by simp [nk] at h
  | .gl _, _, h => by simp [nk] at h
theorem nkL_noText : ∀ (a : List D) (k : List NestedKey), nkL a = some k → nkBL k = true
  | [], k, h => by simp only [nkL, Option.some.injEq] at h; subst h; rfl
  | x :: xs, k, h => by
    simp only [nkL] at h
    split at h
    · rename_i k1 ks1 e1 e2
      cases h
      simp only [nkBL, nk_noText x _ e1, nkL_noText xs _ e2, Bool.and_self]
    · simp at h
end
section
variable {K : PySem.W.Frag} {cl : CL} {io : List Addr} {H : Hp} {h : PHeap}
mutual
theorem nkV_of : ∀ (d : D) (v : V) (k : NestedKey), nk d = some k → Rep K io H d v → NkV K H k v
  | .non, _, k, e, r => by cases r; simp only [nk, Option.some.injEq] at e; subst e; exact .none
  | .int i, _, k, e, r => by cases r; simp only [nk, Option.some.injEq] at e; subst e; exact .int i
  | .tup xs, _, k, e, ⟨a, vs, e2, s, r⟩ => by
    subst e2
    simp only [nk] at e
    cases q : nkL xs with
    | none => rw [q] at e; cases e
    | some ks =>
      rw [q] at e
      cases e
      obtain ⟨h1, h2⟩ := nkLV_of xs vs ks q r
      exact .tup s.sq (fun i => by
        by_cases c : i < ks.length
        · rw [List.getElem?_eq_getElem c, List.getElem?_eq_getElem (by omega)]; rfl
        · rw [List.getElem?_eq_none (by omega), List.getElem?_eq_none (by omega)]; rfl) h2
  | .bl _, _, _, e, _ => by simp [nk] at e
  | .str _, _, _, e, _ => by simp [nk] at e
  | .ref _, _, _, e, _ => by simp [nk] at e
  | .fro _, _, _, e, _ => by simp [nk] at e
  | .lst _, _, _, e, _ => by simp [nk] at e
  | .dct _ _, _, _, e, _ => by simp [nk] at e
  | .map _, _, _, e, _ => by simp [nk] at e
  | .gl _, _, _, e, _ => by simp [nk] at e
theorem nkLV_of : ∀ (ds : List D) (vs : List V) (ks : List NestedKey), nkL ds = some ks → RepL K io H ds vs → ks.length = vs.length ∧ ∀ (i : Nat) k x, ks[i]? = some k → vs[i]? = some x → NkV K H k x
  | [], vs, ks, e, r => by
    have r' : vs = [] := r
    subst r'
    simp only [nkL, Option.some.injEq] at e
    subst e
    exact ⟨rfl, fun i k x h => by simp at h⟩
  | d :: ds, _, ks, e, ⟨v, t, e2, r1, r2⟩ => by
    subst e2
    simp only [nkL] at e
    split at e
    · rename_i k1 ks1 e3 e4
      cases e
      have a := nkV_of d v _ e3 r1
      obtain ⟨b, c⟩ := nkLV_of ds t _ e4 r2
      refine ⟨by simp [b], fun i k x h1 h2 => ?_⟩
      cases i with
      | zero => simp at h1 h2; subst h1 h2; exact a
      | succ i => exact c i k x (by simpa using h1) (by simpa using h2)
    · simp at e
end
def ItemR (K : PySem.W.Frag) (io : List Addr) (H : Hp) (x : D) (y : DY) : Prop := ∃ k v, x = .tup [k, v] ∧ nk k = some y.1 ∧ Rep K io H k (.ref y.2.1) ∧ Rep K io H v y.2.2
theorem pair_rep {ds : List D} {a b : V} (r : RepL K io H ds [a, b]) : ∃ k v, ds = [k, v] ∧ Rep K io H k a ∧ Rep K io H v b := by
  cases ds with
  | nil => have r' : [a, b] = [] := r; cases r'
  | cons k ds =>
    obtain ⟨v, t, e, r1, r2⟩ := r
    cases e
    cases ds with
    | nil => have r' : [b] = [] := r2; cases r'
    | cons v ds =>
      obtain ⟨v', t', e, r3, r4⟩ := r2
      cases e
      cases ds with
      | nil => exact ⟨k, v, rfl, r1, r3⟩
      | cons x ds => obtain ⟨_, _, e, _⟩ := r4; cases e
def ItemL (K : PySem.W.Frag) (io : List Addr) (H : Hp) (x : D) (vs : List V) : Prop := match x with
  | .tup ds => RepL K io H ds vs
  | _ => False
theorem repI_cons {x : D} {xs : List D} {vss : List (List V)} : RepI K io H (x :: xs) vss ↔ ∃ vs r, vss = vs :: r ∧ ItemL K io H x vs ∧ RepI K io H xs r := by
  cases x <;> exact Iff.rfl
theorem items_iff {xs : List D} : ∀ {ys : List DY}, (KeyL xs ys ∧ RepI K io H xs (ys.map pairV)) ↔ (xs.length = ys.length ∧ (∀ y ∈ ys, y.1.depth ≤ 8) ∧ ∀ (i : Nat) x y, xs[i]? = some x → ys[i]? = some y → ItemR K io H x y) := by
  induction xs with
  | nil =>
    intro ys
    cases ys with
    | nil => exact ⟨fun _ => ⟨rfl, (fun _ m => by cases m), fun _ _ _ h => by simp at h⟩, fun _ => ⟨⟨rfl, (fun _ m => by cases m), fun _ m => by cases m⟩, rfl⟩⟩
    | cons y ys => exact ⟨fun h => by have := h.1.k; simp at this, fun h => by have := h.1; simp at this⟩
  | cons x xs ih' =>
    intro ys
    cases ys with
    | nil => exact ⟨fun h => by have := h.1.k; simp at this, fun h => by have := h.1; simp at this⟩
    | cons y ys =>
      have ih := ih' (ys := ys)
      constructor
      · rintro ⟨⟨k1, k2, k3⟩, h0⟩
        obtain ⟨vs, r, e, h1, h2⟩ := repI_cons.mp h0
        simp only [List.map_cons, List.cons.injEq] at k1 e
        obtain ⟨rfl, rfl⟩ := e
        obtain ⟨l, dd, q⟩ := ih.mp ⟨⟨k1.2, fun z m => k2 z (List.mem_cons_of_mem _ m), fun z m => k3 z (List.mem_cons_of_mem _ m)⟩, h2⟩
        refine ⟨by simp [l], k2, fun i x' y' hx hy => ?_⟩
        cases i with
        | zero =>
          simp at hx hy
          subst hx hy
          cases x with
          | tup ds =>
            obtain ⟨k, v, rfl, r1, r2⟩ := pair_rep h1
            exact ⟨k, v, rfl, k1.1, r1, r2⟩
          | _ => exact h1.elim
        | succ i => exact q i x' y' (by simpa using hx) (by simpa using hy)
      · rintro ⟨l, dd, q⟩
        obtain ⟨⟨k1, k2, k3⟩, h2⟩ := ih.mpr ⟨by simpa using l, fun z m => dd z (List.mem_cons_of_mem _ m), fun i x' y' hx hy => q (i + 1) x' y' (by simpa using hx) (by simpa using hy)⟩
        obtain ⟨k, v, rfl, e1, r1, r2⟩ := q 0 x y rfl rfl
        refine ⟨⟨?_, dd, fun z m => ?_⟩, repI_cons.mpr ⟨_, _, rfl, (show RepL K io H [k, v] _ from ⟨_, _, rfl, r1, _, _, rfl, r2, rfl⟩), h2⟩⟩
        · rw [List.map_cons, List.map_cons, k1]
          show nk k :: _ = _
          rw [e1]
        · rcases List.mem_cons.mp m with rfl | m
          · exact nk_noText _ _ e1
          · exact k3 z m
structure Its (K : PySem.W.Frag) (io : List Addr) (H : Hp) (xs : List D) (ys : List DY) : Prop where
  k : KeyL xs ys
  r : RepI K io H xs (ys.map pairV)
variable {xs : List D} {ys : List DY}
theorem Its.len (I : Its K io H xs ys) : xs.length = ys.length := (items_iff.mp ⟨I.k, I.r⟩).1
theorem Its.dep (I : Its K io H xs ys) : ∀ y ∈ ys, y.1.depth ≤ 8 := (items_iff.mp ⟨I.k, I.r⟩).2.1
theorem Its.at (I : Its K io H xs ys) {i : Nat} {x : D} {y : DY} (h1 : xs[i]? = some x) (h2 : ys[i]? = some y) : ItemR K io H x y := (items_iff.mp ⟨I.k, I.r⟩).2.2 i x y h1 h2
theorem Its.mk' (h1 : xs.length = ys.length) (h2 : ∀ y ∈ ys, y.1.depth ≤ 8) (h3 : ∀ (i : Nat) x y, xs[i]? = some x → ys[i]? = some y → ItemR K io H x y) : Its K io H xs ys := by
  obtain ⟨a, b⟩ := items_iff.mpr ⟨h1, h2, h3⟩
  exact ⟨a, b⟩
theorem Its.step {io' : List Addr} {H' : Hp} (I : Its K io H xs ys) (s : Step K io H io' H') : Its K io' H' xs ys := ⟨I.k, I.r.step s _ _⟩
def keyIs (k : D) : D → Bool
  | .tup [k', _] => decide (k' = k)
  | _ => false
def valD : D → D
  | .tup [_, v] => v
  | _ => .non
def lookD (xs : List D) (k : D) : Option D := (xs.find? (keyIs k)).map valD
theorem item_is {x : D} {y : DY} {k : D} {kk : NestedKey} (q : ItemR K io H x y) (e : nk k = some kk) : keyIs k x = decide (y.1 = kk) := by
  obtain ⟨k', v, rfl, e1, _, _⟩ := q
  show decide (k' = k) = decide (y.1 = kk)
  rw [decide_eq_decide]
  constructor
  · rintro rfl; rw [e1] at e; exact Option.some.inj e
  · intro e2; subst e2; exact nk_inj _ _ _ e1 e
theorem Its.look : ∀ {xs : List D} {ys : List DY}, Its K io H xs ys → ∀ {k : D} {kk : NestedKey}, nk k = some kk → match atY ys kk with
    | some y => ∃ v, lookD xs k = some v ∧ Rep K io H v y.2.2
    | none => lookD xs k = none
  | [], [], _, k, kk, _ => rfl
  | [], y :: ys, I, _, _, _ => by have := I.len; simp at this
  | x :: xs, [], I, _, _, _ => by have := I.len; simp at this
  | x :: xs, y :: ys, I, k, kk, e => by
    have I' : Its K io H xs ys := Its.mk' (by have := I.len; simpa using this) (fun z m => I.dep z (List.mem_cons_of_mem _ m)) fun i x' y' h1 h2 => I.at (i := i + 1) (by simpa using h1) (by simpa using h2)
    have ih := I'.look e
    have q := I.at (i := 0) (x := x) (y := y) rfl rfl
    have qi := item_is q e
    unfold atY lookD at ih ⊢
    rw [List.find?_cons, List.find?_cons, qi]
    by_cases c : y.1 = kk
    · simp only [c, decide_true]
      obtain ⟨k', v, rfl, _, _, r2⟩ := q
      exact ⟨v, rfl, r2⟩
    · simp only [c, decide_false]
      exact ih
theorem Its.any (I : Its K io H xs ys) {k : D} {kk : NestedKey} (e : nk k = some kk) : xs.any (keyIs k) = (atY ys kk).isSome := by
  have := I.look e
  have h2 : (lookD xs k).isSome = xs.any (keyIs k) := by
    unfold lookD
    rw [Option.isSome_map, Bool.eq_iff_iff, List.find?_isSome, List.any_eq_true]
  rw [← h2]
  cases h : atY ys kk with
  | some y => rw [h] at this; obtain ⟨v, e, _⟩ := this; rw [e]; rfl
  | none => rw [h] at this; rw [this]; rfl
end
def LV.dict (h : PHeap) : LV → Option (List D)
  | .val (.map xs) => some xs
  | .val (.ref n) => match h[n]? with
    | some (.map xs) => some xs
    | _ => none
  | _ => none
section
variable {K : PySem.W.Frag} {cl : CL} {io : List Addr} {H : Hp} {h : PHeap}
theorem OV.dict {lv : LV} {v : V} {xs : List D} (hr : HRel K cl io H h) (r : OV K io H lv v) (e : lv.dict h = some xs) : ∃ a o ys, v = .ref a ∧ Rd H a (dctO a o ys) ∧ Its K io H xs ys := by
  cases lv with
  | new ys => cases e
  | val d =>
    cases d with
    | map xs' =>
      cases e
      obtain ⟨a, o, ys, rfl, s, k, q⟩ := r
      exact ⟨a, o, ys, rfl, .inr ⟨o, s⟩, k, q⟩
    | ref n =>
      obtain ⟨a, ha, rfl⟩ := r
      simp only [LV.dict] at e
      split at e
      · rename_i xs' q
        cases e
        obtain ⟨o, ys, h1, k, q⟩ := hr.cell n a _ ha q
        exact ⟨a, o, ys, rfl, .inl h1, k, q⟩
      · cases e
    | _ => cases e
end
end Gb

namespace Gb
open PySem L2 PySem.Spec PyProof.Rows PySem.W
theorem blk_in {N : List Str} {sc : Scope} {env : Env} {scope1 scope2 : Scope} {cl' : List (Str × Addr)} {C : Addr} {own : List (Str × Nat)} (e : env.scope = sc) (h1 : scope2.kind = .function) (h2 : ∀ y ∈ scope2.names, scope2.names.lookup y.1 = some y.2)
    (h3 : ∀ p ∈ own, N[p.2]? = some p.1) (h4 : ∀ y ∈ scope2.names, y.2 = .free → (relS scope1 sc).names.lookup y.1 = some .cell ∨ (relS scope1 sc).names.lookup y.1 = some .free)
    (h5 : ∀ y ∈ scope2.names, y.2 = .local ∨ y.2 = .cell → y.1 ∈ own.map (·.1) ∨ y.1 ∉ N) : BlkOk N (compEnvC scope1 cl' C env).scope scope2 own := by
  subst e
  exact ⟨h1, h2, h3, h4, h5⟩
section
variable {X : Cx} {o e : Expr} {es : List Expr}
end
section
variable {K : PySem.W.Frag} {cl : CL} {io : List Addr} {H : Hp} {h : PHeap}
theorem Its.keep {xs : List D} {ys : List DY} {as io' : List Addr} {H' : Hp} (I : Its K io H xs ys) (k : Keeps K as io H io' H') : Its K io' H' xs ys := ⟨I.k, I.r.mono (fun _ _ h => k.get h) k.tup k.fro⟩
end
section
variable {K : PySem.W.Frag} {cl : CL} {io io1 : List Addr} {H H1 : Hp} {h : PHeap} {q : Addr} {u ob : HO}
end
section
variable {X : Cx} {cl : CL} {W : WX} {a b c e o k v : Expr} {es : List Expr} {ma mb mc mk mv : ME} {ml : MA} {mo mp : MO} {pos p : Pos}
end
end Gb

namespace Gb
open PySem L2
mutual
theorem nk_gnd : ∀ (d : D) (k : NestedKey), nk d = some k → d.gnd = true
  | .non, _, _ => rfl
  | .int _, _, _ => rfl
  | .tup xs, k, h => by
    simp only [nk] at h
    cases q : nkL xs with
    | none => rw [q] at h; cases h
    | some ks => rw [D.gnd]; exact nkL_gnd xs ks q
  | .bl _, _, _ => rfl
  | .str _, _, _ => rfl
  | .ref _, _, h => by simp [nk] at h
  | .fro _, _, h => by simp [nk] at h
  | .lst _, _, h => by simp [nk] at h
  | .dct _ _, _, h => rfl
  | .map _, _, h => by simp [nk] at h
  | .gl _, _, h => by simp [nk] at h
theorem nkL_gnd : ∀ (ds : List D) (ks : List NestedKey), nkL ds = some ks → D.gndL ds = true
  | [], _, _ => rfl
  | x :: xs, ks, h => by
    simp only [nkL] at h
    split at h
    · rename_i k1 ks1 e1 e2
      rw [D.gndL, nk_gnd x _ e1, nkL_gnd xs _ e2]; rfl
    · simp at h
end
mutual
theorem den_nk {L : Nat → Prop} {h : PHeap} : ∀ (u d : D) (k : NestedKey), nk d = some k → Den L h u d → u = d
  | .lst us, d, k, e, q => by rw [Den] at q; obtain ⟨n, ds, rfl, _⟩ := q; simp [nk] at e
  | .fro us, d, k, e, q => by rw [Den] at q; obtain ⟨ds, rfl, _⟩ := q; simp [nk] at e
  | .map us, d, k, e, q => by rw [Den] at q; obtain ⟨ds, rfl, _⟩ := q; simp [nk] at e
  | .tup us, d, k, e, q => by
    rw [Den] at q
    obtain ⟨ds, rfl, q⟩ := q
    simp only [nk] at e
    cases z : nkL ds with
    | none => rw [z] at e; cases e
    | some ks => rw [denL_nk us ds ks z q]
  | .dct _ _, d, k, e, q => by rw [Den] at q; exact q.symm
  | .ref _, d, k, e, q => by rw [Den] at q; exact q.elim
  | .non, d, k, e, q => by rw [Den] at q; exact q.symm
  | .bl _, d, k, e, q => by rw [Den] at q; exact q.symm
  | .int _, d, k, e, q => by rw [Den] at q; exact q.symm
  | .str _, d, k, e, q => by rw [Den] at q; exact q.symm
  | .gl _, d, k, e, q => by rw [Den] at q; exact q.symm
theorem denL_nk {L : Nat → Prop} {h : PHeap} : ∀ (us ds : List D) (k : List NestedKey), nkL ds = some k → DenL L h us ds → us = ds
  | [], ds, k, e, q => by rw [DenL] at q; exact q.symm
  | u :: us, ds, k, e, q => by
    rw [DenL] at q
    obtain ⟨d, r, rfl, q1, q2⟩ := q
    simp only [nkL] at e
    split at e
    · rename_i k1 ks1 e1 e2
      rw [den_nk u d _ e1 q1, denL_nk us r _ e2 q2]
    · simp at e
end
mutual
theorem okS_gnd : ∀ u : D, u.okS = true → u.gnd = true
  | .int _, _ => rfl
  | .tup xs, h => by rw [D.gnd]; exact okSL_gnd xs (by simpa only [D.okS] using h)
  | .non, h => by simp [D.okS] at h
  | .bl _, h => by simp [D.okS] at h
  | .str _, h => by simp [D.okS] at h
  | .ref _, h => by simp [D.okS] at h
  | .fro _, h => by simp [D.okS] at h
  | .lst _, h => by simp [D.okS] at h
  | .dct _ _, h => by simp [D.okS] at h
  | .map _, h => by simp [D.okS] at h
  | .gl _, h => by simp [D.okS] at h
theorem okSL_gnd : ∀ us : List D, D.okSL us = true → D.gndL us = true
  | [], _ => rfl
  | u :: us, h => by
    rw [D.okSL, Bool.and_eq_true] at h
    rw [D.gndL, okS_gnd u h.1, okSL_gnd us h.2]; rfl
end
section
variable {L : Nat → Prop} {h : PHeap}
end
section
variable {S : Sx} {k : Nat} {B : Nat → Prop} {ow : Ow} {h : PHeap} {env ven : PEnv}
end
section
variable {S : Sx} {a b c : ME} {va vb vc : UE} {m : MA} {w : UA} {mo mp : MO} {i : Nat} {X : List Nat}
end
section
variable {v : PEnv} {a b c : UE} {r : UA} {i : Nat}
end
end Gb

namespace Gb
open PySem L2 PySem.Spec PyProof.Rows PySem.W
section
variable {X : Cx} {cl : CL} {W : WX} {e : Expr} {es : List Expr} {ml : MA} {pos p : Pos}
end
section
variable {F : UF} {a : UA} {v : PEnv}
@[simp] theorem gndL_ints {ns : List Int} : D.gndL (ns.map D.int) = true := by
  induction ns with
  | nil => rfl
  | cons n ns ih =>
    rw [List.map_cons, D.gndL, ih]
    rfl
end
end Gb

namespace Gb
open PySem L2
def kvT (ks : List Int) : List (Key × V) := ks.map fun n => (Sum.inl n, V.bl true)
def RDk (K : PySem.W.Frag) : Hp → List Addr → Hp → List Int → V → Prop := fun H0 io H ks v => ∃ a, v = .ref a ∧ H0 a = none ∧ a ∉ io ∧ H a = some (.dK (kvT ks))
instance {K : PySem.W.Frag} : Back K (RDk K) := ⟨fun s hl ⟨a, e1, h0, h1, h2⟩ => ⟨a, e1, s.before hl h0 h1, h1, h2⟩⟩
section
variable {K : PySem.W.Frag} {cl : CL} {W : WX} {io io1 : List Addr} {H H1 : Hp} {h : PHeap} {Dd : Addr} {u ob : HO}
theorem tup_ovr (e : H Dd = some u) (nf : ∀ o w, u ≠ .frz o w) {a : Addr} {vs : List V} (s : TupA K H a vs) : TupA K (upd H Dd ob) a vs :=
  sqT_keep (fun b o u' q => by rw [upd_ne (fun z => by rw [z, e] at q; exact nf o u' (Option.some.inj q))]; exact q) s
theorem fro_ovr (e : H Dd = some u) (nf : ∀ o w, u ≠ .frz o w) {a : Addr} {vs : FX} (s : FroL K H a vs) : FroL K (upd H Dd ob) a vs :=
  fro_keep (fun b o u' q => by rw [upd_ne (fun z => by rw [z, e] at q; exact nf o u' (Option.some.inj q))]; exact q) s
theorem HRel.ovr (e : H Dd = some u) (nf : ∀ o w, u ≠ .frz o w) (nt : NoTab Dd u) (n : Dd ∉ io) (r : HRel K cl io H h) (ho : ∀ ps, ob ≠ .tbl ps := by intro _ z; cases z) : HRel K cl io (upd H Dd ob) h := by
  refine ⟨r.len, r.nd, tabs_upd r.tab e nt, only_upd r.only ho, fun i a c h1 h2 => ?_⟩
  have na : a ≠ Dd := fun z => n (by rw [← z]; exact List.mem_of_getElem? h1)
  have q := r.cell i a c h1 h2
  cases c with
  | lst xs => obtain ⟨vs, g1, g2⟩ := q; exact ⟨vs, by rw [upd_ne na]; exact g1, g2.mono (fun _ _ h => h) (fun _ _ => tup_ovr e nf) fun _ _ => fro_ovr e nf⟩
  | map xs => obtain ⟨o, ys, g1, g2, g3⟩ := q; exact ⟨o, ys, by rw [upd_ne na]; exact g1, g2, g3.mono (fun _ _ h => h) (fun _ _ => tup_ovr e nf) fun _ _ => fro_ovr e nf⟩
  | dead => obtain ⟨o, g1, nt⟩ := q; exact ⟨o, by rw [upd_ne na]; exact g1, nt⟩
  | kst ks => exact (upd_ne na).trans q
  | dks ks xs => obtain ⟨vs, g1, g2⟩ := q; exact ⟨vs, by rw [upd_ne na]; exact g1, g2.mono (fun _ _ h => h) (fun _ _ => tup_ovr e nf) fun _ _ => fro_ovr e nf⟩
  | ins c fs => obtain ⟨dx, vs, g1, g2⟩ := q; exact ⟨dx, vs, by rw [upd_ne na]; exact g1, g2.1, g2.2.mono (fun _ _ h => h) (fun _ _ => tup_ovr e nf) fun _ _ => fro_ovr e nf⟩
theorem Step.ovr (s : Step K io1 H1 io H) (n1 : H1 Dd = none) (e : H Dd = some u) (nf : ∀ o w, u ≠ .frz o w) : Step K io1 H1 io (upd H Dd ob) :=
  ⟨s.pre, s.new, fun b o h m t => by rw [upd_ne (fun z => by rw [z, n1] at h; cases h)]; exact s.keep b o h m t, fun b ps h => (by rw [upd_ne (fun z => by rw [z, n1] at h; cases h)]; exact s.tbl b ps h), fun a vs h => tup_ovr e nf (s.tup a vs h), fun a vs h => fro_ovr e nf (s.fro a vs h)⟩
theorem dk_nf {kvs : List (Key × V)} : ∀ o w, HO.dK kvs ≠ .frz o w := fun _ _ e => by cases e
end
section
variable {X : Cx} {cl : CL} {W : WX} {tg iter kx vx : Expr} {ifs : List Expr} {mk mv : ME} {mt : MT} {mi : MI} {pos : Pos} {scope : Scope} {own : List (Str × Nat)} {g : TgM}
end
end Gb

namespace Gb
open PySem L2
section
variable {S : Sx} {g : TgM} {c : MT} {vc : UT} {kk vv : ME} {uk uv : UE} {own : List Nat} {X : List Nat}
end
abbrev S0 : Sx := ⟨[], [], [], false, []⟩
section
variable {k : Nat} {B : Nat → Prop} {ow : Ow} {h : PHeap} {env ven : PEnv} {n : Nat} {ks ms : List Int}
theorem stp0 {ow' : Ow} {h' : PHeap} (s : Stp S0 ow h ow' h') : ∀ (m : Nat) (c : Cell), h[m]? = some c → h'[m]? = some c := fun m c e => s.keep m c (fun i _ => List.not_mem_nil) e
structure Bu (n : Nat) (h h' : PHeap) : Prop where
  len : h.length ≤ h'.length
  keep : ∀ (m : Nat) (c : Cell), m ≠ n → h[m]? = some c → h'[m]? = some c
theorem Bu.refl : Bu n h h := ⟨Nat.le_refl _, fun _ _ _ e => e⟩
theorem Bu.trans {h1 h2 : PHeap} (a : Bu n h h1) (b : Bu n h1 h2) : Bu n h h2 := ⟨Nat.le_trans a.len b.len, fun m c q e => b.keep m c q (a.keep m c q e)⟩
theorem Bu.of {ow' : Ow} {h' : PHeap} (s : Stp S0 ow h ow' h') : Bu n h h' := ⟨s.len, fun m c _ e => stp0 s m c e⟩
theorem Bu.set {c : Cell} : Bu n h (h.set n c) := ⟨by simp, fun m d q e => by rw [List.getElem?_set_ne (fun z => q z.symm)]; exact e⟩
section
variable {g ga : TgM} {a : ME} {ua : UE} {dc : PEnv → PHeap → Res (List Int)} {ud : PEnv → UR (List Int)} {kill : List Nat} {c : Nat} {t : Itr}
end
end
end Gb

namespace Gb
open PySem PySem.Spec PyProof.Rows L2
abbrev FnV := List (Str × (List D → PHeap → Res D))
def lookV {α : Type} (x : Str) : List (Str × α) → Option α
  | [] => none
  | p :: r => if x = p.1 then some p.2 else lookV x r
section
variable {X : Cx} {cl : CL} {W : WX} {k : Nat} {f : Addr} {fd : FuncData} {ps : List Str} {g : List D → PHeap → Res D} {x : Str} {p pos : Pos} {e : Expr} {es : List Expr} {ml : MA}
end
section
variable {X : Cx} {cl : CL} {W : WX} {ma : ME} {ml : MA} {o e : Expr}
end
inductive FVs : FnV → List (Str × UF) → Prop
  | nil : FVs [] []
  | cons {x : Str} {p : List D → PHeap → Res D} {F : UF} {ps : FnV} {Fs : List (Str × UF)} (h : FP false p F) (t : FVs ps Fs) : FVs ((x, p) :: ps) ((x, F) :: Fs)
theorem FVs.look {ps : FnV} {Fs : List (Str × UF)} (h : FVs ps Fs) {x : Str} {F : UF} (e : lookV x Fs = some F) : ∃ p, lookV x ps = some p ∧ FP false p F := by
  induction h with
  | nil => cases e
  | cons h t ih =>
    unfold lookV at e ⊢
    split at e
    · rename_i c
      cases e
      rw [if_pos c]
      exact ⟨_, rfl, h⟩
    · rename_i c
      rw [if_neg c]
      exact ih e
section
variable {S : Sx} {m : MA} {w : UA} {i : Nat}
end
end Gb

namespace Gb
open PySem PySem.Spec PyProof.Rows L2 SrtO
section
variable {α : Type} {k : α → Int}
end
def kw : Value → Int
  | .int i _ => i
  | .bool b => if b = true then 1 else 0
  | _ => 0
section
variable {prog : Program} {w : World} {A : Around} {E : Value → Shared → Prop} {s : Shared}
end
def kv : V → Int
  | .int i => i
  | .bl b => if b = true then 1 else 0
  | _ => 0
end Gb

namespace Gb
open PySem PySem.Spec PyProof.Rows L2
def kd : D → Int
  | .int i => i
  | .bl b => if b = true then 1 else 0
  | _ => 0
def tv : D → V
  | .int i => .int i
  | .bl b => .bl b
  | _ => .non
section
variable {K : PySem.W.Frag} {cl : CL} {io : List Addr} {H : Hp} {h : PHeap}
end
section
variable {X : Cx} {cl : CL} {W : WX} {e a : Expr} {mo : MO} {ma : ME} {p pos p2 q : Pos}
end
section
variable {S : Sx} {a : ME} {va : UE}
end
section
variable {v : PEnv} {a : UE}
end
end Gb

namespace Gb
open PySem PySem.Spec PyProof.Rows L2
structure ExcK (K : PySem.W.Frag) (C : Addr) : Prop where
  cls : (PySem.W.clsIn K C).isSome = true
  ga : PySem.W.findIn K (.ref C) "__getattribute__" = some (some (.builtin "BaseException.__getattribute__"))
  gt : (PySem.W.findIn K (.ref C) "__getattr__").isSome = true
  sub : PySem.W.subIn K (.ref C) (.type "BaseException") = some true
  ca : PySem.W.findIn K (.ref C) "__class__" = some (some (.builtin "object.__class__"))
  sp : PySem.W.specialIn K (.builtin "object.__class__") "__get__" = some (some (.builtin "getset_descriptor.__get__"))
  tk : PySem.W.takesIn K (.builtin "object.__class__") = some true
  mr : PySem.W.mroIn K C (.type "object") = some true
  ty : PySem.W.typeIn K (.ref C) = some (.type "type")
  kp : PySem.W.keepIn K (.ref C) = true
  ex : PySem.W.excIn K C [.type "ValueError", .type "Exception", .type "BaseException", .type "object"] "ValueError.__new__" = true
section
variable {X : Cx} {cl : CL} {W : WX} {pos p p2 p3 pos' : Pos} {x : Str}
def sRaise (c : Nat) : MS := fun env h => .exc (.int c) env h
theorem ss_raise (c : Nat) {m : Str} {j : Nat} (hc : X.calm = true) (tk : Takes X W) (gC : X.mg x = some (.ref (cl c))) (k : ExcK X.K (cl c)) (hg : Gl X x := by rfl) (hdb : (x == ("__debug__" : Str)) = false := by decide) :
    SS X cl W (.Raise (some (.Call (.Name x p) [.Constant (.str m) j p2] [] p3)) none pos) (sRaise c) :=
  (L2.ps_raise hc tk (L2.pmk_own PySem.F.excBase_ValueError k.ex gC k.kp (L2.raises_own k.sub k.ty) hg hdb)).imp fun D sg H ⟨env, h, io, E, hr, p⟩ => p _ _ io sg H .refl E hr ⟨rfl, rfl⟩
structure Hot (X : Cx) (a C : Addr) : Prop where
  pin : ∃ oe, (a, oe) ∈ X.pn ∧ oe.cls = .ref C ∧ oe.dict = none ∧ ∃ vs, oe.data = .fields vs
def rIsE (a : Addr) (K : PySem.W.Frag) (C : Addr) : List V → Hp → VK → Prop := fun xs H Q => ∃ (c : V) (u : Value) (b : Bool), xs = [.ref a, c] ∧ ClsV c u ∧ PySem.W.kitOne K (.ref C) u = some b ∧ Q (.bl b) H
theorem call_isE {a C : Addr} (ht : Hot X a C) (k : ExcK X.K C) : CallR X (.builtin "isinstance") (rIsE a X.K C) := by
  intro pins s σ H xs us Q I r h
  obtain ⟨c, u, b, rfl, kc, e, q⟩ := h
  obtain ⟨u1, u2, rfl, r1, r2⟩ := vals2 r
  have e2 := kc.eq r2
  subst e2
  cases (show u1 = Value.ref a from r1)
  obtain ⟨oe, hp, h1, h2, vs, h3⟩ := ht.pin
  obtain ⟨g, _⟩ := I.pin (a, oe) (List.mem_append_left _ hp)
  obtain ⟨gt, hgt⟩ := Option.isSome_iff_exists.mp k.gt
  refine PySem.W.kia_one (PySem.W.kitx_exc (x := a) (ox := oe) (od := none) k.cls k.ga hgt k.sub k.ca k.sp k.tk k.mr) I.kIn ⟨g, h1, ?_, ?_⟩ e (fun z => nomatch z) fun tk => ⟨.bl b, H, I.tok tk, rfl, q⟩
  · show PySem.W.notCls oe = true
    unfold PySem.W.notCls
    rw [h3]
  · rw [h2]
    trivial
end
end Gb

namespace Gb
open PySem PySem.Spec PyProof.Rows L2 LamX
abbrev noE : XK := fun _ _ _ => False
abbrev cxG (X : Cx) (Ng : List Str) (qg : Str) (sg : Scope) (g : Addr) (cdg : Value) (s : Shared) (H : Hp) : Cx := cxOf (L2.CX X.prog X.w) X.prog X.w X.K X.mg X.base Ng qg sg g cdg X.A X.stack s H noE
section
variable {X : Cx} {pins : List (Addr × Obj)} {σ : L2.St} {H HZ : Hp} {s s1 : Shared}
def LamO (X : Cx) (params : Arguments) (body : Expr) (scope : Scope) (c' : Addr) (pm ctv : Value) : HO := .frz (PySem.W.kla_obj "<lambda>" (X.env.qual ++ "<lambda>") params body scope (cloFrom X.env.cells scope.names []) pm c' ctv) (.own 0)
end
section
variable {X : Cx} {pins : List (Addr × Obj)} {σ : L2.St} {H : Hp} {s : Shared}
end
section
variable {X : Cx}
end
end Gb

namespace Gb
open PySem PySem.Spec PyProof.Rows L2 LamX
def mIsE (a : Addr) (b : Bool) (i : Nat) : ME := fun env h => match env[i]? with
  | some (some (.gl x)) => if x = adrS a then .ok (.bl b) h else .stuck
  | _ => .stuck
@[simp] theorem s_isE0 {a : Addr} {b : Bool} {env : PEnv} {h : PHeap} : mIsE a b 0 (some (.gl (adrS a)) :: env) h = .ok (.bl b) h := by simp [mIsE]
@[simp] theorem s_isES {a : Addr} {b : Bool} {i : Nat} {o : Option D} {env : PEnv} {h : PHeap} : mIsE a b (i + 1) (o :: env) h = mIsE a b i env h := by simp [mIsE]
section
variable {X : Cx} {cl : CL} {W : WX} {pos p p1 p2 p3 pos' : Pos} {x e : Str}
theorem isE_core {a C : Addr} {b : Bool} {u : Value} {v : V} {tc : Expr} (i : Nat) (ht : Hot X a C) (k : ExcK X.K C) (hc : PE X tc (tC v)) (kv : ClsV v u) (kb : PySem.W.kitOne X.K (.ref C) u = some b) (hm : X.mg "isinstance" = none)
    (hg : Gl X "isinstance") (hN : X.N[i]? = some e) (hv : Vis X.env.scope e) (hd : (e == ("__debug__" : Str)) = false) (hcd : (e == ("__classdict__" : Str)) = false)
    (hs : starEach [.Name e p1, tc] X.env = (false, eval (.Name e p1) X.env) :: starEach [tc] X.env) (hs2 : starEach [tc] X.env = (false, eval tc X.env) :: starEach [] X.env) (hpl : (backTo pos (starEach [tc] X.env)).any (·.1) = false) :
    SE X cl W (.Call (.Name "isinstance" p) [.Name e p1, tc] [] pos) (mIsE a b i) :=
  (pe_callB (call_isE ht k) hg hm (by decide +kernel) (pa_cons (pe_var (i := i) hN hv hd hcd) (pa_cons hc pa_nil hs2) hs) (by decide) (by decide) hs hpl).imp fun sg H Q ⟨env, h, io, E, hr, q⟩ => by
    unfold mIsE at q
    split at q
    · rename_i y ey
      split at q
      · rename_i eq
        subst eq
        obtain ⟨w, e1, r⟩ := E.get i _ ey
        rcases r with ⟨na, _⟩ | ⟨a', ea, rfl⟩
        · exact absurd rfl (na a)
        · have := adrS_inj ea
          subst this
          exact ⟨_, e1, v, u, b, rfl, kv, kb, q.here hr rfl⟩
      · exact q.elim
    · exact q.elim
theorem sd_isEo {a C Ct : Addr} (b : Bool) (i : Nat) (ht : Hot X a C) (k : ExcK X.K C) (gC : X.mg x = some (.ref Ct)) (kb : PySem.W.kitOne X.K (.ref C) (.ref Ct) = some b) (hm : X.mg "isinstance" = none) (hgx : Gl X x := by rfl) (hdx : (x == ("__debug__" : Str)) = false := by decide)
    (hg : Gl X "isinstance" := by rfl) (hN : X.N[i]? = some e := by rfl) (hv : Vis X.env.scope e := by first | exact Or.inl rfl | exact Or.inr (Or.inl rfl) | exact Or.inr (Or.inr rfl)) (hd : (e == ("__debug__" : Str)) = false := by decide) (hcd : (e == ("__classdict__" : Str)) = false := by decide)
    (hs : starEach [.Name e p1, .Name x p2] X.env = (false, eval (.Name e p1) X.env) :: starEach [.Name x p2] X.env := by rfl) (hs2 : starEach [.Name x p2] X.env = (false, eval (.Name x p2) X.env) :: starEach [] X.env := by rfl) (hpl : (backTo pos (starEach [.Name x p2] X.env)).any (·.1) = false := by rfl) :
    SE X cl W (.Call (.Name "isinstance" p) [.Name e p1, .Name x p2] [] pos) (mIsE a b i) := isE_core i ht k (pe_glob (v := .ref Ct) hgx gC rfl hdx) (.own Ct) kb hm hg hN hv hd hcd hs hs2 hpl
theorem sd_isEt {a C : Addr} {T : String} (b : Bool) (i : Nat) (ht : Hot X a C) (k : ExcK X.K C) (gT : X.mg x = none) (kb : PySem.W.kitOne X.K (.ref C) (.type T) = some b) (hm : X.mg "isinstance" = none) (hbt : bootBuiltins x = some (.type T) := by decide +kernel) (hgx : Gl X x := by rfl) (hdx : (x == ("__debug__" : Str)) = false := by decide) (hnn : x ≠ "__name__" := by decide)
    (hg : Gl X "isinstance" := by rfl) (hN : X.N[i]? = some e := by rfl) (hv : Vis X.env.scope e := by first | exact Or.inl rfl | exact Or.inr (Or.inl rfl) | exact Or.inr (Or.inr rfl)) (hd : (e == ("__debug__" : Str)) = false := by decide) (hcd : (e == ("__classdict__" : Str)) = false := by decide)
    (hs : starEach [.Name e p1, .Name x p2] X.env = (false, eval (.Name e p1) X.env) :: starEach [.Name x p2] X.env := by rfl) (hs2 : starEach [.Name x p2] X.env = (false, eval (.Name x p2) X.env) :: starEach [] X.env := by rfl) (hpl : (backTo pos (starEach [.Name x p2] X.env)).any (·.1) = false := by rfl) :
    SE X cl W (.Call (.Name "isinstance" p) [.Name e p1, .Name x p2] [] pos) (mIsE a b i) := isE_core i ht k (pe_bltn hgx gT hbt (v := .ty T) rfl hnn hdx) (.ty T) kb hm hg hN hv hd hcd hs hs2 hpl
end
section
variable {K : PySem.W.Frag} {cl : CL} {W W' : WX} {io : List Addr} {sg sg' : L2.St} {H H1 : Hp} {h : PHeap} {env : PEnv}
theorem postR.slots {α β : Type} {R : Hp → List Addr → Hp → α → β → Prop} {r : Res α} {Q : β → Hp → Prop} (p : postR R K cl W io sg H r Q) (k : ∀ c d H', W c d sg H' → W' c d sg' H') : postR R K cl W' io sg' H r Q := by
  cases r with
  | ok a h => exact p
  | exc e h => exact fun cls dd io' H' s r q => k _ _ _ (p cls dd io' H' s r q)
  | stuck => exact p
end
structure LamOK (X : Cx) (cl : CL) : Prop where
  ex : ∃ c P, TabB X.base X.mg c P ∧ X.env.code = .ref c ∧ (P, X.env.qual ++ "<lambda>") ∈ cl.T ∧ ∀ p ∈ cl.T, p.1 = P → p.2 = X.env.qual ++ "<lambda>"
section
variable {X : Cx} {cl : CL} {W : WX}
end
section
variable {X : Cx} {cl : CL} {Ng : List Str} {x a ge en ts : Str} {sg : Scope} {g CG : Addr} {cdg : Value} {q : Str} {b0 : Stmt} {suite : List Stmt} {n i : Nat} {su : Addr → Nat → MS} {wd : Nat → D} {gb : Nat → PHeap → PHeap} {p1 p2 p3 p4 p5 p6 p7 p8 p9 : Pos} {j j2 : Nat}
structure SuiteOk (X : Cx) (cl : CL) (Ng : List Str) (x : Str) (sg : Scope) (g : Addr) (cdg : Value) (suite : List Stmt) (n i : Nat) (su : Addr → Nat → MS) (wd : Nat → D) (gb : Nat → PHeap → PHeap) : Prop where
  walk : ∀ (s : Shared) (H : Hp) (a : Addr) (oe : Obj) (c : Nat) (pn : List (Addr × Obj)), c < n → Hot ((cxG X Ng x sg g cdg s H).suite a ((a, oe) :: pn)) a (cl c) → SB ((cxG X Ng x sg g cdg s H).suite a ((a, oe) :: pn)) cl WF suite (su a c)
  word : ∀ (a : Addr) (c : Nat) (h : PHeap), c < n → su a c ((List.replicate Ng.length none).set i (some (.gl (adrS a)))) h = .rt (wd c) (gb c h)
variable (hcg : sg.names.lookup ge = some .globalImplicit) (hmg : X.mg ge = some (.ref CG)) (hdg : (ge == ("__debug__" : Str)) = false) (hx : ∀ c, c < n → PySem.W.exmOne X.K (.ref (cl c)) (.ref CG) = some true) (hN : Ng.Nodup) (h0 : 1 ≤ Ng.length) (h00 : ∀ f : Addr, (L2.start Ng [V.ref f])[0]? = some (some (V.ref f)))
  (hi : Ng[i]? = some en) (hl : sg.names.lookup en = some .local)
include hcg hmg hdg hx hN h0 h00 hi hl
end
end Gb

namespace Gb
open PySem PySem.Spec PyProof.Rows L2 LamX
section
variable {S : Sx} {m : ME} {w : UE}
end
section
variable {v : PEnv} {w : UE} {c : Nat} {n : Nat} {told : D → D} {wd : Nat → D} {s : US} {d : D}
end
section
variable {X : Cx} {cl : CL} {W : WX} {ma : ME} {o : Expr} {b : Bool} {j : Nat} {bp : Pos}
end
def CodeOf (K : PySem.W.Frag) (f : Addr) (cdv : Value) : Prop := ∃ (o : Obj) (fd : FuncData), K.lookup f = some o ∧ o.data = .func fd ∧ fd.code = cdv
theorem CodeOf.one {K : PySem.W.Frag} {f : Addr} {a b : Value} (x : CodeOf K f a) (y : CodeOf K f b) : a = b := by
  obtain ⟨o, fd, h1, h2, h3⟩ := x
  obtain ⟨o', fd', g1, g2, g3⟩ := y
  rw [h1] at g1
  cases g1
  rw [h2] at g2
  cases g2
  exact h3.symm.trans g3
section
variable {P : Program} {w : World} {K : PySem.W.Frag} {mg : Str → Option Value} {base : Heap} {cl : CL}
end
end Gb

namespace Gb
open PySem PySem.Spec PyProof.Rows L2 LamX
abbrev tblO (vs : Array Value) : Obj := { cls := .none, data := .fields vs }
theorem end_tabs {P : Program} {w : World} {K : PySem.W.Frag} {mg mb : Str → Option Value} {k : Nat} {fa a : Addr} {fd : FuncData} {x : Str} {sp : Sp} {s₁ : Shared} {vs : List Value} {ts : List (Addr × Addr)}
    (KX : K.In s₁.heap) (hns : s₁.heap.Ns mainGlobals mg) (hb : s₁.heap.Ns builtinsNs mb) (hbb : ∀ x : Str, x ≠ "__name__" → mb x = bootBuiltins x) (hlim : s₁.heap.NoLimit) (hg : s₁.gens = #[])
    (hT : ∀ p ∈ ts, s₁.heap.get? p.2 = some (tblO #[])) (nT : ∀ p ∈ ts, K.lookup p.2 = none) (hC : ∀ p ∈ ts, PySem.W.CodeHd s₁.heap p.1 p.2)
    (hbm : ∃ (bm : Addr) (ob : Obj), mg "__builtins__" = some (.ref bm) ∧ bm ≠ builtinsNs ∧ s₁.heap.get? bm = some ob ∧ ob.cls = .type "module" ∧ ob.dict = some builtinsNs ∧ ob.data = .plain)
    (ha : s₁.heap.get? a = some { cls := .type "list", data := .seq vs.toArray }) (hr : Room k callerA)
    (F : ∀ base : Heap, K.In base → base.Ns mainGlobals mg → (∀ p ∈ ts, TabB base mg p.1 p.2) → FnG P w K mg base k fa fd [x] sp) (hbind : ∀ (s : Shared) (u : Value), BindsTo s fd ⟨[u], []⟩ [(x, u)])
    (H : Hp) (hsp : sp [.ref a] H (fun v _ => v = .bl true) fun _ _ _ => False) (hok : HOk P w H s₁.heap) (hH : ∀ p ∈ ts, H p.2 = some (.tbl #[]))
    (hO : ∀ b, H b = none ∨ b ∈ ts.map (·.2) ∨ (b = a ∧ K.lookup a = none ∧ ∃ o xs, H b = some (.frz o (.lst xs)))) :
    codeAny (model P w) callerA (.call (.ref fa) ⟨[.ref a], []⟩) (fun r s' => r = .ok (.ret (.bool true)) ∧ OldK s₁.heap s'.heap ∧ s'.os = s₁.os ∧ AllBare s'.gens) s₁ := by
  have tab : ∀ b, b ∈ ts.map (·.2) → s₁.heap.get? b = some (tblO #[]) := fun b m => (let ⟨p, hp, e⟩ := List.mem_map.mp m; e ▸ hT p hp)
  -- what is neither a table nor the script is untracked
  have out : ∀ {b : Addr} {o : Obj}, s₁.heap.get? b = some o → (∀ u n, o.data ≠ .seq u n) → o.data ≠ .fields #[] → H b = none := fun {b o} e n1 n2 => by
    rcases hO b with z | z | ⟨z, _⟩
    · exact z
    · rw [tab b z] at e
      exact absurd (congrArg Obj.data (Option.some.inj e)).symm n2
    · rw [z, ha] at e
      exact absurd (congrArg Obj.data (Option.some.inj e)).symm (n1 _ _)
  have keepB : ∀ {b : Addr} {o : Obj}, s₁.heap.get? b = some o → (∀ u n, o.data ≠ .seq u n) → o.data ≠ .fields #[] → (hidT s₁.heap H).get? b = some o := fun e n1 n2 => hidT_get e (out e n1 n2)
  have nsK : ∀ {b : Addr} {m : Str → Option Value}, s₁.heap.Ns b m → (hidT s₁.heap H).Ns b m := fun ⟨o, es, ep, e, d, r⟩ => ⟨o, es, ep, keepB e (fun u n z => by rw [d] at z; cases z) (fun z => by rw [d] at z; cases z), d, r⟩
  have hKb : K.In (hidT s₁.heap H) := fun b o e => hidT_get (KX b o e) (by
    rcases hO b with z | z | ⟨z, y, _⟩
    · exact z
    · obtain ⟨p, hp, e2⟩ := List.mem_map.mp z
      rw [← e2, nT p hp] at e; cases e
    · rw [z, y] at e; cases e)
  have gNs : ∀ {b : Addr} {ob : Obj}, s₁.heap.get? b = some ob → (∀ es ep, ob.data ≠ .dict es ep) → b ≠ mainGlobals := fun {b ob} e n z => by
    obtain ⟨o, es, ep, e2, d, _⟩ := hns
    rw [z, e2] at e
    cases e
    exact n es ep d
  have TB : ∀ p ∈ ts, TabB (hidT s₁.heap H) mg p.1 p.2 := fun p hp => by
    have hTp := hT p hp
    refine ⟨?_, ?_, fun z => gNs hTp (fun es ep y => by cases y) z.symm⟩
    · obtain ⟨o, us, fl, tf, fg, tg, inF, tx, tt, e1, r1, r2, r3, rest⟩ := hC p hp
      exact ⟨o, us, fl, tf, fg, tg, inF, tx, tt, keepB e1 (fun u n z => by rw [r2] at z; cases z) (fun z => by rw [r2] at z; cases z; simp at r3), r1, r2, r3, rest⟩
    · obtain ⟨bm, ob, b1, b2, b3, b4, b5, b6⟩ := hbm
      exact ⟨bm, ob, b1, b2, gNs b3 (fun es ep y => by rw [b6] at y; cases y), fun q => (by rw [q, hTp] at b3; cases b3; cases b6), keepB b3 (fun u n z => by rw [b6] at z; cases z) (fun z => by rw [b6] at z; cases z), b4, b5, b6⟩
  have e0 : Env0 P w K mg (hidT s₁.heap H) callerA [] s₁ H := ⟨rfl, ⟨hKb, nsK hns, ⟨mb, nsK hb, hbb⟩, (let ⟨mc, h1, h2⟩ := hlim; ⟨mc, nsK h1, h2⟩)⟩, fun b o e => of_hidT e, Nat.le_of_eq (hidT_size _ _), trivial, fun b m => (by cases m), hok, .of_eq hg⟩
  refine codeAny_mono ((F _ hKb (nsK hns) TB).run callerA [] s₁ H ⟨[.ref a], []⟩ [.ref a] [.ref a] _ _ hr rfl e0 (hbind s₁ (.ref a)) (.cons rfl .nil) hsp) fun r s' h => ?_
  have ends : ∃ u v H', r = .ok (.ret u) ∧ s'.os = s₁.os ∧ AllBare s'.gens ∧ Un (frs []) [] H H' s₁.heap s'.heap ∧ HOk P w H' s'.heap ∧ L2.RelV v u ∧ v = V.bl true := by
    cases r with
    | error e => obtain ⟨_, _, _, _, _, _, _, _, _, _, _, _, z⟩ := h; exact z.elim
    | ok fl => cases fl with
      | ret u => obtain ⟨v, H', os, bare, un, hok', r', q⟩ := h; exact ⟨u, v, H', rfl, os, bare, un, hok', r', q⟩
      | next => exact False.elim h
      | brk => exact False.elim h
      | cont => exact False.elim h
  obtain ⟨u, v, H', rfl, os, bare, un, hok', r', q⟩ := ends
  have q' : v = .bl true := q
  subst q'
  obtain rfl : u = Value.bool true := r'
  have same : ∀ b o, b ∉ ts.map (·.2) → s₁.heap.get? b = some o → s'.heap.get? b = some o := fun b o nb e => by
    rcases hO b with z | z | ⟨_, _, ob, xs, z⟩
    · exact un.keep b o e z (by intro m; cases m) (by simp)
    · exact absurd z nb
    · obtain ⟨e1, _⟩ := hok b _ z
      obtain ⟨e2, _⟩ := hok' b _ (un.frzs b ob _ z)
      rw [e] at e1; cases e1
      exact e2
  refine ⟨rfl, ⟨fun b o e => ?_, fun b o e => ?_⟩, os, bare⟩
  · by_cases m : b ∈ ts.map (·.2)
    · obtain ⟨p, hp, ep⟩ := List.mem_map.mp m
      obtain ⟨more, z⟩ := un.tbls p.2 #[] (hH p hp)
      have hm := hok' p.2 _ z
      rw [← ep] at e ⊢
      rw [hT p hp] at e
      cases e
      exact .inr (.inl ⟨((hC p hp).tab (hT p hp)).isCodeTable, rfl, #[], more, rfl, hm⟩)
    · exact .inl (same b o m e)
  · by_cases m : b ∈ ts.map (·.2)
    · obtain ⟨p, hp, ep⟩ := List.mem_map.mp m
      obtain ⟨more, z⟩ := un.tbls p.2 #[] (hH p hp)
      rw [← ep]
      exact ⟨_, hok' p.2 _ z⟩
    · exact ⟨o, same b o m e⟩
theorem walkT {l : PySem.W.OpenLaw} {q : Program} {loose : List Str} {XP : (Str → Option Value) → Heap → Prop} {YP : World → Heap → Prop} {d : DefRec} {K : Params → PySem.W.Frag} {x : Str} {kk : Nat} {cl : World → CL} {ts : World → List (Addr × Addr)} {g : List D → PHeap → Res D} (hn : l.most = some 63) (hdf : d.params.defaults = []) (hr : Room kk callerA)
    (hY : ∀ (w : World) (h : Heap), YP w h → (K w.params).In h) (hTab : ∀ (w : World) (h : Heap), YP w h → ∀ p ∈ ts w, h.get? p.2 = some (tblO #[]))
    (hC : ∀ w, ∀ p ∈ ts w, PySem.W.codeHdIn (K w.params) p.1 p.2 = true) (nT : ∀ w, ∀ p ∈ ts w, (K w.params).lookup p.2 = none) (c1 : ∀ w, (cl w).T.map (·.1) = (ts w).map (·.2))
    (F : ∀ (w : World) (mg : Str → Option Value) (fa : Addr) (h : Heap), (K w.params).In h → h.Ns mainGlobals mg → mg d.name = some (.ref fa) →
      ∃ fd : FuncData, (∀ (s : Shared) (u : Value), BindsTo s fd ⟨[u], []⟩ [(x, u)]) ∧ ∀ base : Heap, (K w.params).In base → base.Ns mainGlobals mg → (∀ p ∈ ts w, TabB base mg p.1 p.2) → FnG l.prog w (K w.params) mg base kk fa fd [x] (spOf (K w.params) (cl w) g))
    (hlaw : ∀ ns : List Int, ns.length ≤ 63 → ∃ h, g [.fro (ns.map .int)] [] = .ok (.bl true) h) :
    PySem.W.WalkO q loose XP YP l.row.toRowW d [] (fun f vs => PySem.call f vs) := by
  refine Att.attach_call hn hdf fun w s₀ s₁ mg mb fa o pm cd doc a vs ns G Y ho hd hcd hmg hobj hints hlen hg => ?_
  have KX := hY w _ Y
  obtain ⟨fd, hb, hF⟩ := F w mg fa _ KX G.T.g hmg
  have rv := vals_ints hints
  have lenV := hints.length
  have hz : ns.length ≤ sizeLine := Nat.le_trans hlen (by decide)
  have hT := hTab w _ Y
  have aT : a ∉ (ts w).map (·.2) := fun z => by
    obtain ⟨p, hp, e⟩ := List.mem_map.mp z
    have := hT p hp
    rw [e, hobj] at this
    cases this
  obtain ⟨H, hH⟩ : ∃ H : Hp, H = fun b => if b = a ∧ (K w.params).lookup a = none then some (HO.frz { cls := .type "list", data := .seq vs.toArray } (.lst (ns.map V.int))) else if b ∈ (ts w).map (·.2) then some (.tbl #[]) else none := ⟨_, rfl⟩
  have atT : ∀ b, b ∈ (ts w).map (·.2) → H b = some (.tbl #[]) := fun b m => by
    have na : b ≠ a := fun z => aT (by rw [← z]; exact m)
    rw [hH]
    show (if b = a ∧ _ then _ else _) = _
    rw [if_neg (fun z => na z.1), if_pos m]
  have kinds : ∀ b, H b = none ∨ b ∈ (ts w).map (·.2) ∨ (b = a ∧ (K w.params).lookup a = none ∧ H b = some (HO.frz { cls := .type "list", data := .seq vs.toArray } (.lst (ns.map V.int)))) := fun b => by
    by_cases c1 : b = a ∧ (K w.params).lookup a = none
    · exact .inr (.inr ⟨c1.1, c1.2, by rw [hH]; exact if_pos c1⟩)
    · by_cases c2 : b ∈ (ts w).map (·.2)
      · exact .inr (.inl c2)
      · refine .inl ?_
        rw [hH]
        show (if b = a ∧ _ then _ else _) = _
        rw [if_neg c1, if_neg c2]
  have tb1 : Tabs (cl w).T H := fun p hp => .nil (atT _ (by rw [← c1 w]; exact List.mem_map_of_mem hp))
  have tb2 : ∀ b ps, H b = some (.tbl ps) → ∃ q, (b, q) ∈ (cl w).T := fun b ps e => by
    rcases kinds b with z | z | ⟨_, _, z⟩
    · rw [z] at e; cases e
    · rw [← c1 w] at z
      obtain ⟨p, hp, e2⟩ := List.mem_map.mp z
      exact ⟨p.2, by rw [← e2]; exact hp⟩
    · rw [z] at e; cases e
  have fro : FroL (K w.params) H a (.l (ns.map V.int)) := by
    cases hk : (K w.params).lookup a with
    | some ob =>
      have e := KX a ob hk
      rw [hobj] at e
      cases e
      exact .inr ⟨_, vs.toArray, _, hk, rfl, rfl, rfl, by rw [List.size_toArray, lenV]; exact hz, by simpa using rv⟩
    | none => exact .inl ⟨_, by rw [hH]; exact if_pos ⟨rfl, hk⟩⟩
  refine end_tabs KX G.T.g G.T.b G.T.builtins G.T.nolimit hg hT (nT w) (fun p hp => PySem.W.codeHd_of_K KX (hC w p hp)) G.T.bmain hobj hr hF hb H (sp_end fro tb1 tb2 (hlaw ns hlen)) (fun b u e => ?_) (fun p hp => atT _ (List.mem_map_of_mem hp)) fun b => ?_
  · rcases kinds b with z | z | ⟨z, _, y⟩
    · rw [z] at e; cases e
    · rw [atT b z] at e
      cases e
      obtain ⟨p, hp, e2⟩ := List.mem_map.mp z
      rw [← e2]
      exact hT p hp
    · rw [y] at e
      cases e
      subst z
      exact ⟨hobj, by rw [List.length_map]; exact hz, vs, _, rv, hobj⟩
  · rcases kinds b with z | z | ⟨z, y1, y2⟩
    · exact .inl z
    · exact .inr (.inl z)
    · exact .inr (.inr ⟨z, y1, _, _, y2⟩)
end Gb

namespace Gb
open PySem PySem.Spec PyProof.Rows L2 LamX
def clA (K : PySem.W.Frag) (x : Str) : Addr := match PySem.W.nsIn K mainGlobals x with | some (some (.ref a)) => a | _ => 0
def codeA (K : PySem.W.Frag) (x : Str) : Addr := match K.lookup (clA K x) with | some ⟨_, _, .func fd, _⟩ => (match fd.code with | .ref c => c | _ => 0) | _ => 0
def tabA (K : PySem.W.Frag) (x : Str) : Addr := match K.lookup (codeA K x) with | some ⟨_, _, .fields vs, _⟩ => (match (vs[11]? : Option Value) with | some (.ref P) => P | _ => 0) | _ => 0
def lamQ (n : Str) : Str := n ++ ".<locals>." ++ "<lambda>"
def clOf (K : PySem.W.Frag) (cs ls : List Str) : CL := ⟨fun k => clA K (cs.getD k ""), ls.map fun n => (tabA K n, lamQ n)⟩
structure LamAt (K : PySem.W.Frag) (mg : Str → Option Value) (base : Heap) (cl : CL) (n : Str) : Prop where
  ex : ∃ f c P, mg n = some (.ref f) ∧ CodeOf K f (.ref c) ∧ TabB base mg c P ∧ (P, lamQ n) ∈ cl.T ∧ ∀ p ∈ cl.T, p.1 = P → p.2 = lamQ n
structure MarkAt (K : PySem.W.Frag) (mg : Str → Option Value) (cl : CL) (n : Nat) (x : Str) (is : Nat → Bool) : Prop where
  ex : ∃ Ct, mg x = some (.ref Ct) ∧ ∀ c, c < n → PySem.W.kitOne K (.ref (cl c)) (.ref Ct) = some (is c)
theorem below_one {p : Nat → Prop} (h : p 0) : ∀ c, c < 1 → p c := fun c l => by cases c with | zero => exact h | succ c => omega
end Gb

namespace Gb
open PySem PySem.Spec PyProof.Rows L2 LamX
structure HotP (a C : Addr) (p : Addr × Obj) : Prop where
  at_ : p.1 = a
  cls : p.2.cls = .ref C
  dct : p.2.dict = none
  fld : ∃ vs, p.2.data = .fields vs
structure FnW (P : Program) (w : World) (K : PySem.W.Frag) (mg : Str → Option Value) (base : Heap) (k : Nat) (f : Addr) (fd : FuncData) (ps : List Str) (a C : Addr) (sp : Sp) : Prop where
  len : ∀ vs H Q E, sp vs H Q E → vs.length = ps.length
  go : ∀ (A : Around) (outer : List Env) (s : Shared) (H : Hp) (args : Args) (us : List Value) (vs : List V) (Q : VK) (p : Addr × Obj), L2H.RoomH k A → HotP a C p → L2H.PinOk outer H s p → Env0 P w K mg base A outer s H → BindsTo s fd args (ps.zip us) → Vals vs us →
    sp vs H Q noE → codeAny (model P w) A (.call (.ref f) args) (CR (L2.CX P w) outer P w H s Q noE) s
theorem FnW.mono {P : Program} {w : World} {K : PySem.W.Frag} {mg : Str → Option Value} {base : Heap} {j k : Nat} {f : Addr} {fd : FuncData} {ps : List Str} {a C : Addr} {sp : Sp} (F : FnW P w K mg base j f fd ps a C sp) (h : j ≤ k) : FnW P w K mg base k f fd ps a C sp :=
  ⟨F.len, fun A outer s H args us vs Q p hr => F.go A outer s H args us vs Q p (hr.mono h)⟩
section
variable {P : Program} {w : World} {K : PySem.W.Frag} {mg : Str → Option Value} {base : Heap} {cl : CL}
end
section
variable {X : Cx} {cl : CL} {W : WX} {k : Nat} {f a C : Addr} {fd : FuncData} {ps : List Str} {g : List D → PHeap → Res D} {x : Str} {p pos : Pos} {e : Expr} {es : List Expr} {ml : MA}
end
section
variable {X : Cx} {cl : CL} {W : WX} {a b c : Expr} {ma mb mc : ME} {pos : Pos}
end
end Gb

namespace Gb
open PySem PySem.Spec PyProof.Rows L2
section
variable {K : PySem.W.Frag} {io : List Addr} {H : Hp}
theorem RepF.uncons {g : Str} {x : D} {fs : List (Str × D)} {vs : List (Str × V)} (r : RepF K io H ((g, x) :: fs) vs) : ∃ y vs', vs = (g, y) :: vs' ∧ Rep K io H x y ∧ RepF K io H fs vs' := by
  obtain ⟨e, r⟩ := r
  cases vs with
  | nil => simp at e
  | cons p vs' =>
    obtain ⟨g', y⟩ := p
    simp only [List.map_cons, List.cons.injEq] at e
    obtain ⟨rfl, e⟩ := e
    obtain ⟨v, r', e2, h1, h2⟩ := (show RepL K io H (x :: fs.map (·.2)) (y :: vs'.map (·.2)) from r)
    cases e2
    exact ⟨y, vs', rfl, h1, e, h2⟩
theorem RepF.look {f : Str} {d : D} : ∀ {fs : List (Str × D)} {vs : List (Str × V)}, RepF K io H fs vs → fs.lookup f = some d → ∃ v, vs.lookup f = some v ∧ Rep K io H d v
  | [], _, _, e => by cases e
  | (g, x) :: fs, vs, r, e => by
    obtain ⟨y, vs', rfl, h1, h2⟩ := r.uncons
    rw [List.lookup_cons] at e ⊢
    cases q : f == g with
    | true => rw [q] at e; cases e; exact ⟨y, rfl, h1⟩
    | false => rw [q] at e; exact RepF.look h2 e
theorem RepF.len {fs : List (Str × D)} {vs : List (Str × V)} (r : RepF K io H fs vs) : fs.length = vs.length := by
  have := congrArg List.length r.1
  simpa using this
end
section
variable {X : Cx} {cl : CL} {W : WX} {c k : Nat} {f m : Str} {o e v : Expr} {es : List Expr} {mo mv : ME} {ml : MA} {pos pos' apos np : Pos}
end
section
variable {X : Cx} {cl : CL} {W : WX} {c k : Nat} {f C : Addr} {fd : FuncData} {ps : List Str} {sp : Sp} {g : List D → PHeap → Res D} {x m : Str} {p pos apos : Pos} {e o : Expr} {es : List Expr} {mo : ME} {ml : MA} {ta : TE} {t : TA}
end
end Gb

namespace Gb
open PySem PySem.Spec PyProof.Rows L2
inductive TgX where
  | name (i : Nat)
  | fld (c : Nat) (f : Str) (o : ME)
section
variable {X : Cx} {cl : CL} {W : WX} {c i : Nat} {f x : Str} {o e : Expr} {es : List Expr} {mo ma : ME} {gs : List TgX} {pos pos' : Pos} {to : TE}
end
end Gb

namespace Gb
open PySem PySem.Spec PyProof.Rows L2 LamX
theorem walkI {l : PySem.W.OpenLaw} {q : Program} {loose : List Str} {XP : (Str → Option Value) → Heap → Prop} {YP : World → Heap → Prop} {d : DefRec} {K : Params → PySem.W.Frag} {x : Str} {kk : Nat} {g : List D → PHeap → Res D} (cs : List Str) (hn : l.most = some 63) (hdf : d.params.defaults = []) (hr : Room kk callerA)
    (hY : ∀ (w : World) (h : Heap), YP w h → (K w.params).In h)
    (F : ∀ (w : World) (mg : Str → Option Value) (fa : Addr) (h : Heap), (K w.params).In h → h.Ns mainGlobals mg → mg d.name = some (.ref fa) →
      ∃ fd : FuncData, (∀ (s : Shared) (u : Value), BindsTo s fd ⟨[u], []⟩ [(x, u)]) ∧ ∀ base : Heap, (K w.params).In base → base.Ns mainGlobals mg → FnG l.prog w (K w.params) mg base kk fa fd [x] (spOf (K w.params) (clOf (K w.params) cs []) g))
    (hlaw : ∀ ns : List Int, ns.length ≤ 63 → ∃ h, g [.fro (ns.map .int)] [] = .ok (.bl true) h) :
    PySem.W.WalkO q loose XP YP l.row.toRowW d [] (fun f vs => PySem.call f vs) := by
  refine walkT (K := K) (x := x) (cl := fun w => clOf (K w.params) cs []) (ts := fun _ => []) hn hdf hr hY (fun w h Y p hp => by cases hp) (fun w p hp => by cases hp) (fun w p hp => by cases hp) (fun w => rfl) (fun w mg fa h KX G hmg => ?_) hlaw
  obtain ⟨fd, hb, hF⟩ := F w mg fa h KX G hmg
  exact ⟨fd, hb, fun base a b _ => hF base a b⟩
end Gb

namespace Gb
open PySem L2
theorem fp_gnd {p : List D → PHeap → Res D} {F : UF} {us : List D} {u : D} (k : FP false p F) (e : F us = .ok u) (hu : D.gndL us = true) (gu : D.gnd u = true) (h : PHeap) : ∃ h', p us h = .ok u h' ∧ Pass h h' := by
  have := k (fun _ => False) h us us (fun _ q => q.elim) (gndL_den us hu)
  rw [e] at this
  obtain ⟨d, h', e1, e2, e3⟩ := this
  have := den_gnd u d gu e3
  subst this
  exact ⟨h', e1, e2⟩
theorem Pass.n {h h' : PHeap} (p : Pass h h') (q : Nat) : PassN q h h' := ⟨p.1, fun m c _ e => p.2 m c e⟩
theorem Pass.refl {h : PHeap} : Pass h h := ⟨Nat.le_refl _, fun _ _ e => e⟩
theorem Pass.trans {h h1 h2 : PHeap} (a : Pass h h1) (b : Pass h1 h2) : Pass h h2 := ⟨Nat.le_trans a.1 b.1, fun m c e => b.2 m c (a.2 m c e)⟩
theorem PassN.refl {q : Nat} {h : PHeap} : PassN q h h := ⟨Nat.le_refl _, fun _ _ _ e => e⟩
theorem PassN.trans {q : Nat} {h h1 h2 : PHeap} (a : PassN q h h1) (b : PassN q h1 h2) : PassN q h h2 := ⟨Nat.le_trans a.1 b.1, fun m c n e => b.2 m c n (a.2 m c n e)⟩
theorem PassN.gc {q : Nat} {h h1 : PHeap} {d : D} (p : PassN q h h1) : PassN q h (gc h.length d h1) := ⟨gc_len p.1, fun m c hm e => gc_get (get_lt e) (p.2 m c hm e)⟩
theorem Pass.gc {h h1 : PHeap} {d : D} (p : Pass h h1) : Pass h (gc h.length d h1) := ⟨gc_len p.1, fun m c e => gc_get (get_lt e) (p.2 m c e)⟩
theorem Pass.app {h l : PHeap} : Pass h (h ++ l) := ⟨by simp, fun _ _ e => get_app e⟩
theorem live_nil {t : Itr} {h : PHeap} (ht : t.deps = []) : t.live h = true := by unfold Itr.live; rw [ht]; rfl
theorem forL_fold {γ : Type} {g : TgM} {body : MS} {kill : List Nat} {t : Itr} (ht : t.deps = []) (E : γ → PEnv) (P : γ → PHeap → Prop) (f : γ → D → γ) : ∀ (ds : List D) (a : γ) (env : PEnv) (h : PHeap), wipeE env kill = E a → P a h →
    (∀ a h d, d ∈ ds → P a h → ∃ e1 env' h', g.set d (E a) = some e1 ∧ (body e1 h = .nx env' h' ∨ body e1 h = .ct env' h') ∧ wipeE env' kill = E (f a d) ∧ P (f a d) h') →
    ∃ h', forL g body kill t ds env h = .nx (E (ds.foldl f a)) h' ∧ P (ds.foldl f a) h'
  | [], a, env, h, e, p, _ => ⟨h, by rw [forL, if_pos (live_nil ht), e]; rfl, p⟩
  | d :: ds, a, env, h, e, p, step => by
    obtain ⟨e1, env', h', q1, q2, q3, q4⟩ := step a h d (List.mem_cons_self ..) p
    obtain ⟨h2, r1, r2⟩ := forL_fold ht E P f ds (f a d) env' h' q3 q4 fun a h x m => step a h x (List.mem_cons_of_mem _ m)
    refine ⟨h2, ?_, r2⟩
    rw [forL, if_pos (live_nil ht), e, q1]
    rcases q2 with q2 | q2
    · simp only [q2]; exact r1
    · simp only [q2]; exact r1
end Gb

namespace Gb
open PySem PySem.Spec PyProof.Rows L2
theorem _root_.L2.PK.imp {X : Cx} {e : List Keyword} {t t' : TA} (h : PK X e t) (k : ∀ sg H Q, t' sg H Q → t sg H Q) : PK X e t' := ⟨fun pos pins s sg H Q I q => h.run pos pins s sg H Q I (k _ _ _ q)⟩
structure KBd (K : PySem.W.Frag) (fd : FuncData) (ps : List Str) (n : Nat) (ks : List Str) (dv : List D) : Prop where
  ex : ∃ (dus : List Value) (dvs : List V), Vals dvs dus ∧ (∀ io H, RepL K io H dv dvs) ∧ ∀ (s : Shared) (us ws : List Value), K.In s.heap → us.length = n → ws.length = ks.length → BindsTo s fd ⟨us, ks.zip ws⟩ (ps.zip (us ++ (ws ++ dus)))
section
variable {X : Cx} {cl : CL} {W : WX} {k n : Nat} {f : Addr} {fd : FuncData} {ps ks : List Str} {dv : List D} {g : List D → PHeap → Res D} {x : Str} {p pos kpos : Pos} {e : Expr} {es : List Expr} {kws : List Keyword} {ma : ME} {ml mk mw : MA} {nm : Option Str}
end
end Gb

namespace Gb
open PySem PySem.Spec PyProof.Rows L2
def DfD (K : PySem.W.Frag) (dV : Value) (dv : List D) : Prop := (dv = [] ∧ dV = .none) ∨ ∃ (T : Addr) (o : Obj) (its : List Value) (n : Nat) (dvs : List V), dv ≠ [] ∧ dV = .ref T ∧ K.lookup T = some o ∧ o.data = .seq its.toArray n ∧ Vals dvs its ∧ ∀ io H, RepL K io H dv dvs
def KwD (K : PySem.W.Frag) (kV : Value) (kv : List (Str × D)) : Prop := kv = [] ∨ ∃ (A : Addr) (kws : List (Str × V)), kV = .ref A ∧ kws.map (·.1) = kv.map (·.1) ∧ (∀ q ∈ kws, ∃ u, PySem.W.nsIn K A q.1 = some (some u) ∧ RelV q.2 u) ∧ ∀ io H, RepL K io H (kv.map (·.2)) (kws.map (·.2))
structure FunE (K : PySem.W.Frag) (x qual : Str) (st : Stmt) (dv : List D) (kv : List (Str × D)) (f : Addr) (fd : FuncData) : Prop where
  ex : ∃ (oc : Value) (od : Option Addr) (dV kV doc pm : Value) (an : Option Addr) (cdv ct : Value) (osl : Array (Option Value)),
    fd = PySem.W.fnOf x qual (defArgs st) (defBody st) (defScope st) dV kV doc pm an cdv ct ∧ K.lookup f = some ⟨oc, od, .func fd, osl⟩ ∧ PySem.W.codeIn K cdv qual = true ∧ DfD K dV dv ∧ KwD K kV kv
  kp : PySem.W.keepIn K (.ref f) = true
section
variable {P : Program} {w : World} {K : PySem.W.Frag} {mg : Str → Option Value} {base : Heap} {cl : CL} {x qual : Str} {st : Stmt} {f : Addr} {fd : FuncData} {N ps : List Str} {dv : List D} {kv : List (Str × D)}
end
end Gb

namespace Gb
open PySem PySem.Spec PyProof.Rows L2
section
variable {X : Cx} {cl : CL} {W : WX} {pos : Pos}
theorem sd_gcs {x s : Str} (hg : Gl X x) (h : ∃ u, X.mg x = some u ∧ RelV (V.str s) u) (hd : (x == ("__debug__" : Str)) = false := by decide) : SE X cl W (.Name x pos) (mC (.str s)) := by
  obtain ⟨u, h1, h2⟩ := h
  exact (pe_glob hg h1 h2 hd).imp fun sg H Q ⟨env, h, io, E, hr, p⟩ => p.here hr rfl
end
section
variable {X : Cx} {cl : CL} {W : WX} {c k : Nat} {f C : Addr} {fd : FuncData} {ps : List Str} {sp : Sp} {g : List D → PHeap → Res D} {m : Str} {pos apos : Pos} {o : Expr} {mo : ME} {ta : TE}
end
end Gb

namespace Gb
open PySem L2 PySem.Spec PyProof.Rows PySem.W
def PartR (K : PySem.W.Frag) (H : Hp) (v : V) (d : PyData) : Prop := Dt K H v d ∨ (Dp K H v d ∧ d.hasDict = false)
section
variable {X : Cx} {pins : List (Addr × Obj)} {σ : L2.St} {H : Hp} {s : Shared}
theorem PartR.reads (I : Inv X pins σ H s) {v : V} {d : PyData} {u : Value} (h : PartR X.K H v d) (r : RelV v u) : ∃ as, Reads s.heap u d as ∧ (d.hasDict = true → sysModules ∉ as) := by
  rcases h with h | ⟨h, n⟩
  · obtain ⟨as, q, n⟩ := Dt.reads I d v u h r
    exact ⟨as, q, fun _ => n⟩
  · obtain ⟨as, q⟩ := Dp.reads I d v u h r
    exact ⟨as, q, fun z => by rw [n] at z; cases z⟩
end
section
variable {K : PySem.W.Frag} {cl : CL} {io : List Addr} {H : Hp} {h : PHeap}
end
section
variable {X : Cx} {cl : CL} {W : WX} {e : Expr} {mo : MO} {p pos : Pos}
end
def pieceU (u : D) : Option PyData := if u.okT then some (pyX u) else if u.dep ≤ 60 ∧ (pyU u).hasDict = false then some (pyU u) else none
structure PtL (n : Nat) (us : List D) (ps : List PyData) : Prop where
  t : travO pieceU us = some ps
  l : PyData.leavesShortAll 13 ps = true
  s : PyData.showableAll ps = true
  b : PyData.bulkAll ps ≤ n
  d : PyData.depthAll ps ≤ 60
theorem PtL.nil : PtL 0 [] [] := ⟨rfl, rfl, rfl, Nat.le_refl _, by simp [PyData.depthAll]⟩
end Gb

namespace Gb
open PySem L2 PySem.Spec PyProof.Rows
def MkT (m : Nat) : Prop := ∃ n, 3 ≤ n ∧ n ≤ 13 ∧ m + 1 = 2 ^ n
theorem MkT.le {m : Nat} (h : MkT m) : m ≤ 8191 := by
  obtain ⟨n, h1, h2, e⟩ := h
  have : 2 ^ n ≤ 2 ^ 13 := Nat.pow_le_pow_right (by decide) h2
  omega
def fiv : Nat → Nat
  | 0 => 0
  | k + 1 => 5 * fiv k + 1
theorem fiv_add (a : Nat) : ∀ d, fiv (a + d) = 4 * (fiv a * fiv d) + fiv a + fiv d
  | 0 => by simp [fiv]
  | d + 1 => by
    have e : fiv a * (5 * fiv d + 1) = 5 * (fiv a * fiv d) + fiv a := by rw [Nat.mul_add, Nat.mul_left_comm, Nat.mul_one]
    rw [show a + (d + 1) = a + d + 1 from rfl, fiv, fiv_add a d, fiv, e]
    omega
theorem fiv_par : ∀ d, fiv d % 2 = d % 2
  | 0 => rfl
  | d + 1 => by have := fiv_par d; rw [fiv]; omega
theorem odd_dvd : ∀ (n x y : Nat), 2 ^ n ∣ x * (2 * y + 1) → 2 ^ n ∣ x
  | 0, x, y, _ => by rw [Nat.pow_zero]; exact Nat.one_dvd x
  | n + 1, x, y, h => by
    have ev : x % 2 = 0 := by
      have h2 : 2 ∣ x * (2 * y + 1) := Nat.dvd_trans (by rw [Nat.pow_succ]; exact Nat.dvd_mul_left 2 _) h
      rw [Nat.mul_add, Nat.mul_left_comm] at h2
      omega
    obtain ⟨z, rfl⟩ : ∃ z, x = 2 * z := ⟨x / 2, by omega⟩
    rw [Nat.pow_succ, Nat.mul_comm (2 ^ n), Nat.mul_assoc] at h
    have := odd_dvd n z y (Nat.dvd_of_mul_dvd_mul_left (by decide) h)
    rw [Nat.pow_succ, Nat.mul_comm (2 ^ n)]
    exact Nat.mul_dvd_mul_left 2 this
theorem fiv_dvd : ∀ (n d : Nat), 2 ^ n ∣ fiv d → 2 ^ n ∣ d
  | 0, d, _ => by rw [Nat.pow_zero]; exact Nat.one_dvd d
  | n + 1, d, h => by
    have h2 : 2 ∣ fiv d := Nat.dvd_trans (by rw [Nat.pow_succ]; exact Nat.dvd_mul_left 2 _) h
    have := fiv_par d
    obtain ⟨e, rfl⟩ : ∃ e, d = e + e := ⟨d / 2, by omega⟩
    have q : fiv (e + e) = 2 * (fiv e * (2 * fiv e + 1)) := by
      rw [fiv_add, Nat.mul_add, Nat.mul_left_comm (fiv e) 2]
      omega
    rw [q, Nat.pow_succ, Nat.mul_comm (2 ^ n)] at h
    have := fiv_dvd n e (odd_dvd n _ _ (Nat.dvd_of_mul_dvd_mul_left (by decide) h))
    rw [Nat.pow_succ, Nat.mul_comm (2 ^ n), show e + e = 2 * e by omega]
    exact Nat.mul_dvd_mul_left 2 this
theorem lcg_fiv {m i : Nat} (hi : i ≤ m) : ∀ k, lcgI m i k = (fiv k * (4 * i + 1) + i) % (m + 1)
  | 0 => by
    show i = _
    rw [fiv, Nat.zero_mul, Nat.zero_add, Nat.mod_eq_of_lt (by omega)]
  | k + 1 => by
    show (lcgI m i k * 5 + 1) % (m + 1) = _
    rw [lcg_fiv hi k, fiv, Nat.add_mod, Nat.mul_mod, Nat.mod_mod, ← Nat.mul_mod, ← Nat.add_mod]
    congr 1
    rw [Nat.add_mul (5 * fiv k), Nat.mul_assoc 5]
    generalize fiv k * (4 * i + 1) = z
    omega
theorem lcg_ne {m i a d : Nat} (hm : MkT m) (hi : i ≤ m) (hd : 0 < d) (hl : a + d ≤ m) : lcgI m i a ≠ lcgI m i (a + d) := by
  obtain ⟨n, _, _, e⟩ := hm
  rw [lcg_fiv hi, lcg_fiv hi, e]
  intro h
  have h2 := Nat.sub_mod_eq_zero_of_mod_eq h.symm
  have q : fiv (a + d) * (4 * i + 1) + i - (fiv a * (4 * i + 1) + i) = fiv d * (2 * (2 * fiv a) + 1) * (2 * (2 * i) + 1) := by
    have : fiv (a + d) = fiv a + fiv d * (2 * (2 * fiv a) + 1) := by
      rw [fiv_add, Nat.mul_add, Nat.mul_comm (fiv a)]
      have : fiv d * (2 * (2 * fiv a)) = 4 * (fiv d * fiv a) := by rw [Nat.mul_left_comm, Nat.mul_left_comm (fiv d)]; omega
      omega
    rw [this, Nat.add_mul, show 2 * (2 * i) + 1 = 4 * i + 1 by omega]
    omega
  rw [q] at h2
  have h3 := fiv_dvd n d (odd_dvd n _ _ (odd_dvd n _ _ (Nat.dvd_of_mod_eq_zero h2)))
  have := Nat.le_of_dvd hd h3
  omega
theorem lcg_meets {m i j : Nat} (hm : MkT m) (hi : i ≤ m) (hj : j ≤ m) : ∃ k, k ≤ m ∧ lcgI m i k = j := by
  have bd : ∀ k, lcgI m i k ≤ m := fun k => by rw [lcg_fiv hi]; exact Nat.le_of_lt_succ (Nat.mod_lt _ (Nat.succ_pos _))
  have nd : ((List.range (m + 1)).map (lcgI m i)).Nodup := by
    refine List.pairwise_map.mpr (List.Pairwise.imp_of_mem (fun {a b} _ mb h => ?_) (List.pairwise_lt_range (n := m + 1)))
    have := List.mem_range.mp mb
    obtain ⟨d, rfl⟩ : ∃ d, b = a + d := ⟨b - a, by omega⟩
    exact lcg_ne hm hi (by omega) (by omega)
  rcases Classical.em (j ∈ (List.range (m + 1)).map (lcgI m i)) with c | c
  · obtain ⟨k, mk, e⟩ := List.mem_map.mp c
    exact ⟨k, Nat.le_of_lt_succ (List.mem_range.mp mk), e⟩
  · exfalso
    have mj : j ∈ List.range (m + 1) := List.mem_range.mpr (by omega)
    have := nat_nodup_len _ ((List.range (m + 1)).erase j) nd fun x mx => by
      have ne : x ≠ j := fun e => c (e ▸ mx)
      obtain ⟨k, _, rfl⟩ := List.mem_map.mp mx
      exact (List.mem_erase_of_ne ne).mpr (List.mem_range.mpr (by have := bd k; omega))
    rw [List.length_erase_of_mem mj, List.length_map, List.length_range] at this
    omega
theorem run_at {m : Nat} (hm : MkT m) (h : Int) {j : Nat} (hj : j ≤ m) : ∃ n, n ≤ m + 12 ∧ runI m (SetTable.bits h) n = j := by
  obtain ⟨k, hk, e⟩ := lcg_meets hm (runI_le m (SetTable.bits h) 12) hj
  exact ⟨12 + k, by omega, (runI_tail (bits_lt h) k).trans e⟩
theorem way_at {m : Nat} (hm : MkT m) (h : Int) {j : Nat} (hj : j ≤ m) : ∃ k, k < 10 * SetTable.turns m ∧ way m h k = j := by
  obtain ⟨n, hn, e⟩ := run_at hm h hj
  obtain ⟨k, hk, e2⟩ := run_nth m (SetTable.bits h) n
  refine ⟨k, by unfold SetTable.turns; omega, ?_⟩
  show (nth m (runAt m (SetTable.bits h % (m + 1)) (SetTable.bits h)) k).j = j
  rw [e2]
  exact e
def RchT (m : Nat) (ps : List Nat) (h : Int) (j : Nat) : Prop := ∃ k, way m h k = j ∧ ∀ c, c < k → way m h c ∈ ps
structure Tb (t : SetTable) (hs : List Int) : Prop where
  ris : Ris t.place.toList
  dm : t.dummies = #[]
  sz : t.place.toList.length = hs.length
  msk : MkT t.mask
  rch : ∀ q ∈ hs.zip t.place.toList, RchT t.mask t.place.toList q.1 q.2
theorem Tb.free {t : SetTable} {hs : List Int} (T : Tb t hs) (hl : hs.length ≤ t.mask) (h : Int) : ∃ K, K < 10 * SetTable.turns t.mask ∧ way t.mask h K ∉ t.place.toList ∧ ∀ k, k < K → way t.mask h k ∈ t.place.toList := by
  obtain ⟨j, hj, hn⟩ := st_missing t.place.toList (t.mask + 1) (by rw [T.sz]; omega)
  obtain ⟨k, hk, e⟩ := way_at T.msk h (Nat.le_of_lt_succ hj)
  obtain ⟨K, h1, h2, h3⟩ := st_least (p := fun k => way t.mask h k ∉ t.place.toList) k (by rw [e]; exact hn)
  exact ⟨K, Nat.lt_of_le_of_lt h1 hk, h2, fun c hc => Classical.not_not.mp (h3 c hc)⟩
end Gb

namespace Gb
open PySem L2 PySem.Spec PyProof.Rows
mutual
def numK : NestedKey → Bool
  | .num _ => true
  | .tup ks => numKs ks
  | _ => false
def numKs : List NestedKey → Bool
  | [] => true
  | k :: ks => numK k && numKs ks
end
section
variable {P : Program} {w : World}
def NoCls (P : Program) (w : World) (n : Nat) (s : Shared) (v : Value) : Prop := ∀ (A : Around) (E : Value → Shared → Prop) (Q : Bool → Shared → Prop), Q false s → wpAny (model P w) A (ofAClassStatement n v) Q E s
def ByVal (P : Program) (w : World) (n : Nat) (s : Shared) (v : Value) : Prop := ∀ (A : Around) (E : Value → Shared → Prop) (Q : Bool → Shared → Prop), Q true s → wpAny (model P w) A (hashByValue n v) Q E s
theorem NoCls.tuple {n : Nat} {s : Shared} {a : Addr} {o : Obj} {vs : Array Value} {m : Nat} (ho : s.heap.get? a = some o) (hc : o.cls = .type "tuple") (hd : o.data = .seq vs m) (hq : ∀ v ∈ vs.toList, NoCls P w n s v) : NoCls P w (n + 1) s (.ref a) := fun A E Q h => by
  have hT : s.TypeIs (.ref a) "tuple" := ⟨o, ho, hc⟩
  unfold ofAClassStatement
  refine wpAny_bind (wpAny_typeOf hT ?_)
  dsimp only
  have e : (("tuple" : String) == "tuple") = true := by decide
  simp only [e, if_true, Bool.not_true, Bool.false_eq_true, if_false]
  try refine wpAny_bind (wpAny_pure ?_)
  try simp only [Bool.not_true, Bool.false_eq_true, if_false]
  show wpAny _ _ (seqItems? (.ref a) >>= _) _ _ s
  refine wpAny_bind (wpAny_seqItems ho hd ?_)
  dsimp only
  refine wpAny_bind ?_
  show wpAny _ _ (forIn vs _ _) _ _ s
  rw [← Array.forIn_toList]
  refine wpAny_forIn_list _ (fun rest r s' => r.1 = none ∧ s' = s ∧ ∀ v ∈ rest, NoCls P w n s v) _ ?_ ?_ _ _ ⟨rfl, rfl, hq⟩
  · rintro v rest r s' ⟨hr, rfl, hall⟩
    refine wpAny_bind (hall v List.mem_cons_self _ _ _ ?_)
    simp only [Bool.false_eq_true, if_false]
    exact wpAny_pure ⟨rfl, rfl, fun u hu' => hall u (List.mem_cons_of_mem _ hu')⟩
  · rintro ⟨r1, r2⟩ s' ⟨hr, rfl, _⟩
    simp only at hr
    subst hr
    exact wpAny_pure h
theorem ByVal.tuple {n : Nat} {s : Shared} {a : Addr} {o : Obj} {vs : Array Value} {m : Nat} (ho : s.heap.get? a = some o) (hc : o.cls = .type "tuple") (hd : o.data = .seq vs m) (hq : ∀ v ∈ vs.toList, ByVal P w n s v) : ByVal P w (n + 1) s (.ref a) := fun A E Q h => by
  have hT : s.TypeIs (.ref a) "tuple" := ⟨o, ho, hc⟩
  unfold hashByValue
  refine wpAny_bind (wpAny_specialOf hT F.slot_tuple_hash.lookup ?_)
  show wpAny _ _ (seqItems? (.ref a) >>= _) _ _ s
  refine wpAny_bind (wpAny_seqItems ho hd ?_)
  refine wpAny_bind ?_
  show wpAny _ _ (forIn vs _ _) _ _ s
  rw [← Array.forIn_toList]
  refine wpAny_forIn_list _ (fun rest r s' => r.1 = none ∧ s' = s ∧ ∀ v ∈ rest, ByVal P w n s v) _ ?_ ?_ _ _ ⟨rfl, rfl, hq⟩
  · rintro v rest r s' ⟨hr, rfl, hall⟩
    refine wpAny_bind (hall v List.mem_cons_self _ _ _ ?_)
    simp only [Bool.not_true, Bool.false_eq_true, if_false]
    exact wpAny_pure ⟨rfl, rfl, fun u hu' => hall u (List.mem_cons_of_mem _ hu')⟩
  · rintro ⟨r1, r2⟩ s' ⟨hr, rfl, _⟩
    simp only at hr
    subst hr
    exact wpAny_pure h
theorem NoCls.num {n : Nat} {s : Shared} {i : Int} {v : Value} (h : NestedIs s.heap (.num i) v) : NoCls P w n s v := fun A E Q q => by
  cases h <;> cases n <;> exact wpAny_pure q
theorem ByVal.num {n : Nat} {s : Shared} {i : Int} {v : Value} (h : NestedIs s.heap (.num i) v) : ByVal P w n s v := fun A E Q q => by
  cases h <;> cases n <;> exact wpAny_pure q
mutual
theorem plain_key : ∀ (k : NestedKey) (v : Value) (n : Nat) (s : Shared), NestedIs s.heap k v → k.depth ≤ n → numK k = true → NoCls P w n s v ∧ ByVal P w n s v
  | .none, _, n, s, x, _, h => by simp [numK] at h
  | .text y, _, n, s, x, _, h => by simp [numK] at h
  | .num i, _, n, s, x, _, _ => ⟨.num x, .num x⟩
  | .tup ks, _, n, s, x, hn, h => by
    cases x with
    | tup hg hc hd hk =>
      simp only [NestedKey.depth] at hn
      rw [numK] at h
      cases n with
      | zero => omega
      | succ n =>
        have q := plain_keys ks _ n s hk (by omega) h
        exact ⟨.tuple hg hc hd fun v m => (q v m).1, .tuple hg hc hd fun v m => (q v m).2⟩
theorem plain_keys : ∀ (ks : List NestedKey) (vs : List Value) (n : Nat) (s : Shared), NestedAll s.heap ks vs → NestedKey.depthAll ks ≤ n → numKs ks = true → ∀ v ∈ vs, NoCls P w n s v ∧ ByVal P w n s v
  | [], _, n, s, x, _, _, v, hv => by cases x; cases hv
  | k :: ks, _, n, s, x, hn, h, v, hv => by
    cases x with
    | cons x1 x2 =>
      simp only [NestedKey.depthAll] at hn
      rw [numKs, Bool.and_eq_true] at h
      rcases List.mem_cons.mp hv with e | hv
      · rw [e]; exact plain_key k _ n s x1 (by omega) h.1
      · exact plain_keys ks _ n s x2 (by omega) h.2 v hv
end
end
def KeyAt (h : Heap) (k : NestedKey) (a : Addr) : Prop := NestedIs h k (.ref a) ∧ k.depth ≤ 8 ∧ numK k = true
theorem KeyAt.keep {h h' : Heap} {k : NestedKey} {a : Addr} (q : KeyAt h k a) (kp : ∀ b o, h.get? b = some o → h'.get? b = some o) : KeyAt h' k a := ⟨NestedIs.at (fun b ob vs n hb hc => kp b ob hb) k _ q.1, q.2⟩
section
variable {P : Program} {w : World} {A : Around} {E : Value → Shared → Prop} {s : Shared}
theorem KeyAt.is {h : Heap} {k : NestedKey} {a : Addr} (q : KeyAt h k a) : (nestedKind P w).is h k a := ⟨q.1, q.2.1⟩
abbrev hsN (w : World) (L : List (Addr × NestedKey)) : List Int := L.map fun p => p.2.hash w
def rwN (w : World) (L : List (Addr × NestedKey)) : List (Int × Value) := L.map fun p => (p.2.hash w, Value.ref p.1)
def Six (m : Nat) : Prop := m = 7 ∨ m = 31 ∨ m = 127 ∨ m = 511 ∨ m = 2047 ∨ m = 8191
theorem Six.mk {m : Nat} (h : Six m) : MkT m := by
  rcases h with rfl | rfl | rfl | rfl | rfl | rfl
  · exact ⟨3, by decide, by decide, rfl⟩
  · exact ⟨5, by decide, by decide, rfl⟩
  · exact ⟨7, by decide, by decide, rfl⟩
  · exact ⟨9, by decide, by decide, rfl⟩
  · exact ⟨11, by decide, by decide, rfl⟩
  · exact ⟨13, by decide, by decide, rfl⟩
structure SetN (w : World) (h : Heap) (a : Addr) (L : List (Addr × NestedKey)) (es : Array (Int × Value)) (ep : Nat) (t : SetTable) : Prop where
  ob : ∃ o, h.get? a = some o ∧ o.ExactSet ∧ o.data = .set es ep t
  rows : es.toList = rwN w L
  tab : Tb t (hsN w L)
  six : Six t.mask
  nd : (L.map (·.2)).Nodup
  key : ∀ p ∈ L, KeyAt h p.2 p.1
  plain : t.plain = true
  led : w.params.followText "set-order" = true ∨ t.led = true
  room : L.length * 5 < t.mask * 3
  few : L.length < 4096
variable {a : Addr} {L : List (Addr × NestedKey)} {es : Array (Int × Value)} {ep : Nat} {t : SetTable}
end
end Gb

namespace Gb
open PySem L2 PySem.Spec PyProof.Rows
section
variable {P : Program} {w : World} {A : Around} {E : Value → Shared → Prop} {s : Shared} {a : Addr} {L : List (Addr × NestedKey)} {es : Array (Int × Value)} {ep : Nat} {t : SetTable}
structure GotN (ks : List (Addr × NestedKey)) (i : Nat) (L : List (Addr × NestedKey)) : Prop where
  sub : ∀ p ∈ L, p ∈ ks.take i
  all : ∀ p ∈ ks.take i, p.2 ∈ L.map (·.2)
theorem GotN.next {ks L L' : List (Addr × NestedKey)} {i : Nat} {x : Addr × NestedKey} (g : GotN ks i L) (h : ks[i]? = some x) (c : (x.2 ∈ L.map (·.2) ∧ L' = L) ∨ (x.2 ∉ L.map (·.2) ∧ L'.Perm (x :: L))) : GotN ks (i + 1) L' := by
  have e : ks.take (i + 1) = ks.take i ++ [x] := by rw [List.take_succ, h]; rfl
  refine ⟨fun p m => ?_, fun p m => ?_⟩
  · rw [e, List.mem_append, List.mem_singleton]
    rcases c with ⟨_, rfl⟩ | ⟨_, pm⟩
    · exact .inl (g.sub p m)
    · rcases List.mem_cons.mp (pm.mem_iff.mp m) with rfl | m
      · exact .inr rfl
      · exact .inl (g.sub p m)
  · rw [e, List.mem_append, List.mem_singleton] at m
    rcases c with ⟨c, rfl⟩ | ⟨_, pm⟩
    · rcases m with m | rfl
      · exact g.all p m
      · exact c
    · rw [(pm.map (·.2)).mem_iff, List.map_cons]
      rcases m with m | rfl
      · exact List.mem_cons_of_mem _ (g.all p m)
      · exact List.mem_cons_self ..
theorem SetN.keep {h h' : Heap} (R : SetN w h a L es ep t) (ha : ∀ o, h.get? a = some o → h'.get? a = some o) (hk : ∀ p ∈ L, KeyAt h' p.2 p.1) : SetN w h' a L es ep t := by
  obtain ⟨o, ho, r⟩ := R.ob
  exact ⟨⟨o, ha o ho, r⟩, R.rows, R.tab, R.six, R.nd, hk, R.plain, R.led, R.room, R.few⟩
end
section
variable {P : Program} {w : World} {A : Around} {E : Value → Shared → Prop} {s : Shared}
end
end Gb

namespace Gb
open PySem L2 PySem.W PyProof.Rows
mutual
theorem toks_inj : ∀ (a b : D) (l m : List (Int ⊕ List Nat)), a.okS = true → b.okS = true → alike (pyS a) (pyS b) = true → keyToks (pyS a) ++ l = keyToks (pyS b) ++ m → a = b ∧ l = m
  | .int i, b, l, m, _, hb, ha, e => by
    cases b with
    | int j =>
      simp only [pyS, keyToks, List.cons_append, List.nil_append, List.cons.injEq, Sum.inl.injEq] at e
      exact ⟨by rw [e.1], e.2⟩
    | tup ys => simp [pyS, alike] at ha
    | _ => simp [D.okS] at hb
  | .tup xs, b, l, m, h, hb, ha, e => by
    cases b with
    | tup ys =>
      simp only [D.okS] at h hb
      simp only [pyS, alike] at ha
      simp only [pyS, keyToks] at e
      obtain ⟨e1, e2⟩ := toksL_inj xs ys l m h hb ha e
      exact ⟨by rw [e1], e2⟩
    | int j => simp [pyS, alike] at ha
    | _ => simp [D.okS] at hb
  | .non, _, _, _, h, _, _, _ => by simp [D.okS] at h
  | .bl _, _, _, _, h, _, _, _ => by simp [D.okS] at h
  | .str _, _, _, _, h, _, _, _ => by simp [D.okS] at h
  | .ref _, _, _, _, h, _, _, _ => by simp [D.okS] at h
  | .fro _, _, _, _, h, _, _, _ => by simp [D.okS] at h
  | .lst _, _, _, _, h, _, _, _ => by simp [D.okS] at h
  | .dct _ _, _, _, _, h, _, _, _ => by simp [D.okS] at h
  | .map _, _, _, _, h, _, _, _ => by simp [D.okS] at h
theorem toksL_inj : ∀ (a b : List D) (l m : List (Int ⊕ List Nat)), D.okSL a = true → D.okSL b = true → alikeAll (pySL a) (pySL b) = true → keyToksAll (pySL a) ++ l = keyToksAll (pySL b) ++ m → a = b ∧ l = m
  | [], [], l, m, _, _, _, e => ⟨rfl, by simpa using e⟩
  | [], y :: ys, l, m, _, _, _, e => by simp [pySL, keyToksAll] at e
  | x :: xs, [], l, m, _, _, _, e => by simp [pySL, keyToksAll] at e
  | x :: xs, y :: ys, l, m, h, hb, ha, e => by
    simp only [D.okSL, Bool.and_eq_true] at h hb
    simp only [pySL] at ha e
    have ha := alike_all_cons ha
    simp only [keyToksAll, List.cons_append, List.append_assoc, List.cons.injEq, true_and] at e
    obtain ⟨e1, e2⟩ := toks_inj x y _ _ h.1 hb.1 ha.1 e
    obtain ⟨e3, e4⟩ := toksL_inj xs ys l m h.2 hb.2 ha.2 e2
    exact ⟨by rw [e1, e3], e4⟩
end
end Gb

namespace Gb
open PySem PySem.Spec PyProof.Rows L2 LamX
section
variable {X : Cx} {cl : CL} {W : WX}
end
structure Lm where
  params : Arguments
  body : Expr
  scope : Scope
  m : ME
def LamV (X : Cx) (io : List Addr) (H : Hp) (l : Lm) (v : V) : Prop := ∃ (f c' : Addr) (pm ct : Value), v = .ref f ∧ f ∉ io ∧ H f = some (LamO X l.params l.body l.scope c' pm ct) ∧ c' ∉ io ∧ H c' = some (CodeO c' (X.env.qual ++ "<lambda>"))
def LamVs (X : Cx) (io : List Addr) (H : Hp) : List Lm → List V → Prop
  | [], [] => True
  | l :: ls, v :: vs => LamV X io H l v ∧ LamVs X io H ls vs
  | _, _ => False
section
variable {X : Cx} {cl : CL} {W : WX} {io io1 : List Addr} {H H1 : Hp} {h : PHeap}
theorem lamO_tbl {pr : Arguments} {e : Expr} {sc : Scope} {c' : Addr} {pm ct : Value} : ∀ ps, LamO X pr e sc c' pm ct ≠ .tbl ps := by intro _ z; cases z
theorem LamV.step (s : Step X.K io H io1 H1) {l : Lm} {v : V} (q : LamV X io H l v) : LamV X io1 H1 l v := by
  obtain ⟨f, c', pm, ct, e, n1, h1, n2, h2⟩ := q
  exact ⟨f, c', pm, ct, e, s.out h1 n1, s.keep _ _ h1 n1 lamO_tbl, s.out h2 n2, s.keep _ _ h2 n2 codeO_ne⟩
theorem LamVs.step (s : Step X.K io H io1 H1) : ∀ {ls : List Lm} {vs : List V}, LamVs X io H ls vs → LamVs X io1 H1 ls vs
  | [], [], _ => trivial
  | l :: ls, v :: vs, ⟨a, b⟩ => ⟨a.step s, LamVs.step s b⟩
theorem LamVs.app : ∀ {ls : List Lm} {vs : List V} {l : Lm} {v : V}, LamVs X io H ls vs → LamV X io H l v → LamVs X io H (ls ++ [l]) (vs ++ [v])
  | [], [], l, v, _, q => ⟨q, trivial⟩
  | l0 :: ls, v0 :: vs, l, v, ⟨a, b⟩, q => ⟨a, LamVs.app b q⟩
theorem LamVs.len : ∀ {ls : List Lm} {vs : List V}, LamVs X io H ls vs → ls.length = vs.length
  | [], [], _ => rfl
  | l :: ls, v :: vs, ⟨_, b⟩ => by simp [LamVs.len b]
theorem LamVs.at {ls : List Lm} : ∀ {vs : List V} {j : Nat} {v : V}, LamVs X io H ls vs → vs[j]? = some v → ∃ l, ls[j]? = some l ∧ LamV X io H l v := by
  induction ls with
  | nil =>
    intro vs j v h e
    cases vs with
    | nil => simp at e
    | cons u vs => exact h.elim
  | cons l ls ih =>
    intro vs j v h e
    cases vs with
    | nil => exact h.elim
    | cons u vs =>
      cases j with
      | zero => cases e; exact ⟨l, rfl, h.1⟩
      | succ j => exact ih h.2 (by simpa using e)
end
theorem ERel.over {K : PySem.W.Frag} {io : List Addr} {H : Hp} {sg : L2.St} {env : PEnv} {Dd : Addr} {av ws : List V} (E : ERel K io H sg env) (e : H Dd = some (.lst av)) : ERel K io (upd H Dd (.lst ws)) sg env :=
  ⟨E.len, fun i d q => let ⟨v, a, b⟩ := E.get i d q; ⟨v, a, b.over e⟩⟩
theorem LamV.over {X : Cx} {io : List Addr} {H : Hp} {Dd : Addr} {av ws : List V} (e : H Dd = some (.lst av)) {l : Lm} {v : V} (q : LamV X io H l v) : LamV X io (upd H Dd (.lst ws)) l v := by
  obtain ⟨f, c', pm, ct, e1, n1, h1, n2, h2⟩ := q
  refine ⟨f, c', pm, ct, e1, n1, (upd_ne fun z => ?_).trans h1, n2, (upd_ne fun z => ?_).trans h2⟩
  · rw [z, e] at h1; cases h1
  · rw [z, e] at h2; cases h2
theorem LamVs.over {X : Cx} {io : List Addr} {H : Hp} {Dd : Addr} {av ws : List V} (e : H Dd = some (.lst av)) : ∀ {ls : List Lm} {vs : List V}, LamVs X io H ls vs → LamVs X io (upd H Dd (.lst ws)) ls vs
  | [], [], _ => trivial
  | l :: ls, v :: vs, ⟨a, b⟩ => ⟨a.over e, LamVs.over e b⟩
section
variable {X : Cx} {cl : CL} {W : WX} {i : Nat} {x : Str} {ls : List Lm} {m : MS} {rest : List Stmt} {params : Arguments} {body : Expr} {scope : Scope} {lpos pos pos' p2 p3 apos cpos : Pos}
end
section
variable {X : Cx} {pins : List (Addr × Obj)} {σ : L2.St} {H : Hp} {s : Shared} {elt : Expr} {scope : Scope} {x y : Str} {i ic : Nat} {pos py p1 p2 : Pos}
end
end Gb

namespace Gb
open PySem PySem.Spec PyProof.Rows L2 LamX
structure LamOk (X : Cx) (cl : CL) (k : Nat) (l : Lm) : Prop where
  sc : LamS X.env.scope l.scope
  bind : ∀ (q : Str) (cl : List (Str × Addr)) (pm cv ctv : Value), bindArgs (PySem.W.kla_fn "<lambda>" q l.params l.body l.scope cl pm cv ctv) ⟨[], []⟩ = pure []
  body : ∀ (A : Around) (outer : List Env) (s : Shared) (H : Hp) (E : XK) (f c' : Addr), Room k (A.deeper (lamEnv X l.scope s.heap.objs.size f c')) → (A.deeper (lamEnv X l.scope s.heap.objs.size f c')).guards = some [] →
    Takes (lamCx X A outer s H E l.scope f c') (fun c d _ H => E c d H) → SE (lamCx X A outer s H E l.scope f c') cl (fun c d _ H => E c d H) l.body l.m
structure LamOks (X : Cx) (cl : CL) (k : Nat) (ls : List Lm) : Prop where
  all : ∀ l ∈ ls, LamOk X cl k l
section
variable {X : Cx} {cl : CL} {W : WX} {i ic : Nat} {x y w a : Str} {F : Res D → Res D} {g : Addr} {k : Nat} {fd : FuncData} {st : Stmt} {Ng : List Str} {p p1 p2 pos pos2 py : Pos} {scope : Scope} {ls : List Lm}
end
end Gb

namespace Gb
open PySem PySem.Spec PyProof.Rows L2
def IsZipG (h : Heap) (z TI TO : Addr) : Prop := ∃ (f0 : Value) (b : Bool), (f0 = .none ∨ ∃ T : Nat, f0 = rawInt T) ∧ h.get? z = some { cls := .type "zip", dict := none, data := .fields #[f0, .bool b, .bool false, .ref TI, .ref TO], slots := #[] }
section
variable {prog : Program} {w : World} {A : Around} {E : Value → Shared → Prop} {s : Shared} {z TI TO i1 i2 : Addr} {fp1 fp2 : List Addr} {n1 n2 i : Nat} {P1 P2 : Nat → Value → Prop} {St1 St2 : Nat → Heap → Prop} {a1 a2 : Value}
theorem IsZipG.typeIs (hz : IsZipG s.heap z TI TO) : s.TypeIs (.ref z) "zip" := by
  obtain ⟨f0, b, _, e⟩ := hz
  exact ⟨_, e, rfl⟩
end
end Gb

namespace Gb
open PySem PySem.Spec PyProof.Rows L2
section
variable {prog : Program} {w : World} {A : Around} {E : Value → Shared → Prop} {s : Shared} {z TI TO i1 i2 : Addr} {fp1 fp2 : List Addr} {n1 n2 i : Nat} {P1 P2 : Nat → Value → Prop} {St1 St2 : Nat → Heap → Prop} {a1 a2 : Value}
end
structure ZMade (X : Cx) (pins : List (Addr × Obj)) (σ : L2.St) (H : Hp) (s : Shared) (u v : Src) (z TI TO i1 i2 : Addr) : Prop where
  I : Inv X pins σ H s
  S : ZipSep2 z TI TO i1 i2 [i1, u.addr] [i2, v.addr]
  n1 : u.addr ≠ i1
  n2 : v.addr ≠ i2
  hz : IsZipG s.heap z TI TO
  hTI : IsTupOf2 s.heap TI (.ref i1) (.ref i2)
  hTO : ∃ a b, IsTupOf2 s.heap TO a b
  it1 : u.It i1 0 s.heap
  it2 : v.It i2 0 s.heap
  fp : ∀ b ∈ [z, TI, TO, i1, i2], FpOk X pins H b ∧ b < s.heap.objs.size
section
variable {X : Cx} {e e2 : Expr} {ta : TA} {p pos : Pos}
end
theorem IsZipG.iter {prog : Program} {w : World} {A : Around} {E : Value → Shared → Prop} {s : Shared} {z TI TO : Addr} {Q : Value → Shared → Prop} (hz : IsZipG s.heap z TI TO) (h : Q (.ref z) s) : wpAny (model prog w) A (pyIter (.ref z)) Q E s :=
  wpAny_pyIter_slot hz.typeIs F.slot_zip_iter (wpAny_call_entry F.slot_zip_iter hz.typeIs F.entry_zip_iter (by
    show wpAny _ _ (ret (.ref z)) _ _ s
    exact wpAny_pure ⟨_, rfl, "zip", _, hz.typeIs, F.slot_zip_next.lookup, h⟩) (F.args_zip_iter_1 _))
end Gb

namespace Gb
open PySem PySem.Spec PyProof.Rows L2
section
variable {X : Cx} {pins : List (Addr × Obj)} {σ : L2.St} {u v : Src} {z TI TO i1 i2 S : Addr} {m1 m2 : Nat} {J : Nat → List V → Hp → Prop}
structure ZAt (X : Cx) (pins : List (Addr × Obj)) (u v : Src) (z TI TO i1 i2 S : Addr) (i : Nat) (H : Hp) (h : Heap) : Prop where
  hz : IsZipG h z TI TO
  hTI : IsTupOf2 h TI (.ref i1) (.ref i2)
  hTO : ∃ a b, IsTupOf2 h TO a b
  h1 : u.It i1 i h
  h2 : v.It i2 i h
  fp : ∀ b ∈ [S, z, TI, TO, i1, i2], FpOk X pins H b ∧ b < h.objs.size
end
end Gb

namespace Gb
open PySem PySem.Spec PyProof.Rows L2 LamX
section
open PySem.W PySem.Calls Builtin
variable {prog : Program} {w : World} {A : Around} {E : Value → Shared → Prop} {s : Shared} {K : PySem.W.Frag} {x y C f : Addr} {ox oy : Obj} {od od' : Option Obj}
end
section
variable {X : Cx} {cl : CL} {W : WX} {c k : Nat} {f C : Addr} {fd : FuncData} {ps : List Str} {sp : Sp} {g : List D → PHeap → Res D} {p pos : Pos} {a b : Expr} {ma mb : ME}
structure NeOf (K : PySem.W.Frag) (C : Addr) : Prop where
  ne : PySem.W.findIn K (.ref C) "__ne__" = some (some (.builtin "object.__ne__"))
  ob : PySem.W.subIn K (.ref C) (.type "object") = some true
end
end Gb

namespace Gb
open PySem PySem.Spec PyProof.Rows L2 LamX
def small60 (i : Int) : Bool := decide (-1152921504606846976 ≤ i) && decide (i ≤ 1152921504606846976)
theorem small60_log {i : Int} (h : small60 i = true) : i.natAbs.log2 < 1920 := by
  unfold small60 at h
  simp only [Bool.and_eq_true, decide_eq_true_eq] at h
  have h1 : i.natAbs ≤ 1152921504606846976 := by omega
  by_cases z : i.natAbs = 0
  · rw [z]; decide
  · have := (Nat.log2_lt z).mpr (show i.natAbs < 2 ^ 61 by omega)
    omega
section
variable {X : Cx} {cl : CL} {W : WX} {p pos : Pos} {e v1 v2 : Expr} {es rest : List Expr} {m m1 m2 : ME} {ms : List ME}
inductive SJ (X : Cx) (cl : CL) (W : WX) : List Expr → List ME → Prop where
  | nil : SJ X cl W [] []
  | cons {e : Expr} {m : ME} {es : List Expr} {ms : List ME} (h : SE X cl W e m) (r : SJ X cl W es ms) : SJ X cl W (e :: es) (m :: ms)
end
end Gb

namespace Gb
open PySem PySem.Spec PyProof.Rows L2 LamX
structure IsOf (K : PySem.W.Frag) (C : Addr) : Prop where
  ha : PySem.W.findIn K (.ref C) "__class__" = some (some (.builtin "object.__class__"))
  hn : PySem.W.specialIn K (.builtin "object.__class__") "__get__" = some (some (.builtin "getset_descriptor.__get__"))
  tk : PySem.W.takesIn K (.builtin "object.__class__") = some true
  mo : PySem.W.mroIn K C (.type "object") = some true
  own : PySem.W.kitOne K (.ref C) (.ref C) = some true
  data : ∀ k : Kd, PySem.W.kitOne K (.type k.nm) (.ref C) = some false
def fStrI : D → PHeap → Res D
  | .int i, h => if small60 i = true then .ok (.str (toString i)) h else .stuck
  | _, _ => .stuck
section
variable {X : Cx} {cl : CL} {W : WX} {c : Nat} {x : Str} {p p2 pos : Pos} {e : Expr} {m : ME}
theorem sd_strI (he : SE X cl W e m) (hm : X.mg "str" = none) (hg : Gl X "str" := by rfl) (hs : starEach [e] X.env = (false, eval e X.env) :: starEach [] X.env := by rfl) (hpl : (backTo pos (starEach [] X.env)).any (·.1) = false := by rfl) :
    SE X cl W (.Call (.Name "str" p) [e] [] pos) (mUn fStrI m) :=
  (pe_callTy call_str_int hg hm (by decide +kernel) (pa_cons he pa_nil hs) (by decide) (by decide) hs hpl).imp fun sg H Q ⟨env, h, io1, E, hr, p⟩ =>
    rd_mk E hr (p.bind fun d h1 v io1 H1 e1 s1 r1 q1 p1 => by
      unfold fStrI at p1
      split at p1
      · rename_i i
        split at p1
        · rename_i k
          have ev : v = .int i := q1
          subst ev
          exact ⟨i, rfl, small60_log k, p1.here r1 rfl⟩
        · exact p1.elim
      · exact p1.elim)
end
end Gb

namespace Gb
open PySem PySem.W PySem.Calls PyProof.Rows HeadRun
structure Asked (r : OpenRow) (q : Program) (d : DefRec) (kwd : List (PySem.Str × PySem.Expr)) : Prop where
  op : opening r.prog = plainProg r.prog.main.scope.names
  fm : ∀ s, fenceModules? r.prog s = some s
  df : defOf q r.name = some (d, kwd)
  td : r.prog.theDef r.name = some (d.params, d.body, d.scope)
  kw : kwWritten? d.params.kwonlyargs d.params.kw_defaults = some kwd
  wr : (!r.writes || r.records.isEmpty) = true
  ws : r.wellSaid = true
  ok : (chainsOk q && opensWell r.prog && (frees r.toRowW && r.within.isEmpty)) = true
  br : r.prog.bare
theorem head_km {r : OpenRow} {q : Program} {K : Params → Frag} {as : List Addr} {ek : ∀ P, as = (K P).map (·.1)} {ts : List Addr} {M : Nat} {loose : List PySem.Str} {d : DefRec} {kwd : List (PySem.Str × PySem.Expr)} (A : Asked r q d kwd)
    (run : ∀ (w : World) (os : OsState), (endF (stepQ (denQ tabQ) r.prog w) M r.prog w os).map (fun s => (looksF r.prog (boot_heap w.params) s.abs, seenQ q loose (importedModules r.prog.main.body) (fun s => xlAt q [] s && recOk r.toRowW.records s) s.abs, (as.map (getT s), ts.map (getT s)))) = some (true, openGood q loose, ((K w.params).map fun x => some x.2, ts.map fun _ => some (tabObj #[]))))
    (hw : r.toRowW.promised) (call : WalkO q loose (XL q []) (kmHook K as ek ts).says r.toRowW d kwd fun f vs => PySem.call f vs) : r.Holds :=
  head_any (H := kmHook K as ek ts) (ob := fun s => (as.map (getT s), ts.map (getT s)))
    (fun s => Prod.ext (List.map_congr_left fun a _ => getT_eq s a) (List.map_congr_left fun a _ => getT_eq s a)) A.op A.fm (fun w os => run w os) A.df A.td A.kw A.wr A.ws A.ok A.br hw call
theorem head_k {r : OpenRow} {q : Program} {K : Params → Frag} {as : List Addr} {ek : ∀ P, as = (K P).map (·.1)} {M : Nat} {loose : List PySem.Str} {d : DefRec} {kwd : List (PySem.Str × PySem.Expr)} (A : Asked r q d kwd)
    (run : ∀ (w : World) (os : OsState), (endF (stepQ (denQ tabQ) r.prog w) M r.prog w os).map (fun s => (looksF r.prog (boot_heap w.params) s.abs, seenQ q loose (importedModules r.prog.main.body) (fun s => xlAt q [] s && recOk r.toRowW.records s) s.abs, as.map (getT s))) = some (true, openGood q loose, (K w.params).map fun x => some x.2))
    (hw : r.toRowW.promised) (call : WalkO q loose (XL q []) (kHook K as ek).says r.toRowW d kwd fun f vs => PySem.call f vs) : r.Holds :=
  head_any (H := kHook K as ek) (ob := fun s => as.map (getT s)) (fun s => List.map_congr_left fun a _ => getT_eq s a) A.op A.fm (fun w os => run w os) A.df A.td A.kw A.wr A.ws A.ok A.br hw call
end Gb

namespace Gb
open PySem
def setF (w : World) (b : Bool) : World := { w with params := { w.params with followText := fun s => if s = "special-get-raises" then b else w.params.followText s } }
theorem setF_same (w : World) : setF w (w.params.followText "special-get-raises") = w := by
  have e : (fun s => if s = "special-get-raises" then w.params.followText "special-get-raises" else w.params.followText s) = w.params.followText := by
    funext s
    split
    · rename_i h; rw [h]
    · rfl
  unfold setF
  rw [e]
theorem follow_cases {C : World → Prop} (w : World) (h1 : ∀ w : World, C (setF w true)) (h0 : ∀ w : World, C (setF w false)) : C w := by
  have := setF_same w
  cases e : w.params.followText "special-get-raises" with
  | true => rw [e] at this; rw [← this]; exact h1 w
  | false => rw [e] at this; rw [← this]; exact h0 w
theorem all_follow {C : World → Prop} (h1 : ∀ w : World, C (setF w true)) (h0 : ∀ w : World, C (setF w false)) : ∀ w, C w := fun w => follow_cases w h1 h0
end Gb

namespace Gb
open PySem PySem.Spec PyProof.Rows L2 LamX
section
open PySem.W PySem.Calls PySem.SeqAt PySem.MeetsSeq
variable {X : Cx} {pins : List (Addr × Obj)} {σ : L2.St} {H : Hp} {s : Shared}
structure NotKd (K : PySem.W.Frag) (C : Addr) : Prop where
  n : ∀ k : Kd, PySem.W.subIn K (.ref C) (.type k.nm) = some false
end
section
variable {X : Cx} {cl : CL} {W : WX} {c k : Nat} {f C : Addr} {fd : FuncData} {ps : List Str} {sp : Sp} {g : List D → PHeap → Res D} {p pos : Pos} {a b : Expr} {ma mb : ME}
end
end Gb

namespace Gb
open PySem PySem.Spec PyProof.Rows L2 LamX
def signsD (x : Str) : List D := x.cps.toList.map fun c => .str ⟨#[c]⟩
def iTxt (a : ME) : MI := fun env h => (a env h).bind fun d h1 => match d with
  | .str x => .ok ⟨signsD x, []⟩ h1
  | _ => .stuck
def fSplit (a : Str) : D → PHeap → Res LV
  | .str b, h => if (b.length == 0) = false ∧ a.length ≤ 10000 then .ok (.new ((Txt.split a b).map .str)) h else .stuck
  | _, _ => .stuck
def mSplit (a b : ME) : MO := fun env h => (a env h).bind fun x h1 => match x with
  | .str s => (b env h1).bind fun y h2 => fSplit s y h2
  | _ => .stuck
def strsOf : List D → Option (List Str)
  | [] => some []
  | .str x :: ds => (strsOf ds).map (x :: ·)
  | _ :: _ => none
def fJoin (a : Str) : LV → PHeap → Res D := fun lv h => match lv.seq h with
  | some ds => match strsOf ds with
    | some ys => if (ys.map (·.length)).sum + ys.length * a.length ≤ 16777216 then .ok (.str (Txt.join a ys)) h else .stuck
    | none => .stuck
  | none => .stuck
def mJoin (a : ME) (b : MO) : ME := fun env h => (a env h).bind fun x h1 => match x with
  | .str s => (b env h1).bind fun y h2 => fJoin s y h2
  | _ => .stuck
def fSignIn (k : Bool → Bool) : D → D → PHeap → Res D
  | .str x, .str z, h => match x.cps.toList with
    | [c] => .ok (.bl (k (decide (c ∈ z.cps.toList)))) h
    | _ => .stuck
  | _, _, _ => .stuck
def fIntS : LV → PHeap → Res D := fun x h => match x with
  | .val (.str a) => match PySem.intText? a with
    | some n => if a.length ≤ 640 then .ok (.int n) h else .stuck
    | none => .stuck
  | _ => .stuck
def fSlS : D → Option Int → Option Int → PHeap → Res D
  | .str z, lo, hi, h => if z.length ≤ 16777216 then .ok (.str (cutS z lo hi)) h else .stuck
  | _, _, _, _ => .stuck
def mSlS (a : ME) (lo hi : MP) : ME := fun env h => (a env h).bind fun x h1 => (lo env h1).bind fun l h2 => (hi env h2).bind fun u h3 => fSlS x l u h3
section
variable {X : Cx} {cl : CL} {W : WX} {a b e tg : Expr} {ma mb : ME} {mo : MO} {p pos apos : Pos}
theorem walk_txt {x : Str} {K : PySem.W.Frag} {io : List Addr} {Hs H : Hp} : WalkRep K cl Hs io H ⟨signsD x, []⟩ (L2.Its x) := by
  refine ⟨[], _, _, fun a m => by simp at m, by simpa [signsD] using walk_str (z := x), fun _ _ _ _ _ _ => trivial, fun i io2 H2 h2 v H' d s2 r2 l2 hd y => ?_⟩
  obtain ⟨rfl, c, ec, rfl⟩ := y
  refine ⟨.refl, r2, ?_⟩
  have hd : (signsD x)[i]? = some d := hd
  unfold signsD at hd
  rw [List.getElem?_map, Array.getElem?_toList, ec] at hd
  cases hd
  rfl
theorem si_txt (ha : SE X cl W a ma) : SI X cl W tg a (iTxt ma) :=
  (pi_str ha).imp fun sg H R ⟨env, h, io, E, hr, p⟩ => rd_mk E hr (p.bind fun d h1 v io1 H1 e1 s1 r1 q1 p1 => by
    split at p1
    · rename_i x
      cases q1
      exact ⟨x, rfl, p1 _ io1 H1 .refl r1 walk_txt⟩
    · exact p1.elim)
theorem repL_strs {K : PySem.W.Frag} {io : List Addr} {H : Hp} : ∀ (ys : List Str), RepL K io H (ys.map .str) (ys.map V.str)
  | [] => rfl
  | y :: ys => ⟨.str y, ys.map V.str, rfl, rfl, repL_strs ys⟩
theorem split_len {x : Str} (h : x.length ≤ 10000) : x.length + 2 ≤ sizeLine := by rw [sizeLine_eq]; omega
theorem so_split (ha : SE X cl W a ma) (hb : SE X cl W b mb) (hs : starEach [b] X.env = [(false, eval b X.env)] := by rfl) (hbase : attributeBase a "split" X.env (eval a X.env) = eval a X.env := by rfl) (hline : (apos.endLine == pos.line) = true := by rfl) :
    SO X cl W (.Call (.Attribute a "split" apos) [b] [] pos) (mSplit ma mb) :=
  (pe_split ha hb hs hbase hline).imp fun sg H Q ⟨env, h, io, E, hr, p⟩ => rd_mk E hr (p.bind fun d h1 v io1 H1 e1 s1 r1 q1 p1 => by
    split at p1
    · rename_i x
      cases q1
      refine ⟨⟨x, rfl⟩, rd_mk (E.step s1) r1 (p1.bind fun d2 h2 u io2 H2 e2 s2 r2 q2 p2 => ?_)⟩
      unfold fSplit at p2
      split at p2
      · rename_i b2
        cases q2
        split at p2
        · rename_i c
          exact ⟨_, _, rfl, rfl, c.1, split_len c.2, fun t ht => p2 _ io2 _ (Step.laid ht) (r2.laid ht) ⟨t, _, rfl, ht, r2.out ht, upd_same, repL_strs _⟩⟩
        · exact p2.elim
      · exact p2.elim
    · exact p1.elim)
theorem strsOf_some : ∀ {ds : List D} {ys : List Str}, strsOf ds = some ys → ds = ys.map .str
  | [], _, e => by cases e; rfl
  | d :: ds, _, e => by
    cases d with
    | str x =>
      simp only [strsOf, Option.map_eq_some_iff] at e
      obtain ⟨zs, ez, rfl⟩ := e
      rw [strsOf_some ez]
      rfl
    | _ => cases e
theorem repL_strs_of {K : PySem.W.Frag} {io : List Addr} {H : Hp} : ∀ {ys : List Str} {vs : List V}, RepL K io H (ys.map .str) vs → vs = ys.map V.str
  | [], _, r => r
  | y :: ys, _, r => by
    obtain ⟨v, t, e, r1, r2⟩ := r
    subst e
    cases r1
    rw [repL_strs_of r2]
    rfl
theorem sd_joinS (ha : SE X cl W a ma) (hb : SO X cl W b mo) (hs : starEach [b] X.env = [(false, eval b X.env)] := by rfl) (hbase : attributeBase a "join" X.env (eval a X.env) = eval a X.env := by rfl) (hline : (apos.endLine == pos.line) = true := by rfl) :
    SE X cl W (.Call (.Attribute a "join" apos) [b] [] pos) (mJoin ma mo) :=
  (pe_join ha hb hs hbase hline).imp fun sg H Q ⟨env, h, io, E, hr, p⟩ => rd_mk E hr (p.bind fun d h1 v io1 H1 e1 s1 r1 q1 p1 => by
    split at p1
    · rename_i x
      cases q1
      refine ⟨⟨x, rfl⟩, rd_mk (E.step s1) r1 (p1.bind fun d2 h2 u io2 H2 e2 s2 r2 q2 p2 => ?_)⟩
      unfold fJoin at p2
      split at p2
      · rename_i ds e
        split at p2
        · rename_i ys ey
          split at p2
          · rename_i c
            obtain ⟨w, vs, as, rfl, hw, rw', _, _⟩ := src_of r2 q2 e
            rw [strsOf_some ey] at rw'
            rw [repL_strs_of rw'] at hw
            refine ⟨x, w.addr, ys, rfl, rfl, ?_, c, p2.here r2 rfl⟩
            cases w with
            | lst a => exact .inl hw
            | tup a => exact .inr hw
          · exact p2.elim
        · exact p2.elim
      · exact p2.elim
    · exact p1.elim)
theorem con_intS : Con1 (β := V) (RRep X.K) X.K cl (fun xs H Q => ∃ a n, xs = [.str a] ∧ PySem.intText? a = some n ∧ a.length ≤ 640 ∧ Q (.int n) H) fIntS := by
  intro W io sg H h x v Q hr r p
  unfold fIntS at p
  split at p
  · cases r
    split at p
    · rename_i n en
      split at p
      · rename_i c
        exact ⟨_, n, rfl, en, c, p.here hr rfl⟩
      · exact p.elim
    · exact p.elim
  · exact p.elim
theorem sd_intS (he : SO X cl W e mo) (hm : X.mg "int" = none) (hg : Gl X "int" := by rfl) (hs : starEach [e] X.env = (false, eval e X.env) :: starEach [] X.env := by rfl) : SE X cl W (.Call (.Name "int" p) [e] [] pos) (m1 fIntS mo) :=
  sc_t1 call_int_str con_intS he hg hm (by decide +kernel) (by decide) (by decide) hs
theorem o2_signIn : Op2 X.K cl (fun x y H Q => ∃ (c : Nat) (z : Str), x = .str ⟨#[c]⟩ ∧ y = .str z ∧ Q (.bl (decide (c ∈ z.cps.toList))) H) (fSignIn id) := by
  intro W io sg H h x y v u Q hr r q p
  unfold fSignIn at p
  split at p
  · rename_i x z
    cases r
    cases q
    split at p
    · rename_i c ec
      have ex : x = ⟨#[c]⟩ := Str.ext' (Array.toList_inj.mp ec)
      subst ex
      exact ⟨c, z, rfl, rfl, p.here hr rfl⟩
    · exact p.elim
  · exact p.elim
theorem sd_signIn (ha : SE X cl W a ma) (hb : SE X cl W b mb) (hm : behindInMarks .In b = false := by rfl) : SE X cl W (.Compare a [.In] [b] pos) (mBin (fSignIn id) ma mb) := sd_cmp op_in_sign o2_signIn ha hb hm
theorem sd_sliceS {lo hi : Option Expr} {ml mh : MP} {p2 : Pos} (ha : SE X cl W a ma) (hl : SP' X cl W lo ml) (hh : SP' X cl W hi mh) : SE X cl W (.Subscript a (.Slice lo hi none p2) pos) (mSlS ma ml mh) :=
  (pe_slice sl_str ha hl hh).imp fun sg H Q ⟨env, h, io, E, hr, p⟩ => rd_mk E hr (p.bind fun d h1 v io1 H1 e1 s1 r1 q1 p1 =>
    rd_mk (E.step s1) r1 (p1.bind fun l h2 l' io2 H2 e2 s2 r2 q2 p2 => rd_mk ((E.step s1).step s2) r2 (p2.bind fun u h3 u' io3 H3 e3 s3 r3 q3 p3 => by
      cases q2; cases q3
      unfold fSlS at p3
      split at p3
      · rename_i z
        cases q1
        split at p3
        · rename_i hz
          exact ⟨z, rfl, by rw [sizeLine_eq]; exact hz, p3.here r3 rfl⟩
        · exact p3.elim
      · exact p3.elim)))
end
end Gb

namespace Gb
open PySem PySem.Spec PyProof.Rows L2 LamX
def sTryR (n i : Nat) (m : MS) (wd : Nat → D) (gb : Nat → PHeap → PHeap) : MS := fun env h => match m env h with
  | .nx e h1 => .nx e h1
  | .bk e h1 => .bk e h1
  | .ct e h1 => .ct e h1
  | .rt d h1 => .rt d h1
  | .exc (.int c) e h1 => if c.toNat < n ∧ i < e.length then .rt (wd c.toNat) (gb c.toNat h1) else .stuck
  | .exc _ _ _ => .stuck
  | .stuck => .stuck
section
variable {X : Cx} {cl : CL} {W : WX} {ge en : Str} {CG : Addr} {n i : Nat} {body suite : List Stmt} {b0 : Stmt} {m : MS} {su : Addr → Nat → MS} {wd : Nat → D} {gb : Nat → PHeap → PHeap} {np pos pos' : Pos}
theorem ss_tryR (hs : X.stack = X.env :: X.outer) (hf : X.env.frame = some X.env.locals) (hN : X.N.Nodup) (hi : X.N[i]? = some en) (hln : X.env.kindOf en = some .local) (hgl : Gl X ge) (hdg : (ge == ("__debug__" : Str)) = false) (hmg : X.mg ge = some (.ref CG)) (tk : Takes X W)
    (hx : ∀ c, c < n → PySem.W.exmOne X.K (.ref (cl c)) (.ref CG) = some true)
    (hb : ∀ (W : WX) (pn : List (Addr × Obj)) (xe : Value → Shared → Prop), Takes (X.tr pn xe) W → PassesOwn (model X.prog X.w) X.A X.env xe → SB (X.tr pn xe) cl W body m)
    (hu : X.A.units + 65 < cLine)
    (hsu : ∀ (a : Addr) (oe : Obj) (pn : List (Addr × Obj)) (c : Nat), c < n → Hot (X.suite a ((a, oe) :: pn)) a (cl c) → (X.suite a ((a, oe) :: pn)).A.units + 65 < cLine → SB (X.suite a ((a, oe) :: pn)) cl WF (b0 :: suite) (su a c))
    (hw : ∀ (a : Addr) (c : Nat) (env : PEnv) (h : PHeap), c < n → i < env.length → su a c (env.set i (some (.gl (adrS a)))) h = .rt (wd c) (gb c h)) :
    SS X cl W (.Try body [.ExceptHandler (some (.Name ge np)) (some en) (b0 :: suite) pos'] [] [] pos) (sTryR n i m wd gb) := by
  refine (L2.ps_try_as (X := X) (i := i) (Wout := W) (tb := fun W D σ H => rdS X.K cl W m D σ H)
    (ts := fun ex cls d D σ H => ∃ k, k < n ∧ cls = .ref (cl k) ∧ d = none ∧ rdS X.K cl WF (su ex k) D σ H) hs hf hN hi hln ⟨hgl, hdg, .inl hmg⟩ tk (fun W pn xe tk po => hb W pn xe tk po)
    (fun ex oe cls d pn hz hf => ⟨fun pins s' σ H D I ⟨k, hk, e1, e2, q⟩ => (hsu ex oe pn k hk ⟨⟨oe, List.mem_cons_self .., hz.1.trans e1, hz.2.trans e2, hf⟩⟩ hu).run pins s' σ H D I q⟩)).imp fun D sg H ⟨env, h, io, E, hr, p⟩ => ?_
  refine rdS_mk E hr ?_
  unfold sTryR at p
  cases e : m env h with
  | nx e1 h1 => rw [e] at p; exact p
  | bk e1 h1 => rw [e] at p; exact p
  | ct e1 h1 => rw [e] at p; exact p
  | rt d h1 => rw [e] at p; exact p
  | stuck => rw [e] at p; exact p.elim
  | exc x e1 h1 =>
    rw [e] at p
    cases x with
    | int c =>
      simp only at p
      split at p
      · rename_i lt
        intro cls dd io' sg' H' s1 E1 r1 ⟨q1, q2⟩
        refine ⟨true, by rw [q1]; exact hx _ lt.1, fun _ ex na => ⟨c.toNat, lt.1, q1, q2, ?_⟩, fun z => by cases z⟩
        refine rdS_mk (E1.set (i := i) (d := .gl (adrS ex)) (v := .ref ex) (.inr ⟨ex, rfl, rfl⟩)) r1 ?_
        rw [hw ex _ e1 h1 lt.1 lt.2]
        exact fun v io2 H2 s2 r2 q3 => p v io2 H2 (s1.trans s2) r2 q3
      · exact p.elim
    | _ => exact p.elim
end
end Gb

namespace Gb
open PySem PySem.Spec PyProof.Rows L2 LamX
def CTab (K : PySem.W.Frag) (w : World) (mg : Str → Option Value) (x : Str) (tbl : List (Str × List D)) : Prop :=
  ∃ (a : Addr) (es : Array DictEntry) (n : Nat), mg x = some (.ref a) ∧ K.lookup a = some ⟨.type "dict", none, .dict es n, #[]⟩ ∧ PySem.W.KeysLit w.params es.toList ∧
    ∀ p ∈ tbl, p.2.all atomB = true ∧ ∃ u, PySem.W.nsIn K a p.1 = some (some u) ∧ KTupD K u p.2
def mTab (tbl : List (Str × List D)) (b : ME) : ME := fun env h => (b env h).bind fun d h1 => match d with
  | .str x => match tbl.find? (fun p => p.1 == x) with
    | some p => .ok (.tup p.2) h1
    | none => .stuck
  | _ => .stuck
section
variable {X : Cx} {cl : CL} {W : WX} {b : Expr} {mb : ME} {x : Str} {tbl : List (Str × List D)} {p pos : Pos}
theorem sd_tab (hg : Gl X x) (hT : CTab X.K X.w X.mg x tbl) (hb : SE X cl W b mb) (hs : PlainIx b) (hd : (x == ("__debug__" : Str)) = false := by decide) : SE X cl W (.Subscript (.Name x p) b pos) (mTab tbl mb) := by
  obtain ⟨a, es, n, em, el, ek, ev⟩ := hT
  refine (pe_ix ix_kdict (pe_glob (v := .ref a) hg em rfl hd) hb hs).imp fun sg H Q ⟨env, h, io, E, hr, q⟩ => ?_
  refine rd_mk E hr (q.bind fun d h1 v io1 H1 e1 s1 r1 q1 p1 => ?_)
  split at p1
  · rename_i z
    split at p1
    · rename_i y ey
      cases q1
      have my := List.mem_of_find?_eq_some ey
      have ez : y.1 = z := by
        have := List.find?_some ey
        exact eq_of_beq this
      obtain ⟨ga, u, e2, k⟩ := ev y my
      obtain ⟨ta, o, its, m, eu, k1, k2, k3, k4, k5, k6⟩ := k
      subst eu
      refine ⟨a, z, .ref ta, rfl, rfl, ⟨es, n, .ref ta, el, ek, by rw [← ez]; exact e2, rfl⟩, ?_⟩
      exact p1.here r1 ⟨ta, y.2.map atomV, rfl, .inr ⟨o, its, m, k1, k2, k3, k4, k5, k6⟩, rep_atoms ga⟩
    · exact p1.elim
  · exact p1.elim
end
end Gb

namespace Gb
open PySem PySem.Spec PyProof.Rows L2
def zipS (ks : List Str) (ws : List V) : List (Key × V) := List.zipWith (fun k v => (Sum.inr k, v)) ks ws
theorem zipS_len {ks : List Str} {ws : List V} (h : ks.length = ws.length) : (zipS ks ws).length = ks.length := by unfold zipS; rw [List.length_zipWith]; omega
theorem zipS_app : ∀ {ks : List Str} {ws : List V} {n : Str} {z : V}, ks.length = ws.length → zipS (ks ++ [n]) (ws ++ [z]) = zipS ks ws ++ [(Sum.inr n, z)]
  | [], [], _, _, _ => rfl
  | k :: ks, w :: ws, n, z, h => by
    show (Sum.inr k, w) :: zipS (ks ++ [n]) (ws ++ [z]) = _
    rw [zipS_app (by simpa using h)]
    rfl
  | [], _ :: _, _, _, h => by simp at h
  | _ :: _, [], _, _, h => by simp at h
theorem zipS_any : ∀ {ks : List Str} {ws : List V} {n : Str}, n ∉ ks → ((zipS ks ws).any fun kv => decide (kv.1 = Sum.inr n)) = false
  | [], _, _, _ => rfl
  | k :: ks, [], _, _ => rfl
  | k :: ks, w :: ws, n, h => by
    show (decide ((Sum.inr k : Key) = Sum.inr n) || (zipS ks ws).any fun kv => decide (kv.1 = Sum.inr n)) = false
    rw [zipS_any fun m => h (List.mem_cons_of_mem _ m), decide_eq_false fun e => h (by rw [Sum.inr.inj e]; exact List.mem_cons_self ..)]
    rfl
theorem zipS_put {ks : List Str} {ws : List V} {n : Str} {z : V} (h : ks.length = ws.length) (m : n ∉ ks) : putK (zipS ks ws) (Sum.inr n) z = zipS (ks ++ [n]) (ws ++ [z]) := by
  unfold putK
  rw [zipS_any m, zipS_app h]
  rfl
def dcSL (g : TgM) (c : MT) (kk vv : ME) (t : Itr) (env : PEnv) : List D → List Str × List D → PHeap → Res (List Str × List D)
  | [], acc, h => if t.live h then .ok acc h else .stuck
  | d :: ds, acc, h => if t.live h then match g.set d env with
      | none => .stuck
      | some e1 => (c e1 h).calm.bind fun k h1 => match k with
        | false => dcSL g c kk vv t env ds acc h1
        | true => (kk e1 h1).calm.bind fun y h2 => (vv e1 h2).calm.bind fun z h3 => match y with
          | .str n => if acc.1.length < 16777216 ∧ n ∉ acc.1 then dcSL g c kk vv t env ds (acc.1 ++ [n], acc.2 ++ [z]) h3 else .stuck
          | _ => .stuck
    else .stuck
def mDcS0 (i : MI) (g : TgM) (c : MT) (kk vv : ME) (own : List Nat) : PEnv → PHeap → Res (List Str × List D) := fun env h => (i env h).bind fun t h1 => dcSL g c kk vv t (wipeE env own) t.items ([], []) h1
def mDcS (i : MI) (g : TgM) (c : MT) (kk vv : ME) (own : List Nat) : ME := fun env h => (mDcS0 i g c kk vv own env h).bind fun p h1 => .ok (.ref h1.length) (h1 ++ [.dks p.1 p.2])
def RDs (K : PySem.W.Frag) : Hp → List Addr → Hp → List Str × List D → V → Prop := fun H0 io H p v => ∃ a ws, v = .ref a ∧ H0 a = none ∧ a ∉ io ∧ H a = some (.dK (zipS p.1 ws)) ∧ RepL K io H p.2 ws
instance {K : PySem.W.Frag} : Back K (RDs K) := ⟨fun s hl ⟨a, ws, e1, h0, h1, h2, h3⟩ => ⟨a, ws, e1, s.before hl h0 h1, h1, h2, h3⟩⟩
section
variable {X : Cx} {cl : CL} {W : WX} {tg iter kx vx : Expr} {ifs : List Expr} {mk mv : ME} {mt : MT} {mi : MI} {pos : Pos} {scope : Scope} {own : List (Str × Nat)} {g : TgM}
theorem dcs_read {vs : List Nat} (hsl : ∀ i ∈ g.slots, i ∈ vs) {sg : L2.St} {H : Hp} {Q : VK} (q : rd (RDs X.K) X.K cl W (mDcS0 mi g mt mk mv vs) sg H Q) :
    tDc (rdI X.K cl W mi) (rdG X.K g) (rd RBool X.K cl WF mt) (rd (RRep X.K) X.K cl WF mk) (rd (RRep X.K) X.K cl WF mv) vs sg H Q := by
  obtain ⟨env, h, io, E, hr, p⟩ := q
  exact rdI_mk E hr (p.bind fun t h1 J io1 H1 e1 s1 r1 q1 p1 => by
    obtain ⟨as, G, Y, ap, w, hG, hY⟩ := q1
    intro Dd hD
    have hz : sizeLine = 16777216 := sizeLine_eq
    have E1 := (E.step s1).wipe2 vs
    have alive : ∀ {i : Nat} {acc : List Str × List D} {h : PHeap}, postR (RDs X.K) X.K cl W io1 sg H1 (dcSL g mt mk mv t (wipeE env vs) (t.items.drop i) acc h) Q → t.live h = true := by
      intro i acc h p2
      cases q : t.items.drop i with
      | nil =>
        rw [q] at p2
        unfold dcSL at p2
        split at p2
        · assumption
        · exact p2.elim
      | cons d ds =>
        rw [q] at p2
        unfold dcSL at p2
        split at p2
        · assumption
        · exact p2.elim
    refine ⟨fun i m Hc => m = t.items.length - i ∧ i ≤ t.items.length ∧ ∃ h io acc ws, Step X.K io1 H1 io Hc ∧ HRel X.K cl io Hc h ∧ Hc Dd = some (.dK (zipS acc.1 ws)) ∧ Dd ∉ io ∧ acc.1.length = acc.2.length ∧ RepL X.K io Hc acc.2 ws ∧
      postR (RDs X.K) X.K cl W io1 sg H1 (dcSL g mt mk mv t (wipeE env vs) (t.items.drop i) acc h) Q, ⟨_, rfl, Nat.zero_le _, h1, io1, ([], []), [], Step.laid hD, r1.laid hD, upd_same, r1.out hD, rfl, (show RepL X.K io1 (upd H1 Dd (.dK [])) ([] : List D) ([] : List V) from rfl), p1⟩, ?_⟩
    rintro i m Hc ⟨rfl, hile, h2, io2, acc, ws, s2, r2, d2, n2, l2, w2, p2⟩
    have lv := alive p2
    have GG := hG io2 Hc h2 (s2.keeps ap) r2 lv
    rcases Nat.lt_or_ge i t.items.length with hi | hge
    · refine .inr ⟨w.goes i Hc hi GG, fun Hn => ∃ h io acc ws, Step X.K io1 H1 io Hn ∧ HRel X.K cl io Hn h ∧ Hn Dd = some (.dK (zipS acc.1 ws)) ∧ Dd ∉ io ∧ acc.1.length = acc.2.length ∧ RepL X.K io Hn acc.2 ws ∧
        postR (RDs X.K) X.K cl W io1 sg H1 (dcSL g mt mk mv t (wipeE env vs) (t.items.drop (i + 1)) acc h) Q, fun H' hh => ⟨t.items.length - (i + 1), by omega, rfl, hi, hh⟩, fun x H' y => ?_⟩
      have y := w.yields i Hc x H' hi GG y
      obtain ⟨d, hd⟩ : ∃ d, t.items[i]? = some d := ⟨t.items[i], List.getElem?_eq_getElem hi⟩
      have ed : t.items.drop i = d :: t.items.drop (i + 1) := by
        rw [List.drop_eq_getElem_cons hi]
        rw [List.getElem?_eq_getElem hi] at hd
        cases hd
        rfl
      rw [ed] at p2
      unfold dcSL at p2
      rw [if_pos lv] at p2
      obtain ⟨s3, r3, rd'⟩ := hY i io2 Hc h2 x H' d (s2.keeps ap) r2 lv hd y
      have E3 := (E1.step s2).step s3
      have d3 := s3.keep Dd _ d2 n2 (by intro _ z; cases z)
      cases q2 : g.set d (wipeE env vs) with
      | none => rw [q2] at p2; exact p2.elim
      | some e3 =>
        rw [q2] at p2
        simp only at p2
        refine ⟨d, io2, _, e3, rd', E3, q2, fun sg' E' hw => ⟨by rw [hw _ hsl, wipe_none fun i m => m], ⟨e3, h2, io2, E', r3, p2.calm fun k h4 b io4 H4 s4 r4 q4 p4 => ?_⟩⟩⟩
        cases q4
        have d4 := s4.keep Dd _ d3 n2 (by intro _ z; cases z)
        have n4 := s4.out d3 n2
        have s14 := (s2.trans s3).trans s4
        cases k with
        | false => exact iteF ⟨h4, io4, acc, ws, s14, r4, d4, n4, l2, (w2.step s3 _ _).step s4 _ _, p4⟩
        | true =>
          refine iteT ⟨e3, h4, io4, E'.step s4, r4, p4.calm fun y h5 yv io5 H5 s5 r5 q5 p5 => ?_⟩
          have d5 := s5.keep Dd _ d4 n4 (by intro _ z; cases z)
          have n5 := s5.out d4 n4
          refine ⟨e3, h5, io5, (E'.step s4).step s5, r5, p5.calm fun z h6 zv io6 H6 s6 r6 q6 p6 => ?_⟩
          have d6 := s6.keep Dd _ d5 n5 (by intro _ z; cases z)
          have n6 := s6.out d5 n5
          have q5' := q5.step s6
          split at p6
          · rename_i n
            split at p6
            · rename_i hlt
              have ey : yv = .str n := q5
              subst ey
              have w6 := (((w2.step s3 _ _).step s4 _ _).step s5 _ _).step s6 _ _
              have lw : acc.1.length = ws.length := by rw [l2]; exact w2.length
              refine ⟨zipS acc.1 ws, Sum.inr n, rfl, d6, by rw [zipS_len lw]; omega, ?_⟩
              rw [zipS_put lw hlt.2]
              refine ⟨h6, io6, (acc.1 ++ [n], acc.2 ++ [z]), ws ++ [zv], ((s14.trans s5).trans s6).ovr hD d6 dk_nf, r6.ovr d6 dk_nf noTab_dK n6, upd_same, n6, by simp [l2], ?_, p6⟩
              have ov : ∀ {ds : List D} {vs : List V}, RepL X.K io6 H6 ds vs → RepL X.K io6 (upd H6 Dd (.dK (zipS (acc.1 ++ [n]) (ws ++ [zv])))) ds vs := fun r => r.mono (fun _ _ h => h) (fun _ _ => tup_ovr d6 dk_nf) fun _ _ => fro_ovr d6 dk_nf
              exact (ov w6).append ⟨zv, [], rfl, Rep.mono (fun _ _ h => h) (fun _ _ => tup_ovr d6 dk_nf) (fun _ _ => fro_ovr d6 dk_nf) _ _ q6, rfl⟩
            · exact p6.elim
          · exact p6.elim
    · have e : i = t.items.length := by omega
      subst e
      rw [List.drop_length] at p2
      unfold dcSL at p2
      rw [if_pos lv] at p2
      exact .inl ⟨w.stops Hc GG, p2 _ io2 Hc s2 r2 ⟨Dd, ws, rfl, hD, n2, d2, w2⟩⟩)
theorem ps_setDc {i : Nat} {y : Str} {py spos : Pos} {wi : TI} {gg : TG} {tt : TT} {tk tv : TE} (hc : X.calm = true) (hN : X.N.Nodup) (hy : X.N[i]? = some y) (hyl : X.env.scope.names.lookup y = some .local)
    (hsw : swapsWith (.DictComp kx vx [⟨tg, iter, ifs, 0⟩] scope pos) (some (.Name y py)) spos.line X.env = pure true) (hi : PI X tg iter wi) (ok : BlkOk X.N X.env.scope scope own)
    (hg : ∀ (s : Shared) (H : Hp) (C : Addr) (cl : List (Str × Addr)) (fp : List Addr), PG (X.blk s H scope (compEnvC scope cl C X.env) fp) tg gg) (ht : ∀ (s : Shared) (H : Hp) (C : Addr) (cl : List (Str × Addr)) (fp : List Addr), PTs (X.blk s H scope (compEnvC scope cl C X.env) fp) ifs tt)
    (hk : ∀ (s : Shared) (H : Hp) (C : Addr) (cl : List (Str × Addr)) (fp : List Addr), PE (X.blk s H scope (compEnvC scope cl C X.env) fp) kx tk)
    (he : ∀ (s : Shared) (H : Hp) (C : Addr) (cl : List (Str × Addr)) (fp : List Addr), PE (X.blk s H scope (compEnvC scope cl C X.env) fp) vx tv) (hs : ∀ x, foldedSetIterable iter X.env x = pure x) :
    PS X (.Assign [.Name y py] (.DictComp kx vx [⟨tg, iter, ifs, 0⟩] scope pos) spos) (tAsg (tDc wi gg tt tk tv (own.map (·.2))) (gName i)) := by
  constructor
  intro pins s σ H D I h
  rw [exec_Assign_Name_used _ _ _ _ hsw]
  refine wpAny_bind (wpAny_standAt (wpAny_bind ?_))
  show wpAny _ X.A (do let _ ← comprehension (.DictComp kx vx [⟨tg, iter, ifs, 0⟩] scope pos) scope X.env (firstIterPos [⟨tg, iter, ifs, 0⟩] pos) newDict false (eval iter X.env) (some (assign (.Name y py) X.env))) _ _ s
  have h1 : tDc wi gg tt tk tv (own.map (·.2)) σ H (fun x H1 => gName i x σ H1 D.nx) := h
  have core := dc_core (pos := pos) (pos' := firstIterPos [⟨tg, iter, ifs, 0⟩] pos) (use := some (assign (.Name y py) X.env)) (Qf := fun _ s' => SP X pins D .next s') hc hN I hi ok hg ht hk he hs h1 (fun L C s' m H' I' q hn f => by
    obtain ⟨f0, f1, f2, f3, f4, f5⟩ := f
    refine wpAny_assign_Name (store_ok2 (v := V.ref L) I' hN hy (.inl hyl) rfl (fun s2 I2 ⟨a, sb, ha⟩ => ?_) (.inr hyl))
    have apart : C ≠ a := fun z => ha.elim (fun w => f1 (z.trans w)) fun w => f4 y a w z.symm
    exact ⟨m, hn.sameBut sb apart, fun h3 sb3 => ⟨_, H', I2.turned (t' := s2.toks) (fun b o hb e => (sb3.2 b hb).trans e) f0 f1 f3 f4 f5, q⟩⟩)
  exact wpAny_bind (thn core fun _ s' hq => wpAny_pure (wpAny_pure hq))
theorem asg_newS {i : Nat} {D : Ends} {sg : L2.St} {H : Hp} {vs : List Nat} (q : rdS X.K cl W (sAsg (mDcS mi g mt mk mv vs) (.name i)) D sg H) : rd (RDs X.K) X.K cl W (mDcS0 mi g mt mk mv vs) sg H fun x H1 => D.nx (sg.set i (some x)) H1 := by
  obtain ⟨env, h, io, E, hr, p⟩ := q
  refine rd_mk E hr ?_
  unfold sAsg mDcS at p
  cases e : mDcS0 mi g mt mk mv vs env h with
  | ok d h1 =>
    rw [e] at p
    rintro v io1 H1 s1 r1 ⟨b, ws, rfl, h0, hn, hb, q⟩
    have st : Step X.K io H (io1 ++ [b]) H1 := s1.cell hn h0
    exact p _ _ H1 st ((E.step st).set ⟨b, by rw [List.getElem?_append_right (by rw [r1.len]; exact Nat.le_refl _), r1.len]; simp, rfl⟩) (r1.cell1 hn (show CellRep X.K cl io1 H1 b (.dks d.1 d.2) from ⟨ws, hb, q⟩))
  | exc x h1 => rw [e] at p; exact fun cls dd io1 H1 s r q => p cls dd io1 sg H1 s (E.step s) r q
  | stuck => rw [e] at p; exact p
theorem ss_setDcS {y : Str} {py spos : Pos} (i : Nat) (hc : X.calm = true) (hN : X.N.Nodup) (hi : SI X cl W tg iter mi) (ok : BlkOk X.N X.env.scope scope own)
    (hg : ∀ (s : Shared) (H : Hp) (C : Addr) (cl' : List (Str × Addr)) (fp : List Addr), SG (X.blk s H scope (compEnvC scope cl' C X.env) fp) tg g)
    (ht : ∀ (s : Shared) (H : Hp) (C : Addr) (cl' : List (Str × Addr)) (fp : List Addr), PTs (X.blk s H scope (compEnvC scope cl' C X.env) fp) ifs (rd RBool X.K cl WF mt))
    (hk : ∀ (s : Shared) (H : Hp) (C : Addr) (cl' : List (Str × Addr)) (fp : List Addr), SE (X.blk s H scope (compEnvC scope cl' C X.env) fp) cl WF kx mk)
    (he : ∀ (s : Shared) (H : Hp) (C : Addr) (cl' : List (Str × Addr)) (fp : List Addr), SE (X.blk s H scope (compEnvC scope cl' C X.env) fp) cl WF vx mv)
    (hy : X.N[i]? = some y := by rfl) (hyl : X.env.scope.names.lookup y = some .local := by rfl)
    (hsw : swapsWith (.DictComp kx vx [⟨tg, iter, ifs, 0⟩] scope pos) (some (.Name y py)) spos.line X.env = pure true := by rfl)
    (hsl : ∀ i ∈ g.slots, i ∈ own.map (·.2) := by decide) (hs : ∀ x, foldedSetIterable iter X.env x = pure x := by intro _; rfl) :
    SS X cl W (.Assign [.Name y py] (.DictComp kx vx [⟨tg, iter, ifs, 0⟩] scope pos) spos) (sAsg (mDcS mi g mt mk mv (own.map (·.2))) (.name i)) :=
  (ps_setDc (gg := rdG X.K g) (wi := rdI X.K cl W mi) (tt := rd RBool X.K cl WF mt) (tk := rd (RRep X.K) X.K cl WF mk) (tv := rd (RRep X.K) X.K cl WF mv) hc hN hy hyl hsw hi ok hg ht hk he hs).imp fun D sg H q => dcs_read hsl (asg_newS q)
def lookS : List Str → List D → Str → Option D
  | k :: ks, v :: vs, x => if k = x then some v else lookS ks vs x
  | _, _, _ => none
def fIxDs : D → D → PHeap → Res D := fun d e h => match d with
  | .ref n => match e with
    | .str x => match h[n]? with
      | some (.dks ks vs) => match lookS ks vs x with
        | some v => .ok v h
        | none => .stuck
      | _ => .stuck
    | _ => .stuck
  | _ => .stuck
theorem lookS_val {K : PySem.W.Frag} {io : List Addr} {H : Hp} : ∀ {ks : List Str} {vs : List D} {ws : List V} {x : Str} {v : D}, RepL K io H vs ws → lookS ks vs x = some v → ∃ w, valV (zipS ks ws) (Sum.inr x : Key) = some w ∧ Rep K io H v w
  | [], _, _, _, _, _, e => by cases e
  | k :: ks, [], _, _, _, _, e => by cases e
  | k :: ks, d :: ds, _, x, v, ⟨w, ws, e0, r1, r2⟩, e => by
    subst e0
    unfold lookS at e
    by_cases c : k = x
    · rw [if_pos c] at e
      cases e
      exact ⟨w, valV_pos (p := (Sum.inr k, w)) (by rw [c]), r1⟩
    · rw [if_neg c] at e
      obtain ⟨w', e1, r⟩ := lookS_val r2 e
      exact ⟨w', (valV_neg (p := ((Sum.inr k : Key), w)) (fun z => c (Sum.inr.inj z))).trans e1, r⟩
variable {a b : Expr} {ma mb : ME}
theorem sd_ixDs (hu : X.A.units + 65 < cLine) (ha : SE X cl W a ma) (hb : SE X cl W b mb) (hs : NoSl b) : SE X cl W (.Subscript a b pos) (mBin fIxDs ma mb) :=
  (pe_dget (by omega) ha hb hs).imp fun sg H Q ⟨env, h, io, E, hr, p⟩ => rd_mk E hr (p.bind fun d h1 v io1 H1 e1 s1 r1 q1 p1 => rd_mk (E.step s1) r1 (p1.bind fun d2 h2 u io2 H2 e2 s2 r2 q2 p2 => by
    replace q1 := q1.step s2
    unfold fIxDs at p2
    split at p2
    · rename_i n
      split at p2
      · rename_i x
        split at p2
        · rename_i ks vs eh
          split at p2
          · rename_i w ew
            obtain ⟨ad, e3, rfl⟩ := q1
            obtain ⟨ws, e4, r4⟩ := r2.cell n ad _ e3 eh
            obtain ⟨w', e5, r5⟩ := lookS_val r4 ew
            cases q2
            exact ⟨ad, w', rfl, by rw [← e5]; exact DGet.k (k := Sum.inr x) e4, p2.here r2 r5⟩
          · exact p2.elim
        · exact p2.elim
      · exact p2.elim
    · exact p2.elim))
end
end Gb

namespace Gb
open PySem PySem.Spec PyProof.Rows L2
def fIdxT (ys : List Str) : D → PHeap → Res D := fun d h => match d with
  | .str z => match ys.findIdx? (· == z) with
    | some j => .ok (.int (j : Nat)) h
    | none => .stuck
  | _ => .stuck
def mIdxC (ys : List Str) (a : ME) : ME := fun env h => (a env h).bind fun y h2 => fIdxT ys y h2
theorem vals_strs' : ∀ ys : List Str, (ys.map D.str).map atomV = ys.map V.str := fun ys => by rw [List.map_map]; rfl
section
variable {X : Cx} {cl : CL} {W : WX} {mb : ME} {e : Expr} {x : Str} {ys : List Str} {np : Pos}
theorem sd_idxC {apos cpos : Pos} (hg : Gl X x) (h : ∃ u, X.mg x = some u ∧ KTupD X.K u (ys.map D.str)) (ha : SE X cl W e mb) (hd : (x == ("__debug__" : Str)) = false := by decide) (hbase : attributeBase (.Name x np) "index" X.env (eval (.Name x np) X.env) = eval (.Name x np) X.env := by rfl)
    (hfew : ((backTo cpos (starEach [e] X.env)).all (fun x => !x.1) && (backToKw cpos (keywordEach [] X.env)).all (fun x => x.1.isSome)
      && decide ([e].length + ([] : List Keyword).length + (if ([] : List Keyword).isEmpty then 0 else 1) < 30)) = true := by rfl)
    (hline : (apos.endLine == cpos.line) = true := by rfl) (hs : starEach [e] X.env = (false, eval e X.env) :: starEach [] X.env := by rfl) (hplain : (backTo cpos (starEach [] X.env)).any (·.1) = false := by rfl) :
    SE X cl W (.Call (.Attribute (.Name x np) "index" apos) [e] [] cpos) (mIdxC ys mb) := by
  obtain ⟨u, h1, a, o, its, n, rfl, k1, k2, k3, k4, k5, k6⟩ := h
  refine (pe_bm PySem.F.plainAttrs_tuple PySem.F.slot_tuple_index (by rfl) mt_tup_index (pe_glob (v := .ref a) hg h1 rfl hd) (pa_cons ha pa_nil hs) hbase hfew hline hs hplain).imp fun sg H Q ⟨env, h, io, E, hr, p⟩ => ?_
  refine ⟨.inr (.inl ⟨rfl, o, k1, k2, k3⟩), ?_⟩
  refine rd_mk E hr (p.bind fun d h1 v io1 H1 e1 s1 r1 q1 p1 => ?_)
  unfold fIdxT at p1
  split at p1
  · rename_i z
    cases q1
    split at p1
    · rename_i j ej
      obtain ⟨hj, hz, hn⟩ := List.findIdx?_eq_some_iff_getElem.mp ej
      refine ⟨a, ys, z, j, rfl, rfl, ?_, ?_, ?_, p1.here r1 rfl⟩
      · exact .inr ⟨o, its, n, k1, k2, k4, k5, by rw [← vals_strs']; exact k6⟩
      · rw [List.getElem?_eq_getElem hj, eq_of_beq hz]
      · intro m hm em
        have hl : m < ys.length := by omega
        rw [List.getElem?_eq_getElem hl] at em
        have := hn m hm
        rw [Option.some.inj em] at this
        simp at this
    · exact p1.elim
  · exact p1.elim
end
end Gb

namespace Gb
open PySem PySem.Spec PyProof.Rows L2
def enuDS (k : Int) (xs : List D) : List D := xs.mapIdx fun i d => D.tup [.int (k + (i : Nat)), d]
def iEnuS (k : Int) (a : MO) : MI := fun env h => (a env h).bind fun lv h1 => match lv.seq h1 with
  | some xs => .ok ⟨enuDS k xs, srcDeps lv xs⟩ h1
  | none => .stuck
theorem get_enuS {k : Int} {xs : List D} {i : Nat} {d : D} (h : (enuDS k xs)[i]? = some d) : ∃ x, xs[i]? = some x ∧ d = .tup [.int (k + (i : Nat)), x] := by
  simp only [enuDS, List.getElem?_mapIdx] at h
  cases q : xs[i]? with
  | none => rw [q] at h; cases h
  | some x => rw [q] at h; cases h; exact ⟨x, rfl, rfl⟩
section
variable {M : Model} {A : Around} {E : Value → Shared → Prop} {s : Shared}
theorem callWith_typeKB {pos : Pos} {T : String} {first : List Value} {args : List (Bool × Sem Value)} {keywords : List (Option Str × Sem Value)} {Q : Value → Shared → Prop}
    (hplain : args.any (·.1) = false) (hkw : keywords.any (·.1.isNone) = false)
    (h : wpAny M A (evalArgs (.type T) true args keywords) (fun a s₁ => wpAny M A (call (.type T) (first ++ a.pos) a.kw) Q E s₁) E s) :
    wpAny M A (callWith pos (.type T) first args keywords) Q E s := by
  unfold callWith
  have e : (args.any (·.1) || keywords.any (·.1.isNone)) = false := by rw [hplain, hkw]; rfl
  refine wpAny_bind (wpAny_holding (wpAny_mono h (fun a s₁ h₁ => wpAny_bind (wpAny_standAt ?_)) fun _ _ x => x))
  simp only [e]
  exact wpAny_bind (wpAny_pure (wpAny_bind (wpAny_mono h₁ (fun r s₂ hr => wpAny_bind (wpAny_holding (wpAny_point (wpAny_pure hr)))) fun _ _ x => x)))
end
section
variable {X : Cx} {cl : CL} {W : WX} {a e : Expr} {mo : MO} {ta : TA} {k : Int} {j : Nat} {elts : List Expr} {kk : Nat} {tpos p pos kp kp2 : Pos}
theorem pi_enS (hk : -(2 ^ 63) ≤ k ∧ k < 2 ^ 63) (hg : Gl X "enumerate") (hm : X.mg "enumerate" = none) (ha : PA X [e] ta) (hs : starEach [e] X.env = (false, eval e X.env) :: starEach [] X.env := by rfl)
    (hq : backTo pos (starEach [e] X.env) = (false, eval e X.env) :: backTo pos (starEach [] X.env) := by rfl) (hpl : (backTo pos (starEach [e] X.env)).any (·.1) = false := by rfl)
    (hall : (backToKw pos (keywordEach [⟨some "start", .Constant (.int k) j kp2, kp⟩] X.env)).all (·.1.isSome) = true := by rfl) (hnone : (backToKw pos (keywordEach [⟨some "start", .Constant (.int k) j kp2, kp⟩] X.env)).any (·.1.isNone) = false := by rfl)
    (hks : (backToKw pos (keywordEach [⟨some "start", .Constant (.int k) j kp2, kp⟩] X.env)).filterMap (·.1) = [Str.ofString "start"] := by rfl) :
    PI X (.Tuple elts kk tpos) (.Call (.Name "enumerate" p) [e] [⟨some "start", .Constant (.int k) j kp2, kp⟩] pos) (fun σ H R => ta σ H fun vs H1 => ∃ (u : Src) (xs : List V), vs = [.ref u.addr] ∧ u.At X.K H1 xs ∧ R (ItE X.K u k) H1) := by
  refine ⟨fun pins s σ H R I h => ?_⟩
  refine PySem.wpAny_Call_Name_kw (ld_blt I hg hm boot_enumerate (callWith_typeKB hpl hnone ?_))
  have h0 := ha.run pos pins s σ H _ I h
  rw [hq] at h0 ⊢
  refine evalArgs_kwB hall (thn h0 fun us s1 ⟨vs, H1, I1, r1, q1⟩ => ?_)
  refine kws_cons (thn (pe_int (i := k) (j := j) (pos := kp2) |>.run pins s1 σ H1 (fun x H2 => x = .int k ∧ H2 = H1) I1 ⟨rfl, rfl⟩) fun kv s2 ⟨x, H2, I2, r2, ex, eH⟩ => kws_nil ?_)
  subst ex eH
  obtain ⟨t, rfl⟩ := r2
  obtain ⟨u, xs, ex, hq2, q⟩ := q1
  subst ex
  rw [hks]
  cases r1 with
  | cons r rr =>
    cases rr
    cases r
    obtain ⟨Hq, B, h1⟩ := Src.begins I2 hq2
    have hlt := Src.lt I2 hq2
    refine enum_begins_start B h1 hk.1 hk.2 fun h' he hit hsz hkp => wpAny_pyIter_enum he ?_
    have I3 := I2.kept (t' := s2.toks) hkp
    refine ⟨s2.heap.objs.size + 1, [s2.heap.objs.size + 1, s2.heap.objs.size], _, _, H2, rfl, I3, turn_e (k := k) (e := s2.heap.objs.size + 1) (it := s2.heap.objs.size) (Nat.ne_of_lt hlt) (Nat.succ_ne_self _) (Nat.ne_of_gt (Nat.lt_succ_of_lt hlt)), ⟨⟨.none, by rw [Int.natCast_zero, Int.add_zero]; exact he⟩, Src.it0 hit⟩, fun b hb => ?_, q⟩
    have e' : b = s2.heap.objs.size + 1 ∨ b = s2.heap.objs.size := by simpa using hb
    have hle : s2.heap.objs.size ≤ b := by
      rcases e' with z | z <;> rw [z]
      · exact Nat.le_add_right _ _
      · exact Nat.le_refl _
    exact I2.fpOk hle (I2.hok.fresh hle)
theorem si_enuS (hm : X.mg "enumerate" = none) (ha : SO X cl W a mo) (hk : -(2 ^ 63) ≤ k ∧ k < 2 ^ 63 := by decide) (hg : Gl X "enumerate" := by rfl) (hs : starEach [a] X.env = (false, eval a X.env) :: starEach [] X.env := by rfl)
    (hq : backTo pos (starEach [a] X.env) = (false, eval a X.env) :: backTo pos (starEach [] X.env) := by rfl) (hpl : (backTo pos (starEach [a] X.env)).any (·.1) = false := by rfl)
    (hall : (backToKw pos (keywordEach [⟨some "start", .Constant (.int k) j kp2, kp⟩] X.env)).all (·.1.isSome) = true := by rfl) (hnone : (backToKw pos (keywordEach [⟨some "start", .Constant (.int k) j kp2, kp⟩] X.env)).any (·.1.isNone) = false := by rfl)
    (hks : (backToKw pos (keywordEach [⟨some "start", .Constant (.int k) j kp2, kp⟩] X.env)).filterMap (·.1) = [Str.ofString "start"] := by rfl) :
    SI X cl W (.Tuple elts kk tpos) (.Call (.Name "enumerate" p) [a] [⟨some "start", .Constant (.int k) j kp2, kp⟩] pos) (iEnuS k mo) :=
  (pi_enS hk hg hm (pa_cons ha pa_nil hs) hs hq hpl hall hnone hks).imp fun sg H R ⟨env, h, io, E, hr, p⟩ => rd_mk E hr (p.bindAt .refl fun lv h1 v io1 H1 s1 r1 q1 p1 => by
    split at p1
    · rename_i xs e
      obtain ⟨u, vs, as, rfl, h2, h3, ap, h4⟩ := src_of r1 q1 e
      refine ⟨u, vs, rfl, h2, p1 _ io1 H1 s1 r1 ⟨as, _, _, ap, walk_e, fun io2 H2 h2 s2 r2 l2 => ?_, fun i io2 H2 h2 x H' d s2 r2 l2 hd y => ?_⟩⟩
      · obtain ⟨ws, hw, rw'⟩ := h4 io2 H2 h2 s2 r2 l2
        exact ⟨ws, hw, by simp [enuDS, rw'.length]⟩
      · obtain ⟨ws, hw, rw'⟩ := h4 io2 H2 h2 s2 r2 l2
        obtain ⟨T, o, z, rfl, hT, ho, rfl, hy⟩ := y
        obtain ⟨dx, e2, rfl⟩ := get_enuS hd
        obtain ⟨w, e3, r3⟩ := rw'.get e2
        rw [hy ws hw] at e3; cases e3
        exact ⟨Step.laid hT, r2.laid hT, rep_pair hT ho ⟨_, _, rfl, rfl, _, _, rfl, r3, rfl⟩⟩
    · exact p1.elim)
end
end Gb

namespace Gb
open PySem PySem.Spec PyProof.Rows L2 He
def HTab (K : PySem.W.Frag) (w : World) (x : Str) (tbl : List (Str × List D)) : Prop :=
  ∃ a : Addr, PySem.W.nsIn K mainGlobals x = some (some (.ref a)) ∧ dicW K a = some (keysIn w.params (tbl.map (·.1))) ∧
    ∀ p ∈ tbl, p.2.all atomB = true ∧ ∃ (b : Addr) (o : Obj) (its : Array Value) (n : Nat), PySem.W.nsIn K a p.1 = some (some (.ref b)) ∧ K.lookup b = some o ∧ o.cls = .type "tuple" ∧ o.dict = none ∧ o.data = .seq its n ∧ its.size ≤ sizeLine ∧ Vals (p.2.map atomV) its.toList
theorem ctab_of {K : PySem.W.Frag} {w : World} {h : Heap} {mg : Str → Option Value} {x : Str} {tbl : List (Str × List D)} (X : K.In h) (G : h.Ns mainGlobals mg) (T : HTab K w x tbl) : CTab K w mg x tbl := by
  obtain ⟨a, ea, ed, er⟩ := T
  obtain ⟨es, n, kd⟩ := dicW_ok ed
  refine ⟨a, es, n, PySem.W.mg_of X G ea, kd.at_, kd.lit, fun p m => ?_⟩
  obtain ⟨ga, b, o, its, k, e1, r⟩ := er p m
  exact ⟨ga, .ref b, e1, b, o, its, k, rfl, r⟩
end Gb

namespace Gb
open PySem PySem.Spec PyProof.Rows L2 LamX
def isE_NoCase : Nat → Bool := fun c => [true].getD c false
def isE_ValueError : Nat → Bool := fun c => [true].getD c false
def su__law_refused (a : Addr) (c : Nat) : MS := sRet (mAnd (mIsE a (isE_NoCase c) 1) (mIsE a (isE_ValueError c) 1))
def wd__law_refused : Nat → D
  | 0 => .bl true
  | _ => .non
theorem so__law_refused : ∀ (a : Addr) (c : Nat) (env : PEnv) (h : PHeap), c < 1 → 1 < env.length → su__law_refused a c (env.set 1 (some (.gl (adrS a)))) h = .rt (wd__law_refused c) h
  | a, 0, env, h, _, hl => by simp [mIsE, List.getElem?_set, hl, su__law_refused, wd__law_refused, isE_NoCase, isE_ValueError] <;> rfl
  | _, c + 1, _, _, hc, _ => absurd hc (by omega)
def b_is_whole : MS := sRet (mAnd (m1 (fIsi .int) (mVal (mVar 0))) (mNot (m1 (fIsi .bl) (mVal (mVar 0)))))
def p_is_whole : List D → PHeap → Res D := runFn 1 1 b_is_whole
def b_line_of : MS := sRet (mJoin (mC (.str (" " : Str))) (m2 fAddO (mNL (mDisp (mCons (mVar 0) (mNil)))) (mNL (mLc (iSrc (mVal (mVar 1))) (.name 2) (tYesM) (mUn fStrI (mVar 2)) [2]))))
def p_line_of : List D → PHeap → Res D := runFn 2 3 b_line_of
def b_number_in : MS := sSeq (sAsg (mIf (mTB (m2 (fEqO id) (mVal (mSlS (mVar 0) (pNone) (pSome (mC (.int 1))))) (mVal (mC (.str ("-" : Str)))))) (mSlS (mVar 0) (pSome (mC (.int 1))) (pNone)) (mVar 0)) (.name 1)) (sSeq (sIf (tOrM (mTB (m2 (fEqO id) (mVal (mVar 1)) (mVal (mC (.str ("" : Str)))))) (tNotM (mTst (m1 fAll (mNL (mLc (iTxt (mVar 1)) (.name 2) (tYesM) (mBin (fSignIn id) (mVar 2) (mC (.str ("0123456789" : Str)))) [2]))) truthD))) (sRet (mC .non)) (sNext)) (sRet (mIf (mTB (m2 (fEqO id) (mVal (mUn fStrI (m1 fIntS (mVal (mVar 0))))) (mVal (mVar 0)))) (m1 fIntS (mVal (mVar 0))) (mC .non))))
def p_number_in : List D → PHeap → Res D := runFn 1 3 b_number_in
def b_bay_of : MS := sRet (mTup (mCons (mM (mSl (mVal (mVar 0)) (pNone) (pSome (mC (.int (4)))))) (mCons (mM (mSl (mVal (mVar 0)) (pSome (mC (.int (4)))) (pSome (mC (.int (8)))))) (mCons (mM (mSl (mVal (mVar 0)) (pSome (mC (.int (8)))) (pNone))) (mNil)))))
def p_bay_of : List D → PHeap → Res D := runFn 1 1 b_bay_of
def b__law_cell_at : MS := sSeq (sIf (mTB (mBin fLt (mVar 1) (m1 fLen (mVal (mVar 0))))) (sRet (m2 fIx (mVal (mVar 0)) (mVal (mVar 1)))) (sNext)) (sRet (mC (.int 0)))
def p__law_cell_at : List D → PHeap → Res D := runFn 2 2 b__law_cell_at
def l__law_pot_0 : MS := sSeq (sAsg (mBin fMod (mM (m2 fMulO (m2 fAddO (m2 fAddO (mVal (mBin fMod (mVar 0) (mC (.int 2147483629)))) (m2 fMulO (mVal (mC (.int 7919))) (mVal (mVar 2)))) (mVal (mC (.int 1)))) (mVal (mC (.int 48271))))) (mC (.int 2147483647))) (.name 3)) (sSeq (sAsg (mBin fMod (mM (m2 fAddO (m2 fAddO (m2 fMulO (mVal (mVar 3)) (mVal (mVar 3))) (m2 fMulO (mVal (mC (.int 69621))) (mVal (mVar 2)))) (mVal (mC (.int 7))))) (mC (.int 2147483587))) (.name 3)) (sAsg (mM (m2 fAddO (m2 fMulO (mVal (mVar 1)) (mVal (mC (.int 2147483587)))) (mVal (mVar 3)))) (.name 1)))
def b__law_pot : MS := sSeq (sIf (mTB (mBin fGe (mVar 0) (mBin fPow (mC (.int 10)) (mC (.int 18))))) (sRet (mM (mNL (mDisp (mCons (mBin fSub (mVar 0) (mBin fPow (mC (.int 10)) (mC (.int 18)))) (mNil)))))) (sNext)) (sSeq (sAsg (mC (.int 0)) (.name 1)) (sSeq (sFor (iR1 (mC (.int 64))) (.name 2) (l__law_pot_0) [2, 3]) (sRet (mM (mNL (mDisp (mCons (mVar 1) (mNil))))))))
def p__law_pot : List D → PHeap → Res D := runFn 1 4 b__law_pot
def b__law_take : MS := sSeq (sAsg (mBin fMod (m2 fIx (mVal (mVar 0)) (mVal (mC (.int 0)))) (mVar 1)) (.name 2)) (sSeq (sSub (mBin fDiv (m2 fIx (mVal (mVar 0)) (mVal (mC (.int 0)))) (mVar 1)) (mVar 0) (mC (.int 0))) (sRet (mVar 2)))
def p__law_take : List D → PHeap → Res D := runFn 2 3 b__law_take
def b__law_rows : MS := sSeq (sAsg (mVar 0) (.tup [.tup [.name 1, .name 2, .name 3], .name 4, .name 5, .name 6])) (sSeq (sAsg (mM (m2 fAddO (mNL (mDisp (mCons (mTup (mCons (mC (.str ("house" : Str))) (mCons (mTup (mCons (mVar 2) (mCons (mVar 3) (mNil)))) (mNil)))) (mNil)))) (mNL (mLc (iSrc (mVal (mVar 1))) (.tup [.name 8, .name 9, .name 10]) (tYesM) (mTup (mCons (mC (.str ("bay" : Str))) (mCons (mM (m2 fAddO (m2 fAddO (mVal (mVar 8)) (mVal (mVar 9))) (mVal (mVar 10)))) (mNil)))) [8, 9, 10])))) (.name 7)) (sSeq (sAsg (mM (m2 fAddO (m2 fAddO (m2 fAddO (mVal (mVar 7)) (mNL (mLc (iSrc (mVal (mVar 4))) (.name 12) (tYesM) (mTup (mCons (mC (.str ("at" : Str))) (mCons (mVar 12) (mNil)))) [12]))) (mNL (mLc (iSrc (mVal (mVar 5))) (.name 11) (tYesM) (mTup (mCons (mC (.str ("hour" : Str))) (mCons (mVar 11) (mNil)))) [11]))) (mNL (mDisp (mCons (mTup (mCons (mC (.str ("wish" : Str))) (mCons (mVar 6) (mNil)))) (mNil)))))) (.name 7)) (sRet (mM (mNL (mLc (iSrc (mVal (mVar 7))) (.tup [.name 13, .name 14]) (tYesM) (mJoin (mC (.str (" " : Str))) (m2 fAddO (mNL (mDisp (mCons (mVar 13) (mNil)))) (mNL (mLc (iSrc (mVal (mVar 14))) (.name 15) (tYesM) (mUn fStrI (mVar 15)) [15])))) [13, 14]))))))
def p__law_rows : List D → PHeap → Res D := runFn 1 16 b__law_rows
def b__law_great : MS := sSeq (sAsg (mTup (mCons (mTup (mCons (mTup (mCons (mC (.int 6)) (mCons (mC (.int 3)) (mCons (mC (.int 4)) (mCons (mC (.int 4)) (mNil)))))) (mCons (mTup (mCons (mUn fNeg (mC (.int 20))) (mCons (mC (.int 40)) (mCons (mC (.int 0)) (mCons (mC (.int 9)) (mNil)))))) (mCons (mTup (mCons (mC (.int 40)) (mCons (mC (.int 9)) (mNil)))) (mNil))))) (mCons (mTup (mCons (mTup (mCons (mC (.int 2)) (mCons (mC (.int 0)) (mCons (mC (.int 1)) (mCons (mC (.int 0)) (mNil)))))) (mCons (mTup (mCons (mUn fNeg (mC (.int 20))) (mCons (mUn fNeg (mC (.int 20))) (mCons (mC (.int 9)) (mCons (mC (.int 9)) (mNil)))))) (mCons (mTup (mCons (mUn fNeg (mC (.int 20))) (mCons (mC (.int 0)) (mNil)))) (mNil))))) (mNil)))) (.name 0)) (sSeq (sAsg (mTup (mCons (mTup (mCons (mC (.int 60)) (mCons (mC (.int 9)) (mCons (mC (.int 4)) (mNil))))) (mCons (mTup (mCons (mUn fNeg (mC (.int 40))) (mCons (mC (.int 0)) (mCons (mC (.int 0)) (mNil))))) (mNil)))) (.name 1)) (sRet (mTup (mCons (mTup (mCons (mVar 0) (mCons (mC (.int 2)) (mCons (mC (.int 1)) (mNil))))) (mCons (mVar 1) (mCons (mTup (mCons (mTup (mCons (mUn fNeg (mC (.int 30))) (mCons (mUn fNeg (mC (.int 27))) (mCons (mC (.int 8)) (mCons (mC (.int 9)) (mNil)))))) (mCons (mTup (mCons (mC (.int 50)) (mCons (mC (.int 50)) (mCons (mC (.int 0)) (mCons (mC (.int 0)) (mNil)))))) (mCons (mTup (mCons (mC (.int 47)) (mCons (mC (.int 50)) (mCons (mC (.int 9)) (mCons (mC (.int 9)) (mNil)))))) (mNil))))) (mCons (mTup (mCons (mC (.int 4)) (mCons (mC (.int 4)) (mNil)))) (mNil))))))))
@[irreducible] def p__law_great : List D → PHeap → Res D := runFn 0 2 b__law_great
def b_is_among : MS := sRet (mAnd (mCall p_is_whole (mCons (mVar 0) (mNil))) (mChain fLe fLe (mVar 1) (mVar 0) (mVar 2)))
def p_is_among : List D → PHeap → Res D := runFn 3 3 b_is_among
def b_lines_of : MS := sSeq (sAsg (mVar 0) (.tup [.tup [.name 1, .name 2, .name 3], .name 4, .name 5, .name 6])) (sSeq (sAsg (mM (mNL (mDisp (mCons (mCall p_line_of (mCons (mC (.str ("house" : Str))) (mCons (mTup (mCons (mVar 2) (mCons (mVar 3) (mNil)))) (mNil)))) (mNil))))) (.name 7)) (sSeq (sAsg (mM (m2 fAddO (mVal (mVar 7)) (mNL (mLc (iSrc (mVal (mVar 1))) (.tup [.name 8, .name 9, .name 10]) (tYesM) (mCall p_line_of (mCons (mC (.str ("bay" : Str))) (mCons (mM (m2 fAddO (m2 fAddO (mVal (mVar 8)) (mVal (mVar 9))) (mVal (mVar 10)))) (mNil)))) [8, 9, 10])))) (.name 7)) (sSeq (sAsg (mM (m2 fAddO (mVal (mVar 7)) (mNL (mLc (iSrc (mVal (mVar 4))) (.name 11) (tYesM) (mCall p_line_of (mCons (mC (.str ("at" : Str))) (mCons (mVar 11) (mNil)))) [11])))) (.name 7)) (sRet (mM (m2 fAddO (m2 fAddO (mVal (mVar 7)) (mNL (mLc (iSrc (mVal (mVar 5))) (.name 12) (tYesM) (mCall p_line_of (mCons (mC (.str ("hour" : Str))) (mCons (mVar 12) (mNil)))) [12]))) (mNL (mDisp (mCons (mCall p_line_of (mCons (mC (.str ("wish" : Str))) (mCons (mVar 6) (mNil)))) (mNil))))))))))
def p_lines_of : List D → PHeap → Res D := runFn 1 13 b_lines_of
def b_row_in : MS := sSeq (sAsg (mM (mSplit (mVar 0) (mC (.str (" " : Str))))) (.name 1)) (sSeq (sAsg (m1 fTuple (mNL (mLc (iSrc (mSl (mVal (mVar 1)) (pSome (mC (.int 1))) (pNone))) (.name 3) (tYesM) (mCall p_number_in (mCons (mVar 3) (mNil))) [3]))) (.name 2)) (sSeq (sIf (tOrM (mTB (m2 (fInO not) (mVal (m2 fIx (mVal (mVar 1)) (mVal (mC (.int 0))))) (mVal (mC (.tup [.str ("house" : Str), .str ("bay" : Str), .str ("at" : Str), .str ("hour" : Str), .str ("wish" : Str)]))))) (tOrM (mTB (m2 (fInO id) (mVal (mC .non)) (mVal (mVar 2)))) (mTB (m2 (fInO not) (mVal (m1 fLen (mVal (mVar 2)))) (mVal (mTab [(("house" : Str), [.int (2)]), (("bay" : Str), [.int (10)]), (("at" : Str), [.int (3)]), (("hour" : Str), [.int (4)]), (("wish" : Str), [.int (1), .int (2)])] (m2 fIx (mVal (mVar 1)) (mVal (mC (.int 0)))))))))) (sRet (mC .non)) (sNext)) (sRet (mTup (mCons (m2 fIx (mVal (mVar 1)) (mVal (mC (.int 0)))) (mCons (mVar 2) (mNil)))))))
def p_row_in : List D → PHeap → Res D := runFn 1 4 b_row_in
def b__law_odd : MS := sSeq (sAsg (mM (mNL (mDisp (mCons (mC .non) (mCons (mC (.bl true)) (mCons (mC (.bl false)) (mCons (mUn fNeg (mC (.int 1))) (mCons (mBin fPow (mC (.int 10)) (mC (.int 11))) (mCons (mC (.str ("" : Str))) (mCons (mC (.str ("a" : Str))) (mCons (mC (.str ("1" : Str))) (mCons (mTup (mNil)) (mCons (mM (mNL (mDisp (mNil)))) (mCons (mC (.dct [] [])) (mCons (mM (mNL (mDisp (mCons (mTup (mNil)) (mNil))))) (mCons (mTup (mCons (mTup (mNil)) (mNil))) (mCons (mTup (mCons (mC (.int 0)) (mNil))) (mCons (mM (mNL (mDisp (mCons (mC (.int 0)) (mNil))))) (mCons (mC (.dct [.int 0] [.int 1])) (mCons (mTup (mCons (mC (.bl true)) (mCons (mC (.bl true)) (mNil)))) (mNil))))))))))))))))))))) (.name 1)) (sRet (m2 fIx (mVal (mVar 1)) (mVal (mCall p__law_take (mCons (mVar 0) (mCons (m1 fLen (mVal (mVar 1))) (mNil)))))))
def p__law_odd : List D → PHeap → Res D := runFn 1 2 b__law_odd
def b__law_bay : MS := sSeq (sAsg (mTup (mCons (mM (m2 fAddO (mVal (mC (.int 2))) (mVal (mCall p__law_take (mCons (mVar 0) (mCons (mC (.int 5)) (mNil))))))) (mCons (mCall p__law_take (mCons (mVar 0) (mCons (mC (.int 4)) (mNil)))) (mCons (mM (m2 fAddO (mVal (mC (.int 1))) (mVal (mCall p__law_take (mCons (mVar 0) (mCons (mC (.int 4)) (mNil))))))) (mCons (mCall p__law_take (mCons (mVar 0) (mCons (mC (.int 5)) (mNil)))) (mNil)))))) (.name 1)) (sSeq (sPar [2, 3] (mCons (mBin fSub (mC (.int 10)) (mCall p__law_take (mCons (mVar 0) (mCons (mC (.int 5)) (mNil))))) (mCons (mCall p__law_take (mCons (mVar 0) (mCons (mC (.int 3)) (mNil)))) (mNil)))) (sSeq (sAsg (mTup (mCons (mVar 2) (mCons (mM (m2 fAddO (mVal (mVar 2)) (mVal (mCall p__law_take (mCons (mVar 0) (mCons (mC (.int 9)) (mNil))))))) (mCons (mVar 3) (mCons (m2 fMin2 (mVal (mC (.int 9))) (m2 fAddO (m2 fAddO (mVal (mVar 3)) (mVal (mC (.int 1)))) (mVal (mCall p__law_take (mCons (mVar 0) (mCons (mC (.int 8)) (mNil))))))) (mNil)))))) (.name 4)) (sRet (mTup (mCons (mVar 1) (mCons (mVar 4) (mCons (mTup (mCons (mBin fSub (mM (m2 fAddO (mVal (mVar 2)) (mVal (mCall p__law_take (mCons (mVar 0) (mCons (mC (.int 6)) (mNil))))))) (mC (.int 1))) (mCons (mCall p__law_take (mCons (mVar 0) (mCons (mC (.int 3)) (mNil)))) (mNil)))) (mNil))))))))
def p__law_bay : List D → PHeap → Res D := runFn 1 5 b__law_bay
def b__law_hour : MS := sSeq (sPar [2, 3] (mCons (mM (m2 fAddO (mVal (mC (.int 6))) (mVal (mCall p__law_take (mCons (mVar 0) (mCons (mC (.int 9)) (mNil))))))) (mCons (mCall p__law_take (mCons (mVar 0) (mCons (mC (.int 9)) (mNil)))) (mNil)))) (sRet (mTup (mCons (mVar 2) (mCons (mM (m2 fAddO (mVal (mVar 2)) (mVal (mCall p__law_take (mCons (mVar 0) (mCons (mVar 1) (mNil))))))) (mCons (mVar 3) (mCons (mM (m2 fAddO (mVal (mVar 3)) (mVal (mCall p__law_take (mCons (mVar 0) (mCons (m2 fMin2 (mVal (mC (.int 2))) (mVal (mVar 1))) (mNil))))))) (mNil)))))))
def p__law_hour : List D → PHeap → Res D := runFn 2 4 b__law_hour
def b_is_row : MS := sSeq (sIf (tOrM (tNotM (mTst (m1 (fIsi .tup) (mVal (mVar 0))) truthD)) (mTB (m2 (fEqO not) (mVal (m1 fLen (mVal (mVar 0)))) (mVal (m1 fLen (mVal (mVar 1))))))) (sRet (mC (.bl false))) (sNext)) (sRet (m1 fAll (mNL (mLc (iZip2 (mVal (mVar 0)) (mVal (mVar 1))) (.tup [.name 2, .tup [.name 3, .name 4]]) (tYesM) (mCall p_is_among (mCons (mVar 2) (mCons (mVar 3) (mCons (mVar 4) (mNil))))) [2, 3, 4]))))
def p_is_row : List D → PHeap → Res D := runFn 2 5 b_is_row
def l_rows_in_0 : MS := sSeq (sAsg (mCall p_row_in (mCons (mVar 3) (mNil))) (.name 4)) (sSeq (sIf (tOrM (mTB (mBin fIs (mVar 4) (mC .non))) (tAndM (mTB (m2 (fEqN not) (mVal (mVar 1)) (mNL (mDisp (mNil))))) (mTB (mBin fLt (mIdxC [("house" : Str), ("bay" : Str), ("at" : Str), ("hour" : Str), ("wish" : Str)] (m2 fIx (mVal (mVar 4)) (mVal (mC (.int 0))))) (mIdxC [("house" : Str), ("bay" : Str), ("at" : Str), ("hour" : Str), ("wish" : Str)] (m2 fIx (mVal (m2 fIx (mVal (mVar 1)) (mVal (mUn fNeg (mC (.int 1)))))) (mVal (mC (.int 0))))))))) (sRet (mTup (mCons (mVar 1) (mCons (mVar 2) (mNil))))) (sNext)) (sDrop (mMt fAppend (mVar 1) (mCons (mVar 4) (mNil)))))
def b_rows_in : MS := sSeq (sAsg (mM (mNL (mDisp (mNil)))) (.name 1)) (sSeq (sFor (iEnuS 1 (mVal (mVar 0))) (.tup [.name 2, .name 3]) (l_rows_in_0) [2, 3, 4]) (sRet (mTup (mCons (mVar 1) (mCons (mC .non) (mNil))))))
def p_rows_in : List D → PHeap → Res D := runFn 1 5 b_rows_in
def l__law_case_0 : MS := sSeq (sAsg (mM (m2 fAddO (mVal (m2 fIx (mVal (mVar 4)) (mVal (mC (.int 0))))) (mVal (mCall p__law_take (mCons (mVar 0) (mCons (mM (m2 fAddO (mVal (mBin fSub (m2 fIx (mVal (mVar 4)) (mVal (mC (.int 1)))) (m2 fIx (mVal (mVar 4)) (mVal (mC (.int 0)))))) (mVal (mC (.int 1))))) (mNil))))))) (.name 6)) (sDrop (mMt fAppend (mVar 2) (mCons (mTup (mCons (mVar 6) (mCons (mM (m2 fAddO (mVal (m2 fIx (mVal (mVar 4)) (mVal (mC (.int 2))))) (mVal (mCall p__law_take (mCons (mVar 0) (mCons (mM (m2 fAddO (mVal (mBin fSub (m2 fIx (mVal (mVar 4)) (mVal (mC (.int 3)))) (m2 fIx (mVal (mVar 4)) (mVal (mC (.int 2)))))) (mVal (mC (.int 1))))) (mNil))))))) (mCons (mCall p__law_take (mCons (mVar 0) (mCons (mC (.int 3)) (mNil)))) (mNil))))) (mNil))))
def b__law_case : MS := sSeq (sAsg (m1 fTuple (mNL (mLc (iR1 (mM (m2 fAddO (mVal (mC (.int 1))) (mVal (m1 fInt (mVal (m2 (fEqO id) (mVal (mCall p__law_take (mCons (mVar 0) (mCons (mC (.int 3)) (mNil))))) (mVal (mC (.int 0)))))))))) (.name 10) (tYesM) (mCall p__law_bay (mCons (mVar 0) (mNil))) [10]))) (.name 1)) (sSeq (sAsg (mM (mNL (mDisp (mNil)))) (.name 2)) (sSeq (sFor (iSrc (mVal (mVar 1))) (.tup [.name 3, .name 4, .name 5]) (l__law_case_0) [3, 4, 5, 6]) (sSeq (sAsg (mM (m2 fAddO (mVal (mC (.int 1))) (mVal (mCall p__law_take (mCons (mVar 0) (mCons (mBin fSub (mC (.int 3)) (m1 fInt (mVal (mBin fGt (m1 fLen (mVal (mVar 1))) (mC (.int 1)))))) (mNil))))))) (.name 7)) (sSeq (sAsg (m1 fTuple (mNL (mLc (iR1 (mVar 7)) (.name 11) (tYesM) (mCall p__law_hour (mCons (mVar 0) (mCons (m2 fIx (mNL (mDisp (mCons (mC (.int 1)) (mCons (mC (.int 3)) (mCons (mC (.int 4)) (mNil)))))) (mVal (mCall p__law_take (mCons (mVar 0) (mCons (mC (.int 3)) (mNil)))))) (mNil)))) [11]))) (.name 8)) (sSeq (sAsg (m1 fTuple (mNL (mLc (iSrc (mVal (mVar 1))) (.name 10) (tYesM) (mCall p__law_take (mCons (mVar 0) (mCons (mC (.int 4)) (mNil)))) [10]))) (.name 9)) (sRet (mTup (mCons (mTup (mCons (mVar 1) (mCons (mCall p__law_take (mCons (mVar 0) (mCons (mC (.int 3)) (mNil)))) (mCons (m1 fInt (mVal (m2 (fEqO id) (mVal (mCall p__law_take (mCons (mVar 0) (mCons (mC (.int 3)) (mNil))))) (mVal (mC (.int 0)))))) (mNil))))) (mCons (m1 fTuple (mVal (mVar 2))) (mCons (mVar 8) (mCons (mVar 9) (mNil))))))))))))
def p__law_case : List D → PHeap → Res D := runFn 1 12 b__law_case
def b_is_needs : MS := sSeq (sIf (tNotM (mTst (mCall p_is_row (mCons (mVar 0) (mCons (mTup (mCons (mTup (mCons (mUn fNeg (mC (.int 20))) (mCons (mC (.int 40)) (mNil)))) (mCons (mTup (mCons (mUn fNeg (mC (.int 20))) (mCons (mC (.int 40)) (mNil)))) (mCons (mTup (mCons (mC (.int 0)) (mCons (mC (.int (9))) (mNil)))) (mCons (mTup (mCons (mC (.int 0)) (mCons (mC (.int (9))) (mNil)))) (mNil)))))) (mNil)))) truthD)) (sRet (mC (.bl false))) (sNext)) (sRet (mAnd (mBin fLe (m2 fIx (mVal (mVar 0)) (mVal (mC (.int 0)))) (m2 fIx (mVal (mVar 0)) (mVal (mC (.int 1))))) (mBin fLe (m2 fIx (mVal (mVar 0)) (mVal (mC (.int 2)))) (m2 fIx (mVal (mVar 0)) (mVal (mC (.int 3)))))))
def p_is_needs : List D → PHeap → Res D := runFn 1 1 b_is_needs
def b_is_standing_of : MS := sSeq (sIf (tOrM (tNotM (mTst (m1 (fIsi .tup) (mVal (mVar 1))) truthD)) (mTB (m2 (fEqO not) (mVal (m1 fLen (mVal (mVar 1)))) (mVal (m1 fLen (mVal (m2 fIx (mVal (mVar 0)) (mVal (mC (.int 0)))))))))) (sRet (mC (.bl false))) (sNext)) (sRet (m1 fAll (mNL (mLc (iSrc (mVal (mVar 1))) (.name 2) (tYesM) (mCall p_is_row (mCons (mVar 2) (mCons (mTup (mCons (mTup (mCons (mC (.int (-40))) (mCons (mC (.int (60))) (mNil)))) (mCons (mTup (mCons (mC (.int 0)) (mCons (mC (.int (9))) (mNil)))) (mCons (mTup (mCons (mC (.int 0)) (mCons (mC (.int (4))) (mNil)))) (mNil))))) (mNil)))) [2]))))
def p_is_standing_of : List D → PHeap → Res D := runFn 2 3 b_is_standing_of
def b_is_hours_row : MS := sSeq (sIf (tNotM (mTst (mCall p_is_row (mCons (mVar 0) (mCons (mTup (mCons (mTup (mCons (mUn fNeg (mC (.int 30))) (mCons (mC (.int 50)) (mNil)))) (mCons (mTup (mCons (mUn fNeg (mC (.int 30))) (mCons (mC (.int 50)) (mNil)))) (mCons (mTup (mCons (mC (.int 0)) (mCons (mC (.int 9)) (mNil)))) (mCons (mTup (mCons (mC (.int 0)) (mCons (mC (.int 9)) (mNil)))) (mNil)))))) (mNil)))) truthD)) (sRet (mC (.bl false))) (sNext)) (sSeq (sAsg (mVar 0) (.tup [.name 1, .name 2, .name 3, .name 4])) (sRet (mAnd (mChain fLe fLe (mVar 1) (mVar 2) (mM (m2 fAddO (mVal (mVar 1)) (mVal (mC (.int (3))))))) (mChain fLe fLe (mVar 3) (mVar 4) (mM (m2 fAddO (mVal (mVar 3)) (mVal (mC (.int (1))))))))))
def p_is_hours_row : List D → PHeap → Res D := runFn 1 5 b_is_hours_row
def b_is_bay : MS := sSeq (sIf (tOrM (tNotM (mTst (m1 (fIsi .tup) (mVal (mVar 0))) truthD)) (tOrM (mTB (m2 (fEqO not) (mVal (m1 fLen (mVal (mVar 0)))) (mVal (mC (.int 3))))) (tNotM (mTst (mCall p_is_row (mCons (m2 fIx (mVal (mVar 0)) (mVal (mC (.int 0)))) (mCons (mTup (mCons (mTup (mCons (mC (.int 2)) (mCons (mC (.int 6)) (mNil)))) (mCons (mTup (mCons (mC (.int 0)) (mCons (mC (.int 3)) (mNil)))) (mCons (mTup (mCons (mC (.int 1)) (mCons (mC (.int 4)) (mNil)))) (mCons (mTup (mCons (mC (.int 0)) (mCons (mC (.int 4)) (mNil)))) (mNil)))))) (mNil)))) truthD)))) (sRet (mC (.bl false))) (sNext)) (sRet (mAnd (mCall p_is_needs (mCons (m2 fIx (mVal (mVar 0)) (mVal (mC (.int 1)))) (mNil))) (mCall p_is_row (mCons (m2 fIx (mVal (mVar 0)) (mVal (mC (.int 2)))) (mCons (mTup (mCons (mTup (mCons (mUn fNeg (mC (.int 20))) (mCons (mC (.int 40)) (mNil)))) (mCons (mTup (mCons (mC (.int 0)) (mCons (mC (.int 9)) (mNil)))) (mNil)))) (mNil))))))
def p_is_bay : List D → PHeap → Res D := runFn 1 1 b_is_bay
def b_is_weather : MS := sSeq (sIf (tOrM (tNotM (mTst (m1 (fIsi .tup) (mVal (mVar 1))) truthD)) (tNotM (mTB (mChain fLe fLe (mC (.int 1)) (m1 fLen (mVal (mVar 1))) (m2 fIx (mVal (mC (.tup [.int (4), .int (3)]))) (mVal (mBin fSub (m1 fLen (mVal (m2 fIx (mVal (mVar 0)) (mVal (mC (.int 0)))))) (mC (.int 1))))))))) (sRet (mC (.bl false))) (sNext)) (sRet (m1 fAll (mNL (mLc (iSrc (mVal (mVar 1))) (.name 2) (tYesM) (mCall p_is_hours_row (mCons (mVar 2) (mNil))) [2]))))
def p_is_weather : List D → PHeap → Res D := runFn 2 3 b_is_weather
def b_is_house : MS := sSeq (sIf (tOrM (tNotM (mTst (m1 (fIsi .tup) (mVal (mVar 0))) truthD)) (tOrM (mTB (m2 (fEqO not) (mVal (m1 fLen (mVal (mVar 0)))) (mVal (mC (.int 3))))) (tNotM (mTst (m1 (fIsi .tup) (mVal (m2 fIx (mVal (mVar 0)) (mVal (mC (.int 0)))))) truthD)))) (sRet (mC (.bl false))) (sNext)) (sSeq (sIf (tOrM (tNotM (mTB (mChain fLe fLe (mC (.int 1)) (m1 fLen (mVal (m2 fIx (mVal (mVar 0)) (mVal (mC (.int 0)))))) (mC (.int (2)))))) (tNotM (mTst (m1 fAll (mNL (mLc (iSrc (mVal (m2 fIx (mVal (mVar 0)) (mVal (mC (.int 0)))))) (.name 1) (tYesM) (mCall p_is_bay (mCons (mVar 1) (mNil))) [1]))) truthD))) (sRet (mC (.bl false))) (sNext)) (sRet (mAnd (mCall p_is_among (mCons (m2 fIx (mVal (mVar 0)) (mVal (mC (.int 1)))) (mCons (mC (.int 0)) (mCons (mC (.int (2))) (mNil))))) (mCall p_is_among (mCons (m2 fIx (mVal (mVar 0)) (mVal (mC (.int 2)))) (mCons (mC (.int 0)) (mCons (mC (.int 1)) (mNil))))))))
def p_is_house : List D → PHeap → Res D := runFn 1 2 b_is_house
def b_is_case : MS := sSeq (sIf (tOrM (tNotM (mTst (m1 (fIsi .tup) (mVal (mVar 0))) truthD)) (tOrM (mTB (m2 (fEqO not) (mVal (m1 fLen (mVal (mVar 0)))) (mVal (mC (.int 4))))) (tNotM (mTst (mCall p_is_house (mCons (m2 fIx (mVal (mVar 0)) (mVal (mC (.int 0)))) (mNil))) truthD)))) (sRet (mC (.bl false))) (sNext)) (sSeq (sAsg (mVar 0) (.tup [.name 1, .name 2, .name 3, .name 4])) (sSeq (sIf (tOrM (tNotM (mTst (mCall p_is_standing_of (mCons (mVar 1) (mCons (mVar 2) (mNil)))) truthD)) (tNotM (mTst (mCall p_is_weather (mCons (mVar 1) (mCons (mVar 3) (mNil)))) truthD))) (sRet (mC (.bl false))) (sNext)) (sRet (mCall p_is_row (mCons (mVar 4) (mCons (mM (m2 fMulO (mVal (mTup (mCons (mTup (mCons (mC (.int 0)) (mCons (mC (.int (4))) (mNil)))) (mNil)))) (mVal (m1 fLen (mVal (m2 fIx (mVal (mVar 1)) (mVal (mC (.int 0))))))))) (mNil)))))))
def p_is_case : List D → PHeap → Res D := runFn 1 5 b_is_case
def b_case_text : MS := sSeq (sIf (tNotM (mTst (mCall p_is_case (mCons (mVar 0) (mNil))) truthD)) (sRaise 0) (sNext)) (sRet (mJoin (mC (.str ("" : Str))) (mNL (mLc (iSrc (mVal (mCall p_lines_of (mCons (mVar 0) (mNil))))) (.name 1) (tYesM) (mM (m2 fAddO (mVal (mVar 1)) (mVal (mC (.str ("\n" : Str)))))) [1]))))
def p_case_text : List D → PHeap → Res D := runFn 1 2 b_case_text
def b_case_of : MS := sSeq (sAsg (mDcS (iSrc (mVal (mC (.tup [.str ("house" : Str), .str ("bay" : Str), .str ("at" : Str), .str ("hour" : Str), .str ("wish" : Str)])))) (.name 6) (tYesM) (mVar 6) (m1 fTuple (mNL (mLc (iSrc (mVal (mVar 0))) (.tup [.name 7, .name 8]) (mTB (m2 (fEqO id) (mVal (mVar 7)) (mVal (mVar 6)))) (mVar 8) [7, 8]))) [6]) (.name 1)) (sSeq (sIf (tOrM (mTB (m2 (fEqO not) (mVal (m1 fLen (mVal (mBin fIxDs (mVar 1) (mC (.str ("house" : Str))))))) (mVal (mC (.int 1))))) (mTB (m2 (fEqO not) (mVal (m1 fLen (mVal (mBin fIxDs (mVar 1) (mC (.str ("wish" : Str))))))) (mVal (mC (.int 1)))))) (sRet (mC .non)) (sNext)) (sSeq (sAsg (m2 fIx (mVal (mBin fIxDs (mVar 1) (mC (.str ("house" : Str))))) (mVal (mC (.int 0)))) (.tup [.name 2, .name 3])) (sSeq (sAsg (m1 fTuple (mNL (mLc (iSrc (mVal (mBin fIxDs (mVar 1) (mC (.str ("bay" : Str)))))) (.name 8) (tYesM) (mCall p_bay_of (mCons (mVar 8) (mNil))) [8]))) (.name 4)) (sSeq (sAsg (mTup (mCons (mTup (mCons (mVar 4) (mCons (mVar 2) (mCons (mVar 3) (mNil))))) (mCons (mBin fIxDs (mVar 1) (mC (.str ("at" : Str)))) (mCons (mBin fIxDs (mVar 1) (mC (.str ("hour" : Str)))) (mCons (m2 fIx (mVal (mBin fIxDs (mVar 1) (mC (.str ("wish" : Str))))) (mVal (mC (.int 0)))) (mNil)))))) (.name 5)) (sRet (mIf (mTst (mCall p_is_case (mCons (mVar 5) (mNil))) truthD) (mVar 5) (mC .non)))))))
def p_case_of : List D → PHeap → Res D := runFn 1 9 b_case_of
def b_read_case : MS := sSeq (sIf (tOrM (tNotM (mTst (m1 (fIsi .str) (mVal (mVar 0))) truthD)) (mTB (m2 (fEqO not) (mVal (mSlS (mVar 0) (pSome (mUn fNeg (mC (.int 1)))) (pNone))) (mVal (mC (.str ("\n" : Str))))))) (sStuck) (sNext)) (sSeq (sAsg (mM (mSplit (mSlS (mVar 0) (pNone) (pSome (mUn fNeg (mC (.int 1))))) (mC (.str ("\n" : Str))))) (.name 1)) (sSeq (sAsg (mCall p_rows_in (mCons (mVar 1) (mNil))) (.tup [.name 2, .name 3])) (sSeq (sIf (mTB (mBin fIsNot (mVar 3) (mC .non))) (sStuck) (sNext)) (sSeq (sAsg (mCall p_case_of (mCons (mVar 2) (mNil))) (.name 4)) (sSeq (sIf (mTB (mBin fIs (mVar 4) (mC .non))) (sStuck) (sNext)) (sRet (mVar 4)))))))
def p_read_case : List D → PHeap → Res D := runFn 1 5 b_read_case
def b__law_refused : MS := sTryR 1 1 (sSeq (sDrop (mCall p_case_text (mCons (mVar 0) (mNil)))) (sRet (mC (.bl false)))) wd__law_refused (fun _ h => h)
def p__law_refused : List D → PHeap → Res D := runFn 1 2 b__law_refused
def l_law_0 : MS := sIf (tNotM (mTst (mCall p__law_refused (mCons (mVar 7) (mNil))) truthD)) (sRet (mC (.bl false))) (sNext)
def l_law_1 : MS := sSeq (sPar [4, 5] (mCons (m1 fReprX (mVal (mVar 3))) (mCons (mJoin (mC (.str ("" : Str))) (mNL (mLc (iSrc (mVal (mCall p__law_rows (mCons (mVar 3) (mNil))))) (.name 8) (tYesM) (mM (m2 fAddO (mVal (mVar 8)) (mVal (mC (.str ("\n" : Str)))))) [8]))) (mNil)))) (sSeq (sIf (tOrM (mTB (m2 (fEqO not) (mVal (m1 fReprX (mNL (mDisp (mCons (mCall p_case_text (mCons (mVar 3) (mNil))) (mCons (mCall p_case_text (mCons (mVar 3) (mNil))) (mNil))))))) (mVal (m1 fReprX (mNL (mDisp (mCons (mVar 5) (mCons (mVar 5) (mNil))))))))) (mTB (m2 (fEqO not) (mVal (m1 fReprX (mVal (mVar 3)))) (mVal (mVar 4))))) (sRet (mC (.bl false))) (sNext)) (sSeq (sIf (mTB (m2 (fEqO not) (mVal (m1 fReprX (mNL (mDisp (mCons (mCall p_read_case (mCons (mVar 5) (mNil))) (mCons (mCall p_read_case (mCons (mVar 5) (mNil))) (mNil))))))) (mVal (m1 fReprX (mNL (mDisp (mCons (mVar 3) (mCons (mVar 3) (mNil))))))))) (sRet (mC (.bl false))) (sNext)) (sSeq (sAsg (mM (mNL (mDisp (mCons (mC .non) (mCons (mTup (mNil)) (mCons (mM (mNL (m1 fList (mVal (mVar 3))))) (mCons (mM (mSl (mVal (mVar 3)) (pNone) (pSome (mC (.int 3))))) (mCons (mM (m2 fAddO (mVal (mVar 3)) (mVal (mTup (mCons (mC (.int 0)) (mNil)))))) (mCons (mM (m2 fAddO (m2 fAddO (mVal (mTup (mCons (m2 fIx (mVal (mVar 3)) (mVal (mC (.int 0)))) (mNil)))) (mSl (mVal (mVar 3)) (pSome (mC (.int 1))) (pSome (mC (.int 3))))) (mVal (mTup (mCons (mM (m2 fAddO (mVal (m2 fIx (mVal (mVar 3)) (mVal (mC (.int 3))))) (mVal (mTup (mCons (mC (.int 0)) (mNil)))))) (mNil)))))) (mCons (mVar 5) (mNil))))))))))) (.name 6)) (sFor (iSrc (m2 fAddO (mVal (mVar 6)) (mNL (mDisp (mCons (mM (m2 fAddO (m2 fAddO (mSl (mVal (mVar 3)) (pNone) (pSome (mC (.int 2)))) (mVal (mTup (mCons (mTup (mNil)) (mNil))))) (mSl (mVal (mVar 3)) (pSome (mC (.int 3))) (pNone)))) (mCons (mM (m2 fAddO (m2 fAddO (mSl (mVal (mVar 3)) (pNone) (pSome (mC (.int 1)))) (mVal (mTup (mCons (mTup (mNil)) (mNil))))) (mSl (mVal (mVar 3)) (pSome (mC (.int 2))) (pNone)))) (mCons (mCall p__law_odd (mCons (mVar 2) (mNil))) (mNil)))))))) (.name 7) (l_law_0) [7]))))
def l_law_2 : MS := sSeq (sAsg (mCall p__law_pot (mCons (mCall p__law_cell_at (mCons (mVar 0) (mCons (mVar 1) (mNil)))) (mNil))) (.name 2)) (sFor (iSrc (mNL (mDisp (mCons (mCall p__law_great mNil) (mCons (mCall p__law_case (mCons (mVar 2) (mNil))) (mCons (mCall p__law_case (mCons (mVar 2) (mNil))) (mCons (mCall p__law_case (mCons (mVar 2) (mNil))) (mNil)))))))) (.name 3) (l_law_1) [3, 4, 5, 6, 7])
def b_law : MS := sSeq (sFor (iR1 (m2 fMax2 (mVal (mC (.int 1))) (mVal (m2 fMin2 (mVal (m1 fLen (mVal (mVar 0)))) (mVal (mC (.int 4))))))) (.name 1) (l_law_2) [1, 2, 3, 4, 5, 6, 7]) (sRet (mC (.bl true)))
def p_law : List D → PHeap → Res D := runFn 1 9 b_law
def top (i : Nat) : Stmt := PySem.Challenge.pw_glassbays_k63_cases_written.main.body.getD i (.Pass ⟨0, 0, 0, 0⟩)
abbrev t_is_whole : Stmt := top 11
abbrev t_line_of : Stmt := top 31
abbrev t_number_in : Stmt := top 34
abbrev t_bay_of : Stmt := top 37
abbrev t__law_cell_at : Stmt := top 41
abbrev t__law_pot : Stmt := top 42
abbrev t__law_take : Stmt := top 43
abbrev t__law_rows : Stmt := top 48
abbrev t__law_great : Stmt := top 49
abbrev t_is_among : Stmt := top 12
abbrev t_lines_of : Stmt := top 32
abbrev t_row_in : Stmt := top 35
abbrev t__law_odd : Stmt := top 44
abbrev t__law_bay : Stmt := top 45
abbrev t__law_hour : Stmt := top 46
abbrev t_is_row : Stmt := top 13
abbrev t_rows_in : Stmt := top 36
abbrev t__law_case : Stmt := top 47
abbrev t_is_needs : Stmt := top 14
abbrev t_is_standing_of : Stmt := top 17
abbrev t_is_hours_row : Stmt := top 22
abbrev t_is_bay : Stmt := top 15
abbrev t_is_weather : Stmt := top 23
abbrev t_is_house : Stmt := top 16
abbrev t_is_case : Stmt := top 24
abbrev t_case_text : Stmt := top 33
abbrev t_case_of : Stmt := top 38
abbrev t_read_case : Stmt := top 39
abbrev t__law_refused : Stmt := top 50
abbrev t_law : Stmt := top 51
/-- what the top has made -/
structure Top (K : PySem.W.Frag) (mg : Str → Option Value) (cl : CL) (w : World) : Prop where
  b_ValueError : mg "ValueError" = none
  b_all : mg "all" = none
  b_bool : mg "bool" = none
  b_enumerate : mg "enumerate" = none
  b_int : mg "int" = none
  b_isinstance : mg "isinstance" = none
  b_len : mg "len" = none
  b_list : mg "list" = none
  b_max : mg "max" = none
  b_min : mg "min" = none
  b_range : mg "range" = none
  b_repr : mg "repr" = none
  b_str : mg "str" = none
  b_tuple : mg "tuple" = none
  b_zip : mg "zip" = none
  c_FIGURES : ∃ u, mg "FIGURES" = some u ∧ RelV (V.str ("0123456789" : Str)) u
  c_LEAST_WARMTH : ∃ u, mg "LEAST_WARMTH" = some u ∧ RelV (V.int (-40)) u
  c_MOST_BAYS : ∃ u, mg "MOST_BAYS" = some u ∧ RelV (V.int (2)) u
  c_MOST_DAMP : ∃ u, mg "MOST_DAMP" = some u ∧ RelV (V.int (9)) u
  c_MOST_HOURS : ∃ u, mg "MOST_HOURS" = some u ∧ KTupD K u [.int (4), .int (3)]
  c_MOST_POWER : ∃ u, mg "MOST_POWER" = some u ∧ RelV (V.int (2)) u
  c_MOST_SIZE : ∃ u, mg "MOST_SIZE" = some u ∧ RelV (V.int (4)) u
  c_MOST_WARMTH : ∃ u, mg "MOST_WARMTH" = some u ∧ RelV (V.int (60)) u
  c_NEEDS : ∃ u, mg "NEEDS" = some u ∧ RelV (V.int (8)) u
  c_ORDER : ∃ u, mg "ORDER" = some u ∧ KTupD K u [.str ("house" : Str), .str ("bay" : Str), .str ("at" : Str), .str ("hour" : Str), .str ("wish" : Str)]
  c_WALLS : ∃ u, mg "WALLS" = some u ∧ RelV (V.int (4)) u
  c_WIDEST_COLD : ∃ u, mg "WIDEST_COLD" = some u ∧ RelV (V.int (3)) u
  c_WIDEST_LIGHT : ∃ u, mg "WIDEST_LIGHT" = some u ∧ RelV (V.int (1)) u
  t_COUNTS : CTab K w mg "COUNTS" [(("house" : Str), [.int (2)]), (("bay" : Str), [.int (10)]), (("at" : Str), [.int (3)]), (("hour" : Str), [.int (4)]), (("wish" : Str), [.int (1), .int (2)])]
  x_NoCase : mg "NoCase" = some (.ref (cl 0))
  ec : ∀ c, c < 1 → ExcK K (cl c)
  ge_GlassError : ∃ CG, mg "GlassError" = some (.ref CG) ∧ ∀ c, c < 1 → PySem.W.exmOne K (.ref (cl c)) (.ref CG) = some true
  m_NoCase : MarkAt K mg cl 1 "NoCase" isE_NoCase
  v_ValueError : ∀ c, c < 1 → PySem.W.kitOne K (.ref (cl c)) (.type "ValueError") = some (isE_ValueError c)
  d_is_whole : ∃ f fd, Fun K "is_whole" "is_whole" t_is_whole f fd ∧ mg "is_whole" = some (.ref f)
  d_line_of : ∃ f fd, Fun K "line_of" "line_of" t_line_of f fd ∧ mg "line_of" = some (.ref f)
  d_number_in : ∃ f fd, Fun K "number_in" "number_in" t_number_in f fd ∧ mg "number_in" = some (.ref f)
  d_bay_of : ∃ f fd, Fun K "bay_of" "bay_of" t_bay_of f fd ∧ mg "bay_of" = some (.ref f)
  d__law_cell_at : ∃ f fd, Fun K "_law_cell_at" "_law_cell_at" t__law_cell_at f fd ∧ mg "_law_cell_at" = some (.ref f)
  d__law_pot : ∃ f fd, Fun K "_law_pot" "_law_pot" t__law_pot f fd ∧ mg "_law_pot" = some (.ref f)
  d__law_take : ∃ f fd, Fun K "_law_take" "_law_take" t__law_take f fd ∧ mg "_law_take" = some (.ref f)
  d__law_rows : ∃ f fd, Fun K "_law_rows" "_law_rows" t__law_rows f fd ∧ mg "_law_rows" = some (.ref f)
  d__law_great : ∃ f fd, Fun K "_law_great" "_law_great" t__law_great f fd ∧ mg "_law_great" = some (.ref f)
  d_is_among : ∃ f fd, Fun K "is_among" "is_among" t_is_among f fd ∧ mg "is_among" = some (.ref f)
  d_lines_of : ∃ f fd, Fun K "lines_of" "lines_of" t_lines_of f fd ∧ mg "lines_of" = some (.ref f)
  d_row_in : ∃ f fd, Fun K "row_in" "row_in" t_row_in f fd ∧ mg "row_in" = some (.ref f)
  d__law_odd : ∃ f fd, Fun K "_law_odd" "_law_odd" t__law_odd f fd ∧ mg "_law_odd" = some (.ref f)
  d__law_bay : ∃ f fd, Fun K "_law_bay" "_law_bay" t__law_bay f fd ∧ mg "_law_bay" = some (.ref f)
  d__law_hour : ∃ f fd, Fun K "_law_hour" "_law_hour" t__law_hour f fd ∧ mg "_law_hour" = some (.ref f)
  d_is_row : ∃ f fd, Fun K "is_row" "is_row" t_is_row f fd ∧ mg "is_row" = some (.ref f)
  d_rows_in : ∃ f fd, Fun K "rows_in" "rows_in" t_rows_in f fd ∧ mg "rows_in" = some (.ref f)
  d__law_case : ∃ f fd, Fun K "_law_case" "_law_case" t__law_case f fd ∧ mg "_law_case" = some (.ref f)
  d_is_needs : ∃ f fd, Fun K "is_needs" "is_needs" t_is_needs f fd ∧ mg "is_needs" = some (.ref f)
  d_is_standing_of : ∃ f fd, Fun K "is_standing_of" "is_standing_of" t_is_standing_of f fd ∧ mg "is_standing_of" = some (.ref f)
  d_is_hours_row : ∃ f fd, Fun K "is_hours_row" "is_hours_row" t_is_hours_row f fd ∧ mg "is_hours_row" = some (.ref f)
  d_is_bay : ∃ f fd, Fun K "is_bay" "is_bay" t_is_bay f fd ∧ mg "is_bay" = some (.ref f)
  d_is_weather : ∃ f fd, Fun K "is_weather" "is_weather" t_is_weather f fd ∧ mg "is_weather" = some (.ref f)
  d_is_house : ∃ f fd, Fun K "is_house" "is_house" t_is_house f fd ∧ mg "is_house" = some (.ref f)
  d_is_case : ∃ f fd, Fun K "is_case" "is_case" t_is_case f fd ∧ mg "is_case" = some (.ref f)
  d_case_text : ∃ f fd, Fun K "case_text" "case_text" t_case_text f fd ∧ mg "case_text" = some (.ref f)
  d_case_of : ∃ f fd, Fun K "case_of" "case_of" t_case_of f fd ∧ mg "case_of" = some (.ref f)
  d_read_case : ∃ f fd, Fun K "read_case" "read_case" t_read_case f fd ∧ mg "read_case" = some (.ref f)
  d__law_refused : ∃ f fd, Fun K "_law_refused" "_law_refused" t__law_refused f fd ∧ mg "_law_refused" = some (.ref f)
  d_law : ∃ f fd, Fun K "law" "law" t_law f fd ∧ mg "law" = some (.ref f)
section
variable {P : Program} {w : World} {K : PySem.W.Frag} {mg : Str → Option Value} {base : Heap} {cl : CL} {f : Addr} {fd : FuncData}
theorem sc_is_whole : FnScope ["thing"] ["thing"] (defScope t_is_whole) := ⟨rfl, rfl, rfl, by decide +kernel, rfl, by decide +kernel, by decide +kernel⟩
theorem bind_is_whole (F : Fun K "is_whole" "is_whole" t_is_whole f fd) : Binds K fd ["thing"] [] := F.binds (ps := ["thing"]) fun _ _ _ _ _ _ us hl => match us, hl with | [_], _ => rfl
theorem ok_is_whole (T : Top K mg cl w) (F : Fun K "is_whole" "is_whole" t_is_whole f fd) : FnG P w K mg base 1 f fd ["thing"] (spOf K cl p_is_whole) := by
  refine fng_ok (np := 1) (ns := 1) F sc_is_whole rfl rfl (fun cdv A outer s H E hr hgd tk => ?_)
  have hu := hu65 hr
  exact (ss_one (ss_ret (sd_and (sd_isi (t := .int) (so_val (sd_var 0)) T.b_isinstance T.b_int (by decide +kernel)) (sd_one (sd_not (sd_isi (t := .bl) (so_val (sd_var 0)) T.b_isinstance T.b_bool (by decide +kernel)))))))
theorem sc_line_of : FnScope ["word", "numbers", "number"] ["word", "numbers"] (defScope t_line_of) := ⟨rfl, rfl, rfl, by decide +kernel, rfl, by decide +kernel, by decide +kernel⟩
theorem bind_line_of (F : Fun K "line_of" "line_of" t_line_of f fd) : Binds K fd ["word", "numbers"] [] := F.binds (ps := ["word", "numbers"]) fun _ _ _ _ _ _ us hl => match us, hl with | [_, _], _ => rfl
theorem ok_line_of (T : Top K mg cl w) (F : Fun K "line_of" "line_of" t_line_of f fd) : FnG P w K mg base 1 f fd ["word", "numbers"] (spOf K cl p_line_of) := by
  refine fng_ok (np := 2) (ns := 3) F sc_line_of rfl rfl (fun cdv A outer s H E hr hgd tk => ?_)
  have hu := hu65 hr
  exact (ss_one (ss_ret (sd_joinS sd_str (so_add (so_new (sn_lst (sa_cons (sd_var 0) sa_nil))) (so_new (sn_lc (own := [("number", 2)]) rfl sc_line_of.nd (si_src (so_val (sd_var 1))) (show BlkOk ["word", "numbers", "number"] (defScope t_line_of) _ [("number", 2)] from ⟨rfl, by decide +kernel, by decide +kernel, by decide +kernel, by decide +kernel⟩) (fun _ _ _ _ _ => (sg_name 2 sc_line_of.nd)) (fun _ _ _ _ _ => st_yes) (fun _ _ _ _ _ => (sd_strI (sd_var 2) T.b_str))))))))
theorem sc_number_in : FnScope ["word", "figures", "sign"] ["word"] (defScope t_number_in) := ⟨rfl, rfl, rfl, by decide +kernel, rfl, by decide +kernel, by decide +kernel⟩
theorem bind_number_in (F : Fun K "number_in" "number_in" t_number_in f fd) : Binds K fd ["word"] [] := F.binds (ps := ["word"]) fun _ _ _ _ _ _ us hl => match us, hl with | [_], _ => rfl
theorem ok_number_in (T : Top K mg cl w) (F : Fun K "number_in" "number_in" t_number_in f fd) : FnG P w K mg base 1 f fd ["word"] (spOf K cl p_number_in) := by
  refine fng_ok (np := 1) (ns := 3) F sc_number_in rfl rfl (fun cdv A outer s H E hr hgd tk => ?_)
  have hu := hu65 hr
  exact (ss_cons (ss_set 1 (sd_ifExp (st_eq hu (so_val (sd_sliceS (sd_var 0) sp_none (sp_some sd_int))) (so_val sd_str)) (sd_sliceS (sd_var 0) (sp_some sd_int) sp_none) (sd_var 0)) sc_number_in.nd)
    (ss_cons (ss_if (st_of (sw_or (st_eq hu (so_val (sd_var 1)) (so_val sd_str)) (sw_or1 (st_not (st_truth (sd_all (so_new (sn_lc (own := [("sign", 2)]) rfl sc_number_in.nd (si_txt (sd_var 1)) (show BlkOk ["word", "figures", "sign"] (defScope t_number_in) _ [("sign", 2)] from ⟨rfl, by decide +kernel, by decide +kernel, by decide +kernel, by decide +kernel⟩) (fun _ _ _ _ _ => (sg_name 2 sc_number_in.nd)) (fun _ _ _ _ _ => st_yes) (fun _ _ _ _ _ => (sd_signIn (sd_var 2) (sd_gcs rfl T.c_FIGURES))))) T.b_all)))))) (ss_one (ss_ret sd_non)) ss_nil)
    (ss_one (ss_ret (sd_ifExp (st_eq hu (so_val (sd_strI (sd_intS (so_val (sd_var 0)) T.b_int) T.b_str)) (so_val (sd_var 0))) (sd_intS (so_val (sd_var 0)) T.b_int) sd_non)))))
theorem sc_bay_of : FnScope ["numbers"] ["numbers"] (defScope t_bay_of) := ⟨rfl, rfl, rfl, by decide +kernel, rfl, by decide +kernel, by decide +kernel⟩
theorem bind_bay_of (F : Fun K "bay_of" "bay_of" t_bay_of f fd) : Binds K fd ["numbers"] [] := F.binds (ps := ["numbers"]) fun _ _ _ _ _ _ us hl => match us, hl with | [_], _ => rfl
theorem ok_bay_of (T : Top K mg cl w) (F : Fun K "bay_of" "bay_of" t_bay_of f fd) : FnG P w K mg base 1 f fd ["numbers"] (spOf K cl p_bay_of) := by
  refine fng_ok (np := 1) (ns := 1) F sc_bay_of rfl rfl (fun cdv A outer s H E hr hgd tk => ?_)
  have hu := hu65 hr
  exact (ss_one (ss_ret (sd_tup (sa_cons (sd_mat (so_slice (so_val (sd_var 0)) sp_none (sp_some (sd_gc rfl T.c_WALLS)))) (sa_cons (sd_mat (so_slice (so_val (sd_var 0)) (sp_some (sd_gc rfl T.c_WALLS)) (sp_some (sd_gc rfl T.c_NEEDS)))) (sa_cons (sd_mat (so_slice (so_val (sd_var 0)) (sp_some (sd_gc rfl T.c_NEEDS)) sp_none)) sa_nil))))))
theorem sc__law_cell_at : FnScope ["_law_script", "_law_k"] ["_law_script", "_law_k"] (defScope t__law_cell_at) := ⟨rfl, rfl, rfl, by decide +kernel, rfl, by decide +kernel, by decide +kernel⟩
theorem bind__law_cell_at (F : Fun K "_law_cell_at" "_law_cell_at" t__law_cell_at f fd) : Binds K fd ["_law_script", "_law_k"] [] := F.binds (ps := ["_law_script", "_law_k"]) fun _ _ _ _ _ _ us hl => match us, hl with | [_, _], _ => rfl
theorem ok__law_cell_at (T : Top K mg cl w) (F : Fun K "_law_cell_at" "_law_cell_at" t__law_cell_at f fd) : FnG P w K mg base 1 f fd ["_law_script", "_law_k"] (spOf K cl p__law_cell_at) := by
  refine fng_ok (np := 2) (ns := 2) F sc__law_cell_at rfl rfl (fun cdv A outer s H E hr hgd tk => ?_)
  have hu := hu65 hr
  exact (ss_cons (ss_if (st_lt (sd_var 1) (sd_len (so_val (sd_var 0)) T.b_len)) (ss_one (ss_ret (sd_ix (so_val (sd_var 0)) (so_val (sd_var 1)) (by intro _ _; rfl)))) ss_nil)
    (ss_one (ss_ret sd_int)))
theorem sc__law_pot : FnScope ["_law_cell", "_law_number", "_law_j", "_law_more"] ["_law_cell"] (defScope t__law_pot) := ⟨rfl, rfl, rfl, by decide +kernel, rfl, by decide +kernel, by decide +kernel⟩
theorem bind__law_pot (F : Fun K "_law_pot" "_law_pot" t__law_pot f fd) : Binds K fd ["_law_cell"] [] := F.binds (ps := ["_law_cell"]) fun _ _ _ _ _ _ us hl => match us, hl with | [_], _ => rfl
theorem ok__law_pot (T : Top K mg cl w) (F : Fun K "_law_pot" "_law_pot" t__law_pot f fd) : FnG P w K mg base 1 f fd ["_law_cell"] (spOf K cl p__law_pot) := by
  refine fng_ok (np := 1) (ns := 4) F sc__law_pot rfl rfl (fun cdv A outer s H E hr hgd tk => ?_)
  have hu := hu65 hr
  exact (ss_cons (ss_if (st_ge (sd_var 0) (sd_pow sd_int sd_int)) (ss_one (ss_ret (sd_mat (so_new (sn_lst (sa_cons (sd_sub (sd_var 0) (sd_pow sd_int sd_int)) sa_nil)))))) ss_nil)
    (ss_cons (ss_set 1 sd_int sc__law_pot.nd)
    (ss_cons (ss_for (passes_of rfl) rfl (si_rng1 T.b_range sd_int) (sg_name 2 sc__law_pot.nd) (ss_cons (ss_set 3 (sd_mod (sd_mat (so_mul (so_add (so_add (so_val (sd_mod (sd_var 0) sd_int)) (so_mul (so_val sd_int) (so_val (sd_var 2)))) (so_val sd_int)) (so_val sd_int))) sd_int) sc__law_pot.nd)
    (ss_cons (ss_set 3 (sd_mod (sd_mat (so_add (so_add (so_mul (so_val (sd_var 3)) (so_val (sd_var 3))) (so_mul (so_val sd_int) (so_val (sd_var 2)))) (so_val sd_int))) sd_int) sc__law_pot.nd)
    (ss_one (ss_set 1 (sd_mat (so_add (so_mul (so_val (sd_var 1)) (so_val sd_int)) (so_val (sd_var 3)))) sc__law_pot.nd)))))
    (ss_one (ss_ret (sd_mat (so_new (sn_lst (sa_cons (sd_var 1) sa_nil)))))))))
theorem sc__law_take : FnScope ["_law_pot_here", "_law_far", "_law_found"] ["_law_pot_here", "_law_far"] (defScope t__law_take) := ⟨rfl, rfl, rfl, by decide +kernel, rfl, by decide +kernel, by decide +kernel⟩
theorem bind__law_take (F : Fun K "_law_take" "_law_take" t__law_take f fd) : Binds K fd ["_law_pot_here", "_law_far"] [] := F.binds (ps := ["_law_pot_here", "_law_far"]) fun _ _ _ _ _ _ us hl => match us, hl with | [_, _], _ => rfl
theorem ok__law_take (T : Top K mg cl w) (F : Fun K "_law_take" "_law_take" t__law_take f fd) : FnG P w K mg base 1 f fd ["_law_pot_here", "_law_far"] (spOf K cl p__law_take) := by
  refine fng_ok (np := 2) (ns := 3) F sc__law_take rfl rfl (fun cdv A outer s H E hr hgd tk => ?_)
  have hu := hu65 hr
  exact (ss_cons (ss_set 2 (sd_mod (sd_ix (so_val (sd_var 0)) (so_val sd_int) (by intro _ _; rfl)) (sd_var 1)) sc__law_take.nd)
    (ss_cons (ss_sub (sd_div (sd_ix (so_val (sd_var 0)) (so_val sd_int) (by intro _ _; rfl)) (sd_var 1)) (sd_var 0) sd_int)
    (ss_one (ss_ret (sd_var 2)))))
theorem sc__law_rows : FnScope ["_law_case_here", "_law_bays", "_law_power", "_law_apart", "_law_begin", "_law_weather", "_law_wishes", "_law_rows_here", "_law_shuts", "_law_needs", "_law_plant", "_law_hour_here", "_law_part", "_law_word", "_law_numbers", "_law_one"] ["_law_case_here"] (defScope t__law_rows) := ⟨rfl, rfl, rfl, by decide +kernel, rfl, by decide +kernel, by decide +kernel⟩
theorem bind__law_rows (F : Fun K "_law_rows" "_law_rows" t__law_rows f fd) : Binds K fd ["_law_case_here"] [] := F.binds (ps := ["_law_case_here"]) fun _ _ _ _ _ _ us hl => match us, hl with | [_], _ => rfl
theorem ok__law_rows (T : Top K mg cl w) (F : Fun K "_law_rows" "_law_rows" t__law_rows f fd) : FnG P w K mg base 1 f fd ["_law_case_here"] (spOf K cl p__law_rows) := by
  refine fng_ok (np := 1) (ns := 16) F sc__law_rows rfl rfl (fun cdv A outer s H E hr hgd tk => ?_)
  have hu := hu65 hr
  exact (ss_cons (ss_asg (sd_var 0) (sg_tup rfl (sgs_cons (sg_tup rfl (sgs_cons (sg_name 1 sc__law_rows.nd) (sgs_cons (sg_name 2 sc__law_rows.nd) (sgs_cons (sg_name 3 sc__law_rows.nd) sgs_nil)))) (sgs_cons (sg_name 4 sc__law_rows.nd) (sgs_cons (sg_name 5 sc__law_rows.nd) (sgs_cons (sg_name 6 sc__law_rows.nd) sgs_nil))))))
    (ss_cons (ss_set 7 (sd_mat (so_add (so_new (sn_lst (sa_cons (sd_tup (sa_cons sd_str (sa_cons (sd_tup (sa_cons (sd_var 2) (sa_cons (sd_var 3) sa_nil))) sa_nil))) sa_nil))) (so_new (sn_lc (own := [("_law_shuts", 8), ("_law_needs", 9), ("_law_plant", 10)]) rfl sc__law_rows.nd (si_src (so_val (sd_var 1))) (show BlkOk ["_law_case_here", "_law_bays", "_law_power", "_law_apart", "_law_begin", "_law_weather", "_law_wishes", "_law_rows_here", "_law_shuts", "_law_needs", "_law_plant", "_law_hour_here", "_law_part", "_law_word", "_law_numbers", "_law_one"] (defScope t__law_rows) _ [("_law_shuts", 8), ("_law_needs", 9), ("_law_plant", 10)] from ⟨rfl, by decide +kernel, by decide +kernel, by decide +kernel, by decide +kernel⟩) (fun _ _ _ _ _ => (sg_tup rfl (sgs_cons (sg_name 8 sc__law_rows.nd) (sgs_cons (sg_name 9 sc__law_rows.nd) (sgs_cons (sg_name 10 sc__law_rows.nd) sgs_nil))))) (fun _ _ _ _ _ => st_yes) (fun _ _ _ _ _ => (sd_tup (sa_cons sd_str (sa_cons (sd_mat (so_add (so_add (so_val (sd_var 8)) (so_val (sd_var 9))) (so_val (sd_var 10)))) sa_nil)))))))) sc__law_rows.nd)
    (ss_cons (ss_set 7 (sd_mat (so_add (so_add (so_add (so_val (sd_var 7)) (so_new (sn_lc (own := [("_law_part", 12)]) rfl sc__law_rows.nd (si_src (so_val (sd_var 4))) (show BlkOk ["_law_case_here", "_law_bays", "_law_power", "_law_apart", "_law_begin", "_law_weather", "_law_wishes", "_law_rows_here", "_law_shuts", "_law_needs", "_law_plant", "_law_hour_here", "_law_part", "_law_word", "_law_numbers", "_law_one"] (defScope t__law_rows) _ [("_law_part", 12)] from ⟨rfl, by decide +kernel, by decide +kernel, by decide +kernel, by decide +kernel⟩) (fun _ _ _ _ _ => (sg_name 12 sc__law_rows.nd)) (fun _ _ _ _ _ => st_yes) (fun _ _ _ _ _ => (sd_tup (sa_cons sd_str (sa_cons (sd_var 12) sa_nil))))))) (so_new (sn_lc (own := [("_law_hour_here", 11)]) rfl sc__law_rows.nd (si_src (so_val (sd_var 5))) (show BlkOk ["_law_case_here", "_law_bays", "_law_power", "_law_apart", "_law_begin", "_law_weather", "_law_wishes", "_law_rows_here", "_law_shuts", "_law_needs", "_law_plant", "_law_hour_here", "_law_part", "_law_word", "_law_numbers", "_law_one"] (defScope t__law_rows) _ [("_law_hour_here", 11)] from ⟨rfl, by decide +kernel, by decide +kernel, by decide +kernel, by decide +kernel⟩) (fun _ _ _ _ _ => (sg_name 11 sc__law_rows.nd)) (fun _ _ _ _ _ => st_yes) (fun _ _ _ _ _ => (sd_tup (sa_cons sd_str (sa_cons (sd_var 11) sa_nil))))))) (so_new (sn_lst (sa_cons (sd_tup (sa_cons sd_str (sa_cons (sd_var 6) sa_nil))) sa_nil))))) sc__law_rows.nd)
    (ss_one (ss_ret (sd_mat (so_new (sn_lc (own := [("_law_word", 13), ("_law_numbers", 14)]) rfl sc__law_rows.nd (si_src (so_val (sd_var 7))) (show BlkOk ["_law_case_here", "_law_bays", "_law_power", "_law_apart", "_law_begin", "_law_weather", "_law_wishes", "_law_rows_here", "_law_shuts", "_law_needs", "_law_plant", "_law_hour_here", "_law_part", "_law_word", "_law_numbers", "_law_one"] (defScope t__law_rows) _ [("_law_word", 13), ("_law_numbers", 14)] from ⟨rfl, by decide +kernel, by decide +kernel, by decide +kernel, by decide +kernel⟩) (fun _ _ _ _ _ => (sg_tup rfl (sgs_cons (sg_name 13 sc__law_rows.nd) (sgs_cons (sg_name 14 sc__law_rows.nd) sgs_nil)))) (fun _ _ _ _ _ => st_yes) (fun _ _ _ _ _ => (sd_joinS sd_str (so_add (so_new (sn_lst (sa_cons (sd_var 13) sa_nil))) (so_new (sn_lc (own := [("_law_one", 15)]) rfl sc__law_rows.nd (si_src (so_val (sd_var 14))) (blk_in (N := ["_law_case_here", "_law_bays", "_law_power", "_law_apart", "_law_begin", "_law_weather", "_law_wishes", "_law_rows_here", "_law_shuts", "_law_needs", "_law_plant", "_law_hour_here", "_law_part", "_law_word", "_law_numbers", "_law_one"]) (sc := defScope t__law_rows) (own := [("_law_one", 15)]) rfl rfl (by decide +kernel) (by decide +kernel) (by decide +kernel) (by decide +kernel)) (fun _ _ _ _ _ => (sg_name 15 sc__law_rows.nd)) (fun _ _ _ _ _ => st_yes) (fun _ _ _ _ _ => (sd_strI (sd_var 15) T.b_str)))))))))))))))
theorem sc__law_great : FnScope ["_law_bays", "_law_begin"] [] (defScope t__law_great) := ⟨rfl, rfl, rfl, by decide +kernel, rfl, by decide +kernel, by decide +kernel⟩
theorem bind__law_great (F : Fun K "_law_great" "_law_great" t__law_great f fd) : Binds K fd [] [] := F.binds (ps := []) fun _ _ _ _ _ _ us hl => match us, hl with | [], _ => rfl
theorem ok__law_great (T : Top K mg cl w) (F : Fun K "_law_great" "_law_great" t__law_great f fd) : FnG P w K mg base 1 f fd [] (spOf K cl p__law_great) := by
  unfold p__law_great
  refine fng_ok (np := 0) (ns := 2) F sc__law_great rfl rfl (fun cdv A outer s H E hr hgd tk => ?_)
  have hu := hu65 hr
  exact (ss_cons (ss_set 0 (sd_tup (sa_cons (sd_tup (sa_cons (sd_tup (sa_cons sd_int (sa_cons sd_int (sa_cons sd_int (sa_cons sd_int sa_nil))))) (sa_cons (sd_tup (sa_cons (sd_neg sd_int) (sa_cons sd_int (sa_cons sd_int (sa_cons sd_int sa_nil))))) (sa_cons (sd_tup (sa_cons sd_int (sa_cons sd_int sa_nil))) sa_nil)))) (sa_cons (sd_tup (sa_cons (sd_tup (sa_cons sd_int (sa_cons sd_int (sa_cons sd_int (sa_cons sd_int sa_nil))))) (sa_cons (sd_tup (sa_cons (sd_neg sd_int) (sa_cons (sd_neg sd_int) (sa_cons sd_int (sa_cons sd_int sa_nil))))) (sa_cons (sd_tup (sa_cons (sd_neg sd_int) (sa_cons sd_int sa_nil))) sa_nil)))) sa_nil))) sc__law_great.nd)
    (ss_cons (ss_set 1 (sd_tup (sa_cons (sd_tup (sa_cons sd_int (sa_cons sd_int (sa_cons sd_int sa_nil)))) (sa_cons (sd_tup (sa_cons (sd_neg sd_int) (sa_cons sd_int (sa_cons sd_int sa_nil)))) sa_nil))) sc__law_great.nd)
    (ss_one (ss_ret (sd_tup (sa_cons (sd_tup (sa_cons (sd_var 0) (sa_cons sd_int (sa_cons sd_int sa_nil)))) (sa_cons (sd_var 1) (sa_cons (sd_tup (sa_cons (sd_tup (sa_cons (sd_neg sd_int) (sa_cons (sd_neg sd_int) (sa_cons sd_int (sa_cons sd_int sa_nil))))) (sa_cons (sd_tup (sa_cons sd_int (sa_cons sd_int (sa_cons sd_int (sa_cons sd_int sa_nil))))) (sa_cons (sd_tup (sa_cons sd_int (sa_cons sd_int (sa_cons sd_int (sa_cons sd_int sa_nil))))) sa_nil)))) (sa_cons (sd_tup (sa_cons sd_int (sa_cons sd_int sa_nil))) sa_nil)))))))))
theorem sc_is_among : FnScope ["thing", "low", "high"] ["thing", "low", "high"] (defScope t_is_among) := ⟨rfl, rfl, rfl, by decide +kernel, rfl, by decide +kernel, by decide +kernel⟩
theorem bind_is_among (F : Fun K "is_among" "is_among" t_is_among f fd) : Binds K fd ["thing", "low", "high"] [] := F.binds (ps := ["thing", "low", "high"]) fun _ _ _ _ _ _ us hl => match us, hl with | [_, _, _], _ => rfl
theorem ok_is_among (T : Top K mg cl w) (F : Fun K "is_among" "is_among" t_is_among f fd) : FnG P w K mg base 2 f fd ["thing", "low", "high"] (spOf K cl p_is_among) := by
  obtain ⟨f_is_whole, fd_is_whole, F_is_whole, g_is_whole⟩ := T.d_is_whole
  have h_is_whole := (ok_is_whole (P := P) (w := w) (base := base) (cl := cl) T F_is_whole).mono (show 1 ≤ 1 by omega)
  refine fng_ok (np := 3) (ns := 3) F sc_is_among rfl rfl (fun cdv A outer s H E hr hgd tk => ?_)
  have hu := hu65 hr
  exact (ss_one (ss_ret (sd_and (sd_callG h_is_whole hr hgd g_is_whole F_is_whole.kp (bind_is_whole F_is_whole) tk (sa_cons (sd_var 0) sa_nil)) (sd_one (sd_lele (sd_var 1) (sd_var 0) (sd_var 2))))))
theorem sc_lines_of : FnScope ["case", "bays", "power", "apart", "begin", "weather", "wishes", "found", "walls", "needs", "plant", "part", "hour"] ["case"] (defScope t_lines_of) := ⟨rfl, rfl, rfl, by decide +kernel, rfl, by decide +kernel, by decide +kernel⟩
theorem bind_lines_of (F : Fun K "lines_of" "lines_of" t_lines_of f fd) : Binds K fd ["case"] [] := F.binds (ps := ["case"]) fun _ _ _ _ _ _ us hl => match us, hl with | [_], _ => rfl
theorem ok_lines_of (T : Top K mg cl w) (F : Fun K "lines_of" "lines_of" t_lines_of f fd) : FnG P w K mg base 2 f fd ["case"] (spOf K cl p_lines_of) := by
  obtain ⟨f_line_of, fd_line_of, F_line_of, g_line_of⟩ := T.d_line_of
  have h_line_of := (ok_line_of (P := P) (w := w) (base := base) (cl := cl) T F_line_of).mono (show 1 ≤ 1 by omega)
  refine fng_ok (np := 1) (ns := 13) F sc_lines_of rfl rfl (fun cdv A outer s H E hr hgd tk => ?_)
  have hu := hu65 hr
  exact (ss_cons (ss_asg (sd_var 0) (sg_tup rfl (sgs_cons (sg_tup rfl (sgs_cons (sg_name 1 sc_lines_of.nd) (sgs_cons (sg_name 2 sc_lines_of.nd) (sgs_cons (sg_name 3 sc_lines_of.nd) sgs_nil)))) (sgs_cons (sg_name 4 sc_lines_of.nd) (sgs_cons (sg_name 5 sc_lines_of.nd) (sgs_cons (sg_name 6 sc_lines_of.nd) sgs_nil))))))
    (ss_cons (ss_set 7 (sd_mat (so_new (sn_lst (sa_cons (sd_callG h_line_of hr hgd g_line_of F_line_of.kp (bind_line_of F_line_of) tk (sa_cons sd_str (sa_cons (sd_tup (sa_cons (sd_var 2) (sa_cons (sd_var 3) sa_nil))) sa_nil))) sa_nil)))) sc_lines_of.nd)
    (ss_cons (ss_set 7 (sd_mat (so_add (so_val (sd_var 7)) (so_new (sn_lc (own := [("walls", 8), ("needs", 9), ("plant", 10)]) rfl sc_lines_of.nd (si_src (so_val (sd_var 1))) (show BlkOk ["case", "bays", "power", "apart", "begin", "weather", "wishes", "found", "walls", "needs", "plant", "part", "hour"] (defScope t_lines_of) _ [("walls", 8), ("needs", 9), ("plant", 10)] from ⟨rfl, by decide +kernel, by decide +kernel, by decide +kernel, by decide +kernel⟩) (fun _ _ _ _ _ => (sg_tup rfl (sgs_cons (sg_name 8 sc_lines_of.nd) (sgs_cons (sg_name 9 sc_lines_of.nd) (sgs_cons (sg_name 10 sc_lines_of.nd) sgs_nil))))) (fun _ _ _ _ _ => st_yes) (fun _ _ _ _ _ => (sd_callG h_line_of hr hgd g_line_of F_line_of.kp (bind_line_of F_line_of) (takesF _) (sa_cons sd_str (sa_cons (sd_mat (so_add (so_add (so_val (sd_var 8)) (so_val (sd_var 9))) (so_val (sd_var 10)))) sa_nil)))))))) sc_lines_of.nd)
    (ss_cons (ss_set 7 (sd_mat (so_add (so_val (sd_var 7)) (so_new (sn_lc (own := [("part", 11)]) rfl sc_lines_of.nd (si_src (so_val (sd_var 4))) (show BlkOk ["case", "bays", "power", "apart", "begin", "weather", "wishes", "found", "walls", "needs", "plant", "part", "hour"] (defScope t_lines_of) _ [("part", 11)] from ⟨rfl, by decide +kernel, by decide +kernel, by decide +kernel, by decide +kernel⟩) (fun _ _ _ _ _ => (sg_name 11 sc_lines_of.nd)) (fun _ _ _ _ _ => st_yes) (fun _ _ _ _ _ => (sd_callG h_line_of hr hgd g_line_of F_line_of.kp (bind_line_of F_line_of) (takesF _) (sa_cons sd_str (sa_cons (sd_var 11) sa_nil)))))))) sc_lines_of.nd)
    (ss_one (ss_ret (sd_mat (so_add (so_add (so_val (sd_var 7)) (so_new (sn_lc (own := [("hour", 12)]) rfl sc_lines_of.nd (si_src (so_val (sd_var 5))) (show BlkOk ["case", "bays", "power", "apart", "begin", "weather", "wishes", "found", "walls", "needs", "plant", "part", "hour"] (defScope t_lines_of) _ [("hour", 12)] from ⟨rfl, by decide +kernel, by decide +kernel, by decide +kernel, by decide +kernel⟩) (fun _ _ _ _ _ => (sg_name 12 sc_lines_of.nd)) (fun _ _ _ _ _ => st_yes) (fun _ _ _ _ _ => (sd_callG h_line_of hr hgd g_line_of F_line_of.kp (bind_line_of F_line_of) (takesF _) (sa_cons sd_str (sa_cons (sd_var 12) sa_nil))))))) (so_new (sn_lst (sa_cons (sd_callG h_line_of hr hgd g_line_of F_line_of.kp (bind_line_of F_line_of) tk (sa_cons sd_str (sa_cons (sd_var 6) sa_nil))) sa_nil)))))))))))
theorem sc_row_in : FnScope ["line", "words", "numbers", "word"] ["line"] (defScope t_row_in) := ⟨rfl, rfl, rfl, by decide +kernel, rfl, by decide +kernel, by decide +kernel⟩
theorem bind_row_in (F : Fun K "row_in" "row_in" t_row_in f fd) : Binds K fd ["line"] [] := F.binds (ps := ["line"]) fun _ _ _ _ _ _ us hl => match us, hl with | [_], _ => rfl
theorem ok_row_in (T : Top K mg cl w) (F : Fun K "row_in" "row_in" t_row_in f fd) : FnG P w K mg base 2 f fd ["line"] (spOf K cl p_row_in) := by
  obtain ⟨f_number_in, fd_number_in, F_number_in, g_number_in⟩ := T.d_number_in
  have h_number_in := (ok_number_in (P := P) (w := w) (base := base) (cl := cl) T F_number_in).mono (show 1 ≤ 1 by omega)
  refine fng_ok (np := 1) (ns := 4) F sc_row_in rfl rfl (fun cdv A outer s H E hr hgd tk => ?_)
  have hu := hu65 hr
  exact (ss_cons (ss_set 1 (sd_mat (so_split (sd_var 0) sd_str)) sc_row_in.nd)
    (ss_cons (ss_set 2 (sd_tuple (so_new (sn_lc (own := [("word", 3)]) rfl sc_row_in.nd (si_src (so_slice (so_val (sd_var 1)) (sp_some sd_int) sp_none)) (show BlkOk ["line", "words", "numbers", "word"] (defScope t_row_in) _ [("word", 3)] from ⟨rfl, by decide +kernel, by decide +kernel, by decide +kernel, by decide +kernel⟩) (fun _ _ _ _ _ => (sg_name 3 sc_row_in.nd)) (fun _ _ _ _ _ => st_yes) (fun _ _ _ _ _ => (sd_callG h_number_in hr hgd g_number_in F_number_in.kp (bind_number_in F_number_in) (takesF _) (sa_cons (sd_var 3) sa_nil))))) T.b_tuple) sc_row_in.nd)
    (ss_cons (ss_if (st_of (sw_or (st_notin hu (so_val (sd_ix (so_val (sd_var 1)) (so_val sd_int) (by intro _ _; rfl))) (so_val (sd_gctD rfl rfl T.c_ORDER))) (sw_or (st_in hu (so_val sd_non) (so_val (sd_var 2))) (sw_or1 (st_notin hu (so_val (sd_len (so_val (sd_var 2)) T.b_len)) (so_val (sd_tab rfl T.t_COUNTS (sd_ix (so_val (sd_var 1)) (so_val sd_int) (by intro _ _; rfl)) (by intro _ _; rfl)))))))) (ss_one (ss_ret sd_non)) ss_nil)
    (ss_one (ss_ret (sd_tup (sa_cons (sd_ix (so_val (sd_var 1)) (so_val sd_int) (by intro _ _; rfl)) (sa_cons (sd_var 2) sa_nil))))))))
theorem sc__law_odd : FnScope ["_law_pot_here", "_law_some"] ["_law_pot_here"] (defScope t__law_odd) := ⟨rfl, rfl, rfl, by decide +kernel, rfl, by decide +kernel, by decide +kernel⟩
theorem bind__law_odd (F : Fun K "_law_odd" "_law_odd" t__law_odd f fd) : Binds K fd ["_law_pot_here"] [] := F.binds (ps := ["_law_pot_here"]) fun _ _ _ _ _ _ us hl => match us, hl with | [_], _ => rfl
theorem ok__law_odd (T : Top K mg cl w) (F : Fun K "_law_odd" "_law_odd" t__law_odd f fd) : FnG P w K mg base 2 f fd ["_law_pot_here"] (spOf K cl p__law_odd) := by
  obtain ⟨f__law_take, fd__law_take, F__law_take, g__law_take⟩ := T.d__law_take
  have h__law_take := (ok__law_take (P := P) (w := w) (base := base) (cl := cl) T F__law_take).mono (show 1 ≤ 1 by omega)
  refine fng_ok (np := 1) (ns := 2) F sc__law_odd rfl rfl (fun cdv A outer s H E hr hgd tk => ?_)
  have hu := hu65 hr
  exact (ss_cons (ss_set 1 (sd_mat (so_new (sn_lst (sa_cons sd_non (sa_cons sd_bl (sa_cons sd_bl (sa_cons (sd_neg sd_int) (sa_cons (sd_pow sd_int sd_int) (sa_cons sd_str (sa_cons sd_str (sa_cons sd_str (sa_cons (sd_tup sa_nil) (sa_cons (sd_mat (so_new (sn_lst sa_nil))) (sa_cons sd_dct0 (sa_cons (sd_mat (so_new (sn_lst (sa_cons (sd_tup sa_nil) sa_nil)))) (sa_cons (sd_tup (sa_cons (sd_tup sa_nil) sa_nil)) (sa_cons (sd_tup (sa_cons sd_int sa_nil)) (sa_cons (sd_mat (so_new (sn_lst (sa_cons sd_int sa_nil)))) (sa_cons sd_dct1 (sa_cons (sd_tup (sa_cons sd_bl (sa_cons sd_bl sa_nil))) sa_nil)))))))))))))))))))) sc__law_odd.nd)
    (ss_one (ss_ret (sd_ix (so_val (sd_var 1)) (so_val (sd_callG h__law_take hr hgd g__law_take F__law_take.kp (bind__law_take F__law_take) tk (sa_cons (sd_var 0) (sa_cons (sd_len (so_val (sd_var 1)) T.b_len) sa_nil)))) (by intro _ _; rfl)))))
theorem sc__law_bay : FnScope ["_law_pot_here", "_law_shuts", "_law_low", "_law_dry", "_law_needs"] ["_law_pot_here"] (defScope t__law_bay) := ⟨rfl, rfl, rfl, by decide +kernel, rfl, by decide +kernel, by decide +kernel⟩
theorem bind__law_bay (F : Fun K "_law_bay" "_law_bay" t__law_bay f fd) : Binds K fd ["_law_pot_here"] [] := F.binds (ps := ["_law_pot_here"]) fun _ _ _ _ _ _ us hl => match us, hl with | [_], _ => rfl
theorem ok__law_bay (T : Top K mg cl w) (F : Fun K "_law_bay" "_law_bay" t__law_bay f fd) : FnG P w K mg base 2 f fd ["_law_pot_here"] (spOf K cl p__law_bay) := by
  obtain ⟨f__law_take, fd__law_take, F__law_take, g__law_take⟩ := T.d__law_take
  have h__law_take := (ok__law_take (P := P) (w := w) (base := base) (cl := cl) T F__law_take).mono (show 1 ≤ 1 by omega)
  refine fng_ok (np := 1) (ns := 5) F sc__law_bay rfl rfl (fun cdv A outer s H E hr hgd tk => ?_)
  have hu := hu65 hr
  exact (ss_cons (ss_set 1 (sd_tup (sa_cons (sd_mat (so_add (so_val sd_int) (so_val (sd_callG h__law_take hr hgd g__law_take F__law_take.kp (bind__law_take F__law_take) tk (sa_cons (sd_var 0) (sa_cons sd_int sa_nil)))))) (sa_cons (sd_callG h__law_take hr hgd g__law_take F__law_take.kp (bind__law_take F__law_take) tk (sa_cons (sd_var 0) (sa_cons sd_int sa_nil))) (sa_cons (sd_mat (so_add (so_val sd_int) (so_val (sd_callG h__law_take hr hgd g__law_take F__law_take.kp (bind__law_take F__law_take) tk (sa_cons (sd_var 0) (sa_cons sd_int sa_nil)))))) (sa_cons (sd_callG h__law_take hr hgd g__law_take F__law_take.kp (bind__law_take F__law_take) tk (sa_cons (sd_var 0) (sa_cons sd_int sa_nil))) sa_nil))))) sc__law_bay.nd)
    (ss_cons (ss_par (i := 2) (j := 3) rfl sc__law_bay.nd (sa_cons (sd_sub sd_int (sd_callG h__law_take hr hgd g__law_take F__law_take.kp (bind__law_take F__law_take) tk (sa_cons (sd_var 0) (sa_cons sd_int sa_nil)))) (sa_cons (sd_callG h__law_take hr hgd g__law_take F__law_take.kp (bind__law_take F__law_take) tk (sa_cons (sd_var 0) (sa_cons sd_int sa_nil))) sa_nil)))
    (ss_cons (ss_set 4 (sd_tup (sa_cons (sd_var 2) (sa_cons (sd_mat (so_add (so_val (sd_var 2)) (so_val (sd_callG h__law_take hr hgd g__law_take F__law_take.kp (bind__law_take F__law_take) tk (sa_cons (sd_var 0) (sa_cons sd_int sa_nil)))))) (sa_cons (sd_var 3) (sa_cons (sd_min2 (so_val sd_int) (so_add (so_add (so_val (sd_var 3)) (so_val sd_int)) (so_val (sd_callG h__law_take hr hgd g__law_take F__law_take.kp (bind__law_take F__law_take) tk (sa_cons (sd_var 0) (sa_cons sd_int sa_nil))))) T.b_min) sa_nil))))) sc__law_bay.nd)
    (ss_one (ss_ret (sd_tup (sa_cons (sd_var 1) (sa_cons (sd_var 4) (sa_cons (sd_tup (sa_cons (sd_sub (sd_mat (so_add (so_val (sd_var 2)) (so_val (sd_callG h__law_take hr hgd g__law_take F__law_take.kp (bind__law_take F__law_take) tk (sa_cons (sd_var 0) (sa_cons sd_int sa_nil)))))) sd_int) (sa_cons (sd_callG h__law_take hr hgd g__law_take F__law_take.kp (bind__law_take F__law_take) tk (sa_cons (sd_var 0) (sa_cons sd_int sa_nil))) sa_nil))) sa_nil)))))))))
theorem sc__law_hour : FnScope ["_law_pot_here", "_law_wide", "_law_cold", "_law_light"] ["_law_pot_here", "_law_wide"] (defScope t__law_hour) := ⟨rfl, rfl, rfl, by decide +kernel, rfl, by decide +kernel, by decide +kernel⟩
theorem bind__law_hour (F : Fun K "_law_hour" "_law_hour" t__law_hour f fd) : Binds K fd ["_law_pot_here", "_law_wide"] [] := F.binds (ps := ["_law_pot_here", "_law_wide"]) fun _ _ _ _ _ _ us hl => match us, hl with | [_, _], _ => rfl
theorem ok__law_hour (T : Top K mg cl w) (F : Fun K "_law_hour" "_law_hour" t__law_hour f fd) : FnG P w K mg base 2 f fd ["_law_pot_here", "_law_wide"] (spOf K cl p__law_hour) := by
  obtain ⟨f__law_take, fd__law_take, F__law_take, g__law_take⟩ := T.d__law_take
  have h__law_take := (ok__law_take (P := P) (w := w) (base := base) (cl := cl) T F__law_take).mono (show 1 ≤ 1 by omega)
  refine fng_ok (np := 2) (ns := 4) F sc__law_hour rfl rfl (fun cdv A outer s H E hr hgd tk => ?_)
  have hu := hu65 hr
  exact (ss_cons (ss_par (i := 2) (j := 3) rfl sc__law_hour.nd (sa_cons (sd_mat (so_add (so_val sd_int) (so_val (sd_callG h__law_take hr hgd g__law_take F__law_take.kp (bind__law_take F__law_take) tk (sa_cons (sd_var 0) (sa_cons sd_int sa_nil)))))) (sa_cons (sd_callG h__law_take hr hgd g__law_take F__law_take.kp (bind__law_take F__law_take) tk (sa_cons (sd_var 0) (sa_cons sd_int sa_nil))) sa_nil)))
    (ss_one (ss_ret (sd_tup (sa_cons (sd_var 2) (sa_cons (sd_mat (so_add (so_val (sd_var 2)) (so_val (sd_callG h__law_take hr hgd g__law_take F__law_take.kp (bind__law_take F__law_take) tk (sa_cons (sd_var 0) (sa_cons (sd_var 1) sa_nil)))))) (sa_cons (sd_var 3) (sa_cons (sd_mat (so_add (so_val (sd_var 3)) (so_val (sd_callG h__law_take hr hgd g__law_take F__law_take.kp (bind__law_take F__law_take) tk (sa_cons (sd_var 0) (sa_cons (sd_min2 (so_val sd_int) (so_val (sd_var 1)) T.b_min) sa_nil)))))) sa_nil))))))))
theorem sc_is_row : FnScope ["thing", "bounds", "one", "low", "high"] ["thing", "bounds"] (defScope t_is_row) := ⟨rfl, rfl, rfl, by decide +kernel, rfl, by decide +kernel, by decide +kernel⟩
theorem bind_is_row (F : Fun K "is_row" "is_row" t_is_row f fd) : Binds K fd ["thing", "bounds"] [] := F.binds (ps := ["thing", "bounds"]) fun _ _ _ _ _ _ us hl => match us, hl with | [_, _], _ => rfl
theorem ok_is_row (T : Top K mg cl w) (F : Fun K "is_row" "is_row" t_is_row f fd) : FnG P w K mg base 3 f fd ["thing", "bounds"] (spOf K cl p_is_row) := by
  obtain ⟨f_is_among, fd_is_among, F_is_among, g_is_among⟩ := T.d_is_among
  have h_is_among := (ok_is_among (P := P) (w := w) (base := base) (cl := cl) T F_is_among).mono (show 2 ≤ 2 by omega)
  refine fng_ok (np := 2) (ns := 5) F sc_is_row rfl rfl (fun cdv A outer s H E hr hgd tk => ?_)
  have hu := hu65 hr
  exact (ss_cons (ss_if (st_of (sw_or (st_not (st_truth (sd_isi (t := .tup) (so_val (sd_var 0)) T.b_isinstance T.b_tuple (by decide +kernel)))) (sw_or1 (st_ne hu (so_val (sd_len (so_val (sd_var 0)) T.b_len)) (so_val (sd_len (so_val (sd_var 1)) T.b_len)))))) (ss_one (ss_ret sd_bl)) ss_nil)
    (ss_one (ss_ret (sd_all (so_new (sn_lc (own := [("one", 2), ("low", 3), ("high", 4)]) rfl sc_is_row.nd (si_zip2 T.b_zip (so_val (sd_var 0)) (so_val (sd_var 1))) (show BlkOk ["thing", "bounds", "one", "low", "high"] (defScope t_is_row) _ [("one", 2), ("low", 3), ("high", 4)] from ⟨rfl, by decide +kernel, by decide +kernel, by decide +kernel, by decide +kernel⟩) (fun _ _ _ _ _ => (sg_tup rfl (sgs_cons (sg_name 2 sc_is_row.nd) (sgs_cons (sg_tup rfl (sgs_cons (sg_name 3 sc_is_row.nd) (sgs_cons (sg_name 4 sc_is_row.nd) sgs_nil))) sgs_nil)))) (fun _ _ _ _ _ => st_yes) (fun _ _ _ _ _ => (sd_callG h_is_among hr hgd g_is_among F_is_among.kp (bind_is_among F_is_among) (takesF _) (sa_cons (sd_var 2) (sa_cons (sd_var 3) (sa_cons (sd_var 4) sa_nil))))))) T.b_all))))
theorem sc_rows_in : FnScope ["lines", "rows", "number", "line", "row"] ["lines"] (defScope t_rows_in) := ⟨rfl, rfl, rfl, by decide +kernel, rfl, by decide +kernel, by decide +kernel⟩
theorem bind_rows_in (F : Fun K "rows_in" "rows_in" t_rows_in f fd) : Binds K fd ["lines"] [] := F.binds (ps := ["lines"]) fun _ _ _ _ _ _ us hl => match us, hl with | [_], _ => rfl
theorem ok_rows_in (T : Top K mg cl w) (F : Fun K "rows_in" "rows_in" t_rows_in f fd) : FnG P w K mg base 3 f fd ["lines"] (spOf K cl p_rows_in) := by
  obtain ⟨f_row_in, fd_row_in, F_row_in, g_row_in⟩ := T.d_row_in
  have h_row_in := (ok_row_in (P := P) (w := w) (base := base) (cl := cl) T F_row_in).mono (show 2 ≤ 2 by omega)
  refine fng_ok (np := 1) (ns := 5) F sc_rows_in rfl rfl (fun cdv A outer s H E hr hgd tk => ?_)
  have hu := hu65 hr
  exact (ss_cons (ss_set 1 (sd_mat (so_new (sn_lst sa_nil))) sc_rows_in.nd)
    (ss_cons (ss_for (passes_of rfl) rfl (si_enuS T.b_enumerate (so_val (sd_var 0))) (sg_tup rfl (sgs_cons (sg_name 2 sc_rows_in.nd) (sgs_cons (sg_name 3 sc_rows_in.nd) sgs_nil))) (ss_cons (ss_set 4 (sd_callG h_row_in hr hgd g_row_in F_row_in.kp (bind_row_in F_row_in) tk (sa_cons (sd_var 3) sa_nil)) sc_rows_in.nd)
    (ss_cons (ss_if (st_of (sw_or (st_is (sd_var 4) sd_non) (sw_or1 (st_of (sw_and (st_neN hu (so_val (sd_var 1)) (so_new (sn_lst sa_nil))) (sw_and1 (st_lt (sd_idxC (ys := [("house" : Str), ("bay" : Str), ("at" : Str), ("hour" : Str), ("wish" : Str)]) rfl T.c_ORDER (sd_ix (so_val (sd_var 4)) (so_val sd_int) (by intro _ _; rfl))) (sd_idxC (ys := [("house" : Str), ("bay" : Str), ("at" : Str), ("hour" : Str), ("wish" : Str)]) rfl T.c_ORDER (sd_ix (so_val (sd_ix (so_val (sd_var 1)) (so_val (sd_neg sd_int)) (by intro _ _; rfl))) (so_val sd_int) (by intro _ _; rfl)))))))))) (ss_one (ss_ret (sd_tup (sa_cons (sd_var 1) (sa_cons (sd_var 2) sa_nil))))) ss_nil)
    (ss_one (ss_drop (sd_append (sd_var 1) (sa_cons (sd_var 4) sa_nil)))))))
    (ss_one (ss_ret (sd_tup (sa_cons (sd_var 1) (sa_cons sd_non sa_nil)))))))
theorem sc__law_case : FnScope ["_law_pot_here", "_law_bays", "_law_begin", "_law_shuts", "_law_needs", "_law_plant", "_law_warmth", "_law_hours", "_law_weather", "_law_wishes", "_law_bay_here", "_law_hour_here"] ["_law_pot_here"] (defScope t__law_case) := ⟨rfl, rfl, rfl, by decide +kernel, rfl, by decide +kernel, by decide +kernel⟩
theorem bind__law_case (F : Fun K "_law_case" "_law_case" t__law_case f fd) : Binds K fd ["_law_pot_here"] [] := F.binds (ps := ["_law_pot_here"]) fun _ _ _ _ _ _ us hl => match us, hl with | [_], _ => rfl
theorem ok__law_case (T : Top K mg cl w) (F : Fun K "_law_case" "_law_case" t__law_case f fd) : FnG P w K mg base 3 f fd ["_law_pot_here"] (spOf K cl p__law_case) := by
  obtain ⟨f__law_take, fd__law_take, F__law_take, g__law_take⟩ := T.d__law_take
  have h__law_take := (ok__law_take (P := P) (w := w) (base := base) (cl := cl) T F__law_take).mono (show 1 ≤ 2 by omega)
  obtain ⟨f__law_bay, fd__law_bay, F__law_bay, g__law_bay⟩ := T.d__law_bay
  have h__law_bay := (ok__law_bay (P := P) (w := w) (base := base) (cl := cl) T F__law_bay).mono (show 2 ≤ 2 by omega)
  obtain ⟨f__law_hour, fd__law_hour, F__law_hour, g__law_hour⟩ := T.d__law_hour
  have h__law_hour := (ok__law_hour (P := P) (w := w) (base := base) (cl := cl) T F__law_hour).mono (show 2 ≤ 2 by omega)
  refine fng_ok (np := 1) (ns := 12) F sc__law_case rfl rfl (fun cdv A outer s H E hr hgd tk => ?_)
  have hu := hu65 hr
  exact (ss_cons (ss_set 1 (sd_tuple (so_new (sn_lc (own := [("_law_bay_here", 10)]) rfl sc__law_case.nd (si_rng1 T.b_range (sd_mat (so_add (so_val sd_int) (so_val (sd_intc (so_val (sd_eq hu (so_val (sd_callG h__law_take hr hgd g__law_take F__law_take.kp (bind__law_take F__law_take) tk (sa_cons (sd_var 0) (sa_cons sd_int sa_nil)))) (so_val sd_int))) T.b_int))))) (show BlkOk ["_law_pot_here", "_law_bays", "_law_begin", "_law_shuts", "_law_needs", "_law_plant", "_law_warmth", "_law_hours", "_law_weather", "_law_wishes", "_law_bay_here", "_law_hour_here"] (defScope t__law_case) _ [("_law_bay_here", 10)] from ⟨rfl, by decide +kernel, by decide +kernel, by decide +kernel, by decide +kernel⟩) (fun _ _ _ _ _ => (sg_name 10 sc__law_case.nd)) (fun _ _ _ _ _ => st_yes) (fun _ _ _ _ _ => (sd_callG h__law_bay hr hgd g__law_bay F__law_bay.kp (bind__law_bay F__law_bay) (takesF _) (sa_cons (sd_var 0) sa_nil))))) T.b_tuple) sc__law_case.nd)
    (ss_cons (ss_set 2 (sd_mat (so_new (sn_lst sa_nil))) sc__law_case.nd)
    (ss_cons (ss_for (passes_of rfl) rfl (si_src (so_val (sd_var 1))) (sg_tup rfl (sgs_cons (sg_name 3 sc__law_case.nd) (sgs_cons (sg_name 4 sc__law_case.nd) (sgs_cons (sg_name 5 sc__law_case.nd) sgs_nil)))) (ss_cons (ss_set 6 (sd_mat (so_add (so_val (sd_ix (so_val (sd_var 4)) (so_val sd_int) (by intro _ _; rfl))) (so_val (sd_callG h__law_take hr hgd g__law_take F__law_take.kp (bind__law_take F__law_take) tk (sa_cons (sd_var 0) (sa_cons (sd_mat (so_add (so_val (sd_sub (sd_ix (so_val (sd_var 4)) (so_val sd_int) (by intro _ _; rfl)) (sd_ix (so_val (sd_var 4)) (so_val sd_int) (by intro _ _; rfl)))) (so_val sd_int))) sa_nil)))))) sc__law_case.nd)
    (ss_one (ss_drop (sd_append (sd_var 2) (sa_cons (sd_tup (sa_cons (sd_var 6) (sa_cons (sd_mat (so_add (so_val (sd_ix (so_val (sd_var 4)) (so_val sd_int) (by intro _ _; rfl))) (so_val (sd_callG h__law_take hr hgd g__law_take F__law_take.kp (bind__law_take F__law_take) tk (sa_cons (sd_var 0) (sa_cons (sd_mat (so_add (so_val (sd_sub (sd_ix (so_val (sd_var 4)) (so_val sd_int) (by intro _ _; rfl)) (sd_ix (so_val (sd_var 4)) (so_val sd_int) (by intro _ _; rfl)))) (so_val sd_int))) sa_nil)))))) (sa_cons (sd_callG h__law_take hr hgd g__law_take F__law_take.kp (bind__law_take F__law_take) tk (sa_cons (sd_var 0) (sa_cons sd_int sa_nil))) sa_nil)))) sa_nil))))))
    (ss_cons (ss_set 7 (sd_mat (so_add (so_val sd_int) (so_val (sd_callG h__law_take hr hgd g__law_take F__law_take.kp (bind__law_take F__law_take) tk (sa_cons (sd_var 0) (sa_cons (sd_sub sd_int (sd_intc (so_val (sd_gt (sd_len (so_val (sd_var 1)) T.b_len) sd_int)) T.b_int)) sa_nil)))))) sc__law_case.nd)
    (ss_cons (ss_set 8 (sd_tuple (so_new (sn_lc (own := [("_law_hour_here", 11)]) rfl sc__law_case.nd (si_rng1 T.b_range (sd_var 7)) (show BlkOk ["_law_pot_here", "_law_bays", "_law_begin", "_law_shuts", "_law_needs", "_law_plant", "_law_warmth", "_law_hours", "_law_weather", "_law_wishes", "_law_bay_here", "_law_hour_here"] (defScope t__law_case) _ [("_law_hour_here", 11)] from ⟨rfl, by decide +kernel, by decide +kernel, by decide +kernel, by decide +kernel⟩) (fun _ _ _ _ _ => (sg_name 11 sc__law_case.nd)) (fun _ _ _ _ _ => st_yes) (fun _ _ _ _ _ => (sd_callG h__law_hour hr hgd g__law_hour F__law_hour.kp (bind__law_hour F__law_hour) (takesF _) (sa_cons (sd_var 0) (sa_cons (sd_ix (so_new (sn_lst (sa_cons sd_int (sa_cons sd_int (sa_cons sd_int sa_nil))))) (so_val (sd_callG h__law_take hr hgd g__law_take F__law_take.kp (bind__law_take F__law_take) (takesF _) (sa_cons (sd_var 0) (sa_cons sd_int sa_nil)))) (by intro _ _; rfl)) sa_nil)))))) T.b_tuple) sc__law_case.nd)
    (ss_cons (ss_set 9 (sd_tuple (so_new (sn_lc (own := [("_law_bay_here", 10)]) rfl sc__law_case.nd (si_src (so_val (sd_var 1))) (show BlkOk ["_law_pot_here", "_law_bays", "_law_begin", "_law_shuts", "_law_needs", "_law_plant", "_law_warmth", "_law_hours", "_law_weather", "_law_wishes", "_law_bay_here", "_law_hour_here"] (defScope t__law_case) _ [("_law_bay_here", 10)] from ⟨rfl, by decide +kernel, by decide +kernel, by decide +kernel, by decide +kernel⟩) (fun _ _ _ _ _ => (sg_name 10 sc__law_case.nd)) (fun _ _ _ _ _ => st_yes) (fun _ _ _ _ _ => (sd_callG h__law_take hr hgd g__law_take F__law_take.kp (bind__law_take F__law_take) (takesF _) (sa_cons (sd_var 0) (sa_cons sd_int sa_nil)))))) T.b_tuple) sc__law_case.nd)
    (ss_one (ss_ret (sd_tup (sa_cons (sd_tup (sa_cons (sd_var 1) (sa_cons (sd_callG h__law_take hr hgd g__law_take F__law_take.kp (bind__law_take F__law_take) tk (sa_cons (sd_var 0) (sa_cons sd_int sa_nil))) (sa_cons (sd_intc (so_val (sd_eq hu (so_val (sd_callG h__law_take hr hgd g__law_take F__law_take.kp (bind__law_take F__law_take) tk (sa_cons (sd_var 0) (sa_cons sd_int sa_nil)))) (so_val sd_int))) T.b_int) sa_nil)))) (sa_cons (sd_tuple (so_val (sd_var 2)) T.b_tuple) (sa_cons (sd_var 8) (sa_cons (sd_var 9) sa_nil)))))))))))))
theorem sc_is_needs : FnScope ["thing"] ["thing"] (defScope t_is_needs) := ⟨rfl, rfl, rfl, by decide +kernel, rfl, by decide +kernel, by decide +kernel⟩
theorem bind_is_needs (F : Fun K "is_needs" "is_needs" t_is_needs f fd) : Binds K fd ["thing"] [] := F.binds (ps := ["thing"]) fun _ _ _ _ _ _ us hl => match us, hl with | [_], _ => rfl
theorem ok_is_needs (T : Top K mg cl w) (F : Fun K "is_needs" "is_needs" t_is_needs f fd) : FnG P w K mg base 4 f fd ["thing"] (spOf K cl p_is_needs) := by
  obtain ⟨f_is_row, fd_is_row, F_is_row, g_is_row⟩ := T.d_is_row
  have h_is_row := (ok_is_row (P := P) (w := w) (base := base) (cl := cl) T F_is_row).mono (show 3 ≤ 3 by omega)
  refine fng_ok (np := 1) (ns := 1) F sc_is_needs rfl rfl (fun cdv A outer s H E hr hgd tk => ?_)
  have hu := hu65 hr
  exact (ss_cons (ss_if (st_not (st_truth (sd_callG h_is_row hr hgd g_is_row F_is_row.kp (bind_is_row F_is_row) tk (sa_cons (sd_var 0) (sa_cons (sd_tup (sa_cons (sd_tup (sa_cons (sd_neg sd_int) (sa_cons sd_int sa_nil))) (sa_cons (sd_tup (sa_cons (sd_neg sd_int) (sa_cons sd_int sa_nil))) (sa_cons (sd_tup (sa_cons sd_int (sa_cons (sd_gc rfl T.c_MOST_DAMP) sa_nil))) (sa_cons (sd_tup (sa_cons sd_int (sa_cons (sd_gc rfl T.c_MOST_DAMP) sa_nil))) sa_nil))))) sa_nil))))) (ss_one (ss_ret sd_bl)) ss_nil)
    (ss_one (ss_ret (sd_and (sd_le (sd_ix (so_val (sd_var 0)) (so_val sd_int) (by intro _ _; rfl)) (sd_ix (so_val (sd_var 0)) (so_val sd_int) (by intro _ _; rfl))) (sd_one (sd_le (sd_ix (so_val (sd_var 0)) (so_val sd_int) (by intro _ _; rfl)) (sd_ix (so_val (sd_var 0)) (so_val sd_int) (by intro _ _; rfl))))))))
theorem sc_is_standing_of : FnScope ["house", "thing", "one"] ["house", "thing"] (defScope t_is_standing_of) := ⟨rfl, rfl, rfl, by decide +kernel, rfl, by decide +kernel, by decide +kernel⟩
theorem bind_is_standing_of (F : Fun K "is_standing_of" "is_standing_of" t_is_standing_of f fd) : Binds K fd ["house", "thing"] [] := F.binds (ps := ["house", "thing"]) fun _ _ _ _ _ _ us hl => match us, hl with | [_, _], _ => rfl
theorem ok_is_standing_of (T : Top K mg cl w) (F : Fun K "is_standing_of" "is_standing_of" t_is_standing_of f fd) : FnG P w K mg base 4 f fd ["house", "thing"] (spOf K cl p_is_standing_of) := by
  obtain ⟨f_is_row, fd_is_row, F_is_row, g_is_row⟩ := T.d_is_row
  have h_is_row := (ok_is_row (P := P) (w := w) (base := base) (cl := cl) T F_is_row).mono (show 3 ≤ 3 by omega)
  refine fng_ok (np := 2) (ns := 3) F sc_is_standing_of rfl rfl (fun cdv A outer s H E hr hgd tk => ?_)
  have hu := hu65 hr
  exact (ss_cons (ss_if (st_of (sw_or (st_not (st_truth (sd_isi (t := .tup) (so_val (sd_var 1)) T.b_isinstance T.b_tuple (by decide +kernel)))) (sw_or1 (st_ne hu (so_val (sd_len (so_val (sd_var 1)) T.b_len)) (so_val (sd_len (so_val (sd_ix (so_val (sd_var 0)) (so_val sd_int) (by intro _ _; rfl))) T.b_len)))))) (ss_one (ss_ret sd_bl)) ss_nil)
    (ss_one (ss_ret (sd_all (so_new (sn_lc (own := [("one", 2)]) rfl sc_is_standing_of.nd (si_src (so_val (sd_var 1))) (show BlkOk ["house", "thing", "one"] (defScope t_is_standing_of) _ [("one", 2)] from ⟨rfl, by decide +kernel, by decide +kernel, by decide +kernel, by decide +kernel⟩) (fun _ _ _ _ _ => (sg_name 2 sc_is_standing_of.nd)) (fun _ _ _ _ _ => st_yes) (fun _ _ _ _ _ => (sd_callG h_is_row hr hgd g_is_row F_is_row.kp (bind_is_row F_is_row) (takesF _) (sa_cons (sd_var 2) (sa_cons (sd_tup (sa_cons (sd_tup (sa_cons (sd_gc rfl T.c_LEAST_WARMTH) (sa_cons (sd_gc rfl T.c_MOST_WARMTH) sa_nil))) (sa_cons (sd_tup (sa_cons sd_int (sa_cons (sd_gc rfl T.c_MOST_DAMP) sa_nil))) (sa_cons (sd_tup (sa_cons sd_int (sa_cons (sd_gc rfl T.c_MOST_SIZE) sa_nil))) sa_nil)))) sa_nil)))))) T.b_all))))
theorem sc_is_hours_row : FnScope ["thing", "coldest", "warmest", "darkest", "lightest"] ["thing"] (defScope t_is_hours_row) := ⟨rfl, rfl, rfl, by decide +kernel, rfl, by decide +kernel, by decide +kernel⟩
theorem bind_is_hours_row (F : Fun K "is_hours_row" "is_hours_row" t_is_hours_row f fd) : Binds K fd ["thing"] [] := F.binds (ps := ["thing"]) fun _ _ _ _ _ _ us hl => match us, hl with | [_], _ => rfl
theorem ok_is_hours_row (T : Top K mg cl w) (F : Fun K "is_hours_row" "is_hours_row" t_is_hours_row f fd) : FnG P w K mg base 4 f fd ["thing"] (spOf K cl p_is_hours_row) := by
  obtain ⟨f_is_row, fd_is_row, F_is_row, g_is_row⟩ := T.d_is_row
  have h_is_row := (ok_is_row (P := P) (w := w) (base := base) (cl := cl) T F_is_row).mono (show 3 ≤ 3 by omega)
  refine fng_ok (np := 1) (ns := 5) F sc_is_hours_row rfl rfl (fun cdv A outer s H E hr hgd tk => ?_)
  have hu := hu65 hr
  exact (ss_cons (ss_if (st_not (st_truth (sd_callG h_is_row hr hgd g_is_row F_is_row.kp (bind_is_row F_is_row) tk (sa_cons (sd_var 0) (sa_cons (sd_tup (sa_cons (sd_tup (sa_cons (sd_neg sd_int) (sa_cons sd_int sa_nil))) (sa_cons (sd_tup (sa_cons (sd_neg sd_int) (sa_cons sd_int sa_nil))) (sa_cons (sd_tup (sa_cons sd_int (sa_cons sd_int sa_nil))) (sa_cons (sd_tup (sa_cons sd_int (sa_cons sd_int sa_nil))) sa_nil))))) sa_nil))))) (ss_one (ss_ret sd_bl)) ss_nil)
    (ss_cons (ss_asg (sd_var 0) (sg_tup rfl (sgs_cons (sg_name 1 sc_is_hours_row.nd) (sgs_cons (sg_name 2 sc_is_hours_row.nd) (sgs_cons (sg_name 3 sc_is_hours_row.nd) (sgs_cons (sg_name 4 sc_is_hours_row.nd) sgs_nil))))))
    (ss_one (ss_ret (sd_and (sd_lele (sd_var 1) (sd_var 2) (sd_mat (so_add (so_val (sd_var 1)) (so_val (sd_gc rfl T.c_WIDEST_COLD))))) (sd_one (sd_lele (sd_var 3) (sd_var 4) (sd_mat (so_add (so_val (sd_var 3)) (so_val (sd_gc rfl T.c_WIDEST_LIGHT)))))))))))
theorem sc_is_bay : FnScope ["thing"] ["thing"] (defScope t_is_bay) := ⟨rfl, rfl, rfl, by decide +kernel, rfl, by decide +kernel, by decide +kernel⟩
theorem bind_is_bay (F : Fun K "is_bay" "is_bay" t_is_bay f fd) : Binds K fd ["thing"] [] := F.binds (ps := ["thing"]) fun _ _ _ _ _ _ us hl => match us, hl with | [_], _ => rfl
theorem ok_is_bay (T : Top K mg cl w) (F : Fun K "is_bay" "is_bay" t_is_bay f fd) : FnG P w K mg base 5 f fd ["thing"] (spOf K cl p_is_bay) := by
  obtain ⟨f_is_row, fd_is_row, F_is_row, g_is_row⟩ := T.d_is_row
  have h_is_row := (ok_is_row (P := P) (w := w) (base := base) (cl := cl) T F_is_row).mono (show 3 ≤ 4 by omega)
  obtain ⟨f_is_needs, fd_is_needs, F_is_needs, g_is_needs⟩ := T.d_is_needs
  have h_is_needs := (ok_is_needs (P := P) (w := w) (base := base) (cl := cl) T F_is_needs).mono (show 4 ≤ 4 by omega)
  refine fng_ok (np := 1) (ns := 1) F sc_is_bay rfl rfl (fun cdv A outer s H E hr hgd tk => ?_)
  have hu := hu65 hr
  exact (ss_cons (ss_if (st_of (sw_or (st_not (st_truth (sd_isi (t := .tup) (so_val (sd_var 0)) T.b_isinstance T.b_tuple (by decide +kernel)))) (sw_or (st_ne hu (so_val (sd_len (so_val (sd_var 0)) T.b_len)) (so_val sd_int)) (sw_or1 (st_not (st_truth (sd_callG h_is_row hr hgd g_is_row F_is_row.kp (bind_is_row F_is_row) tk (sa_cons (sd_ix (so_val (sd_var 0)) (so_val sd_int) (by intro _ _; rfl)) (sa_cons (sd_tup (sa_cons (sd_tup (sa_cons sd_int (sa_cons sd_int sa_nil))) (sa_cons (sd_tup (sa_cons sd_int (sa_cons sd_int sa_nil))) (sa_cons (sd_tup (sa_cons sd_int (sa_cons sd_int sa_nil))) (sa_cons (sd_tup (sa_cons sd_int (sa_cons sd_int sa_nil))) sa_nil))))) sa_nil))))))))) (ss_one (ss_ret sd_bl)) ss_nil)
    (ss_one (ss_ret (sd_and (sd_callG h_is_needs hr hgd g_is_needs F_is_needs.kp (bind_is_needs F_is_needs) tk (sa_cons (sd_ix (so_val (sd_var 0)) (so_val sd_int) (by intro _ _; rfl)) sa_nil)) (sd_one (sd_callG h_is_row hr hgd g_is_row F_is_row.kp (bind_is_row F_is_row) tk (sa_cons (sd_ix (so_val (sd_var 0)) (so_val sd_int) (by intro _ _; rfl)) (sa_cons (sd_tup (sa_cons (sd_tup (sa_cons (sd_neg sd_int) (sa_cons sd_int sa_nil))) (sa_cons (sd_tup (sa_cons sd_int (sa_cons sd_int sa_nil))) sa_nil))) sa_nil))))))))
theorem sc_is_weather : FnScope ["house", "thing", "row"] ["house", "thing"] (defScope t_is_weather) := ⟨rfl, rfl, rfl, by decide +kernel, rfl, by decide +kernel, by decide +kernel⟩
theorem bind_is_weather (F : Fun K "is_weather" "is_weather" t_is_weather f fd) : Binds K fd ["house", "thing"] [] := F.binds (ps := ["house", "thing"]) fun _ _ _ _ _ _ us hl => match us, hl with | [_, _], _ => rfl
theorem ok_is_weather (T : Top K mg cl w) (F : Fun K "is_weather" "is_weather" t_is_weather f fd) : FnG P w K mg base 5 f fd ["house", "thing"] (spOf K cl p_is_weather) := by
  obtain ⟨f_is_hours_row, fd_is_hours_row, F_is_hours_row, g_is_hours_row⟩ := T.d_is_hours_row
  have h_is_hours_row := (ok_is_hours_row (P := P) (w := w) (base := base) (cl := cl) T F_is_hours_row).mono (show 4 ≤ 4 by omega)
  refine fng_ok (np := 2) (ns := 3) F sc_is_weather rfl rfl (fun cdv A outer s H E hr hgd tk => ?_)
  have hu := hu65 hr
  exact (ss_cons (ss_if (st_of (sw_or (st_not (st_truth (sd_isi (t := .tup) (so_val (sd_var 1)) T.b_isinstance T.b_tuple (by decide +kernel)))) (sw_or1 (st_not (st_lele sd_int (sd_len (so_val (sd_var 1)) T.b_len) (sd_ix (so_val (sd_gctD rfl rfl T.c_MOST_HOURS)) (so_val (sd_sub (sd_len (so_val (sd_ix (so_val (sd_var 0)) (so_val sd_int) (by intro _ _; rfl))) T.b_len) sd_int)) (by intro _ _; rfl))))))) (ss_one (ss_ret sd_bl)) ss_nil)
    (ss_one (ss_ret (sd_all (so_new (sn_lc (own := [("row", 2)]) rfl sc_is_weather.nd (si_src (so_val (sd_var 1))) (show BlkOk ["house", "thing", "row"] (defScope t_is_weather) _ [("row", 2)] from ⟨rfl, by decide +kernel, by decide +kernel, by decide +kernel, by decide +kernel⟩) (fun _ _ _ _ _ => (sg_name 2 sc_is_weather.nd)) (fun _ _ _ _ _ => st_yes) (fun _ _ _ _ _ => (sd_callG h_is_hours_row hr hgd g_is_hours_row F_is_hours_row.kp (bind_is_hours_row F_is_hours_row) (takesF _) (sa_cons (sd_var 2) sa_nil))))) T.b_all))))
theorem sc_is_house : FnScope ["thing", "bay"] ["thing"] (defScope t_is_house) := ⟨rfl, rfl, rfl, by decide +kernel, rfl, by decide +kernel, by decide +kernel⟩
theorem bind_is_house (F : Fun K "is_house" "is_house" t_is_house f fd) : Binds K fd ["thing"] [] := F.binds (ps := ["thing"]) fun _ _ _ _ _ _ us hl => match us, hl with | [_], _ => rfl
theorem ok_is_house (T : Top K mg cl w) (F : Fun K "is_house" "is_house" t_is_house f fd) : FnG P w K mg base 6 f fd ["thing"] (spOf K cl p_is_house) := by
  obtain ⟨f_is_bay, fd_is_bay, F_is_bay, g_is_bay⟩ := T.d_is_bay
  have h_is_bay := (ok_is_bay (P := P) (w := w) (base := base) (cl := cl) T F_is_bay).mono (show 5 ≤ 5 by omega)
  obtain ⟨f_is_among, fd_is_among, F_is_among, g_is_among⟩ := T.d_is_among
  have h_is_among := (ok_is_among (P := P) (w := w) (base := base) (cl := cl) T F_is_among).mono (show 2 ≤ 5 by omega)
  refine fng_ok (np := 1) (ns := 2) F sc_is_house rfl rfl (fun cdv A outer s H E hr hgd tk => ?_)
  have hu := hu65 hr
  exact (ss_cons (ss_if (st_of (sw_or (st_not (st_truth (sd_isi (t := .tup) (so_val (sd_var 0)) T.b_isinstance T.b_tuple (by decide +kernel)))) (sw_or (st_ne hu (so_val (sd_len (so_val (sd_var 0)) T.b_len)) (so_val sd_int)) (sw_or1 (st_not (st_truth (sd_isi (t := .tup) (so_val (sd_ix (so_val (sd_var 0)) (so_val sd_int) (by intro _ _; rfl))) T.b_isinstance T.b_tuple (by decide +kernel)))))))) (ss_one (ss_ret sd_bl)) ss_nil)
    (ss_cons (ss_if (st_of (sw_or (st_not (st_lele sd_int (sd_len (so_val (sd_ix (so_val (sd_var 0)) (so_val sd_int) (by intro _ _; rfl))) T.b_len) (sd_gc rfl T.c_MOST_BAYS))) (sw_or1 (st_not (st_truth (sd_all (so_new (sn_lc (own := [("bay", 1)]) rfl sc_is_house.nd (si_src (so_val (sd_ix (so_val (sd_var 0)) (so_val sd_int) (by intro _ _; rfl)))) (show BlkOk ["thing", "bay"] (defScope t_is_house) _ [("bay", 1)] from ⟨rfl, by decide +kernel, by decide +kernel, by decide +kernel, by decide +kernel⟩) (fun _ _ _ _ _ => (sg_name 1 sc_is_house.nd)) (fun _ _ _ _ _ => st_yes) (fun _ _ _ _ _ => (sd_callG h_is_bay hr hgd g_is_bay F_is_bay.kp (bind_is_bay F_is_bay) (takesF _) (sa_cons (sd_var 1) sa_nil))))) T.b_all)))))) (ss_one (ss_ret sd_bl)) ss_nil)
    (ss_one (ss_ret (sd_and (sd_callG h_is_among hr hgd g_is_among F_is_among.kp (bind_is_among F_is_among) tk (sa_cons (sd_ix (so_val (sd_var 0)) (so_val sd_int) (by intro _ _; rfl)) (sa_cons sd_int (sa_cons (sd_gc rfl T.c_MOST_POWER) sa_nil)))) (sd_one (sd_callG h_is_among hr hgd g_is_among F_is_among.kp (bind_is_among F_is_among) tk (sa_cons (sd_ix (so_val (sd_var 0)) (so_val sd_int) (by intro _ _; rfl)) (sa_cons sd_int (sa_cons sd_int sa_nil))))))))))
theorem sc_is_case : FnScope ["thing", "house", "begin", "weather", "wishes"] ["thing"] (defScope t_is_case) := ⟨rfl, rfl, rfl, by decide +kernel, rfl, by decide +kernel, by decide +kernel⟩
theorem bind_is_case (F : Fun K "is_case" "is_case" t_is_case f fd) : Binds K fd ["thing"] [] := F.binds (ps := ["thing"]) fun _ _ _ _ _ _ us hl => match us, hl with | [_], _ => rfl
theorem ok_is_case (T : Top K mg cl w) (F : Fun K "is_case" "is_case" t_is_case f fd) : FnG P w K mg base 7 f fd ["thing"] (spOf K cl p_is_case) := by
  obtain ⟨f_is_house, fd_is_house, F_is_house, g_is_house⟩ := T.d_is_house
  have h_is_house := (ok_is_house (P := P) (w := w) (base := base) (cl := cl) T F_is_house).mono (show 6 ≤ 6 by omega)
  obtain ⟨f_is_standing_of, fd_is_standing_of, F_is_standing_of, g_is_standing_of⟩ := T.d_is_standing_of
  have h_is_standing_of := (ok_is_standing_of (P := P) (w := w) (base := base) (cl := cl) T F_is_standing_of).mono (show 4 ≤ 6 by omega)
  obtain ⟨f_is_weather, fd_is_weather, F_is_weather, g_is_weather⟩ := T.d_is_weather
  have h_is_weather := (ok_is_weather (P := P) (w := w) (base := base) (cl := cl) T F_is_weather).mono (show 5 ≤ 6 by omega)
  obtain ⟨f_is_row, fd_is_row, F_is_row, g_is_row⟩ := T.d_is_row
  have h_is_row := (ok_is_row (P := P) (w := w) (base := base) (cl := cl) T F_is_row).mono (show 3 ≤ 6 by omega)
  refine fng_ok (np := 1) (ns := 5) F sc_is_case rfl rfl (fun cdv A outer s H E hr hgd tk => ?_)
  have hu := hu65 hr
  exact (ss_cons (ss_if (st_of (sw_or (st_not (st_truth (sd_isi (t := .tup) (so_val (sd_var 0)) T.b_isinstance T.b_tuple (by decide +kernel)))) (sw_or (st_ne hu (so_val (sd_len (so_val (sd_var 0)) T.b_len)) (so_val sd_int)) (sw_or1 (st_not (st_truth (sd_callG h_is_house hr hgd g_is_house F_is_house.kp (bind_is_house F_is_house) tk (sa_cons (sd_ix (so_val (sd_var 0)) (so_val sd_int) (by intro _ _; rfl)) sa_nil)))))))) (ss_one (ss_ret sd_bl)) ss_nil)
    (ss_cons (ss_asg (sd_var 0) (sg_tup rfl (sgs_cons (sg_name 1 sc_is_case.nd) (sgs_cons (sg_name 2 sc_is_case.nd) (sgs_cons (sg_name 3 sc_is_case.nd) (sgs_cons (sg_name 4 sc_is_case.nd) sgs_nil))))))
    (ss_cons (ss_if (st_of (sw_or (st_not (st_truth (sd_callG h_is_standing_of hr hgd g_is_standing_of F_is_standing_of.kp (bind_is_standing_of F_is_standing_of) tk (sa_cons (sd_var 1) (sa_cons (sd_var 2) sa_nil))))) (sw_or1 (st_not (st_truth (sd_callG h_is_weather hr hgd g_is_weather F_is_weather.kp (bind_is_weather F_is_weather) tk (sa_cons (sd_var 1) (sa_cons (sd_var 3) sa_nil)))))))) (ss_one (ss_ret sd_bl)) ss_nil)
    (ss_one (ss_ret (sd_callG h_is_row hr hgd g_is_row F_is_row.kp (bind_is_row F_is_row) tk (sa_cons (sd_var 4) (sa_cons (sd_mat (so_mul (so_val (sd_tup (sa_cons (sd_tup (sa_cons sd_int (sa_cons (sd_gc rfl T.c_MOST_SIZE) sa_nil))) sa_nil))) (so_val (sd_len (so_val (sd_ix (so_val (sd_var 1)) (so_val sd_int) (by intro _ _; rfl))) T.b_len)))) sa_nil))))))))
theorem sc_case_text : FnScope ["case", "line"] ["case"] (defScope t_case_text) := ⟨rfl, rfl, rfl, by decide +kernel, rfl, by decide +kernel, by decide +kernel⟩
theorem bind_case_text (F : Fun K "case_text" "case_text" t_case_text f fd) : Binds K fd ["case"] [] := F.binds (ps := ["case"]) fun _ _ _ _ _ _ us hl => match us, hl with | [_], _ => rfl
theorem ok_case_text (T : Top K mg cl w) (F : Fun K "case_text" "case_text" t_case_text f fd) : FnG P w K mg base 8 f fd ["case"] (spOf K cl p_case_text) := by
  obtain ⟨f_is_case, fd_is_case, F_is_case, g_is_case⟩ := T.d_is_case
  have h_is_case := (ok_is_case (P := P) (w := w) (base := base) (cl := cl) T F_is_case).mono (show 7 ≤ 7 by omega)
  obtain ⟨f_lines_of, fd_lines_of, F_lines_of, g_lines_of⟩ := T.d_lines_of
  have h_lines_of := (ok_lines_of (P := P) (w := w) (base := base) (cl := cl) T F_lines_of).mono (show 2 ≤ 7 by omega)
  refine fng_ok (np := 1) (ns := 2) F sc_case_text rfl rfl (fun cdv A outer s H E hr hgd tk => ?_)
  have hu := hu65 hr
  exact (ss_cons (ss_if (st_not (st_truth (sd_callG h_is_case hr hgd g_is_case F_is_case.kp (bind_is_case F_is_case) tk (sa_cons (sd_var 0) sa_nil)))) (ss_one (ss_raise 0 rfl tk T.x_NoCase (T.ec 0 (by decide)))) ss_nil)
    (ss_one (ss_ret (sd_joinS sd_str (so_new (sn_lc (own := [("line", 1)]) rfl sc_case_text.nd (si_src (so_val (sd_callG h_lines_of hr hgd g_lines_of F_lines_of.kp (bind_lines_of F_lines_of) tk (sa_cons (sd_var 0) sa_nil)))) (show BlkOk ["case", "line"] (defScope t_case_text) _ [("line", 1)] from ⟨rfl, by decide +kernel, by decide +kernel, by decide +kernel, by decide +kernel⟩) (fun _ _ _ _ _ => (sg_name 1 sc_case_text.nd)) (fun _ _ _ _ _ => st_yes) (fun _ _ _ _ _ => (sd_mat (so_add (so_val (sd_var 1)) (so_val sd_str))))))))))
theorem sc_case_of : FnScope ["rows", "parts", "power", "apart", "bays", "found", "word", "own", "numbers"] ["rows"] (defScope t_case_of) := ⟨rfl, rfl, rfl, by decide +kernel, rfl, by decide +kernel, by decide +kernel⟩
theorem bind_case_of (F : Fun K "case_of" "case_of" t_case_of f fd) : Binds K fd ["rows"] [] := F.binds (ps := ["rows"]) fun _ _ _ _ _ _ us hl => match us, hl with | [_], _ => rfl
theorem ok_case_of (T : Top K mg cl w) (F : Fun K "case_of" "case_of" t_case_of f fd) : FnG P w K mg base 8 f fd ["rows"] (spOf K cl p_case_of) := by
  obtain ⟨f_bay_of, fd_bay_of, F_bay_of, g_bay_of⟩ := T.d_bay_of
  have h_bay_of := (ok_bay_of (P := P) (w := w) (base := base) (cl := cl) T F_bay_of).mono (show 1 ≤ 7 by omega)
  obtain ⟨f_is_case, fd_is_case, F_is_case, g_is_case⟩ := T.d_is_case
  have h_is_case := (ok_is_case (P := P) (w := w) (base := base) (cl := cl) T F_is_case).mono (show 7 ≤ 7 by omega)
  refine fng_ok (np := 1) (ns := 9) F sc_case_of rfl rfl (fun cdv A outer s H E hr hgd tk => ?_)
  have hu := hu65 hr
  exact (ss_cons (ss_setDcS 1 (own := [("word", 6)]) rfl sc_case_of.nd (si_src (so_val (sd_gctD rfl rfl T.c_ORDER))) (show BlkOk ["rows", "parts", "power", "apart", "bays", "found", "word", "own", "numbers"] (defScope t_case_of) _ [("word", 6)] from ⟨rfl, by decide +kernel, by decide +kernel, by decide +kernel, by decide +kernel⟩) (fun _ _ _ _ _ => (sg_name 6 sc_case_of.nd)) (fun _ _ _ _ _ => st_yes) (fun _ _ _ _ _ => (sd_var 6)) (fun _ _ _ _ _ => (sd_tuple (so_new (sn_lc (own := [("own", 7), ("numbers", 8)]) rfl sc_case_of.nd (si_src (so_val (sd_var 0))) (blk_in (N := ["rows", "parts", "power", "apart", "bays", "found", "word", "own", "numbers"]) (sc := defScope t_case_of) (own := [("own", 7), ("numbers", 8)]) rfl rfl (by decide +kernel) (by decide +kernel) (by decide +kernel) (by decide +kernel)) (fun _ _ _ _ _ => (sg_tup rfl (sgs_cons (sg_name 7 sc_case_of.nd) (sgs_cons (sg_name 8 sc_case_of.nd) sgs_nil)))) (fun _ _ _ _ _ => (st_oneT (st_eq hu (so_val (sd_var 7)) (so_val (sd_var 6))))) (fun _ _ _ _ _ => (sd_var 8)))) T.b_tuple)))
    (ss_cons (ss_if (st_of (sw_or (st_ne hu (so_val (sd_len (so_val (sd_ixDs hu (sd_var 1) sd_str (by intro _ _; rfl))) T.b_len)) (so_val sd_int)) (sw_or1 (st_ne hu (so_val (sd_len (so_val (sd_ixDs hu (sd_var 1) sd_str (by intro _ _; rfl))) T.b_len)) (so_val sd_int))))) (ss_one (ss_ret sd_non)) ss_nil)
    (ss_cons (ss_asg (sd_ix (so_val (sd_ixDs hu (sd_var 1) sd_str (by intro _ _; rfl))) (so_val sd_int) (by intro _ _; rfl)) (sg_tup rfl (sgs_cons (sg_name 2 sc_case_of.nd) (sgs_cons (sg_name 3 sc_case_of.nd) sgs_nil))))
    (ss_cons (ss_set 4 (sd_tuple (so_new (sn_lc (own := [("numbers", 8)]) rfl sc_case_of.nd (si_src (so_val (sd_ixDs hu (sd_var 1) sd_str (by intro _ _; rfl)))) (show BlkOk ["rows", "parts", "power", "apart", "bays", "found", "word", "own", "numbers"] (defScope t_case_of) _ [("numbers", 8)] from ⟨rfl, by decide +kernel, by decide +kernel, by decide +kernel, by decide +kernel⟩) (fun _ _ _ _ _ => (sg_name 8 sc_case_of.nd)) (fun _ _ _ _ _ => st_yes) (fun _ _ _ _ _ => (sd_callG h_bay_of hr hgd g_bay_of F_bay_of.kp (bind_bay_of F_bay_of) (takesF _) (sa_cons (sd_var 8) sa_nil))))) T.b_tuple) sc_case_of.nd)
    (ss_cons (ss_set 5 (sd_tup (sa_cons (sd_tup (sa_cons (sd_var 4) (sa_cons (sd_var 2) (sa_cons (sd_var 3) sa_nil)))) (sa_cons (sd_ixDs hu (sd_var 1) sd_str (by intro _ _; rfl)) (sa_cons (sd_ixDs hu (sd_var 1) sd_str (by intro _ _; rfl)) (sa_cons (sd_ix (so_val (sd_ixDs hu (sd_var 1) sd_str (by intro _ _; rfl))) (so_val sd_int) (by intro _ _; rfl)) sa_nil))))) sc_case_of.nd)
    (ss_one (ss_ret (sd_ifExp (st_truth (sd_callG h_is_case hr hgd g_is_case F_is_case.kp (bind_is_case F_is_case) tk (sa_cons (sd_var 5) sa_nil))) (sd_var 5) sd_non))))))))
theorem sc_read_case : FnScope ["text", "lines", "rows", "fault", "found"] ["text"] (defScope t_read_case) := ⟨rfl, rfl, rfl, by decide +kernel, rfl, by decide +kernel, by decide +kernel⟩
theorem bind_read_case (F : Fun K "read_case" "read_case" t_read_case f fd) : Binds K fd ["text"] [] := F.binds (ps := ["text"]) fun _ _ _ _ _ _ us hl => match us, hl with | [_], _ => rfl
theorem ok_read_case (T : Top K mg cl w) (F : Fun K "read_case" "read_case" t_read_case f fd) : FnG P w K mg base 9 f fd ["text"] (spOf K cl p_read_case) := by
  obtain ⟨f_rows_in, fd_rows_in, F_rows_in, g_rows_in⟩ := T.d_rows_in
  have h_rows_in := (ok_rows_in (P := P) (w := w) (base := base) (cl := cl) T F_rows_in).mono (show 3 ≤ 8 by omega)
  obtain ⟨f_case_of, fd_case_of, F_case_of, g_case_of⟩ := T.d_case_of
  have h_case_of := (ok_case_of (P := P) (w := w) (base := base) (cl := cl) T F_case_of).mono (show 8 ≤ 8 by omega)
  refine fng_ok (np := 1) (ns := 5) F sc_read_case rfl rfl (fun cdv A outer s H E hr hgd tk => ?_)
  have hu := hu65 hr
  exact (ss_cons (ss_if (st_of (sw_or (st_not (st_truth (sd_isi (t := .str) (so_val (sd_var 0)) T.b_isinstance T.b_str (by decide +kernel)))) (sw_or1 (st_ne hu (so_val (sd_sliceS (sd_var 0) (sp_some (sd_neg sd_int)) sp_none)) (so_val sd_str))))) (ss_one ss_never) ss_nil)
    (ss_cons (ss_set 1 (sd_mat (so_split (sd_sliceS (sd_var 0) sp_none (sp_some (sd_neg sd_int))) sd_str)) sc_read_case.nd)
    (ss_cons (ss_asg (sd_callG h_rows_in hr hgd g_rows_in F_rows_in.kp (bind_rows_in F_rows_in) tk (sa_cons (sd_var 1) sa_nil)) (sg_tup rfl (sgs_cons (sg_name 2 sc_read_case.nd) (sgs_cons (sg_name 3 sc_read_case.nd) sgs_nil))))
    (ss_cons (ss_if (st_isnot (sd_var 3) sd_non) (ss_one ss_never) ss_nil)
    (ss_cons (ss_set 4 (sd_callG h_case_of hr hgd g_case_of F_case_of.kp (bind_case_of F_case_of) tk (sa_cons (sd_var 2) sa_nil)) sc_read_case.nd)
    (ss_cons (ss_if (st_is (sd_var 4) sd_non) (ss_one ss_never) ss_nil)
    (ss_one (ss_ret (sd_var 4)))))))))
theorem sc__law_refused : FnScope ["_law_thing", "e"] ["_law_thing"] (defScope t__law_refused) := ⟨rfl, rfl, rfl, by decide +kernel, rfl, by decide +kernel, by decide +kernel⟩
theorem bind__law_refused (F : Fun K "_law_refused" "_law_refused" t__law_refused f fd) : Binds K fd ["_law_thing"] [] := F.binds (ps := ["_law_thing"]) fun _ _ _ _ _ _ us hl => match us, hl with | [_], _ => rfl
theorem ok__law_refused (T : Top K mg cl w) (F : Fun K "_law_refused" "_law_refused" t__law_refused f fd) : FnG P w K mg base 9 f fd ["_law_thing"] (spOf K cl p__law_refused) := by
  obtain ⟨f_case_text, fd_case_text, F_case_text, g_case_text⟩ := T.d_case_text
  have h_case_text := (ok_case_text (P := P) (w := w) (base := base) (cl := cl) T F_case_text).mono (show 8 ≤ 8 by omega)
  obtain ⟨CG, hmg, hx⟩ := T.ge_GlassError
  obtain ⟨Ct_NoCase, g_NoCase, k_NoCase⟩ := T.m_NoCase.ex
  refine fng_ok (np := 1) (ns := 2) F sc__law_refused rfl rfl (fun cdv A outer s H E hr hgd tk => ?_)
  have hu := hu65 hr
  exact (ss_one (ss_tryR (i := 1) (su := su__law_refused) rfl rfl sc__law_refused.nd rfl rfl rfl (by decide) hmg tk hx (fun W pn xe tk _ => (ss_cons (ss_drop (sd_callG h_case_text hr hgd g_case_text F_case_text.kp (bind_case_text F_case_text) tk (sa_cons (sd_var 0) sa_nil)))
    (ss_one (ss_ret sd_bl)))) hu (fun a oe pn c hc ht hu => (ss_one (ss_ret (sd_and (sd_isEo (isE_NoCase c) 1 ht (T.ec c hc) g_NoCase (k_NoCase c hc) T.b_isinstance) (sd_one (sd_isEt (isE_ValueError c) 1 ht (T.ec c hc) T.b_ValueError (T.v_ValueError c hc) T.b_isinstance)))))) so__law_refused))
theorem sc_law : FnScope ["_law_script", "_law_k", "_law_pot_here", "_law_case_here", "_law_held", "_law_text", "_law_bads", "_law_bad", "_law_row"] ["_law_script"] (defScope t_law) := ⟨rfl, rfl, rfl, by decide +kernel, rfl, by decide +kernel, by decide +kernel⟩
theorem bind_law (F : Fun K "law" "law" t_law f fd) : Binds K fd ["_law_script"] [] := F.binds (ps := ["_law_script"]) fun _ _ _ _ _ _ us hl => match us, hl with | [_], _ => rfl
theorem ok_law (T : Top K mg cl w) (F : Fun K "law" "law" t_law f fd) : FnG P w K mg base 10 f fd ["_law_script"] (spOf K cl p_law) := by
  obtain ⟨f__law_pot, fd__law_pot, F__law_pot, g__law_pot⟩ := T.d__law_pot
  have h__law_pot := (ok__law_pot (P := P) (w := w) (base := base) (cl := cl) T F__law_pot).mono (show 1 ≤ 9 by omega)
  obtain ⟨f__law_cell_at, fd__law_cell_at, F__law_cell_at, g__law_cell_at⟩ := T.d__law_cell_at
  have h__law_cell_at := (ok__law_cell_at (P := P) (w := w) (base := base) (cl := cl) T F__law_cell_at).mono (show 1 ≤ 9 by omega)
  obtain ⟨f__law_case, fd__law_case, F__law_case, g__law_case⟩ := T.d__law_case
  have h__law_case := (ok__law_case (P := P) (w := w) (base := base) (cl := cl) T F__law_case).mono (show 3 ≤ 9 by omega)
  obtain ⟨f__law_great, fd__law_great, F__law_great, g__law_great⟩ := T.d__law_great
  have h__law_great := (ok__law_great (P := P) (w := w) (base := base) (cl := cl) T F__law_great).mono (show 1 ≤ 9 by omega)
  obtain ⟨f__law_rows, fd__law_rows, F__law_rows, g__law_rows⟩ := T.d__law_rows
  have h__law_rows := (ok__law_rows (P := P) (w := w) (base := base) (cl := cl) T F__law_rows).mono (show 1 ≤ 9 by omega)
  obtain ⟨f_case_text, fd_case_text, F_case_text, g_case_text⟩ := T.d_case_text
  have h_case_text := (ok_case_text (P := P) (w := w) (base := base) (cl := cl) T F_case_text).mono (show 8 ≤ 9 by omega)
  obtain ⟨f_read_case, fd_read_case, F_read_case, g_read_case⟩ := T.d_read_case
  have h_read_case := (ok_read_case (P := P) (w := w) (base := base) (cl := cl) T F_read_case).mono (show 9 ≤ 9 by omega)
  obtain ⟨f__law_odd, fd__law_odd, F__law_odd, g__law_odd⟩ := T.d__law_odd
  have h__law_odd := (ok__law_odd (P := P) (w := w) (base := base) (cl := cl) T F__law_odd).mono (show 2 ≤ 9 by omega)
  obtain ⟨f__law_refused, fd__law_refused, F__law_refused, g__law_refused⟩ := T.d__law_refused
  have h__law_refused := (ok__law_refused (P := P) (w := w) (base := base) (cl := cl) T F__law_refused).mono (show 9 ≤ 9 by omega)
  refine fng_ok (np := 1) (ns := 9) F sc_law rfl rfl (fun cdv A outer s H E hr hgd tk => ?_)
  have hu := hu65 hr
  exact (ss_cons (ss_for (passes_of rfl) rfl (si_rng1 T.b_range (sd_max2 (so_val sd_int) (so_val (sd_min2 (so_val (sd_len (so_val (sd_var 0)) T.b_len)) (so_val sd_int) T.b_min)) T.b_max)) (sg_name 1 sc_law.nd) (ss_cons (ss_set 2 (sd_callG h__law_pot hr hgd g__law_pot F__law_pot.kp (bind__law_pot F__law_pot) tk (sa_cons (sd_callG h__law_cell_at hr hgd g__law_cell_at F__law_cell_at.kp (bind__law_cell_at F__law_cell_at) tk (sa_cons (sd_var 0) (sa_cons (sd_var 1) sa_nil))) sa_nil)) sc_law.nd)
    (ss_one (ss_for (passes_of rfl) rfl (si_src (so_new (sn_lst (sa_cons (sd_callG0 h__law_great hr hgd g__law_great F__law_great.kp (bind__law_great F__law_great) tk) (sa_cons (sd_callG h__law_case hr hgd g__law_case F__law_case.kp (bind__law_case F__law_case) tk (sa_cons (sd_var 2) sa_nil)) (sa_cons (sd_callG h__law_case hr hgd g__law_case F__law_case.kp (bind__law_case F__law_case) tk (sa_cons (sd_var 2) sa_nil)) (sa_cons (sd_callG h__law_case hr hgd g__law_case F__law_case.kp (bind__law_case F__law_case) tk (sa_cons (sd_var 2) sa_nil)) sa_nil))))))) (sg_name 3 sc_law.nd) (ss_cons (ss_par (i := 4) (j := 5) rfl sc_law.nd (sa_cons (sd_reprX hgd hu (so_val (sd_var 3)) T.b_repr) (sa_cons (sd_joinS sd_str (so_new (sn_lc (own := [("_law_row", 8)]) rfl sc_law.nd (si_src (so_val (sd_callG h__law_rows hr hgd g__law_rows F__law_rows.kp (bind__law_rows F__law_rows) tk (sa_cons (sd_var 3) sa_nil)))) (show BlkOk ["_law_script", "_law_k", "_law_pot_here", "_law_case_here", "_law_held", "_law_text", "_law_bads", "_law_bad", "_law_row"] (defScope t_law) _ [("_law_row", 8)] from ⟨rfl, by decide +kernel, by decide +kernel, by decide +kernel, by decide +kernel⟩) (fun _ _ _ _ _ => (sg_name 8 sc_law.nd)) (fun _ _ _ _ _ => st_yes) (fun _ _ _ _ _ => (sd_mat (so_add (so_val (sd_var 8)) (so_val sd_str))))))) sa_nil)))
    (ss_cons (ss_if (st_of (sw_or (st_ne hu (so_val (sd_reprX hgd hu (so_new (sn_lst (sa_cons (sd_callG h_case_text hr hgd g_case_text F_case_text.kp (bind_case_text F_case_text) tk (sa_cons (sd_var 3) sa_nil)) (sa_cons (sd_callG h_case_text hr hgd g_case_text F_case_text.kp (bind_case_text F_case_text) tk (sa_cons (sd_var 3) sa_nil)) sa_nil)))) T.b_repr)) (so_val (sd_reprX hgd hu (so_new (sn_lst (sa_cons (sd_var 5) (sa_cons (sd_var 5) sa_nil)))) T.b_repr))) (sw_or1 (st_ne hu (so_val (sd_reprX hgd hu (so_val (sd_var 3)) T.b_repr)) (so_val (sd_var 4)))))) (ss_one (ss_ret sd_bl)) ss_nil)
    (ss_cons (ss_if (st_ne hu (so_val (sd_reprX hgd hu (so_new (sn_lst (sa_cons (sd_callG h_read_case hr hgd g_read_case F_read_case.kp (bind_read_case F_read_case) tk (sa_cons (sd_var 5) sa_nil)) (sa_cons (sd_callG h_read_case hr hgd g_read_case F_read_case.kp (bind_read_case F_read_case) tk (sa_cons (sd_var 5) sa_nil)) sa_nil)))) T.b_repr)) (so_val (sd_reprX hgd hu (so_new (sn_lst (sa_cons (sd_var 3) (sa_cons (sd_var 3) sa_nil)))) T.b_repr))) (ss_one (ss_ret sd_bl)) ss_nil)
    (ss_cons (ss_set 6 (sd_mat (so_new (sn_lst (sa_cons sd_non (sa_cons (sd_tup sa_nil) (sa_cons (sd_mat (so_new (sn_list (so_val (sd_var 3)) T.b_list))) (sa_cons (sd_mat (so_slice (so_val (sd_var 3)) sp_none (sp_some sd_int))) (sa_cons (sd_mat (so_add (so_val (sd_var 3)) (so_val (sd_tup (sa_cons sd_int sa_nil))))) (sa_cons (sd_mat (so_add (so_add (so_val (sd_tup (sa_cons (sd_ix (so_val (sd_var 3)) (so_val sd_int) (by intro _ _; rfl)) sa_nil))) (so_slice (so_val (sd_var 3)) (sp_some sd_int) (sp_some sd_int))) (so_val (sd_tup (sa_cons (sd_mat (so_add (so_val (sd_ix (so_val (sd_var 3)) (so_val sd_int) (by intro _ _; rfl))) (so_val (sd_tup (sa_cons sd_int sa_nil))))) sa_nil))))) (sa_cons (sd_var 5) sa_nil)))))))))) sc_law.nd)
    (ss_one (ss_for (passes_of rfl) rfl (si_src (so_add (so_val (sd_var 6)) (so_new (sn_lst (sa_cons (sd_mat (so_add (so_add (so_slice (so_val (sd_var 3)) sp_none (sp_some sd_int)) (so_val (sd_tup (sa_cons (sd_tup sa_nil) sa_nil)))) (so_slice (so_val (sd_var 3)) (sp_some sd_int) sp_none))) (sa_cons (sd_mat (so_add (so_add (so_slice (so_val (sd_var 3)) sp_none (sp_some sd_int)) (so_val (sd_tup (sa_cons (sd_tup sa_nil) sa_nil)))) (so_slice (so_val (sd_var 3)) (sp_some sd_int) sp_none))) (sa_cons (sd_callG h__law_odd hr hgd g__law_odd F__law_odd.kp (bind__law_odd F__law_odd) tk (sa_cons (sd_var 2) sa_nil)) sa_nil))))))) (sg_name 7 sc_law.nd) (ss_one (ss_if (st_not (st_truth (sd_callG h__law_refused hr hgd g__law_refused F__law_refused.kp (bind__law_refused F__law_refused) tk (sa_cons (sd_var 7) sa_nil)))) (ss_one (ss_ret sd_bl)) ss_nil))))))))))))
    (ss_one (ss_ret sd_bl)))
end
end Gb

namespace Gb
open PySem PySem.Spec PyProof.Rows L2 LamX
abbrev csL : List Str := ["NoCase"]
abbrev lsL : List Str := []
theorem all_mk {l : PySem.W.OpenLaw} {w : World} {K : PySem.W.Frag} {h : Heap} {mg : Str → Option Value} {fa : Addr} (X : K.In h) (G : h.Ns mainGlobals mg) (hfa : mg "law" = some (.ref fa))
    {f0 : Addr} {od0 an0 : Option Addr} {sl0 : Array (Option Value)} {oc0 kV0 dc0 pm0 cd0 ct0 : Value} (a0 : PySem.W.nsIn K mainGlobals "is_whole" = some (some (.ref f0))) (l0 : K.lookup f0 = some ⟨oc0, od0, .func (PySem.W.fnOf "is_whole" "is_whole" (defArgs t_is_whole) (defBody t_is_whole) (defScope t_is_whole) .none kV0 dc0 pm0 an0 cd0 ct0), sl0⟩) (c0 : PySem.W.codeIn K cd0 "is_whole" = true) (k0 : PySem.W.keepIn K (.ref f0) = true)
    {f1 : Addr} {od1 an1 : Option Addr} {sl1 : Array (Option Value)} {oc1 kV1 dc1 pm1 cd1 ct1 : Value} (a1 : PySem.W.nsIn K mainGlobals "line_of" = some (some (.ref f1))) (l1 : K.lookup f1 = some ⟨oc1, od1, .func (PySem.W.fnOf "line_of" "line_of" (defArgs t_line_of) (defBody t_line_of) (defScope t_line_of) .none kV1 dc1 pm1 an1 cd1 ct1), sl1⟩) (c1 : PySem.W.codeIn K cd1 "line_of" = true) (k1 : PySem.W.keepIn K (.ref f1) = true)
    {f2 : Addr} {od2 an2 : Option Addr} {sl2 : Array (Option Value)} {oc2 kV2 dc2 pm2 cd2 ct2 : Value} (a2 : PySem.W.nsIn K mainGlobals "number_in" = some (some (.ref f2))) (l2 : K.lookup f2 = some ⟨oc2, od2, .func (PySem.W.fnOf "number_in" "number_in" (defArgs t_number_in) (defBody t_number_in) (defScope t_number_in) .none kV2 dc2 pm2 an2 cd2 ct2), sl2⟩) (c2 : PySem.W.codeIn K cd2 "number_in" = true) (k2 : PySem.W.keepIn K (.ref f2) = true)
    {f3 : Addr} {od3 an3 : Option Addr} {sl3 : Array (Option Value)} {oc3 kV3 dc3 pm3 cd3 ct3 : Value} (a3 : PySem.W.nsIn K mainGlobals "bay_of" = some (some (.ref f3))) (l3 : K.lookup f3 = some ⟨oc3, od3, .func (PySem.W.fnOf "bay_of" "bay_of" (defArgs t_bay_of) (defBody t_bay_of) (defScope t_bay_of) .none kV3 dc3 pm3 an3 cd3 ct3), sl3⟩) (c3 : PySem.W.codeIn K cd3 "bay_of" = true) (k3 : PySem.W.keepIn K (.ref f3) = true)
    {f4 : Addr} {od4 an4 : Option Addr} {sl4 : Array (Option Value)} {oc4 kV4 dc4 pm4 cd4 ct4 : Value} (a4 : PySem.W.nsIn K mainGlobals "_law_cell_at" = some (some (.ref f4))) (l4 : K.lookup f4 = some ⟨oc4, od4, .func (PySem.W.fnOf "_law_cell_at" "_law_cell_at" (defArgs t__law_cell_at) (defBody t__law_cell_at) (defScope t__law_cell_at) .none kV4 dc4 pm4 an4 cd4 ct4), sl4⟩) (c4 : PySem.W.codeIn K cd4 "_law_cell_at" = true) (k4 : PySem.W.keepIn K (.ref f4) = true)
    {f5 : Addr} {od5 an5 : Option Addr} {sl5 : Array (Option Value)} {oc5 kV5 dc5 pm5 cd5 ct5 : Value} (a5 : PySem.W.nsIn K mainGlobals "_law_pot" = some (some (.ref f5))) (l5 : K.lookup f5 = some ⟨oc5, od5, .func (PySem.W.fnOf "_law_pot" "_law_pot" (defArgs t__law_pot) (defBody t__law_pot) (defScope t__law_pot) .none kV5 dc5 pm5 an5 cd5 ct5), sl5⟩) (c5 : PySem.W.codeIn K cd5 "_law_pot" = true) (k5 : PySem.W.keepIn K (.ref f5) = true)
    {f6 : Addr} {od6 an6 : Option Addr} {sl6 : Array (Option Value)} {oc6 kV6 dc6 pm6 cd6 ct6 : Value} (a6 : PySem.W.nsIn K mainGlobals "_law_take" = some (some (.ref f6))) (l6 : K.lookup f6 = some ⟨oc6, od6, .func (PySem.W.fnOf "_law_take" "_law_take" (defArgs t__law_take) (defBody t__law_take) (defScope t__law_take) .none kV6 dc6 pm6 an6 cd6 ct6), sl6⟩) (c6 : PySem.W.codeIn K cd6 "_law_take" = true) (k6 : PySem.W.keepIn K (.ref f6) = true)
    {f7 : Addr} {od7 an7 : Option Addr} {sl7 : Array (Option Value)} {oc7 kV7 dc7 pm7 cd7 ct7 : Value} (a7 : PySem.W.nsIn K mainGlobals "_law_rows" = some (some (.ref f7))) (l7 : K.lookup f7 = some ⟨oc7, od7, .func (PySem.W.fnOf "_law_rows" "_law_rows" (defArgs t__law_rows) (defBody t__law_rows) (defScope t__law_rows) .none kV7 dc7 pm7 an7 cd7 ct7), sl7⟩) (c7 : PySem.W.codeIn K cd7 "_law_rows" = true) (k7 : PySem.W.keepIn K (.ref f7) = true)
    {f8 : Addr} {od8 an8 : Option Addr} {sl8 : Array (Option Value)} {oc8 kV8 dc8 pm8 cd8 ct8 : Value} (a8 : PySem.W.nsIn K mainGlobals "_law_great" = some (some (.ref f8))) (l8 : K.lookup f8 = some ⟨oc8, od8, .func (PySem.W.fnOf "_law_great" "_law_great" (defArgs t__law_great) (defBody t__law_great) (defScope t__law_great) .none kV8 dc8 pm8 an8 cd8 ct8), sl8⟩) (c8 : PySem.W.codeIn K cd8 "_law_great" = true) (k8 : PySem.W.keepIn K (.ref f8) = true)
    {f9 : Addr} {od9 an9 : Option Addr} {sl9 : Array (Option Value)} {oc9 kV9 dc9 pm9 cd9 ct9 : Value} (a9 : PySem.W.nsIn K mainGlobals "is_among" = some (some (.ref f9))) (l9 : K.lookup f9 = some ⟨oc9, od9, .func (PySem.W.fnOf "is_among" "is_among" (defArgs t_is_among) (defBody t_is_among) (defScope t_is_among) .none kV9 dc9 pm9 an9 cd9 ct9), sl9⟩) (c9 : PySem.W.codeIn K cd9 "is_among" = true) (k9 : PySem.W.keepIn K (.ref f9) = true)
    {f10 : Addr} {od10 an10 : Option Addr} {sl10 : Array (Option Value)} {oc10 kV10 dc10 pm10 cd10 ct10 : Value} (a10 : PySem.W.nsIn K mainGlobals "lines_of" = some (some (.ref f10))) (l10 : K.lookup f10 = some ⟨oc10, od10, .func (PySem.W.fnOf "lines_of" "lines_of" (defArgs t_lines_of) (defBody t_lines_of) (defScope t_lines_of) .none kV10 dc10 pm10 an10 cd10 ct10), sl10⟩) (c10 : PySem.W.codeIn K cd10 "lines_of" = true) (k10 : PySem.W.keepIn K (.ref f10) = true)
    {f11 : Addr} {od11 an11 : Option Addr} {sl11 : Array (Option Value)} {oc11 kV11 dc11 pm11 cd11 ct11 : Value} (a11 : PySem.W.nsIn K mainGlobals "row_in" = some (some (.ref f11))) (l11 : K.lookup f11 = some ⟨oc11, od11, .func (PySem.W.fnOf "row_in" "row_in" (defArgs t_row_in) (defBody t_row_in) (defScope t_row_in) .none kV11 dc11 pm11 an11 cd11 ct11), sl11⟩) (c11 : PySem.W.codeIn K cd11 "row_in" = true) (k11 : PySem.W.keepIn K (.ref f11) = true)
    {f12 : Addr} {od12 an12 : Option Addr} {sl12 : Array (Option Value)} {oc12 kV12 dc12 pm12 cd12 ct12 : Value} (a12 : PySem.W.nsIn K mainGlobals "_law_odd" = some (some (.ref f12))) (l12 : K.lookup f12 = some ⟨oc12, od12, .func (PySem.W.fnOf "_law_odd" "_law_odd" (defArgs t__law_odd) (defBody t__law_odd) (defScope t__law_odd) .none kV12 dc12 pm12 an12 cd12 ct12), sl12⟩) (c12 : PySem.W.codeIn K cd12 "_law_odd" = true) (k12 : PySem.W.keepIn K (.ref f12) = true)
    {f13 : Addr} {od13 an13 : Option Addr} {sl13 : Array (Option Value)} {oc13 kV13 dc13 pm13 cd13 ct13 : Value} (a13 : PySem.W.nsIn K mainGlobals "_law_bay" = some (some (.ref f13))) (l13 : K.lookup f13 = some ⟨oc13, od13, .func (PySem.W.fnOf "_law_bay" "_law_bay" (defArgs t__law_bay) (defBody t__law_bay) (defScope t__law_bay) .none kV13 dc13 pm13 an13 cd13 ct13), sl13⟩) (c13 : PySem.W.codeIn K cd13 "_law_bay" = true) (k13 : PySem.W.keepIn K (.ref f13) = true)
    {f14 : Addr} {od14 an14 : Option Addr} {sl14 : Array (Option Value)} {oc14 kV14 dc14 pm14 cd14 ct14 : Value} (a14 : PySem.W.nsIn K mainGlobals "_law_hour" = some (some (.ref f14))) (l14 : K.lookup f14 = some ⟨oc14, od14, .func (PySem.W.fnOf "_law_hour" "_law_hour" (defArgs t__law_hour) (defBody t__law_hour) (defScope t__law_hour) .none kV14 dc14 pm14 an14 cd14 ct14), sl14⟩) (c14 : PySem.W.codeIn K cd14 "_law_hour" = true) (k14 : PySem.W.keepIn K (.ref f14) = true)
    {f15 : Addr} {od15 an15 : Option Addr} {sl15 : Array (Option Value)} {oc15 kV15 dc15 pm15 cd15 ct15 : Value} (a15 : PySem.W.nsIn K mainGlobals "is_row" = some (some (.ref f15))) (l15 : K.lookup f15 = some ⟨oc15, od15, .func (PySem.W.fnOf "is_row" "is_row" (defArgs t_is_row) (defBody t_is_row) (defScope t_is_row) .none kV15 dc15 pm15 an15 cd15 ct15), sl15⟩) (c15 : PySem.W.codeIn K cd15 "is_row" = true) (k15 : PySem.W.keepIn K (.ref f15) = true)
    {f16 : Addr} {od16 an16 : Option Addr} {sl16 : Array (Option Value)} {oc16 kV16 dc16 pm16 cd16 ct16 : Value} (a16 : PySem.W.nsIn K mainGlobals "rows_in" = some (some (.ref f16))) (l16 : K.lookup f16 = some ⟨oc16, od16, .func (PySem.W.fnOf "rows_in" "rows_in" (defArgs t_rows_in) (defBody t_rows_in) (defScope t_rows_in) .none kV16 dc16 pm16 an16 cd16 ct16), sl16⟩) (c16 : PySem.W.codeIn K cd16 "rows_in" = true) (k16 : PySem.W.keepIn K (.ref f16) = true)
    {f17 : Addr} {od17 an17 : Option Addr} {sl17 : Array (Option Value)} {oc17 kV17 dc17 pm17 cd17 ct17 : Value} (a17 : PySem.W.nsIn K mainGlobals "_law_case" = some (some (.ref f17))) (l17 : K.lookup f17 = some ⟨oc17, od17, .func (PySem.W.fnOf "_law_case" "_law_case" (defArgs t__law_case) (defBody t__law_case) (defScope t__law_case) .none kV17 dc17 pm17 an17 cd17 ct17), sl17⟩) (c17 : PySem.W.codeIn K cd17 "_law_case" = true) (k17 : PySem.W.keepIn K (.ref f17) = true)
    {f18 : Addr} {od18 an18 : Option Addr} {sl18 : Array (Option Value)} {oc18 kV18 dc18 pm18 cd18 ct18 : Value} (a18 : PySem.W.nsIn K mainGlobals "is_needs" = some (some (.ref f18))) (l18 : K.lookup f18 = some ⟨oc18, od18, .func (PySem.W.fnOf "is_needs" "is_needs" (defArgs t_is_needs) (defBody t_is_needs) (defScope t_is_needs) .none kV18 dc18 pm18 an18 cd18 ct18), sl18⟩) (c18 : PySem.W.codeIn K cd18 "is_needs" = true) (k18 : PySem.W.keepIn K (.ref f18) = true)
    {f19 : Addr} {od19 an19 : Option Addr} {sl19 : Array (Option Value)} {oc19 kV19 dc19 pm19 cd19 ct19 : Value} (a19 : PySem.W.nsIn K mainGlobals "is_standing_of" = some (some (.ref f19))) (l19 : K.lookup f19 = some ⟨oc19, od19, .func (PySem.W.fnOf "is_standing_of" "is_standing_of" (defArgs t_is_standing_of) (defBody t_is_standing_of) (defScope t_is_standing_of) .none kV19 dc19 pm19 an19 cd19 ct19), sl19⟩) (c19 : PySem.W.codeIn K cd19 "is_standing_of" = true) (k19 : PySem.W.keepIn K (.ref f19) = true)
    {f20 : Addr} {od20 an20 : Option Addr} {sl20 : Array (Option Value)} {oc20 kV20 dc20 pm20 cd20 ct20 : Value} (a20 : PySem.W.nsIn K mainGlobals "is_hours_row" = some (some (.ref f20))) (l20 : K.lookup f20 = some ⟨oc20, od20, .func (PySem.W.fnOf "is_hours_row" "is_hours_row" (defArgs t_is_hours_row) (defBody t_is_hours_row) (defScope t_is_hours_row) .none kV20 dc20 pm20 an20 cd20 ct20), sl20⟩) (c20 : PySem.W.codeIn K cd20 "is_hours_row" = true) (k20 : PySem.W.keepIn K (.ref f20) = true)
    {f21 : Addr} {od21 an21 : Option Addr} {sl21 : Array (Option Value)} {oc21 kV21 dc21 pm21 cd21 ct21 : Value} (a21 : PySem.W.nsIn K mainGlobals "is_bay" = some (some (.ref f21))) (l21 : K.lookup f21 = some ⟨oc21, od21, .func (PySem.W.fnOf "is_bay" "is_bay" (defArgs t_is_bay) (defBody t_is_bay) (defScope t_is_bay) .none kV21 dc21 pm21 an21 cd21 ct21), sl21⟩) (c21 : PySem.W.codeIn K cd21 "is_bay" = true) (k21 : PySem.W.keepIn K (.ref f21) = true)
    {f22 : Addr} {od22 an22 : Option Addr} {sl22 : Array (Option Value)} {oc22 kV22 dc22 pm22 cd22 ct22 : Value} (a22 : PySem.W.nsIn K mainGlobals "is_weather" = some (some (.ref f22))) (l22 : K.lookup f22 = some ⟨oc22, od22, .func (PySem.W.fnOf "is_weather" "is_weather" (defArgs t_is_weather) (defBody t_is_weather) (defScope t_is_weather) .none kV22 dc22 pm22 an22 cd22 ct22), sl22⟩) (c22 : PySem.W.codeIn K cd22 "is_weather" = true) (k22 : PySem.W.keepIn K (.ref f22) = true)
    {f23 : Addr} {od23 an23 : Option Addr} {sl23 : Array (Option Value)} {oc23 kV23 dc23 pm23 cd23 ct23 : Value} (a23 : PySem.W.nsIn K mainGlobals "is_house" = some (some (.ref f23))) (l23 : K.lookup f23 = some ⟨oc23, od23, .func (PySem.W.fnOf "is_house" "is_house" (defArgs t_is_house) (defBody t_is_house) (defScope t_is_house) .none kV23 dc23 pm23 an23 cd23 ct23), sl23⟩) (c23 : PySem.W.codeIn K cd23 "is_house" = true) (k23 : PySem.W.keepIn K (.ref f23) = true)
    {f24 : Addr} {od24 an24 : Option Addr} {sl24 : Array (Option Value)} {oc24 kV24 dc24 pm24 cd24 ct24 : Value} (a24 : PySem.W.nsIn K mainGlobals "is_case" = some (some (.ref f24))) (l24 : K.lookup f24 = some ⟨oc24, od24, .func (PySem.W.fnOf "is_case" "is_case" (defArgs t_is_case) (defBody t_is_case) (defScope t_is_case) .none kV24 dc24 pm24 an24 cd24 ct24), sl24⟩) (c24 : PySem.W.codeIn K cd24 "is_case" = true) (k24 : PySem.W.keepIn K (.ref f24) = true)
    {f25 : Addr} {od25 an25 : Option Addr} {sl25 : Array (Option Value)} {oc25 kV25 dc25 pm25 cd25 ct25 : Value} (a25 : PySem.W.nsIn K mainGlobals "case_text" = some (some (.ref f25))) (l25 : K.lookup f25 = some ⟨oc25, od25, .func (PySem.W.fnOf "case_text" "case_text" (defArgs t_case_text) (defBody t_case_text) (defScope t_case_text) .none kV25 dc25 pm25 an25 cd25 ct25), sl25⟩) (c25 : PySem.W.codeIn K cd25 "case_text" = true) (k25 : PySem.W.keepIn K (.ref f25) = true)
    {f26 : Addr} {od26 an26 : Option Addr} {sl26 : Array (Option Value)} {oc26 kV26 dc26 pm26 cd26 ct26 : Value} (a26 : PySem.W.nsIn K mainGlobals "case_of" = some (some (.ref f26))) (l26 : K.lookup f26 = some ⟨oc26, od26, .func (PySem.W.fnOf "case_of" "case_of" (defArgs t_case_of) (defBody t_case_of) (defScope t_case_of) .none kV26 dc26 pm26 an26 cd26 ct26), sl26⟩) (c26 : PySem.W.codeIn K cd26 "case_of" = true) (k26 : PySem.W.keepIn K (.ref f26) = true)
    {f27 : Addr} {od27 an27 : Option Addr} {sl27 : Array (Option Value)} {oc27 kV27 dc27 pm27 cd27 ct27 : Value} (a27 : PySem.W.nsIn K mainGlobals "read_case" = some (some (.ref f27))) (l27 : K.lookup f27 = some ⟨oc27, od27, .func (PySem.W.fnOf "read_case" "read_case" (defArgs t_read_case) (defBody t_read_case) (defScope t_read_case) .none kV27 dc27 pm27 an27 cd27 ct27), sl27⟩) (c27 : PySem.W.codeIn K cd27 "read_case" = true) (k27 : PySem.W.keepIn K (.ref f27) = true)
    {f28 : Addr} {od28 an28 : Option Addr} {sl28 : Array (Option Value)} {oc28 kV28 dc28 pm28 cd28 ct28 : Value} (a28 : PySem.W.nsIn K mainGlobals "_law_refused" = some (some (.ref f28))) (l28 : K.lookup f28 = some ⟨oc28, od28, .func (PySem.W.fnOf "_law_refused" "_law_refused" (defArgs t__law_refused) (defBody t__law_refused) (defScope t__law_refused) .none kV28 dc28 pm28 an28 cd28 ct28), sl28⟩) (c28 : PySem.W.codeIn K cd28 "_law_refused" = true) (k28 : PySem.W.keepIn K (.ref f28) = true)
    {f29 : Addr} {od29 an29 : Option Addr} {sl29 : Array (Option Value)} {oc29 kV29 dc29 pm29 cd29 ct29 : Value} (a29 : PySem.W.nsIn K mainGlobals "law" = some (some (.ref f29))) (l29 : K.lookup f29 = some ⟨oc29, od29, .func (PySem.W.fnOf "law" "law" (defArgs t_law) (defBody t_law) (defScope t_law) .none kV29 dc29 pm29 an29 cd29 ct29), sl29⟩) (c29 : PySem.W.codeIn K cd29 "law" = true) (k29 : PySem.W.keepIn K (.ref f29) = true)
    (z_ValueError : PySem.W.nsIn K mainGlobals "ValueError" = some none)
    (z_all : PySem.W.nsIn K mainGlobals "all" = some none)
    (z_bool : PySem.W.nsIn K mainGlobals "bool" = some none)
    (z_enumerate : PySem.W.nsIn K mainGlobals "enumerate" = some none)
    (z_int : PySem.W.nsIn K mainGlobals "int" = some none)
    (z_isinstance : PySem.W.nsIn K mainGlobals "isinstance" = some none)
    (z_len : PySem.W.nsIn K mainGlobals "len" = some none)
    (z_list : PySem.W.nsIn K mainGlobals "list" = some none)
    (z_max : PySem.W.nsIn K mainGlobals "max" = some none)
    (z_min : PySem.W.nsIn K mainGlobals "min" = some none)
    (z_range : PySem.W.nsIn K mainGlobals "range" = some none)
    (z_repr : PySem.W.nsIn K mainGlobals "repr" = some none)
    (z_str : PySem.W.nsIn K mainGlobals "str" = some none)
    (z_tuple : PySem.W.nsIn K mainGlobals "tuple" = some none)
    (z_zip : PySem.W.nsIn K mainGlobals "zip" = some none)
    (y_FIGURES : ∃ t, PySem.W.nsIn K mainGlobals "FIGURES" = some (some (.str ("0123456789" : Str) t)))
    (y_LEAST_WARMTH : ∃ t, PySem.W.nsIn K mainGlobals "LEAST_WARMTH" = some (some (.int (-40) t)))
    (y_MOST_BAYS : ∃ t, PySem.W.nsIn K mainGlobals "MOST_BAYS" = some (some (.int (2) t)))
    (y_MOST_DAMP : ∃ t, PySem.W.nsIn K mainGlobals "MOST_DAMP" = some (some (.int (9) t)))
    (y_MOST_HOURS : ∃ (a : Addr) (o : Obj) (its : Array Value) (n : Nat), PySem.W.nsIn K mainGlobals "MOST_HOURS" = some (some (.ref a)) ∧ K.lookup a = some o ∧ o.cls = .type "tuple" ∧ o.dict = none ∧ o.data = .seq its n ∧ its.size ≤ sizeLine ∧ Vals (([.int (4), .int (3)] : List D).map atomV) its.toList)
    (y_MOST_POWER : ∃ t, PySem.W.nsIn K mainGlobals "MOST_POWER" = some (some (.int (2) t)))
    (y_MOST_SIZE : ∃ t, PySem.W.nsIn K mainGlobals "MOST_SIZE" = some (some (.int (4) t)))
    (y_MOST_WARMTH : ∃ t, PySem.W.nsIn K mainGlobals "MOST_WARMTH" = some (some (.int (60) t)))
    (y_NEEDS : ∃ t, PySem.W.nsIn K mainGlobals "NEEDS" = some (some (.int (8) t)))
    (y_ORDER : ∃ (a : Addr) (o : Obj) (its : Array Value) (n : Nat), PySem.W.nsIn K mainGlobals "ORDER" = some (some (.ref a)) ∧ K.lookup a = some o ∧ o.cls = .type "tuple" ∧ o.dict = none ∧ o.data = .seq its n ∧ its.size ≤ sizeLine ∧ Vals (([.str ("house" : Str), .str ("bay" : Str), .str ("at" : Str), .str ("hour" : Str), .str ("wish" : Str)] : List D).map atomV) its.toList)
    (y_WALLS : ∃ t, PySem.W.nsIn K mainGlobals "WALLS" = some (some (.int (4) t)))
    (y_WIDEST_COLD : ∃ t, PySem.W.nsIn K mainGlobals "WIDEST_COLD" = some (some (.int (3) t)))
    (y_WIDEST_LIGHT : ∃ t, PySem.W.nsIn K mainGlobals "WIDEST_LIGHT" = some (some (.int (1) t)))
    (ht_COUNTS : HTab K w "COUNTS" [(("house" : Str), [.int (2)]), (("bay" : Str), [.int (10)]), (("at" : Str), [.int (3)]), (("hour" : Str), [.int (4)]), (("wish" : Str), [.int (1), .int (2)])])
    (x_GlassError : PySem.W.nsIn K mainGlobals "GlassError" = some (some (.ref (clA K "GlassError"))))
    (x_NoCase : PySem.W.nsIn K mainGlobals "NoCase" = some (some (.ref (clA K "NoCase"))))
    (e_NoCase : ExcK K (clA K "NoCase"))
    (g_GlassError_NoCase : PySem.W.exmOne K (.ref (clA K "NoCase")) (.ref (clA K "GlassError")) = some true)
    (m_NoCase_NoCase : PySem.W.kitOne K (.ref (clA K "NoCase")) (.ref (clA K "NoCase")) = some true)
    (v_ValueError_NoCase : PySem.W.kitOne K (.ref (clA K "NoCase")) (.type "ValueError") = some true)
    : ∃ fd : FuncData, (∀ (s : Shared) (v : Value), BindsTo s fd ⟨[v], []⟩ [("_law_script", v)]) ∧ ∀ base : Heap, K.In base → base.Ns mainGlobals mg → FnG l.prog w K mg base 10 fa fd ["_law_script"] (spOf K (clOf K csL []) p_law) := by
  have e := hfa.symm.trans (PySem.W.mg_of X G a29)
  cases e
  have T : Top K mg (clOf K csL []) w := ⟨PySem.W.mg_none_of X G z_ValueError, PySem.W.mg_none_of X G z_all, PySem.W.mg_none_of X G z_bool, PySem.W.mg_none_of X G z_enumerate, PySem.W.mg_none_of X G z_int, PySem.W.mg_none_of X G z_isinstance, PySem.W.mg_none_of X G z_len, PySem.W.mg_none_of X G z_list, PySem.W.mg_none_of X G z_max, PySem.W.mg_none_of X G z_min, PySem.W.mg_none_of X G z_range, PySem.W.mg_none_of X G z_repr, PySem.W.mg_none_of X G z_str, PySem.W.mg_none_of X G z_tuple, PySem.W.mg_none_of X G z_zip, (by obtain ⟨t, e⟩ := y_FIGURES; exact ⟨_, PySem.W.mg_of X G e, ⟨t, rfl⟩⟩), (by obtain ⟨t, e⟩ := y_LEAST_WARMTH; exact ⟨_, PySem.W.mg_of X G e, ⟨t, rfl⟩⟩), (by obtain ⟨t, e⟩ := y_MOST_BAYS; exact ⟨_, PySem.W.mg_of X G e, ⟨t, rfl⟩⟩), (by obtain ⟨t, e⟩ := y_MOST_DAMP; exact ⟨_, PySem.W.mg_of X G e, ⟨t, rfl⟩⟩), (by obtain ⟨a, o, its, n, e, r⟩ := y_MOST_HOURS; exact ⟨_, PySem.W.mg_of X G e, a, o, its, n, rfl, r⟩), (by obtain ⟨t, e⟩ := y_MOST_POWER; exact ⟨_, PySem.W.mg_of X G e, ⟨t, rfl⟩⟩), (by obtain ⟨t, e⟩ := y_MOST_SIZE; exact ⟨_, PySem.W.mg_of X G e, ⟨t, rfl⟩⟩), (by obtain ⟨t, e⟩ := y_MOST_WARMTH; exact ⟨_, PySem.W.mg_of X G e, ⟨t, rfl⟩⟩), (by obtain ⟨t, e⟩ := y_NEEDS; exact ⟨_, PySem.W.mg_of X G e, ⟨t, rfl⟩⟩), (by obtain ⟨a, o, its, n, e, r⟩ := y_ORDER; exact ⟨_, PySem.W.mg_of X G e, a, o, its, n, rfl, r⟩), (by obtain ⟨t, e⟩ := y_WALLS; exact ⟨_, PySem.W.mg_of X G e, ⟨t, rfl⟩⟩), (by obtain ⟨t, e⟩ := y_WIDEST_COLD; exact ⟨_, PySem.W.mg_of X G e, ⟨t, rfl⟩⟩), (by obtain ⟨t, e⟩ := y_WIDEST_LIGHT; exact ⟨_, PySem.W.mg_of X G e, ⟨t, rfl⟩⟩), ctab_of X G ht_COUNTS, PySem.W.mg_of X G x_NoCase, (below_one e_NoCase), ⟨_, PySem.W.mg_of X G x_GlassError, (below_one g_GlassError_NoCase)⟩, ⟨_, PySem.W.mg_of X G x_NoCase, (below_one m_NoCase_NoCase)⟩, (below_one v_ValueError_NoCase), ⟨_, _, fun_mk (st := t_is_whole) l0 c0 k0, PySem.W.mg_of X G a0⟩, ⟨_, _, fun_mk (st := t_line_of) l1 c1 k1, PySem.W.mg_of X G a1⟩, ⟨_, _, fun_mk (st := t_number_in) l2 c2 k2, PySem.W.mg_of X G a2⟩, ⟨_, _, fun_mk (st := t_bay_of) l3 c3 k3, PySem.W.mg_of X G a3⟩, ⟨_, _, fun_mk (st := t__law_cell_at) l4 c4 k4, PySem.W.mg_of X G a4⟩, ⟨_, _, fun_mk (st := t__law_pot) l5 c5 k5, PySem.W.mg_of X G a5⟩, ⟨_, _, fun_mk (st := t__law_take) l6 c6 k6, PySem.W.mg_of X G a6⟩, ⟨_, _, fun_mk (st := t__law_rows) l7 c7 k7, PySem.W.mg_of X G a7⟩, ⟨_, _, fun_mk (st := t__law_great) l8 c8 k8, PySem.W.mg_of X G a8⟩, ⟨_, _, fun_mk (st := t_is_among) l9 c9 k9, PySem.W.mg_of X G a9⟩, ⟨_, _, fun_mk (st := t_lines_of) l10 c10 k10, PySem.W.mg_of X G a10⟩, ⟨_, _, fun_mk (st := t_row_in) l11 c11 k11, PySem.W.mg_of X G a11⟩, ⟨_, _, fun_mk (st := t__law_odd) l12 c12 k12, PySem.W.mg_of X G a12⟩, ⟨_, _, fun_mk (st := t__law_bay) l13 c13 k13, PySem.W.mg_of X G a13⟩, ⟨_, _, fun_mk (st := t__law_hour) l14 c14 k14, PySem.W.mg_of X G a14⟩, ⟨_, _, fun_mk (st := t_is_row) l15 c15 k15, PySem.W.mg_of X G a15⟩, ⟨_, _, fun_mk (st := t_rows_in) l16 c16 k16, PySem.W.mg_of X G a16⟩, ⟨_, _, fun_mk (st := t__law_case) l17 c17 k17, PySem.W.mg_of X G a17⟩, ⟨_, _, fun_mk (st := t_is_needs) l18 c18 k18, PySem.W.mg_of X G a18⟩, ⟨_, _, fun_mk (st := t_is_standing_of) l19 c19 k19, PySem.W.mg_of X G a19⟩, ⟨_, _, fun_mk (st := t_is_hours_row) l20 c20 k20, PySem.W.mg_of X G a20⟩, ⟨_, _, fun_mk (st := t_is_bay) l21 c21 k21, PySem.W.mg_of X G a21⟩, ⟨_, _, fun_mk (st := t_is_weather) l22 c22 k22, PySem.W.mg_of X G a22⟩, ⟨_, _, fun_mk (st := t_is_house) l23 c23 k23, PySem.W.mg_of X G a23⟩, ⟨_, _, fun_mk (st := t_is_case) l24 c24 k24, PySem.W.mg_of X G a24⟩, ⟨_, _, fun_mk (st := t_case_text) l25 c25 k25, PySem.W.mg_of X G a25⟩, ⟨_, _, fun_mk (st := t_case_of) l26 c26 k26, PySem.W.mg_of X G a26⟩, ⟨_, _, fun_mk (st := t_read_case) l27 c27 k27, PySem.W.mg_of X G a27⟩, ⟨_, _, fun_mk (st := t__law_refused) l28 c28 k28, PySem.W.mg_of X G a28⟩, ⟨_, _, fun_mk (st := t_law) l29 c29 k29, PySem.W.mg_of X G a29⟩⟩
  exact ⟨_, fun s v => .of_eq rfl, fun base _ _ => ok_law T (fun_mk (st := t_law) l29 c29 k29)⟩
end Gb

namespace Gb
open PySem PySem.W PySem.Calls PyProof.Rows
def loose0 : List PySem.Str := ["GlassError", "NoCase", "NoText", "MOST_BAYS", "MOST_POWER", "LEAST_WARMTH", "MOST_WARMTH", "MOST_DAMP", "MOST_SIZE", "is_whole", "is_among", "is_row", "is_needs", "is_bay", "is_house", "is_standing_of", "MOST_HOURS", "WIDEST_COLD", "WIDEST_LIGHT", "is_hours_row", "is_weather", "is_case", "FIGURES", "ORDER", "COUNTS", "WALLS", "NEEDS", "line_of", "lines_of", "case_text"]
def loose1 : List PySem.Str := ["number_in", "row_in", "rows_in", "bay_of", "case_of", "read_case", "_law_cell_at", "_law_pot", "_law_take", "_law_odd", "_law_bay", "_law_hour", "_law_case", "_law_rows", "_law_great", "_law_refused"]
def looseS : List PySem.Str := loose0 ++ loose1
abbrev rowS : OpenRow := OpenLaw.row PySem.Challenge.rw_glassbays_k63_cases_written
abbrev viewS : Program := view rowS.prog [51]
abbrev defS : DefRec := HeadRun.topDef rowS.prog 51
end Gb
namespace Gb
open PySem PySem.Spec PyProof.Rows L2 LamX
abbrev LawTrue : Prop := ∀ ns : List Int, ns.length ≤ 63 → ∃ h, p_law [.fro (ns.map .int)] [] = .ok (.bl true) h
end Gb
section
open PySem PySem.W PyProof.Rows
local macro_rules
  | `(tactic| o_head ($f:ident $k $a $e)) => `(tactic| refine Gb.head_k (r := Gb.rowS) (q := Gb.viewS) (K := $k) (as := $a) (ek := $e) (M := 20000) (loose := Gb.looseS) (d := Gb.defS) (kwd := []) ⟨by kernel_rfl, fun s => by kernel_rfl, by kernel_rfl, by kernel_rfl, by kernel_rfl, by rfl, by first | assumption | decide +kernel, by decide +kernel, ⟨rfl, rfl, rfl, rfl, rfl, by decide +kernel⟩⟩ (fun w os => by revert w; refine Gb.all_follow ?_ ?_ <;> (intro w; kernel_rfl)) ?$(Lean.mkIdent `hw) ?$(Lean.mkIdent `hc))
  | `(tactic| o_head ($f:ident $k $a $e $t)) => `(tactic| refine Gb.head_km (r := Gb.rowS) (q := Gb.viewS) (K := $k) (as := $a) (ek := $e) (ts := $t) (M := 20000) (loose := Gb.looseS) (d := Gb.defS) (kwd := []) ⟨by kernel_rfl, fun s => by kernel_rfl, by kernel_rfl, by kernel_rfl, by kernel_rfl, by rfl, by first | assumption | decide +kernel, by decide +kernel, ⟨rfl, rfl, rfl, rfl, rfl, by decide +kernel⟩⟩ (fun w os => by revert w; refine Gb.all_follow ?_ ?_ <;> (intro w; kernel_rfl)) ?$(Lean.mkIdent `hw) ?$(Lean.mkIdent `hc))
set_option maxRecDepth 100000 in
set_option maxHeartbeats 0 in
theorem Gb.holds_of (lawTrue : Gb.LawTrue) : PySem.Challenge.rw_glassbays_k63_cases_written.Holds := by
  w_on; o_law; k_head; (case hw => w_witness2)
  k_fill
  refine Gb.walkI (l := PySem.Challenge.rw_glassbays_k63_cases_written) (kk := 10) (x := "_law_script") (g := Gb.p_law) Gb.csL rfl (by kernel_rfl) ⟨rfl, by decide, by decide⟩ (fun w h Y => PySem.W.kIn_of Y) ?F lawTrue
  case F =>
    intro w mg fa h KX G hmg0
    have hmg : mg ("law" : PySem.Str) = some (.ref fa) := by
      have e : Gb.defS.name = ("law" : PySem.Str) := by kernel_rfl
      rw [← e]
      exact hmg0
    refine' Gb.all_mk KX G hmg ?a0 ?l0 ?c0 ?k0 ?a1 ?l1 ?c1 ?k1 ?a2 ?l2 ?c2 ?k2 ?a3 ?l3 ?c3 ?k3 ?a4 ?l4 ?c4 ?k4 ?a5 ?l5 ?c5 ?k5 ?a6 ?l6 ?c6 ?k6 ?a7 ?l7 ?c7 ?k7 ?a8 ?l8 ?c8 ?k8 ?a9 ?l9 ?c9 ?k9 ?a10 ?l10 ?c10 ?k10 ?a11 ?l11 ?c11 ?k11 ?a12 ?l12 ?c12 ?k12 ?a13 ?l13 ?c13 ?k13 ?a14 ?l14 ?c14 ?k14 ?a15 ?l15 ?c15 ?k15 ?a16 ?l16 ?c16 ?k16 ?a17 ?l17 ?c17 ?k17 ?a18 ?l18 ?c18 ?k18 ?a19 ?l19 ?c19 ?k19 ?a20 ?l20 ?c20 ?k20 ?a21 ?l21 ?c21 ?k21 ?a22 ?l22 ?c22 ?k22 ?a23 ?l23 ?c23 ?k23 ?a24 ?l24 ?c24 ?k24 ?a25 ?l25 ?c25 ?k25 ?a26 ?l26 ?c26 ?k26 ?a27 ?l27 ?c27 ?k27 ?a28 ?l28 ?c28 ?k28 ?a29 ?l29 ?c29 ?k29 ?z_ValueError ?z_all ?z_bool ?z_enumerate ?z_int ?z_isinstance ?z_len ?z_list ?z_max ?z_min ?z_range ?z_repr ?z_str ?z_tuple ?z_zip ?y_FIGURES ?y_LEAST_WARMTH ?y_MOST_BAYS ?y_MOST_DAMP ?y_MOST_HOURS ?y_MOST_POWER ?y_MOST_SIZE ?y_MOST_WARMTH ?y_NEEDS ?y_ORDER ?y_WALLS ?y_WIDEST_COLD ?y_WIDEST_LIGHT ?ht_COUNTS ?x_GlassError ?x_NoCase ?e_NoCase ?g_GlassError_NoCase ?m_NoCase_NoCase ?v_ValueError_NoCase
    (case a0 => k_is)
    (case l0 => k_is)
    (case c0 => k_is)
    (case k0 => k_is)
    (case a1 => k_is)
    (case l1 => k_is)
    (case c1 => k_is)
    (case k1 => k_is)
    (case a2 => k_is)
    (case l2 => k_is)
    (case c2 => k_is)
    (case k2 => k_is)
    (case a3 => k_is)
    (case l3 => k_is)
    (case c3 => k_is)
    (case k3 => k_is)
    (case a4 => k_is)
    (case l4 => k_is)
    (case c4 => k_is)
    (case k4 => k_is)
    (case a5 => k_is)
    (case l5 => k_is)
    (case c5 => k_is)
    (case k5 => k_is)
    (case a6 => k_is)
    (case l6 => k_is)
    (case c6 => k_is)
    (case k6 => k_is)
    (case a7 => k_is)
    (case l7 => k_is)
    (case c7 => k_is)
    (case k7 => k_is)
    (case a8 => k_is)
    (case l8 => k_is)
    (case c8 => k_is)
    (case k8 => k_is)
    (case a9 => k_is)
    (case l9 => k_is)
    (case c9 => k_is)
    (case k9 => k_is)
    (case a10 => k_is)
    (case l10 => k_is)
    (case c10 => k_is)
    (case k10 => k_is)
    (case a11 => k_is)
    (case l11 => k_is)
    (case c11 => k_is)
    (case k11 => k_is)
    (case a12 => k_is)
    (case l12 => k_is)
    (case c12 => k_is)
    (case k12 => k_is)
    (case a13 => k_is)
    (case l13 => k_is)
    (case c13 => k_is)
    (case k13 => k_is)
    (case a14 => k_is)
    (case l14 => k_is)
    (case c14 => k_is)
    (case k14 => k_is)
    (case a15 => k_is)
    (case l15 => k_is)
    (case c15 => k_is)
    (case k15 => k_is)
    (case a16 => k_is)
    (case l16 => k_is)
    (case c16 => k_is)
    (case k16 => k_is)
    (case a17 => k_is)
    (case l17 => k_is)
    (case c17 => k_is)
    (case k17 => k_is)
    (case a18 => k_is)
    (case l18 => k_is)
    (case c18 => k_is)
    (case k18 => k_is)
    (case a19 => k_is)
    (case l19 => k_is)
    (case c19 => k_is)
    (case k19 => k_is)
    (case a20 => k_is)
    (case l20 => k_is)
    (case c20 => k_is)
    (case k20 => k_is)
    (case a21 => k_is)
    (case l21 => k_is)
    (case c21 => k_is)
    (case k21 => k_is)
    (case a22 => k_is)
    (case l22 => k_is)
    (case c22 => k_is)
    (case k22 => k_is)
    (case a23 => k_is)
    (case l23 => k_is)
    (case c23 => k_is)
    (case k23 => k_is)
    (case a24 => k_is)
    (case l24 => k_is)
    (case c24 => k_is)
    (case k24 => k_is)
    (case a25 => k_is)
    (case l25 => k_is)
    (case c25 => k_is)
    (case k25 => k_is)
    (case a26 => k_is)
    (case l26 => k_is)
    (case c26 => k_is)
    (case k26 => k_is)
    (case a27 => k_is)
    (case l27 => k_is)
    (case c27 => k_is)
    (case k27 => k_is)
    (case a28 => k_is)
    (case l28 => k_is)
    (case c28 => k_is)
    (case k28 => k_is)
    (case a29 => k_is)
    (case l29 => k_is)
    (case c29 => k_is)
    (case k29 => k_is)
    (case z_ValueError => k_is)
    (case z_all => k_is)
    (case z_bool => k_is)
    (case z_enumerate => k_is)
    (case z_int => k_is)
    (case z_isinstance => k_is)
    (case z_len => k_is)
    (case z_list => k_is)
    (case z_max => k_is)
    (case z_min => k_is)
    (case z_range => k_is)
    (case z_repr => k_is)
    (case z_str => k_is)
    (case z_tuple => k_is)
    (case z_zip => k_is)
    (case y_FIGURES => exact ⟨_, by k_is⟩)
    (case y_LEAST_WARMTH => exact ⟨_, by k_is⟩)
    (case y_MOST_BAYS => exact ⟨_, by k_is⟩)
    (case y_MOST_DAMP => exact ⟨_, by k_is⟩)
    (case y_MOST_HOURS => exact ⟨_, _, _, _, by k_is, by k_is, rfl, rfl, rfl, by decide, by simp only [List.map]; repeat (first | exact .nil | refine .cons ⟨_, rfl⟩ ?_)⟩)
    (case y_MOST_POWER => exact ⟨_, by k_is⟩)
    (case y_MOST_SIZE => exact ⟨_, by k_is⟩)
    (case y_MOST_WARMTH => exact ⟨_, by k_is⟩)
    (case y_NEEDS => exact ⟨_, by k_is⟩)
    (case y_ORDER => exact ⟨_, _, _, _, by k_is, by k_is, rfl, rfl, rfl, by decide, by simp only [List.map]; repeat (first | exact .nil | refine .cons ⟨_, rfl⟩ ?_)⟩)
    (case y_WALLS => exact ⟨_, by k_is⟩)
    (case y_WIDEST_COLD => exact ⟨_, by k_is⟩)
    (case y_WIDEST_LIGHT => exact ⟨_, by k_is⟩)
    (case ht_COUNTS => exact ⟨_, by k_is, by kernel_rfl, (List.forall_mem_cons.mpr ⟨⟨by decide, _, _, _, _, by k_is, by k_is, rfl, rfl, rfl, by decide, by simp only [List.map]; repeat (first | exact .nil | refine .cons ⟨_, rfl⟩ ?_)⟩, (List.forall_mem_cons.mpr ⟨⟨by decide, _, _, _, _, by k_is, by k_is, rfl, rfl, rfl, by decide, by simp only [List.map]; repeat (first | exact .nil | refine .cons ⟨_, rfl⟩ ?_)⟩, (List.forall_mem_cons.mpr ⟨⟨by decide, _, _, _, _, by k_is, by k_is, rfl, rfl, rfl, by decide, by simp only [List.map]; repeat (first | exact .nil | refine .cons ⟨_, rfl⟩ ?_)⟩, (List.forall_mem_cons.mpr ⟨⟨by decide, _, _, _, _, by k_is, by k_is, rfl, rfl, rfl, by decide, by simp only [List.map]; repeat (first | exact .nil | refine .cons ⟨_, rfl⟩ ?_)⟩, (List.forall_mem_cons.mpr ⟨⟨by decide, _, _, _, _, by k_is, by k_is, rfl, rfl, rfl, by decide, by simp only [List.map]; repeat (first | exact .nil | refine .cons ⟨_, rfl⟩ ?_)⟩, (fun _ m => by cases m)⟩)⟩)⟩)⟩)⟩)⟩)
    (case x_GlassError => kernel_rfl)
    (case x_NoCase => kernel_rfl)
    (case e_NoCase => exact ⟨by kernel_rfl, by kernel_rfl, by kernel_rfl, by kernel_rfl, by kernel_rfl, by kernel_rfl, by kernel_rfl, by kernel_rfl, by kernel_rfl, by kernel_rfl, by kernel_rfl⟩)
    (case g_GlassError_NoCase => kernel_rfl)
    (case m_NoCase_NoCase => kernel_rfl)
    (case v_ValueError_NoCase => kernel_rfl)
end


namespace Gb
open PySem L2
def u_is_whole : US := uRet (uAnd (u1 (gIsi .int) (uVar 0)) (uNot (u1 (gIsi .bl) (uVar 0))))
theorem j_is_whole : SU ⟨[], [], [], false, []⟩ (b_is_whole) (u_is_whole) := by
  unfold b_is_whole u_is_whole
  exact (us_ret rfl (ue_and (ue_m1 g_isi (uo_w (uo_val (ue_var (by decide))))) (ue_not (ue_m1 g_isi (uo_w (uo_val (ue_var (by decide))))))))
def F_is_whole : UF := uRunP false 1 1 u_is_whole
theorem k_is_whole : FP false p_is_whole F_is_whole := fp_of j_is_whole (by decide)
def u__law_cell_at : US := uSeq (uSIf (uTB (uBin gLt (uVar 1) (u1 gLen (uVar 0)))) (uRet (u2 gIx (uVar 0) (uVar 1))) (uNext)) (uRet (uC (.int 0)))
theorem j__law_cell_at : SU ⟨[], [], [], false, []⟩ (b__law_cell_at) (u__law_cell_at) := by
  unfold b__law_cell_at u__law_cell_at
  exact (us_seq (us_if (ut_tb (ue_bin g_cmp (ue_var (by decide)) (ue_m1 g_len (uo_w (uo_val (ue_var (by decide))))))) (us_ret rfl (ue_m2 g_ix (uo_val (ue_var (by decide))) (uo_w (uo_val (ue_var (by decide)))))) us_next)
    (us_ret rfl ue_c))
def F__law_cell_at : UF := uRunP false 2 2 u__law_cell_at
theorem k__law_cell_at : FP false p__law_cell_at F__law_cell_at := fp_of j__law_cell_at (by decide)
def v__law_pot_0 : US := uSeq (uAsg (uBin gMod (u2 gMul (u2 gAdd (u2 gAdd (uBin gMod (uVar 0) (uC (.int 2147483629))) (u2 gMul (uC (.int 7919)) (uVar 2))) (uC (.int 1))) (uC (.int 48271))) (uC (.int 2147483647))) (.name 3)) (uSeq (uAsg (uBin gMod (u2 gAdd (u2 gAdd (u2 gMul (uVar 3) (uVar 3)) (u2 gMul (uC (.int 69621)) (uVar 2))) (uC (.int 7))) (uC (.int 2147483587))) (.name 3)) (uAsg (u2 gAdd (u2 gMul (uVar 1) (uC (.int 2147483587))) (uVar 3)) (.name 1)))
theorem w__law_pot_0 : SU ⟨[], [], [], false, []⟩ (l__law_pot_0) (v__law_pot_0) := by
  unfold l__law_pot_0 v__law_pot_0
  exact (us_seq (us_asg (ue_bin g_mod (ue_mat (ue_m2 g_mul (ue_m2 g_add (ue_m2 g_add (uo_val (ue_bin g_mod (ue_var (by decide)) ue_c)) (uo_w (ue_m2 g_mul (uo_val ue_c) (uo_w (uo_val (ue_var (by decide))))))) (uo_w (uo_val ue_c))) (uo_w (uo_val ue_c)))) ue_c) (by decide))
    (us_seq (us_asg (ue_bin g_mod (ue_mat (ue_m2 g_add (ue_m2 g_add (ue_m2 g_mul (uo_val (ue_var (by decide))) (uo_w (uo_val (ue_var (by decide))))) (uo_w (ue_m2 g_mul (uo_val ue_c) (uo_w (uo_val (ue_var (by decide))))))) (uo_w (uo_val ue_c)))) ue_c) (by decide))
    (us_asg (ue_mat (ue_m2 g_add (ue_m2 g_mul (uo_val (ue_var (by decide))) (uo_w (uo_val ue_c))) (uo_w (uo_val (ue_var (by decide)))))) (by decide))))
def u__law_pot : US := uSeq (uSIf (uTB (uBin gGe (uVar 0) (uBin gPow (uC (.int 10)) (uC (.int 18))))) (uRet (uNew (uDisp (uCons (uBin gSub (uVar 0) (uBin gPow (uC (.int 10)) (uC (.int 18)))) (uNil))))) (uNext)) (uSeq (uAsg (uC (.int 0)) (.name 1)) (uSeq (uFor (uR1 (uC (.int 64))) (.name 2) (v__law_pot_0) [2, 3]) (uRet (uNew (uDisp (uCons (uVar 1) (uNil)))))))
theorem j__law_pot : SU ⟨[], [], [], false, []⟩ (b__law_pot) (u__law_pot) := by
  unfold b__law_pot u__law_pot
  exact (us_seq (us_if (ut_tb (ue_bin g_cmp (ue_var (by decide)) (ue_bin g_pow ue_c ue_c))) (us_ret rfl (ue_mat (uo_new (ua_disp (ua_cons (ue_bin g_sub (ue_var (by decide)) (ue_bin g_pow ue_c ue_c)) ua_nil))))) us_next)
    (us_seq (us_asg ue_c (by decide))
    (us_seq (us_for (X := []) (M' := []) (by decide) (ui_r1 ue_c) (by decide) (by decide) (by decide) w__law_pot_0)
    (us_ret rfl (ue_mat (uo_new (ua_disp (ua_cons (ue_var (by decide)) ua_nil))))))))
def F__law_pot : UF := uRunP false 1 4 u__law_pot
theorem k__law_pot : FP false p__law_pot F__law_pot := fp_of j__law_pot (by decide)
def u__law_take : US := uSeq (uAsg (uBin gMod (u2o gIx 0 (uC (.int 0))) (uVar 1)) (.name 2)) (uSeq (uSub (uBin gDiv (u2o gIx 0 (uC (.int 0))) (uVar 1)) 0 (uC (.int 0))) (uRet (uVar 2)))
theorem j__law_take : SU ⟨[0], [0], [0], false, []⟩ (b__law_take) (u__law_take) := by
  unfold b__law_take u__law_take
  exact (us_seq (us_asg (ue_bin g_mod (ue_m2o g_ix (by decide) (uo_w (uo_val ue_c))) (ue_var (by decide))) (by decide))
    (us_seq (us_sub (ue_bin g_div (ue_m2o g_ix (by decide) (uo_w (uo_val ue_c))) (ue_var (by decide))) (by decide) (by decide) ue_c)
    (us_ret rfl (ue_var (by decide)))))
def F__law_take : UG := uRunM false 2 3 u__law_take
theorem k__law_take : FM false p__law_take F__law_take := fm_of j__law_take (by decide) (by decide)
def u__law_great : US := uSeq (uAsg (uTup (uCons (uTup (uCons (uTup (uCons (uC (.int 6)) (uCons (uC (.int 3)) (uCons (uC (.int 4)) (uCons (uC (.int 4)) (uNil)))))) (uCons (uTup (uCons (uUn gNeg (uC (.int 20))) (uCons (uC (.int 40)) (uCons (uC (.int 0)) (uCons (uC (.int 9)) (uNil)))))) (uCons (uTup (uCons (uC (.int 40)) (uCons (uC (.int 9)) (uNil)))) (uNil))))) (uCons (uTup (uCons (uTup (uCons (uC (.int 2)) (uCons (uC (.int 0)) (uCons (uC (.int 1)) (uCons (uC (.int 0)) (uNil)))))) (uCons (uTup (uCons (uUn gNeg (uC (.int 20))) (uCons (uUn gNeg (uC (.int 20))) (uCons (uC (.int 9)) (uCons (uC (.int 9)) (uNil)))))) (uCons (uTup (uCons (uUn gNeg (uC (.int 20))) (uCons (uC (.int 0)) (uNil)))) (uNil))))) (uNil)))) (.name 0)) (uSeq (uAsg (uTup (uCons (uTup (uCons (uC (.int 60)) (uCons (uC (.int 9)) (uCons (uC (.int 4)) (uNil))))) (uCons (uTup (uCons (uUn gNeg (uC (.int 40))) (uCons (uC (.int 0)) (uCons (uC (.int 0)) (uNil))))) (uNil)))) (.name 1)) (uRet (uTup (uCons (uTup (uCons (uVar 0) (uCons (uC (.int 2)) (uCons (uC (.int 1)) (uNil))))) (uCons (uVar 1) (uCons (uTup (uCons (uTup (uCons (uUn gNeg (uC (.int 30))) (uCons (uUn gNeg (uC (.int 27))) (uCons (uC (.int 8)) (uCons (uC (.int 9)) (uNil)))))) (uCons (uTup (uCons (uC (.int 50)) (uCons (uC (.int 50)) (uCons (uC (.int 0)) (uCons (uC (.int 0)) (uNil)))))) (uCons (uTup (uCons (uC (.int 47)) (uCons (uC (.int 50)) (uCons (uC (.int 9)) (uCons (uC (.int 9)) (uNil)))))) (uNil))))) (uCons (uTup (uCons (uC (.int 4)) (uCons (uC (.int 4)) (uNil)))) (uNil))))))))
theorem j__law_great : SU ⟨[], [], [], false, []⟩ (b__law_great) (u__law_great) := by
  unfold b__law_great u__law_great
  exact (us_seq (us_asg (ue_tup (ua_cons (ue_tup (ua_cons (ue_tup (ua_cons ue_c (ua_cons ue_c (ua_cons ue_c (ua_cons ue_c ua_nil))))) (ua_cons (ue_tup (ua_cons (ue_un g_neg ue_c) (ua_cons ue_c (ua_cons ue_c (ua_cons ue_c ua_nil))))) (ua_cons (ue_tup (ua_cons ue_c (ua_cons ue_c ua_nil))) ua_nil)))) (ua_cons (ue_tup (ua_cons (ue_tup (ua_cons ue_c (ua_cons ue_c (ua_cons ue_c (ua_cons ue_c ua_nil))))) (ua_cons (ue_tup (ua_cons (ue_un g_neg ue_c) (ua_cons (ue_un g_neg ue_c) (ua_cons ue_c (ua_cons ue_c ua_nil))))) (ua_cons (ue_tup (ua_cons (ue_un g_neg ue_c) (ua_cons ue_c ua_nil))) ua_nil)))) ua_nil))) (by decide))
    (us_seq (us_asg (ue_tup (ua_cons (ue_tup (ua_cons ue_c (ua_cons ue_c (ua_cons ue_c ua_nil)))) (ua_cons (ue_tup (ua_cons (ue_un g_neg ue_c) (ua_cons ue_c (ua_cons ue_c ua_nil)))) ua_nil))) (by decide))
    (us_ret rfl (ue_tup (ua_cons (ue_tup (ua_cons (ue_var (by decide)) (ua_cons ue_c (ua_cons ue_c ua_nil)))) (ua_cons (ue_var (by decide)) (ua_cons (ue_tup (ua_cons (ue_tup (ua_cons (ue_un g_neg ue_c) (ua_cons (ue_un g_neg ue_c) (ua_cons ue_c (ua_cons ue_c ua_nil))))) (ua_cons (ue_tup (ua_cons ue_c (ua_cons ue_c (ua_cons ue_c (ua_cons ue_c ua_nil))))) (ua_cons (ue_tup (ua_cons ue_c (ua_cons ue_c (ua_cons ue_c (ua_cons ue_c ua_nil))))) ua_nil)))) (ua_cons (ue_tup (ua_cons ue_c (ua_cons ue_c ua_nil))) ua_nil))))))))
@[irreducible] def F__law_great : UF := uRunP false 0 2 u__law_great
theorem k__law_great : FP false p__law_great F__law_great := by unfold p__law_great F__law_great; exact fp_of j__law_great (by decide)
def u_is_among : US := uRet (uAnd (uCall F_is_whole (uCons (uVar 0) (uNil))) (uChain gLe gLe (uVar 1) (uVar 0) (uVar 2)))
theorem j_is_among : SU ⟨[], [], [], false, []⟩ (b_is_among) (u_is_among) := by
  unfold b_is_among u_is_among
  exact (us_ret rfl (ue_and (ue_call k_is_whole (ua_cons (ue_var (by decide)) ua_nil)) (ue_chain g_cmp g_cmp (ue_var (by decide)) (ue_var (by decide)) (ue_var (by decide)))))
def F_is_among : UF := uRunP false 3 3 u_is_among
theorem k_is_among : FP false p_is_among F_is_among := fp_of j_is_among (by decide)
def u__law_odd : US := uSeq (uAsg (uNew (uDisp (uCons (uC .non) (uCons (uC (.bl true)) (uCons (uC (.bl false)) (uCons (uUn gNeg (uC (.int 1))) (uCons (uBin gPow (uC (.int 10)) (uC (.int 11))) (uCons (uC (.str ("" : Str))) (uCons (uC (.str ("a" : Str))) (uCons (uC (.str ("1" : Str))) (uCons (uTup (uNil)) (uCons (uNew (uDisp (uNil))) (uCons (uC (.dct [] [])) (uCons (uNew (uDisp (uCons (uTup (uNil)) (uNil)))) (uCons (uTup (uCons (uTup (uNil)) (uNil))) (uCons (uTup (uCons (uC (.int 0)) (uNil))) (uCons (uNew (uDisp (uCons (uC (.int 0)) (uNil)))) (uCons (uC (.dct [.int 0] [.int 1])) (uCons (uTup (uCons (uC (.bl true)) (uCons (uC (.bl true)) (uNil)))) (uNil)))))))))))))))))))) (.name 1)) (uRet (u2 gIx (uVar 1) (uCallM F__law_take 0 (uCons (u1 gLen (uVar 1)) (uNil)))))
theorem j__law_odd : SU ⟨[0], [0], [0], false, []⟩ (b__law_odd) (u__law_odd) := by
  unfold b__law_odd u__law_odd
  exact (us_seq (us_asg (ue_mat (uo_new (ua_disp (ua_cons ue_c (ua_cons ue_c (ua_cons ue_c (ua_cons (ue_un g_neg ue_c) (ua_cons (ue_bin g_pow ue_c ue_c) (ua_cons ue_c (ua_cons ue_c (ua_cons ue_c (ua_cons (ue_tup ua_nil) (ua_cons (ue_mat (uo_new (ua_disp ua_nil))) (ua_cons ue_c (ua_cons (ue_mat (uo_new (ua_disp (ua_cons (ue_tup ua_nil) ua_nil)))) (ua_cons (ue_tup (ua_cons (ue_tup ua_nil) ua_nil)) (ua_cons (ue_tup (ua_cons ue_c ua_nil)) (ua_cons (ue_mat (uo_new (ua_disp (ua_cons ue_c ua_nil)))) (ua_cons ue_c (ua_cons (ue_tup (ua_cons ue_c (ua_cons ue_c ua_nil))) ua_nil)))))))))))))))))))) (by decide))
    (us_ret rfl (ue_m2 g_ix (uo_val (ue_var (by decide))) (uo_w (uo_val (ue_callM k__law_take (by decide) (by decide) (ua_cons (ue_m1 g_len (uo_w (uo_val (ue_var (by decide))))) ua_nil)))))))
def F__law_odd : UG := uRunM false 1 2 u__law_odd
theorem k__law_odd : FM false p__law_odd F__law_odd := fm_of j__law_odd (by decide) (by decide)
def u__law_bay : US := uSeq (uAsg (uTup (uCons (u2 gAdd (uC (.int 2)) (uCallM F__law_take 0 (uCons (uC (.int 5)) (uNil)))) (uCons (uCallM F__law_take 0 (uCons (uC (.int 4)) (uNil))) (uCons (u2 gAdd (uC (.int 1)) (uCallM F__law_take 0 (uCons (uC (.int 4)) (uNil)))) (uCons (uCallM F__law_take 0 (uCons (uC (.int 5)) (uNil))) (uNil)))))) (.name 1)) (uSeq (uPar [2, 3] (uCons (uBin gSub (uC (.int 10)) (uCallM F__law_take 0 (uCons (uC (.int 5)) (uNil)))) (uCons (uCallM F__law_take 0 (uCons (uC (.int 3)) (uNil))) (uNil)))) (uSeq (uAsg (uTup (uCons (uVar 2) (uCons (u2 gAdd (uVar 2) (uCallM F__law_take 0 (uCons (uC (.int 9)) (uNil)))) (uCons (uVar 3) (uCons (u2 gMin2 (uC (.int 9)) (u2 gAdd (u2 gAdd (uVar 3) (uC (.int 1))) (uCallM F__law_take 0 (uCons (uC (.int 8)) (uNil))))) (uNil)))))) (.name 4)) (uRet (uTup (uCons (uVar 1) (uCons (uVar 4) (uCons (uTup (uCons (uBin gSub (u2 gAdd (uVar 2) (uCallM F__law_take 0 (uCons (uC (.int 6)) (uNil)))) (uC (.int 1))) (uCons (uCallM F__law_take 0 (uCons (uC (.int 3)) (uNil))) (uNil)))) (uNil))))))))
theorem j__law_bay : SU ⟨[0], [0], [0], false, []⟩ (b__law_bay) (u__law_bay) := by
  unfold b__law_bay u__law_bay
  exact (us_seq (us_asg (ue_tup (ua_cons (ue_mat (ue_m2 g_add (uo_val ue_c) (uo_w (uo_val (ue_callM k__law_take (by decide) (by decide) (ua_cons ue_c ua_nil)))))) (ua_cons (ue_callM k__law_take (by decide) (by decide) (ua_cons ue_c ua_nil)) (ua_cons (ue_mat (ue_m2 g_add (uo_val ue_c) (uo_w (uo_val (ue_callM k__law_take (by decide) (by decide) (ua_cons ue_c ua_nil)))))) (ua_cons (ue_callM k__law_take (by decide) (by decide) (ua_cons ue_c ua_nil)) ua_nil))))) (by decide))
    (us_seq (us_par (jp_val 2 (by decide) (ue_bin g_sub ue_c (ue_callM k__law_take (by decide) (by decide) (ua_cons ue_c ua_nil))) (jp_val 3 (by decide) (ue_callM k__law_take (by decide) (by decide) (ua_cons ue_c ua_nil)) jp_nil)) rfl)
    (us_seq (us_asg (ue_tup (ua_cons (ue_var (by decide)) (ua_cons (ue_mat (ue_m2 g_add (uo_val (ue_var (by decide))) (uo_w (uo_val (ue_callM k__law_take (by decide) (by decide) (ua_cons ue_c ua_nil)))))) (ua_cons (ue_var (by decide)) (ua_cons (ue_m2 g_min2 (uo_val ue_c) (uo_w (ue_m2 g_add (ue_m2 g_add (uo_val (ue_var (by decide))) (uo_w (uo_val ue_c))) (uo_w (uo_val (ue_callM k__law_take (by decide) (by decide) (ua_cons ue_c ua_nil))))))) ua_nil))))) (by decide))
    (us_ret rfl (ue_tup (ua_cons (ue_var (by decide)) (ua_cons (ue_var (by decide)) (ua_cons (ue_tup (ua_cons (ue_bin g_sub (ue_mat (ue_m2 g_add (uo_val (ue_var (by decide))) (uo_w (uo_val (ue_callM k__law_take (by decide) (by decide) (ua_cons ue_c ua_nil)))))) ue_c) (ua_cons (ue_callM k__law_take (by decide) (by decide) (ua_cons ue_c ua_nil)) ua_nil))) ua_nil))))))))
def F__law_bay : UG := uRunM false 1 5 u__law_bay
theorem k__law_bay : FM false p__law_bay F__law_bay := fm_of j__law_bay (by decide) (by decide)
def u__law_hour : US := uSeq (uPar [2, 3] (uCons (u2 gAdd (uC (.int 6)) (uCallM F__law_take 0 (uCons (uC (.int 9)) (uNil)))) (uCons (uCallM F__law_take 0 (uCons (uC (.int 9)) (uNil))) (uNil)))) (uRet (uTup (uCons (uVar 2) (uCons (u2 gAdd (uVar 2) (uCallM F__law_take 0 (uCons (uVar 1) (uNil)))) (uCons (uVar 3) (uCons (u2 gAdd (uVar 3) (uCallM F__law_take 0 (uCons (u2 gMin2 (uC (.int 2)) (uVar 1)) (uNil)))) (uNil)))))))
theorem j__law_hour : SU ⟨[0], [0], [0], false, []⟩ (b__law_hour) (u__law_hour) := by
  unfold b__law_hour u__law_hour
  exact (us_seq (us_par (jp_val 2 (by decide) (ue_mat (ue_m2 g_add (uo_val ue_c) (uo_w (uo_val (ue_callM k__law_take (by decide) (by decide) (ua_cons ue_c ua_nil)))))) (jp_val 3 (by decide) (ue_callM k__law_take (by decide) (by decide) (ua_cons ue_c ua_nil)) jp_nil)) rfl)
    (us_ret rfl (ue_tup (ua_cons (ue_var (by decide)) (ua_cons (ue_mat (ue_m2 g_add (uo_val (ue_var (by decide))) (uo_w (uo_val (ue_callM k__law_take (by decide) (by decide) (ua_cons (ue_var (by decide)) ua_nil)))))) (ua_cons (ue_var (by decide)) (ua_cons (ue_mat (ue_m2 g_add (uo_val (ue_var (by decide))) (uo_w (uo_val (ue_callM k__law_take (by decide) (by decide) (ua_cons (ue_m2 g_min2 (uo_val ue_c) (uo_w (uo_val (ue_var (by decide))))) ua_nil)))))) ua_nil)))))))
def F__law_hour : UG := uRunM false 2 4 u__law_hour
theorem k__law_hour : FM false p__law_hour F__law_hour := fm_of j__law_hour (by decide) (by decide)
def u_is_row : US := uSeq (uSIf (uTOr (uTNot (uTst (u1 (gIsi .tup) (uVar 0)) gTruth)) (uTB (u2 (gEq not) (u1 gLen (uVar 0)) (u1 gLen (uVar 1))))) (uRet (uC (.bl false))) (uNext)) (uRet (u1 gAll (uNew (uLc (uZip2 (uVar 0) (uVar 1)) (.tup [.name 2, .tup [.name 3, .name 4]]) (uTYes) (uCall F_is_among (uCons (uVar 2) (uCons (uVar 3) (uCons (uVar 4) (uNil))))) [2, 3, 4]))))
theorem j_is_row : SU ⟨[], [], [], false, []⟩ (b_is_row) (u_is_row) := by
  unfold b_is_row u_is_row
  exact (us_seq (us_if (ut_or (ut_not (ut_truth (ue_m1 g_isi (uo_w (uo_val (ue_var (by decide))))))) (ut_tb (ue_m2 g_eq (uo_val (ue_m1 g_len (uo_w (uo_val (ue_var (by decide)))))) (uo_w (uo_val (ue_m1 g_len (uo_w (uo_val (ue_var (by decide)))))))))) (us_ret rfl ue_c) us_next)
    (us_ret rfl (ue_m1 g_all (uo_w (uo_new (ua_lc (X := []) (ui_zip2 (uo_val (ue_var (by decide))) (ux_v (uo_val (ue_var (by decide))))) (by decide) (by decide) (by decide) ut_yes (ue_call k_is_among (ua_cons (ue_var (by decide)) (ua_cons (ue_var (by decide)) (ua_cons (ue_var (by decide)) ua_nil))))))))))
def F_is_row : UF := uRunP false 2 5 u_is_row
theorem k_is_row : FP false p_is_row F_is_row := fp_of j_is_row (by decide)
def v__law_case_0 : US := uSeq (uAsg (u2 gAdd (u2 gIx (uVar 4) (uC (.int 0))) (uCallM F__law_take 0 (uCons (u2 gAdd (uBin gSub (u2 gIx (uVar 4) (uC (.int 1))) (u2 gIx (uVar 4) (uC (.int 0)))) (uC (.int 1))) (uNil)))) (.name 6)) (uDrop (uMt fAppend 2 (uCons (uTup (uCons (uVar 6) (uCons (u2 gAdd (u2 gIx (uVar 4) (uC (.int 2))) (uCallM F__law_take 0 (uCons (u2 gAdd (uBin gSub (u2 gIx (uVar 4) (uC (.int 3))) (u2 gIx (uVar 4) (uC (.int 2)))) (uC (.int 1))) (uNil)))) (uCons (uCallM F__law_take 0 (uCons (uC (.int 3)) (uNil))) (uNil))))) (uNil))))
theorem w__law_case_0 : SU ⟨[0, 2], [0], [0, 2], false, []⟩ (l__law_case_0) (v__law_case_0) := by
  unfold l__law_case_0 v__law_case_0
  exact (us_seq (us_asg (ue_mat (ue_m2 g_add (uo_val (ue_m2 g_ix (uo_val (ue_var (by decide))) (uo_w (uo_val ue_c)))) (uo_w (uo_val (ue_callM k__law_take (by decide) (by decide) (ua_cons (ue_mat (ue_m2 g_add (uo_val (ue_bin g_sub (ue_m2 g_ix (uo_val (ue_var (by decide))) (uo_w (uo_val ue_c))) (ue_m2 g_ix (uo_val (ue_var (by decide))) (uo_w (uo_val ue_c))))) (uo_w (uo_val ue_c)))) ua_nil)))))) (by decide))
    (us_drop (ue_mt m_append (by decide) (by decide) (ua_cons (ue_tup (ua_cons (ue_var (by decide)) (ua_cons (ue_mat (ue_m2 g_add (uo_val (ue_m2 g_ix (uo_val (ue_var (by decide))) (uo_w (uo_val ue_c)))) (uo_w (uo_val (ue_callM k__law_take (by decide) (by decide) (ua_cons (ue_mat (ue_m2 g_add (uo_val (ue_bin g_sub (ue_m2 g_ix (uo_val (ue_var (by decide))) (uo_w (uo_val ue_c))) (ue_m2 g_ix (uo_val (ue_var (by decide))) (uo_w (uo_val ue_c))))) (uo_w (uo_val ue_c)))) ua_nil)))))) (ua_cons (ue_callM k__law_take (by decide) (by decide) (ua_cons ue_c ua_nil)) ua_nil)))) ua_nil))))
def u__law_case : US := uSeq (uAsg (u1 gTuple (uNew (uLc (uR1 (u2 gAdd (uC (.int 1)) (u1 gInt (u2 (gEq id) (uCallM F__law_take 0 (uCons (uC (.int 3)) (uNil))) (uC (.int 0)))))) (.name 10) (uTYes) (uCallM F__law_bay 0 (uNil)) [10]))) (.name 1)) (uSeq (uAsg (uNew (uDisp (uNil))) (.name 2)) (uSeq (uFor (uSrc (uVar 1)) (.tup [.name 3, .name 4, .name 5]) (v__law_case_0) [3, 4, 5, 6]) (uSeq (uAsg (u2 gAdd (uC (.int 1)) (uCallM F__law_take 0 (uCons (uBin gSub (uC (.int 3)) (u1 gInt (uBin gGt (u1 gLen (uVar 1)) (uC (.int 1))))) (uNil)))) (.name 7)) (uSeq (uAsg (u1 gTuple (uNew (uLc (uR1 (uVar 7)) (.name 11) (uTYes) (uCallM F__law_hour 0 (uCons (u2 gIx (uNew (uDisp (uCons (uC (.int 1)) (uCons (uC (.int 3)) (uCons (uC (.int 4)) (uNil)))))) (uCallM F__law_take 0 (uCons (uC (.int 3)) (uNil)))) (uNil))) [11]))) (.name 8)) (uSeq (uAsg (u1 gTuple (uNew (uLc (uSrc (uVar 1)) (.name 10) (uTYes) (uCallM F__law_take 0 (uCons (uC (.int 4)) (uNil))) [10]))) (.name 9)) (uRet (uTup (uCons (uTup (uCons (uVar 1) (uCons (uCallM F__law_take 0 (uCons (uC (.int 3)) (uNil))) (uCons (u1 gInt (u2 (gEq id) (uCallM F__law_take 0 (uCons (uC (.int 3)) (uNil))) (uC (.int 0)))) (uNil))))) (uCons (u1 gTuple (uVar 2)) (uCons (uVar 8) (uCons (uVar 9) (uNil))))))))))))
theorem j__law_case : SU ⟨[0, 2], [0], [0, 2], false, []⟩ (b__law_case) (u__law_case) := by
  unfold b__law_case u__law_case
  exact (us_seq (us_asg (ue_m1 g_tuple (uo_w (uo_new (ua_lc (X := []) (ui_r1 (ue_mat (ue_m2 g_add (uo_val ue_c) (uo_w (uo_val (ue_m1 g_int (uo_w (uo_val (ue_m2 g_eq (uo_val (ue_callM k__law_take (by decide) (by decide) (ua_cons ue_c ua_nil))) (uo_w (uo_val ue_c))))))))))) (by decide) (by decide) (by decide) ut_yes (ue_callM k__law_bay (by decide) (by decide) ua_nil))))) (by decide))
    (us_seq (us_asgN (un_new (ua_disp ua_nil)) (by decide) (by decide))
    (us_seq (us_for (X := []) (M' := [0, 2]) (by decide) (ui_src (ux_v (uo_val (ue_var (by decide))))) (by decide) (by decide) (by decide) w__law_case_0)
    (us_seq (us_asg (ue_mat (ue_m2 g_add (uo_val ue_c) (uo_w (uo_val (ue_callM k__law_take (by decide) (by decide) (ua_cons (ue_bin g_sub ue_c (ue_m1 g_int (uo_w (uo_val (ue_bin g_cmp (ue_m1 g_len (uo_w (uo_val (ue_var (by decide))))) ue_c))))) ua_nil)))))) (by decide))
    (us_seq (us_asg (ue_m1 g_tuple (uo_w (uo_new (ua_lc (X := []) (ui_r1 (ue_var (by decide))) (by decide) (by decide) (by decide) ut_yes (ue_callM k__law_hour (by decide) (by decide) (ua_cons (ue_m2 g_ix (uo_new (ua_disp (ua_cons ue_c (ua_cons ue_c (ua_cons ue_c ua_nil))))) (uo_w (uo_val (ue_callM k__law_take (by decide) (by decide) (ua_cons ue_c ua_nil))))) ua_nil)))))) (by decide))
    (us_seq (us_asg (ue_m1 g_tuple (uo_w (uo_new (ua_lc (X := []) (ui_src (ux_v (uo_val (ue_var (by decide))))) (by decide) (by decide) (by decide) ut_yes (ue_callM k__law_take (by decide) (by decide) (ua_cons ue_c ua_nil)))))) (by decide))
    (us_ret rfl (ue_tup (ua_cons (ue_tup (ua_cons (ue_var (by decide)) (ua_cons (ue_callM k__law_take (by decide) (by decide) (ua_cons ue_c ua_nil)) (ua_cons (ue_m1 g_int (uo_w (uo_val (ue_m2 g_eq (uo_val (ue_callM k__law_take (by decide) (by decide) (ua_cons ue_c ua_nil))) (uo_w (uo_val ue_c)))))) ua_nil)))) (ua_cons (ue_m1 g_tuple (uo_own (by decide))) (ua_cons (ue_var (by decide)) (ua_cons (ue_var (by decide)) ua_nil))))))))))))
def F__law_case : UG := uRunM false 1 12 u__law_case
theorem k__law_case : FM false p__law_case F__law_case := fm_of j__law_case (by decide) (by decide)
def u_is_needs : US := uSeq (uSIf (uTNot (uTst (uCall F_is_row (uCons (uVar 0) (uCons (uTup (uCons (uTup (uCons (uUn gNeg (uC (.int 20))) (uCons (uC (.int 40)) (uNil)))) (uCons (uTup (uCons (uUn gNeg (uC (.int 20))) (uCons (uC (.int 40)) (uNil)))) (uCons (uTup (uCons (uC (.int 0)) (uCons (uC (.int (9))) (uNil)))) (uCons (uTup (uCons (uC (.int 0)) (uCons (uC (.int (9))) (uNil)))) (uNil)))))) (uNil)))) gTruth)) (uRet (uC (.bl false))) (uNext)) (uRet (uAnd (uBin gLe (u2 gIx (uVar 0) (uC (.int 0))) (u2 gIx (uVar 0) (uC (.int 1)))) (uBin gLe (u2 gIx (uVar 0) (uC (.int 2))) (u2 gIx (uVar 0) (uC (.int 3))))))
theorem j_is_needs : SU ⟨[], [], [], false, []⟩ (b_is_needs) (u_is_needs) := by
  unfold b_is_needs u_is_needs
  exact (us_seq (us_if (ut_not (ut_truth (ue_call k_is_row (ua_cons (ue_var (by decide)) (ua_cons (ue_tup (ua_cons (ue_tup (ua_cons (ue_un g_neg ue_c) (ua_cons ue_c ua_nil))) (ua_cons (ue_tup (ua_cons (ue_un g_neg ue_c) (ua_cons ue_c ua_nil))) (ua_cons (ue_tup (ua_cons ue_c (ua_cons ue_c ua_nil))) (ua_cons (ue_tup (ua_cons ue_c (ua_cons ue_c ua_nil))) ua_nil))))) ua_nil))))) (us_ret rfl ue_c) us_next)
    (us_ret rfl (ue_and (ue_bin g_cmp (ue_m2 g_ix (uo_val (ue_var (by decide))) (uo_w (uo_val ue_c))) (ue_m2 g_ix (uo_val (ue_var (by decide))) (uo_w (uo_val ue_c)))) (ue_bin g_cmp (ue_m2 g_ix (uo_val (ue_var (by decide))) (uo_w (uo_val ue_c))) (ue_m2 g_ix (uo_val (ue_var (by decide))) (uo_w (uo_val ue_c)))))))
def F_is_needs : UF := uRunP false 1 1 u_is_needs
theorem k_is_needs : FP false p_is_needs F_is_needs := fp_of j_is_needs (by decide)
def u_is_standing_of : US := uSeq (uSIf (uTOr (uTNot (uTst (u1 (gIsi .tup) (uVar 1)) gTruth)) (uTB (u2 (gEq not) (u1 gLen (uVar 1)) (u1 gLen (u2 gIx (uVar 0) (uC (.int 0))))))) (uRet (uC (.bl false))) (uNext)) (uRet (u1 gAll (uNew (uLc (uSrc (uVar 1)) (.name 2) (uTYes) (uCall F_is_row (uCons (uVar 2) (uCons (uTup (uCons (uTup (uCons (uC (.int (-40))) (uCons (uC (.int (60))) (uNil)))) (uCons (uTup (uCons (uC (.int 0)) (uCons (uC (.int (9))) (uNil)))) (uCons (uTup (uCons (uC (.int 0)) (uCons (uC (.int (4))) (uNil)))) (uNil))))) (uNil)))) [2]))))
theorem j_is_standing_of : SU ⟨[], [], [], false, []⟩ (b_is_standing_of) (u_is_standing_of) := by
  unfold b_is_standing_of u_is_standing_of
  exact (us_seq (us_if (ut_or (ut_not (ut_truth (ue_m1 g_isi (uo_w (uo_val (ue_var (by decide))))))) (ut_tb (ue_m2 g_eq (uo_val (ue_m1 g_len (uo_w (uo_val (ue_var (by decide)))))) (uo_w (uo_val (ue_m1 g_len (uo_w (uo_val (ue_m2 g_ix (uo_val (ue_var (by decide))) (uo_w (uo_val ue_c))))))))))) (us_ret rfl ue_c) us_next)
    (us_ret rfl (ue_m1 g_all (uo_w (uo_new (ua_lc (X := []) (ui_src (ux_v (uo_val (ue_var (by decide))))) (by decide) (by decide) (by decide) ut_yes (ue_call k_is_row (ua_cons (ue_var (by decide)) (ua_cons (ue_tup (ua_cons (ue_tup (ua_cons ue_c (ua_cons ue_c ua_nil))) (ua_cons (ue_tup (ua_cons ue_c (ua_cons ue_c ua_nil))) (ua_cons (ue_tup (ua_cons ue_c (ua_cons ue_c ua_nil))) ua_nil)))) ua_nil)))))))))
def F_is_standing_of : UF := uRunP false 2 3 u_is_standing_of
theorem k_is_standing_of : FP false p_is_standing_of F_is_standing_of := fp_of j_is_standing_of (by decide)
def u_is_hours_row : US := uSeq (uSIf (uTNot (uTst (uCall F_is_row (uCons (uVar 0) (uCons (uTup (uCons (uTup (uCons (uUn gNeg (uC (.int 30))) (uCons (uC (.int 50)) (uNil)))) (uCons (uTup (uCons (uUn gNeg (uC (.int 30))) (uCons (uC (.int 50)) (uNil)))) (uCons (uTup (uCons (uC (.int 0)) (uCons (uC (.int 9)) (uNil)))) (uCons (uTup (uCons (uC (.int 0)) (uCons (uC (.int 9)) (uNil)))) (uNil)))))) (uNil)))) gTruth)) (uRet (uC (.bl false))) (uNext)) (uSeq (uAsg (uVar 0) (.tup [.name 1, .name 2, .name 3, .name 4])) (uRet (uAnd (uChain gLe gLe (uVar 1) (uVar 2) (u2 gAdd (uVar 1) (uC (.int (3))))) (uChain gLe gLe (uVar 3) (uVar 4) (u2 gAdd (uVar 3) (uC (.int (1))))))))
theorem j_is_hours_row : SU ⟨[], [], [], false, []⟩ (b_is_hours_row) (u_is_hours_row) := by
  unfold b_is_hours_row u_is_hours_row
  exact (us_seq (us_if (ut_not (ut_truth (ue_call k_is_row (ua_cons (ue_var (by decide)) (ua_cons (ue_tup (ua_cons (ue_tup (ua_cons (ue_un g_neg ue_c) (ua_cons ue_c ua_nil))) (ua_cons (ue_tup (ua_cons (ue_un g_neg ue_c) (ua_cons ue_c ua_nil))) (ua_cons (ue_tup (ua_cons ue_c (ua_cons ue_c ua_nil))) (ua_cons (ue_tup (ua_cons ue_c (ua_cons ue_c ua_nil))) ua_nil))))) ua_nil))))) (us_ret rfl ue_c) us_next)
    (us_seq (us_asg (ue_var (by decide)) (by decide))
    (us_ret rfl (ue_and (ue_chain g_cmp g_cmp (ue_var (by decide)) (ue_var (by decide)) (ue_mat (ue_m2 g_add (uo_val (ue_var (by decide))) (uo_w (uo_val ue_c))))) (ue_chain g_cmp g_cmp (ue_var (by decide)) (ue_var (by decide)) (ue_mat (ue_m2 g_add (uo_val (ue_var (by decide))) (uo_w (uo_val ue_c)))))))))
def F_is_hours_row : UF := uRunP false 1 5 u_is_hours_row
theorem k_is_hours_row : FP false p_is_hours_row F_is_hours_row := fp_of j_is_hours_row (by decide)
def u_is_bay : US := uSeq (uSIf (uTOr (uTNot (uTst (u1 (gIsi .tup) (uVar 0)) gTruth)) (uTOr (uTB (u2 (gEq not) (u1 gLen (uVar 0)) (uC (.int 3)))) (uTNot (uTst (uCall F_is_row (uCons (u2 gIx (uVar 0) (uC (.int 0))) (uCons (uTup (uCons (uTup (uCons (uC (.int 2)) (uCons (uC (.int 6)) (uNil)))) (uCons (uTup (uCons (uC (.int 0)) (uCons (uC (.int 3)) (uNil)))) (uCons (uTup (uCons (uC (.int 1)) (uCons (uC (.int 4)) (uNil)))) (uCons (uTup (uCons (uC (.int 0)) (uCons (uC (.int 4)) (uNil)))) (uNil)))))) (uNil)))) gTruth)))) (uRet (uC (.bl false))) (uNext)) (uRet (uAnd (uCall F_is_needs (uCons (u2 gIx (uVar 0) (uC (.int 1))) (uNil))) (uCall F_is_row (uCons (u2 gIx (uVar 0) (uC (.int 2))) (uCons (uTup (uCons (uTup (uCons (uUn gNeg (uC (.int 20))) (uCons (uC (.int 40)) (uNil)))) (uCons (uTup (uCons (uC (.int 0)) (uCons (uC (.int 9)) (uNil)))) (uNil)))) (uNil))))))
theorem j_is_bay : SU ⟨[], [], [], false, []⟩ (b_is_bay) (u_is_bay) := by
  unfold b_is_bay u_is_bay
  exact (us_seq (us_if (ut_or (ut_not (ut_truth (ue_m1 g_isi (uo_w (uo_val (ue_var (by decide))))))) (ut_or (ut_tb (ue_m2 g_eq (uo_val (ue_m1 g_len (uo_w (uo_val (ue_var (by decide)))))) (uo_w (uo_val ue_c)))) (ut_not (ut_truth (ue_call k_is_row (ua_cons (ue_m2 g_ix (uo_val (ue_var (by decide))) (uo_w (uo_val ue_c))) (ua_cons (ue_tup (ua_cons (ue_tup (ua_cons ue_c (ua_cons ue_c ua_nil))) (ua_cons (ue_tup (ua_cons ue_c (ua_cons ue_c ua_nil))) (ua_cons (ue_tup (ua_cons ue_c (ua_cons ue_c ua_nil))) (ua_cons (ue_tup (ua_cons ue_c (ua_cons ue_c ua_nil))) ua_nil))))) ua_nil))))))) (us_ret rfl ue_c) us_next)
    (us_ret rfl (ue_and (ue_call k_is_needs (ua_cons (ue_m2 g_ix (uo_val (ue_var (by decide))) (uo_w (uo_val ue_c))) ua_nil)) (ue_call k_is_row (ua_cons (ue_m2 g_ix (uo_val (ue_var (by decide))) (uo_w (uo_val ue_c))) (ua_cons (ue_tup (ua_cons (ue_tup (ua_cons (ue_un g_neg ue_c) (ua_cons ue_c ua_nil))) (ua_cons (ue_tup (ua_cons ue_c (ua_cons ue_c ua_nil))) ua_nil))) ua_nil))))))
def F_is_bay : UF := uRunP false 1 1 u_is_bay
theorem k_is_bay : FP false p_is_bay F_is_bay := fp_of j_is_bay (by decide)
def u_is_weather : US := uSeq (uSIf (uTOr (uTNot (uTst (u1 (gIsi .tup) (uVar 1)) gTruth)) (uTNot (uTB (uChain gLe gLe (uC (.int 1)) (u1 gLen (uVar 1)) (u2 gIx (uC (.tup [.int (4), .int (3)])) (uBin gSub (u1 gLen (u2 gIx (uVar 0) (uC (.int 0)))) (uC (.int 1)))))))) (uRet (uC (.bl false))) (uNext)) (uRet (u1 gAll (uNew (uLc (uSrc (uVar 1)) (.name 2) (uTYes) (uCall F_is_hours_row (uCons (uVar 2) (uNil))) [2]))))
theorem j_is_weather : SU ⟨[], [], [], false, []⟩ (b_is_weather) (u_is_weather) := by
  unfold b_is_weather u_is_weather
  exact (us_seq (us_if (ut_or (ut_not (ut_truth (ue_m1 g_isi (uo_w (uo_val (ue_var (by decide))))))) (ut_not (ut_tb (ue_chain g_cmp g_cmp ue_c (ue_m1 g_len (uo_w (uo_val (ue_var (by decide))))) (ue_m2 g_ix (uo_val ue_c) (uo_w (uo_val (ue_bin g_sub (ue_m1 g_len (uo_w (uo_val (ue_m2 g_ix (uo_val (ue_var (by decide))) (uo_w (uo_val ue_c)))))) ue_c)))))))) (us_ret rfl ue_c) us_next)
    (us_ret rfl (ue_m1 g_all (uo_w (uo_new (ua_lc (X := []) (ui_src (ux_v (uo_val (ue_var (by decide))))) (by decide) (by decide) (by decide) ut_yes (ue_call k_is_hours_row (ua_cons (ue_var (by decide)) ua_nil))))))))
def F_is_weather : UF := uRunP false 2 3 u_is_weather
theorem k_is_weather : FP false p_is_weather F_is_weather := fp_of j_is_weather (by decide)
def u_is_house : US := uSeq (uSIf (uTOr (uTNot (uTst (u1 (gIsi .tup) (uVar 0)) gTruth)) (uTOr (uTB (u2 (gEq not) (u1 gLen (uVar 0)) (uC (.int 3)))) (uTNot (uTst (u1 (gIsi .tup) (u2 gIx (uVar 0) (uC (.int 0)))) gTruth)))) (uRet (uC (.bl false))) (uNext)) (uSeq (uSIf (uTOr (uTNot (uTB (uChain gLe gLe (uC (.int 1)) (u1 gLen (u2 gIx (uVar 0) (uC (.int 0)))) (uC (.int (2)))))) (uTNot (uTst (u1 gAll (uNew (uLc (uSrc (u2 gIx (uVar 0) (uC (.int 0)))) (.name 1) (uTYes) (uCall F_is_bay (uCons (uVar 1) (uNil))) [1]))) gTruth))) (uRet (uC (.bl false))) (uNext)) (uRet (uAnd (uCall F_is_among (uCons (u2 gIx (uVar 0) (uC (.int 1))) (uCons (uC (.int 0)) (uCons (uC (.int (2))) (uNil))))) (uCall F_is_among (uCons (u2 gIx (uVar 0) (uC (.int 2))) (uCons (uC (.int 0)) (uCons (uC (.int 1)) (uNil))))))))
theorem j_is_house : SU ⟨[], [], [], false, []⟩ (b_is_house) (u_is_house) := by
  unfold b_is_house u_is_house
  exact (us_seq (us_if (ut_or (ut_not (ut_truth (ue_m1 g_isi (uo_w (uo_val (ue_var (by decide))))))) (ut_or (ut_tb (ue_m2 g_eq (uo_val (ue_m1 g_len (uo_w (uo_val (ue_var (by decide)))))) (uo_w (uo_val ue_c)))) (ut_not (ut_truth (ue_m1 g_isi (uo_w (uo_val (ue_m2 g_ix (uo_val (ue_var (by decide))) (uo_w (uo_val ue_c)))))))))) (us_ret rfl ue_c) us_next)
    (us_seq (us_if (ut_or (ut_not (ut_tb (ue_chain g_cmp g_cmp ue_c (ue_m1 g_len (uo_w (uo_val (ue_m2 g_ix (uo_val (ue_var (by decide))) (uo_w (uo_val ue_c)))))) ue_c))) (ut_not (ut_truth (ue_m1 g_all (uo_w (uo_new (ua_lc (X := []) (ui_src (ux_v (uo_val (ue_m2 g_ix (uo_val (ue_var (by decide))) (uo_w (uo_val ue_c)))))) (by decide) (by decide) (by decide) ut_yes (ue_call k_is_bay (ua_cons (ue_var (by decide)) ua_nil))))))))) (us_ret rfl ue_c) us_next)
    (us_ret rfl (ue_and (ue_call k_is_among (ua_cons (ue_m2 g_ix (uo_val (ue_var (by decide))) (uo_w (uo_val ue_c))) (ua_cons ue_c (ua_cons ue_c ua_nil)))) (ue_call k_is_among (ua_cons (ue_m2 g_ix (uo_val (ue_var (by decide))) (uo_w (uo_val ue_c))) (ua_cons ue_c (ua_cons ue_c ua_nil))))))))
def F_is_house : UF := uRunP false 1 2 u_is_house
theorem k_is_house : FP false p_is_house F_is_house := fp_of j_is_house (by decide)
def u_is_case : US := uSeq (uSIf (uTOr (uTNot (uTst (u1 (gIsi .tup) (uVar 0)) gTruth)) (uTOr (uTB (u2 (gEq not) (u1 gLen (uVar 0)) (uC (.int 4)))) (uTNot (uTst (uCall F_is_house (uCons (u2 gIx (uVar 0) (uC (.int 0))) (uNil))) gTruth)))) (uRet (uC (.bl false))) (uNext)) (uSeq (uAsg (uVar 0) (.tup [.name 1, .name 2, .name 3, .name 4])) (uSeq (uSIf (uTOr (uTNot (uTst (uCall F_is_standing_of (uCons (uVar 1) (uCons (uVar 2) (uNil)))) gTruth)) (uTNot (uTst (uCall F_is_weather (uCons (uVar 1) (uCons (uVar 3) (uNil)))) gTruth))) (uRet (uC (.bl false))) (uNext)) (uRet (uCall F_is_row (uCons (uVar 4) (uCons (u2 gMul (uTup (uCons (uTup (uCons (uC (.int 0)) (uCons (uC (.int (4))) (uNil)))) (uNil))) (u1 gLen (u2 gIx (uVar 1) (uC (.int 0))))) (uNil)))))))
theorem j_is_case : SU ⟨[], [], [], false, []⟩ (b_is_case) (u_is_case) := by
  unfold b_is_case u_is_case
  exact (us_seq (us_if (ut_or (ut_not (ut_truth (ue_m1 g_isi (uo_w (uo_val (ue_var (by decide))))))) (ut_or (ut_tb (ue_m2 g_eq (uo_val (ue_m1 g_len (uo_w (uo_val (ue_var (by decide)))))) (uo_w (uo_val ue_c)))) (ut_not (ut_truth (ue_call k_is_house (ua_cons (ue_m2 g_ix (uo_val (ue_var (by decide))) (uo_w (uo_val ue_c))) ua_nil)))))) (us_ret rfl ue_c) us_next)
    (us_seq (us_asg (ue_var (by decide)) (by decide))
    (us_seq (us_if (ut_or (ut_not (ut_truth (ue_call k_is_standing_of (ua_cons (ue_var (by decide)) (ua_cons (ue_var (by decide)) ua_nil))))) (ut_not (ut_truth (ue_call k_is_weather (ua_cons (ue_var (by decide)) (ua_cons (ue_var (by decide)) ua_nil)))))) (us_ret rfl ue_c) us_next)
    (us_ret rfl (ue_call k_is_row (ua_cons (ue_var (by decide)) (ua_cons (ue_mat (ue_m2 g_mul (uo_val (ue_tup (ua_cons (ue_tup (ua_cons ue_c (ua_cons ue_c ua_nil))) ua_nil))) (uo_w (uo_val (ue_m1 g_len (uo_w (uo_val (ue_m2 g_ix (uo_val (ue_var (by decide))) (uo_w (uo_val ue_c)))))))))) ua_nil)))))))
def F_is_case : UF := uRunP false 1 5 u_is_case
theorem k_is_case : FP false p_is_case F_is_case := fp_of j_is_case (by decide)
end Gb

namespace Gb
open PySem L2
theorem fmod_b (x b : Int) (hb : 0 < b) : 0 ≤ x.fmod b ∧ x.fmod b < b := ⟨Int.fmod_nonneg_of_pos x hb, Int.fmod_lt_of_pos x hb⟩
theorem sm64 {i : Int} (h0 : 0 ≤ i) (h1 : i < 18446744073709551616) : small64 i = true := decide_eq_true (by omega)
theorem int_if {p : Prop} [Decidable p] {x y : Int} : (if p then D.int x else D.int y) = D.int (if p then x else y) := by split <;> rfl
def bayD (t g so he lo hi dr we ba sh : Int) : D := .tup [.tup [.int t, .int g, .int so, .int he], .tup [.int lo, .int hi, .int dr, .int we], .tup [.int ba, .int sh]]
def IsBay (b : D) : Prop := ∃ t g so he lo hi dr we ba sh : Int, b = bayD t g so he lo hi dr we ba sh ∧ (2 ≤ t ∧ t ≤ 6) ∧ (0 ≤ g ∧ g ≤ 3) ∧ (1 ≤ so ∧ so ≤ 4) ∧ (0 ≤ he ∧ he ≤ 4) ∧ (-20 ≤ lo ∧ lo ≤ hi ∧ hi ≤ 40 ∧ hi - lo ≤ 60) ∧ (0 ≤ dr ∧ dr ≤ we) ∧ (0 ≤ we ∧ we ≤ 9) ∧ (-20 ≤ ba ∧ ba ≤ 40) ∧ 0 ≤ sh ∧ sh ≤ 9
def houseD (bays : List D) (pw ap : Int) : D := .tup [.tup bays, .int pw, .int ap]
def oneD (w d z : Int) : D := .tup [.int w, .int d, .int z]
def IsOne (y : D) : Prop := ∃ w d z : Int, y = oneD w d z ∧ (-40 ≤ w ∧ w ≤ 60) ∧ (0 ≤ d ∧ d ≤ 9) ∧ 0 ≤ z ∧ z ≤ 4
end Gb

namespace Gb
open PySem L2
mutual
def D.dat : D → Bool
  | .tup xs => D.datL xs
  | .lst xs => D.datL xs
  | .ref _ => false
  | .fro _ => false
  | .dct _ _ => true
  | .map _ => false
  | .gl _ => false
  | _ => true
def D.datL : List D → Bool
  | [] => true
  | x :: xs => x.dat && D.datL xs
end
theorem datL_iff : ∀ {xs : List D}, D.datL xs = true ↔ ∀ x ∈ xs, x.dat = true
  | [] => by simp [D.datL]
  | x :: xs => by simp [D.datL, datL_iff (xs := xs)]
def wholeD : D → Bool := fun u => match u with | .int _ => true | _ => false
theorem e_whole {u : D} (hu : u.dat = true) : F_is_whole [u] = .ok (.bl (wholeD u)) := by
  unfold F_is_whole u_is_whole
  cases u <;> first | rfl | (simp [wholeD]; rfl) | (simp [D.dat] at hu)
def amongD (u : D) (lo hi : Int) : Bool := match u with | .int x => decide (lo ≤ x) && decide (x ≤ hi) | _ => false
theorem e_among {u : D} {lo hi : Int} (hu : u.dat = true) : F_is_among [u, .int lo, .int hi] = .ok (.bl (amongD u lo hi)) := by
  unfold F_is_among u_is_among
  simp [e_whole hu]
  cases u <;> simp [wholeD, amongD]
  rename_i i
  by_cases h : lo ≤ i <;> simp [h]
def bndD (p : Int × Int) : D := .tup [.int p.1, .int p.2]
def rowL (xs : List D) (bs : List (Int × Int)) : Bool := decide (xs.length = bs.length) && (List.zipWith (fun x (p : Int × Int) => amongD x p.1 p.2) xs bs).all id
def rowD (u : D) (bs : List (Int × Int)) : Bool := match u with | .tup xs => rowL xs bs | _ => false
theorem zip2_rows (xs : List D) (bs : List (Int × Int)) : zip2D xs (bs.map bndD) = List.zipWith (fun x p => D.tup [x, bndD p]) xs bs := by
  unfold zip2D
  rw [List.zipWith_map_right]
theorem e_row {u : D} {bs : List (Int × Int)} (hu : u.dat = true) (hb : bs.length ≤ 1000) : F_is_row [u, .tup (bs.map bndD)] = .ok (.bl (rowD u bs)) := by
  unfold F_is_row u_is_row
  cases u with
  | tup xs =>
    by_cases hl : xs.length = bs.length
    · have hl' : ((xs.length : Nat) : Int) = ((bs.length : Nat) : Int) := by rw [hl]
      have key := ulc_map (v := [some (.tup xs), some (.tup (bs.map bndD)), none, none, none]) (g := .tup [.name 2, .tup [.name 3, .name 4]]) (own := [2, 3, 4])
        (a := uCall F_is_among (uCons (uVar 2) (uCons (uVar 3) (uCons (uVar 4) uNil)))) (us := List.zipWith (fun x p => D.tup [x, bndD p]) xs bs)
        (fun d => match d with | .tup [x, .tup [.int lo, .int hi]] => .bl (amongD x lo hi) | _ => .non) (by simp; omega) (by
          intro d hd
          obtain ⟨x, p, hx, _, rfl⟩ := mem_zipWith hd
          have hx' : x.dat = true := datL_iff.mp hu x hx
          refine ⟨_, by simp [bndD]; rfl, ?_, rfl⟩
          simp [e_among hx', bndD])
      have e2 : (List.zipWith (fun x p => D.tup [x, bndD p]) xs bs).map (fun d => match d with | .tup [x, .tup [.int lo, .int hi]] => D.bl (amongD x lo hi) | _ => .non) = (List.zipWith (fun x (p : Int × Int) => amongD x p.1 p.2) xs bs).map D.bl := by
        rw [List.map_zipWith, List.map_zipWith]
        rfl
      rw [e2] at key
      simp [hl', zip2_rows, key, rowD, rowL, hl, -List.map_zipWith]
    · have hl' : ¬ ((xs.length : Nat) : Int) = ((bs.length : Nat) : Int) := by omega
      simp [hl', rowD, rowL, hl]
  | non => rfl
  | bl b => rfl
  | int b => rfl
  | str b => rfl
  | lst b => rfl
  | dct a b => rfl
  | _ => simp [D.dat] at hu
theorem e_row4 {u : D} {a b c d e f g h : Int} (hu : u.dat = true) : F_is_row [u, .tup [.tup [.int a, .int b], .tup [.int c, .int d], .tup [.int e, .int f], .tup [.int g, .int h]]] = .ok (.bl (rowD u [(a, b), (c, d), (e, f), (g, h)])) :=
  e_row (bs := [(a, b), (c, d), (e, f), (g, h)]) hu (by simp)
theorem e_row3 {u : D} {a b c d e f : Int} (hu : u.dat = true) : F_is_row [u, .tup [.tup [.int a, .int b], .tup [.int c, .int d], .tup [.int e, .int f]]] = .ok (.bl (rowD u [(a, b), (c, d), (e, f)])) :=
  e_row (bs := [(a, b), (c, d), (e, f)]) hu (by simp)
theorem e_row2 {u : D} {a b c d : Int} (hu : u.dat = true) : F_is_row [u, .tup [.tup [.int a, .int b], .tup [.int c, .int d]]] = .ok (.bl (rowD u [(a, b), (c, d)])) :=
  e_row (bs := [(a, b), (c, d)]) hu (by simp)
theorem row_len {u : D} {bs : List (Int × Int)} (h : rowD u bs = true) : ∃ ns : List Int, u = .tup (ns.map D.int) ∧ ns.length = bs.length ∧ List.zipWith (fun x (p : Int × Int) => decide (p.1 ≤ x) && decide (x ≤ p.2)) ns bs = List.replicate bs.length true := by
  cases u with
  | tup xs =>
    simp only [rowD, rowL, Bool.and_eq_true, decide_eq_true_eq] at h
    obtain ⟨hl, ha⟩ := h
    have key : ∀ (xs : List D) (bs : List (Int × Int)), xs.length = bs.length → (List.zipWith (fun x (p : Int × Int) => amongD x p.1 p.2) xs bs).all id = true → ∃ ns : List Int, xs = ns.map D.int ∧ ns.length = bs.length ∧ List.zipWith (fun x (p : Int × Int) => decide (p.1 ≤ x) && decide (x ≤ p.2)) ns bs = List.replicate bs.length true := by
      intro xs
      induction xs with
      | nil => intro bs hl _; cases bs with
        | nil => exact ⟨[], rfl, rfl, rfl⟩
        | cons _ _ => simp at hl
      | cons x xs ih =>
        intro bs hl ha
        cases bs with
        | nil => simp at hl
        | cons p bs =>
          simp only [List.zipWith_cons_cons, List.all_cons, Bool.and_eq_true, id] at ha
          obtain ⟨ns, rfl, e2, e3⟩ := ih bs (by simpa using hl) ha.2
          cases x with
          | int i => exact ⟨i :: ns, rfl, by simp [e2], by rw [List.zipWith_cons_cons, e3, show (decide (p.1 ≤ i) && decide (i ≤ p.2)) = true from ha.1]; rfl⟩
          | _ => simp [amongD] at ha
    obtain ⟨ns, e1, e2⟩ := key xs bs hl ha
    exact ⟨ns, by rw [e1], e2⟩
  | _ => simp [rowD] at h
def needsB (u : D) : Bool := rowD u [(-20, 40), (-20, 40), (0, 9), (0, 9)] && match u with
  | .tup [.int a, .int b, .int c, .int d] => decide (a ≤ b) && decide (c ≤ d)
  | _ => false
theorem e_needs {u : D} (hu : u.dat = true) : F_is_needs [u] = .ok (.bl (needsB u)) := by
  unfold F_is_needs u_is_needs needsB
  simp [e_row4 hu]
  cases h : rowD u [(-20, 40), (-20, 40), (0, 9), (0, 9)] with
  | false => simp
  | true =>
    obtain ⟨ns, rfl, hl, _⟩ := row_len h
    match ns, hl with
    | [a, b, c, d], _ =>
      by_cases h1 : a ≤ b <;> simp [h1]
def bayB (u : D) : Bool := match u with
  | .tup [w, n, p] => rowD w [(2, 6), (0, 3), (1, 4), (0, 4)] && needsB n && rowD p [(-20, 40), (0, 9)]
  | _ => false
theorem e_bay {u : D} (hu : u.dat = true) : F_is_bay [u] = .ok (.bl (bayB u)) := by
  unfold F_is_bay u_is_bay
  cases u with
  | tup xs =>
    match xs, hu with
    | [], _ => simp [bayB]
    | [_], _ => simp [bayB]
    | [_, _], _ => simp [bayB]
    | [w, n, p], hu =>
      simp only [D.dat, D.datL, Bool.and_eq_true] at hu
      obtain ⟨h1, h2, h3, _⟩ := hu
      cases h : rowD w [(2, 6), (0, 3), (1, 4), (0, 4)] <;> cases hn : needsB n <;> simp [bayB, e_row4 h1, h, e_needs h2, hn, e_row2 h3]
    | _ :: _ :: _ :: _ :: xs, _ =>
      have : ¬ ((xs.length : Int) + 1 + 1 + 1 + 1 = 3) := by omega
      simp [bayB, this]
  | non => rfl
  | bl b => rfl
  | int b => rfl
  | str b => rfl
  | lst b => rfl
  | dct a b => rfl
  | _ => simp [D.dat] at hu
def houseB (u : D) : Bool := match u with
  | .tup [.tup bays, p, a] => decide (1 ≤ bays.length) && decide (bays.length ≤ 2) && bays.all bayB && amongD p 0 2 && amongD a 0 1
  | _ => false
theorem e_house {u : D} (hu : u.dat = true) : F_is_house [u] = .ok (.bl (houseB u)) := by
  unfold F_is_house u_is_house
  cases u with
  | tup xs =>
    match xs, hu with
    | [], _ => simp [houseB]
    | [_], _ => simp [houseB]
    | [_, _], _ => simp [houseB]
    | [b, p, a], hu =>
      simp only [D.dat, D.datL, Bool.and_eq_true] at hu
      obtain ⟨h1, h2, h3, _⟩ := hu
      cases b with
      | tup bays =>
        by_cases c1 : 1 ≤ bays.length <;> by_cases c2 : bays.length ≤ 2
        · have c1' : (1 : Int) ≤ bays.length := by omega
          have c2' : (bays.length : Int) ≤ 2 := by omega
          have key := ulc_map (v := [some (.tup [.tup bays, p, a]), none]) (g := .name 1) (own := [1]) (a := uCall F_is_bay (uCons (uVar 1) uNil)) (us := bays) (fun d => .bl (bayB d)) (by omega) (by
            intro d hd
            have hd' : d.dat = true := datL_iff.mp h1 d hd
            exact ⟨_, tg_name, by simp [e_bay hd'], rfl⟩)
          cases h : bays.all bayB <;> simp [c1', c2', key, houseB, c1, c2, h, e_among h2, e_among h3]
          cases amongD p 0 2 <;> simp
        · have c2' : ¬ (bays.length : Int) ≤ 2 := by omega
          have c1' : (1 : Int) ≤ bays.length := by omega
          simp [c1', c2', houseB, c1, c2]
        · have c1' : ¬ (1 : Int) ≤ bays.length := by omega
          simp [c1', houseB, c1, c2]
        · have c1' : ¬ (1 : Int) ≤ bays.length := by omega
          simp [c1', houseB, c1, c2]
      | _ => first | (simp [houseB]; done) | (simp [D.dat] at h1; done)
    | _ :: _ :: _ :: _ :: xs, _ =>
      have : ¬ ((xs.length : Int) + 1 + 1 + 1 + 1 = 3) := by omega
      simp [houseB, this]
  | non => rfl
  | bl b => rfl
  | int b => rfl
  | str b => rfl
  | lst b => rfl
  | dct a b => rfl
  | _ => simp [D.dat] at hu
end Gb

namespace Gb
open PySem L2
def standB (bays : List D) (u : D) : Bool := match u with
  | .tup xs => decide (xs.length = bays.length) && xs.all fun x => rowD x [(-40, 60), (0, 9), (0, 4)]
  | _ => false
theorem e_stand {bays : List D} {p a u : D} (hu : u.dat = true) (hl : bays.length ≤ 1000) : F_is_standing_of [.tup [.tup bays, p, a], u] = .ok (.bl (standB bays u)) := by
  unfold F_is_standing_of u_is_standing_of
  cases u with
  | tup xs =>
    by_cases c : xs.length = bays.length
    · have c' : ((xs.length : Nat) : Int) = ((bays.length : Nat) : Int) := by rw [c]
      have key := ulc_map (v := [some (.tup [.tup bays, p, a]), some (.tup xs), none]) (g := .name 2) (own := [2]) (a := uCall F_is_row (uCons (uVar 2) (uCons (uTup (uCons (uTup (uCons (uC (.int (-40))) (uCons (uC (.int (60))) (uNil)))) (uCons (uTup (uCons (uC (.int 0)) (uCons (uC (.int (9))) (uNil)))) (uCons (uTup (uCons (uC (.int 0)) (uCons (uC (.int (4))) (uNil)))) (uNil))))) (uNil)))) (us := xs)
        (fun d => .bl (rowD d [(-40, 60), (0, 9), (0, 4)])) (by omega) (by
        intro d hd
        have hd' : d.dat = true := datL_iff.mp hu d hd
        exact ⟨_, tg_name, by simp [e_row3 hd'], rfl⟩)
      simp [c', c, key, standB]
    · have c' : ¬ ((xs.length : Nat) : Int) = ((bays.length : Nat) : Int) := by omega
      simp [c', c, standB]
  | non => rfl
  | bl b => rfl
  | int b => rfl
  | str b => rfl
  | lst b => rfl
  | dct a b => rfl
  | _ => simp [D.dat] at hu
theorem rep_one {α : Type} {x : α} : ∀ n : Nat, (List.replicate n [x]).flatten = List.replicate n x
  | 0 => rfl
  | n + 1 => by rw [List.replicate_succ, List.flatten_cons, rep_one n, List.replicate_succ]; rfl
theorem zip_rows {α β γ : Type} {f : α → β → γ} {y : β} : ∀ (xs : List α), List.zipWith f xs (List.replicate xs.length y) = xs.map fun x => f x y
  | [] => rfl
  | x :: xs => by rw [List.length_cons, List.replicate_succ, List.zipWith_cons_cons, zip_rows xs, List.map_cons]
end Gb

namespace Gb
open PySem L2
theorem bay_good {b : D} (h : IsBay b) : bayB b = true ∧ b.dat = true := by
  obtain ⟨t, g, so, he, lo, hi, dr, we, ba, sh, rfl, h⟩ := h
  constructor
  · simp [bayD, bayB, rowD, rowL, amongD, needsB]
    omega
  · rfl
theorem all_dat {xs : List D} (h : ∀ x ∈ xs, x.dat = true) : D.datL xs = true := datL_iff.mpr h
section
variable {bays : List D} {pw ap : Int}
theorem house_dat (hb : ∀ b ∈ bays, IsBay b) : (houseD bays pw ap).dat = true := by
  simp [houseD, D.dat, D.datL, all_dat fun b m => (bay_good (hb b m)).2]
theorem house_good (hn : 1 ≤ bays.length ∧ bays.length ≤ 2) (hb : ∀ b ∈ bays, IsBay b) (h1 : 0 ≤ pw ∧ pw ≤ 2) (h2 : 0 ≤ ap ∧ ap ≤ 1) : houseB (houseD bays pw ap) = true := by
  have : bays.all bayB = true := List.all_eq_true.mpr fun b m => (bay_good (hb b m)).1
  simp [houseD, houseB, amongD, this, hn, h1, h2]
end
structure Hs (bays : List D) (pw ap : Int) : Prop where
  n : 1 ≤ bays.length ∧ bays.length ≤ 2
  b : ∀ b ∈ bays, IsBay b
  p : 0 ≤ pw ∧ pw ≤ 2
  a : 0 ≤ ap ∧ ap ≤ 1
structure Ys (bays ys : List D) : Prop where
  y : ∀ y ∈ ys, IsOne y
  l : ys.length = bays.length
section
variable {bays ys : List D} {pw ap c l : Int} {ns : List Int}
theorem ones_dat (hy : ∀ y ∈ ys, IsOne y) : (D.tup ys).dat = true := all_dat fun y m => by obtain ⟨w, d, z, rfl, _⟩ := hy y m; rfl
theorem ones_stand (hy : ∀ y ∈ ys, IsOne y) (hl : ys.length = bays.length) : standB bays (.tup ys) = true := by
  have : (ys.all fun x => rowD x [(-40, 60), (0, 9), (0, 4)]) = true := List.all_eq_true.mpr fun y m => by
    obtain ⟨w, d, z, rfl, h⟩ := hy y m
    simp [oneD, rowD, rowL, amongD]
    omega
  simp [standB, hl, this]
end
end Gb

namespace Gb
open PySem L2
def hourB (u : D) : Bool := rowD u [(-30, 50), (-30, 50), (0, 9), (0, 9)] && match u with
  | .tup [.int a, .int b, .int c, .int d] => decide (a ≤ b) && decide (b ≤ a + 3) && (decide (c ≤ d) && decide (d ≤ c + 1))
  | _ => false
theorem e_hour {u : D} (hu : u.dat = true) : F_is_hours_row [u] = .ok (.bl (hourB u)) := by
  unfold F_is_hours_row u_is_hours_row hourB
  simp [e_row4 hu]
  cases h : rowD u [(-30, 50), (-30, 50), (0, 9), (0, 9)] with
  | false => simp
  | true =>
    obtain ⟨ns, rfl, hl, _⟩ := row_len h
    match ns, hl with
    | [a, b, c, d], _ =>
      by_cases h1 : a ≤ b <;> by_cases h2 : b ≤ a + 3 <;> by_cases h3 : c ≤ d <;> simp [h1, h2, h3]
def weatherB (n : Nat) (u : D) : Bool := match u with
  | .tup xs => decide (1 ≤ xs.length) && decide (xs.length ≤ 5 - n) && xs.all hourB
  | _ => false
theorem e_weather {bays : List D} {p a u : D} (hu : u.dat = true) (hn : 1 ≤ bays.length ∧ bays.length ≤ 2) : F_is_weather [.tup [.tup bays, p, a], u] = .ok (.bl (weatherB bays.length u)) := by
  unfold F_is_weather u_is_weather
  have hm : atI [D.int 4, D.int 3] ((bays.length : Int) - 1) = some (.int ((5 - bays.length : Nat) : Int)) := by
    rcases (by omega : bays.length = 1 ∨ bays.length = 2) with h | h <;> rw [h] <;> rfl
  cases u with
  | tup xs =>
    by_cases c1 : 1 ≤ xs.length
    · have c1' : (1 : Int) ≤ xs.length := by omega
      by_cases c2 : xs.length ≤ 5 - bays.length
      · have c2' : (xs.length : Int) ≤ ((5 - bays.length : Nat) : Int) := by omega
        have key := ulc_map (v := [some (.tup [.tup bays, p, a]), some (.tup xs), none]) (g := .name 2) (own := [2]) (a := uCall F_is_hours_row (uCons (uVar 2) (uNil))) (us := xs)
          (fun d => .bl (hourB d)) (by omega) (by
          intro d hd
          have hd' : d.dat = true := datL_iff.mp hu d hd
          exact ⟨_, tg_name, by simp [e_hour hd'], rfl⟩)
        simp [c1', c2', c1, c2, key, weatherB, hm]
      · have c2' : ¬ (xs.length : Int) ≤ ((5 - bays.length : Nat) : Int) := by omega
        simp [c1', c2', c1, c2, weatherB, hm]
    · have c1' : ¬ (1 : Int) ≤ xs.length := by omega
      simp [c1', c1, weatherB, hm]
  | non => rfl
  | bl b => rfl
  | int b => rfl
  | str b => rfl
  | lst b => rfl
  | dct a b => rfl
  | _ => simp [D.dat] at hu
def caseB (u : D) : Bool := match u with
  | .tup [h, s, w, z] => houseB h && match h with
    | .tup [.tup bays, _, _] => standB bays s && weatherB bays.length w && rowD z (List.replicate bays.length (0, 4))
    | _ => false
  | _ => false
theorem house_shape {u : D} (h : houseB u = true) : ∃ bays p a, u = .tup [.tup bays, p, a] ∧ 1 ≤ bays.length ∧ bays.length ≤ 2 := by
  unfold houseB at h
  split at h
  · simp only [Bool.and_eq_true, decide_eq_true_eq] at h
    exact ⟨_, _, _, rfl, h.1.1.1.1, h.1.1.1.2⟩
  · cases h
theorem e_case {u : D} (hu : u.dat = true) : F_is_case [u] = .ok (.bl (caseB u)) := by
  unfold F_is_case u_is_case
  cases u with
  | tup xs =>
    match xs, hu with
    | [], _ => simp [caseB]
    | [_], _ => simp [caseB]
    | [_, _], _ => simp [caseB]
    | [_, _, _], _ => simp [caseB]
    | [h, s, w, z], hu =>
      simp only [D.dat, D.datL, Bool.and_eq_true] at hu
      obtain ⟨h1, h2, h3, h4, _⟩ := hu
      cases hh : houseB h with
      | false => simp [caseB, e_house h1, hh]
      | true =>
        obtain ⟨bays, p, a, rfl, hn⟩ := house_shape hh
        have es := e_stand (bays := bays) (p := p) (a := a) h2 (by omega)
        have ew := e_weather (bays := bays) (p := p) (a := a) h3 hn
        have c1 : (-1000 : Int) ≤ bays.length ∧ (bays.length : Int) ≤ 1000 := by omega
        have e0 := e_row (u := z) (bs := List.replicate bays.length (0, 4)) h4 (by simp; omega)
        rw [List.map_replicate] at e0
        have e1 : bndD (0, 4) = .tup [.int 0, .int 4] := rfl
        rw [e1] at e0
        cases hs : standB bays s <;> cases hw : weatherB bays.length w <;> simp [caseB, e_house h1, hh, es, ew, hs, hw, c1, rep_one, e0]
    | _ :: _ :: _ :: _ :: _ :: xs, _ =>
      have : ¬ ((xs.length : Int) + 1 + 1 + 1 + 1 + 1 = 4) := by omega
      simp [caseB, this]
  | non => rfl
  | bl b => rfl
  | int b => rfl
  | str b => rfl
  | lst b => rfl
  | dct a b => rfl
  | _ => simp [D.dat] at hu
def IsHour (u : D) : Prop := ∃ a b c d : Int, u = .tup [.int a, .int b, .int c, .int d] ∧ (-30 ≤ a ∧ a ≤ b ∧ b ≤ 50 ∧ b ≤ a + 3) ∧ (0 ≤ c ∧ c ≤ d ∧ d ≤ 9 ∧ d ≤ c + 1)
theorem hour_good {u : D} (h : IsHour u) : hourB u = true ∧ u.dat = true := by
  obtain ⟨a, b, c, d, rfl, h⟩ := h
  constructor
  · simp [hourB, rowD, rowL, amongD]
    omega
  · rfl
def caseD (bays : List D) (pw ap : Int) (ys hs : List D) (ws : List Int) : D := .tup [houseD bays pw ap, .tup ys, .tup hs, .tup (ws.map D.int)]
structure Cs (bays : List D) (pw ap : Int) (ys hs : List D) (ws : List Int) : Prop where
  H : Hs bays pw ap
  Y : Ys bays ys
  h : ∀ h ∈ hs, IsHour h
  hl : 1 ≤ hs.length ∧ hs.length ≤ 5 - bays.length
  w : ∀ w ∈ ws, 0 ≤ w ∧ w ≤ 4
  wl : ws.length = bays.length
section
variable {bays ys hs : List D} {pw ap : Int} {ws : List Int}
theorem ints_dat {ns : List Int} : D.datL (ns.map D.int) = true := all_dat fun y m => by obtain ⟨i, _, rfl⟩ := List.mem_map.mp m; rfl
theorem row_rep {n : Nat} {lo hi : Int} {ns : List Int} (hl : ns.length = n) (h : ∀ x ∈ ns, lo ≤ x ∧ x ≤ hi) : rowD (.tup (ns.map D.int)) (List.replicate n (lo, hi)) = true := by
  subst hl
  simp only [rowD, rowL, List.length_map, List.length_replicate, decide_true, Bool.true_and]
  rw [show ns.length = (ns.map D.int).length by simp, zip_rows, List.map_map, List.all_map]
  exact List.all_eq_true.mpr fun x m => by simp [amongD, h x m]
theorem case_dat (C : Cs bays pw ap ys hs ws) : (caseD bays pw ap ys hs ws).dat = true := by
  have h1 := house_dat (pw := pw) (ap := ap) C.H.b
  have h2 := ones_dat C.Y.y
  have h3 : (D.tup hs).dat = true := all_dat fun h m => (hour_good (C.h h m)).2
  simp [caseD, D.dat, D.datL, h1, ints_dat]
  exact ⟨h2, h3⟩
theorem case_good (C : Cs bays pw ap ys hs ws) : caseB (caseD bays pw ap ys hs ws) = true := by
  have h1 := house_good C.H.n C.H.b C.H.p C.H.a
  have h2 := ones_stand C.Y.y C.Y.l
  have h3 : hs.all hourB = true := List.all_eq_true.mpr fun h m => (hour_good (C.h h m)).1
  have h4 := row_rep C.wl C.w
  simp only [houseD] at h1
  simp [caseD, caseB, houseD, h1, h2, weatherB, C.hl, h3, h4]
end
end Gb

namespace Gb
open PySem L2 PySem.W PyProof.Rows TL
abbrev txtI (i : Int) : Str := Str.ofString (toString i)
def figL (x : List Nat) : List Nat := if x.take 1 = [45] then x.drop 1 else x
def figB (c : Nat) : Bool := decide (c ∈ ("0123456789" : Str).cps.toList)
def isFig (x : List Nat) : Bool := !(figL x).isEmpty && (figL x).all figB
def numF (x : Str) : Option Int := if isFig (TL.tl x) = true then (match PySem.intText? x with
  | some n => if txtI n = x then some n else none
  | none => none) else none
def numD : Option Int → D
  | some i => .int i
  | none => .non
theorem figB_iff {c : Nat} : figB c = true ↔ 48 ≤ c ∧ c ≤ 57 := by
  have e : ("0123456789" : Str).cps.toList = [48, 49, 50, 51, 52, 53, 54, 55, 56, 57] := by decide +kernel
  unfold figB
  rw [e]
  simp only [List.mem_cons, List.not_mem_nil, or_false, decide_eq_true_eq]
  omega
theorem dv_lt : ∀ (cs : List Nat) (a : Nat), (∀ c ∈ cs, 48 ≤ c ∧ c ≤ 57) → cs.foldl (fun acc c => acc * 10 + (c - 48)) a < (a + 1) * 10 ^ cs.length
  | [], a, _ => by simp
  | c :: cs, a, h => by
    have h1 := h c (List.mem_cons_self ..)
    have h2 := dv_lt cs (a * 10 + (c - 48)) fun d m => h d (List.mem_cons_of_mem _ m)
    simp only [List.foldl_cons, List.length_cons]
    have h3 : (a * 10 + (c - 48) + 1) * 10 ^ cs.length ≤ ((a + 1) * 10) * 10 ^ cs.length := Nat.mul_le_mul_right _ (by omega)
    have e : (a + 1) * 10 ^ (cs.length + 1) = ((a + 1) * 10) * 10 ^ cs.length := by rw [Nat.pow_succ, Nat.mul_comm (10 ^ cs.length) 10, Nat.mul_assoc]
    rw [e]
    exact Nat.lt_of_lt_of_le h2 h3
theorem dv_small {cs : List Nat} (h : ∀ c ∈ cs, 48 ≤ c ∧ c ≤ 57) (hl : cs.length ≤ 17) : PySem.NumText.digitsVal cs < 10 ^ 17 := by
  have := dv_lt cs 0 h
  have h2 : 10 ^ cs.length ≤ 10 ^ 17 := Nat.pow_le_pow_right (by decide) hl
  unfold PySem.NumText.digitsVal
  omega
theorem fig_int {x : Str} (h : isFig (TL.tl x) = true) (hl : x.length ≤ 17) : ∃ n, PySem.intText? x = some n ∧ small60 n = true := by
  have hlen : (TL.tl x).length = x.length := (len_tl x).symm
  unfold isFig figL at h
  simp only [Bool.and_eq_true, Bool.not_eq_true', List.isEmpty_eq_false_iff, List.all_eq_true] at h
  split at h
  · rename_i c
    obtain ⟨h1, h2⟩ := h
    obtain ⟨cs, e⟩ : ∃ cs, TL.tl x = 45 :: cs := by
      cases e : TL.tl x with
      | nil => rw [e] at c; cases c
      | cons a cs => rw [e] at c; simp at c; exact ⟨cs, by rw [c]⟩
    rw [e] at h1 h2 hlen
    simp only [List.drop_succ_cons, List.drop_zero] at h1 h2
    have h3 : ∀ c ∈ cs, 48 ≤ c ∧ c ≤ 57 := fun c m => figB_iff.mp (h2 c m)
    refine ⟨_, PySem.intText_neg e h3 h1 (by omega), ?_⟩
    have := dv_small h3 (by rw [List.length_cons] at hlen; omega)
    unfold small60
    simp only [Bool.and_eq_true, decide_eq_true_eq]
    omega
  · obtain ⟨h1, h2⟩ := h
    have h3 : ∀ c ∈ TL.tl x, 48 ≤ c ∧ c ≤ 57 := fun c m => figB_iff.mp (h2 c m)
    refine ⟨_, PySem.intText_digits h3 h1 (by omega), ?_⟩
    have : PySem.NumText.digitsVal x.cps.toList < 10 ^ 17 := dv_small h3 (by show (TL.tl x).length ≤ 17; omega)
    unfold small60
    simp only [Bool.and_eq_true, decide_eq_true_eq]
    omega
end Gb

namespace Gb
open PySem L2 PySem.W PyProof.Rows TL
theorem flt_true {α : Type} {l : List α} : l.filter (fun _ => true) = l := List.filter_eq_self.mpr fun _ _ => rfl
theorem toPy_str {h : PHeap} {n : Nat} {i : Str} : toPy h (n + 1) (.str i) = some (.str i) := by rw [toPy]
theorem feq_str {k : Bool → Bool} {x y : Str} {h : PHeap} : fEqO k (.val (.str x)) (.val (.str y)) h = .ok (.bl (k (decide (x = y)))) h := by
  have e : ∀ z : Str, (LV.val (.str z)).py h = some (.str z) := fun z => show toPy h (59 + 1) (.str z) = _ from toPy_str
  simp only [fEqO, e, PyData.eqv]
  congr 3
theorem bls_of : ∀ (bs : List Bool), bools (bs.map D.bl) = some bs
  | [] => rfl
  | b :: bs => by simp only [List.map_cons, bools, bls_of bs]; rfl
theorem cut1_tl (x : Str) : TL.tl (cutS x (some 1) none) = (TL.tl x).drop 1 := by
  have hl := len_tl x
  show ((TL.tl x).drop (HT.sIx x.length 0 (some 1))).take (x.length - HT.sIx x.length 0 (some 1)) = (TL.tl x).drop 1
  have e : HT.sIx x.length 0 (some 1) = min 1 x.length := HT.sIx_nat x.length 0 1
  rw [e, hl]
  rcases Nat.eq_zero_or_pos (TL.tl x).length with z | z
  · have := List.eq_nil_of_length_eq_zero z
    simp [this]
  · rw [Nat.min_eq_left z, List.take_of_length_le (by simp)]
theorem cut0_tl (x : Str) : TL.tl (cutS x none (some 1)) = (TL.tl x).take 1 := by
  have hl := len_tl x
  show ((TL.tl x).drop 0).take (HT.sIx x.length x.length (some 1) - 0) = (TL.tl x).take 1
  have e : HT.sIx x.length x.length (some 1) = min 1 x.length := HT.sIx_nat x.length x.length 1
  rw [e, hl, List.drop_zero, Nat.sub_zero]
  rcases Nat.eq_zero_or_pos (TL.tl x).length with z | z
  · have := List.eq_nil_of_length_eq_zero z
    simp [this]
  · rw [Nat.min_eq_left z]
theorem str_tl {x y : Str} : x = y ↔ TL.tl x = TL.tl y := ⟨fun e => e ▸ rfl, fun e => ext_tl e⟩
theorem cut0_dash (x : Str) : (cutS x none (some 1) = ("-" : Str)) ↔ (TL.tl x).take 1 = [45] := by
  rw [str_tl, cut0_tl]
  rfl
theorem fsig {x : Str} {e : PEnv} {h : PHeap} {i : Nat} (ex : mVar i e h = .ok (.str x) h) : iTxt (mVar i) e h = .ok ⟨signsD x, []⟩ h := by
  unfold iTxt
  rw [ex]
  rfl
def sgB (d : D) : D := match d with
  | .str x => match x.cps.toList with
    | [c] => .bl (figB c)
    | _ => .non
  | _ => .non
theorem signs_bl (y : Str) : (signsD y).map sgB = ((TL.tl y).map figB).map D.bl := by
  unfold signsD
  rw [List.map_map, List.map_map]
  rfl
theorem all_figs {x y : Str} {h : PHeap} (hy : y.length ≤ 17) : (mTst (m1 fAll (mNL (mLc (iTxt (mVar 1)) (.name 2) (tYesM) (mBin (fSignIn id) (mVar 2) (mC (.str ("0123456789" : Str)))) [2]))) truthD) [some (.str x), some (.str y), none] h = .ok ((TL.tl y).all figB) h := by
  have hl := len_tl y
  have e1 : mLc (iTxt (mVar 1)) (.name 2) (tYesM) (mBin (fSignIn id) (mVar 2) (mC (.str ("0123456789" : Str)))) [2] [some (.str x), some (.str y), none] h = .ok ((signsD y).map sgB) h := by
    rw [s_lc, fsig (by rfl)]
    have := lc_pure (env := wipeE [some (.str x), some (.str y), none] [2]) (h := h) (g := .name 2) (t := tYesM) (a := mBin (fSignIn id) (mVar 2) (mC (.str ("0123456789" : Str)))) (t' := ⟨signsD y, []⟩) (p := fun _ => true) (f := sgB)
      (by show (signsD y).length ≤ _; unfold signsD; rw [List.length_map]; show (TL.tl y).length ≤ _; omega) rfl (by
        intro d hd
        obtain ⟨c, hc, rfl⟩ := List.mem_map.mp hd
        exact ⟨_, tg_name, rfl, fun _ => rfl⟩)
    rw [flt_true] at this
    exact this
  show Res.bind _ _ = _
  simp only [s_m1, s_nl, e1, Res.bind_ok]
  simp only [fAll, it_new, signs_bl, bls_of, Res.bind_ok, tr_bl]
  congr 1
  rw [List.all_map]
  rfl
theorem num_in {x : Str} (hl : x.length ≤ 17) (h : PHeap) : p_number_in [.str x] h = .ok (numD (numF x)) h := by
  have hx : x.length ≤ 16777216 := by omega
  have e0 : mSlS (mVar 0) pNone (pSome (mC (.int 1))) [some (.str x), none, none] h = .ok (.str (cutS x none (some 1))) h := by
    simp [mSlS, fSlS, hx]
  have e1 : mSlS (mVar 0) (pSome (mC (.int 1))) pNone [some (.str x), none, none] h = .ok (.str (cutS x (some 1) none)) h := by
    simp [mSlS, fSlS, hx]
  obtain ⟨y, ey, ly, e2⟩ : ∃ y : Str, TL.tl y = figL (TL.tl x) ∧ y.length ≤ 17 ∧ (mIf (mTB (m2 (fEqO id) (mVal (mSlS (mVar 0) (pNone) (pSome (mC (.int 1))))) (mVal (mC (.str ("-" : Str)))))) (mSlS (mVar 0) (pSome (mC (.int 1))) (pNone)) (mVar 0)) [some (.str x), none, none] h = .ok (.str y) h := by
    by_cases c : (TL.tl x).take 1 = [45]
    · refine ⟨cutS x (some 1) none, ?_, Nat.le_trans (cutS_length ..) hl, ?_⟩
      · rw [cut1_tl, figL, if_pos c]
      · simp only [s_if, s_tb, s_m2, s_val, e0, s_c, Res.bind_ok, feq_str, s_tbD, (cut0_dash x).mpr c, decide_true, id, pick_t, e1]
    · refine ⟨x, ?_, hl, ?_⟩
      · rw [figL, if_neg c]
      · have : ¬ cutS x none (some 1) = ("-" : Str) := fun z => c ((cut0_dash x).mp z)
        simp only [s_if, s_tb, s_m2, s_val, e0, s_c, Res.bind_ok, feq_str, s_tbD, this, decide_false, id, pick_f, s_var0]
  have f0 : (sAsg (mIf (mTB (m2 (fEqO id) (mVal (mSlS (mVar 0) (pNone) (pSome (mC (.int 1))))) (mVal (mC (.str ("-" : Str)))))) (mSlS (mVar 0) (pSome (mC (.int 1))) (pNone)) (mVar 0)) (.name 1)) [some (.str x), none, none] h = .nx [some (.str x), some (.str y), none] h := by
    rw [s_asg, e2]
    rfl
  have f1 : tOrM (mTB (m2 (fEqO id) (mVal (mVar 1)) (mVal (mC (.str ("" : Str)))))) (tNotM (mTst (m1 fAll (mNL (mLc (iTxt (mVar 1)) (.name 2) (tYesM) (mBin (fSignIn id) (mVar 2) (mC (.str ("0123456789" : Str)))) [2]))) truthD)) [some (.str x), some (.str y), none] h = .ok (!(isFig (TL.tl x))) h := by
    have e3 : (y = ("" : Str)) ↔ TL.tl y = [] := by rw [str_tl]; rfl
    rw [s_or]
    simp only [s_not, all_figs ly, s_tb, s_m2, s_val, s_varS, s_var0, s_c, Res.bind_ok, feq_str, s_tbD, id]
    unfold isFig
    rw [← ey]
    by_cases c : TL.tl y = []
    · have ey' : decide (y = ("" : Str)) = true := decide_eq_true (e3.mpr c)
      rw [ey', c]
      rfl
    · have : ¬ y = ("" : Str) := fun z => c (e3.mp z)
      simp [this, List.isEmpty_eq_false_iff.mpr c]
  unfold p_number_in
  rw [s_fn (by rfl)]
  show retO _ (b_number_in [some (.str x), none, none] h) = _
  unfold b_number_in
  rw [s_seq, f0, thn_nx, s_seq, s_sif, f1]
  cases hf : isFig (TL.tl x) with
  | false =>
    have : numF x = none := by simp [numF, hf]
    rw [this]
    show Res.ok _ (gc h.length .non h) = _
    rw [gc_self]
    rfl
  | true =>
    obtain ⟨n, en, sn⟩ := fig_int hf hl
    have e4 : m1 fIntS (mVal (mVar 0)) [some (.str x), some (.str y), none] h = .ok (.int n) h := by
      have : x.length ≤ 640 := by omega
      simp [fIntS, en, this]
    have e5 : numF x = if txtI n = x then some n else none := by simp [numF, hf, en]
    rw [e5]
    show retO _ (sRet _ [some (.str x), some (.str y), none] h) = _
    simp only [s_ret, s_if, s_tb, s_m2, s_val, s_un, e4, Res.bind_ok, fStrI, sn, if_true, s_var0, feq_str, s_tbD, id]
    by_cases c : txtI n = x
    · rw [if_pos c]
      simp only [c, decide_true, pick_t, e4]
      show Res.ok _ (gc h.length _ h) = _
      rw [gc_self]
      rfl
    · rw [if_neg c]
      simp only [c, decide_false, pick_f, s_c]
      show Res.ok _ (gc h.length _ h) = _
      rw [gc_self]
      rfl
end Gb

namespace Gb
open PySem L2 PySem.W PyProof.Rows TL
abbrev spS : Str := " "
abbrev nlS : Str := "\n"
def lineS (w : Str) (is : List Int) : Str := Txt.join spS (w :: is.map txtI)
def Few (is : List Int) : Prop := is.length ≤ 16 ∧ ∀ i ∈ is, -100 ≤ i ∧ i ≤ 100
def okTxt (x : Str) : Bool := decide (x.length ≤ 5) && (TL.tl x).all fun c => decide (c ≠ 32) && decide (c ≠ 10)
theorem txt_few : ∀ k : Fin 201, (okTxt (txtI ((k.val : Int) - 100)) && (numF (txtI ((k.val : Int) - 100)) == some ((k.val : Int) - 100))) = true := by decide +kernel
theorem txt_one {i : Int} (h : -100 ≤ i ∧ i ≤ 100) : okTxt (txtI i) = true ∧ numF (txtI i) = some i := by
  have := txt_few ⟨(i + 100).toNat, by omega⟩
  have e : (((i + 100).toNat : Nat) : Int) - 100 = i := by omega
  simp only [e, Bool.and_eq_true, beq_iff_eq] at this
  exact this
theorem txt_len {i : Int} (h : -100 ≤ i ∧ i ≤ 100) : (txtI i).length ≤ 5 := by
  have := (txt_one h).1
  simp only [okTxt, Bool.and_eq_true, decide_eq_true_eq] at this
  exact this.1
theorem txt_sgn {i : Int} (h : -100 ≤ i ∧ i ≤ 100) : 32 ∉ TL.tl (txtI i) ∧ 10 ∉ TL.tl (txtI i) := by
  have := (txt_one h).1
  simp only [okTxt, Bool.and_eq_true, decide_eq_true_eq, List.all_eq_true] at this
  exact ⟨fun m => (this.2 _ m).1 rfl, fun m => (this.2 _ m).2 rfl⟩
theorem strs_map : ∀ ys : List Str, strsOf (ys.map .str) = some ys
  | [] => rfl
  | y :: ys => by simp only [List.map_cons, strsOf, strs_map ys]; rfl
theorem sum_le {n : Nat} : ∀ ys : List Str, (∀ y ∈ ys, y.length ≤ n) → (ys.map (·.length)).sum ≤ ys.length * n
  | [], _ => by simp
  | y :: ys, h => by
    have h1 := h y (List.mem_cons_self ..)
    have h2 := sum_le ys fun z m => h z (List.mem_cons_of_mem _ m)
    simp only [List.map_cons, List.sum_cons, List.length_cons, Nat.add_mul, Nat.one_mul]
    omega
theorem join_len {n : Nat} {a : Str} : ∀ ys : List Str, (∀ y ∈ ys, y.length ≤ n) → (Txt.join a ys).length ≤ ys.length * (n + a.length)
  | [], _ => by rw [join_eq]; exact Nat.zero_le _
  | [y], h => by
    have h1 := h y (List.mem_cons_self ..)
    rw [join_eq]
    show y.length ≤ _
    simp only [List.length_cons, List.length_nil]
    omega
  | x :: y :: ys, h => by
    have h1 := h x (List.mem_cons_self ..)
    have h2 := join_len (a := a) (y :: ys) fun z m => h z (List.mem_cons_of_mem _ m)
    rw [join_eq] at h2 ⊢
    have e : (Str.join a (x :: y :: ys)).length = x.length + a.length + (Str.join a (y :: ys)).length := by
      rw [len_tl, len_tl x, len_tl a, len_tl (Str.join a (y :: ys))]
      show (TL.tl (x ++ a ++ Str.join a (y :: ys))).length = _
      rw [tl_append, tl_append, List.length_append, List.length_append]
    rw [e]
    rw [List.length_cons (as := y :: ys), Nat.add_mul]
    omega
theorem var_set {env : PEnv} {h : PHeap} {k : Nat} {d : D} (hk : k < env.length) : mVar k (env.set k (some d)) h = .ok d h := by
  simp [mVar, List.getElem?_set, hk]
theorem join_at {i j k : Nat} {env : PEnv} {h : PHeap} {w : Str} {is : List Int} (hi : mVar i env h = .ok (.str w) h) (hj : mVar j env h = .ok (.tup (is.map .int)) h) (hk : k < env.length) (hw : w.length ≤ 16) (hf : Few is) :
    mJoin (mC (.str (" " : Str))) (m2 fAddO (mNL (mDisp (mCons (mVar i) (mNil)))) (mNL (mLc (iSrc (mVal (mVar j))) (.name k) (tYesM) (mUn fStrI (mVar k)) [k]))) env h = .ok (.str (lineS w is)) h := by
  have hfl := hf.1
  have e1 : mLc (iSrc (mVal (mVar j))) (.name k) (tYesM) (mUn fStrI (mVar k)) [k] env h = .ok ((is.map txtI).map .str) h := by
    rw [s_lc, s_src]
    simp only [s_val, hj, Res.bind_ok, sq_tup, sd_tup', w_cons, w_nil]
    have := lc_pure (env := env.set k none) (h := h) (g := .name k) (t := tYesM) (a := mUn fStrI (mVar k)) (t' := ⟨is.map .int, []⟩) (p := fun _ => true) (f := fun d => match d with | .int i => .str (txtI i) | _ => .non)
      (by show (is.map D.int).length ≤ _; rw [List.length_map]; omega) rfl (by
        intro d hd
        obtain ⟨n, hn, rfl⟩ := List.mem_map.mp hd
        refine ⟨_, tg_name, rfl, fun _ => ?_⟩
        have sm : small60 n = true := by have := hf.2 n hn; unfold small60; simp only [Bool.and_eq_true, decide_eq_true_eq]; omega
        rw [s_un, var_set (by rw [List.length_set]; exact hk)]
        simp only [Res.bind_ok, fStrI, sm, if_true])
    rw [flt_true] at this
    refine this.trans ?_
    rw [List.map_map, List.map_map]
    rfl
  have e2 : m2 fAddO (mNL (mDisp (mCons (mVar i) (mNil)))) (mNL (mLc (iSrc (mVal (mVar j))) (.name k) (tYesM) (mUn fStrI (mVar k)) [k])) env h = .ok (.new ((w :: is.map txtI).map .str)) h := by
    have e3 : mNL (mDisp (mCons (mVar i) (mNil))) env h = .ok (.new [.str w]) h := by
      simp only [s_nl, s_disp, s_cons, s_nil, hi, Res.bind_ok]
      rfl
    rw [s_m2, e3, Res.bind_ok, s_nl, e1, Res.bind_ok, Res.bind_ok, f_addNN, if_pos (by simp only [List.length_cons, List.length_nil, List.length_map]; omega)]
    rfl
  unfold mJoin
  simp only [s_c, Res.bind_ok]
  rw [e2]
  simp only [Res.bind_ok, fJoin, sq_new, strs_map]
  have hs : ((is.map txtI).map (·.length)).sum ≤ (is.map txtI).length * 5 := sum_le _ fun y m => by
    obtain ⟨n, hn, rfl⟩ := List.mem_map.mp m
    exact txt_len (hf.2 n hn)
  rw [List.length_map] at hs
  have hsp : spS.length = 1 := by decide +kernel
  rw [if_pos ?_]
  · rfl
  · show (((w :: is.map txtI).map (·.length)).sum + (w :: is.map txtI).length * spS.length ≤ 16777216)
    rw [hsp, List.map_cons, List.sum_cons, List.length_cons, List.length_map]
    omega
theorem line_of_at {w : Str} {is : List Int} (hw : w.length ≤ 16) (hf : Few is) (h : PHeap) : p_line_of [.str w, .tup (is.map .int)] h = .ok (.str (lineS w is)) h := by
  unfold p_line_of
  rw [s_fn (by rfl)]
  show retO _ (b_line_of [some (.str w), some (.tup (is.map .int)), none] h) = _
  unfold b_line_of
  rw [s_ret, join_at (w := w) (is := is) rfl rfl (by simp) hw hf]
  show Res.ok _ (gc h.length _ h) = _
  rw [gc_self]
theorem line_split {w : Str} {is : List Int} (hw : 32 ∉ TL.tl w) (hf : Few is) : Txt.split (lineS w is) spS = w :: is.map txtI := by
  refine split_join (s := 32) (S := []) (by decide +kernel) (by decide +kernel) (by simp) fun p m => ?_
  rcases List.mem_cons.mp m with rfl | m
  · exact hw
  · obtain ⟨n, hn, rfl⟩ := List.mem_map.mp m
    exact (txt_sgn (hf.2 n hn)).1
theorem line_len {w : Str} {is : List Int} (hw : w.length ≤ 16) (hf : Few is) : (lineS w is).length ≤ 289 := by
  have hsp : spS.length = 1 := by decide +kernel
  have := join_len (n := 16) (a := spS) (w :: is.map txtI) fun y m => by
    rcases List.mem_cons.mp m with rfl | m
    · exact hw
    · obtain ⟨n, hn, rfl⟩ := List.mem_map.mp m
      have := txt_len (hf.2 n hn)
      omega
  rw [hsp, List.length_cons, List.length_map] at this
  have := hf.1
  unfold lineS
  omega
theorem mem_joinL {c s : Nat} : ∀ {parts : List (List Nat)}, c ∈ joinL [s] parts → c = s ∨ ∃ p ∈ parts, c ∈ p
  | [], h => by cases h
  | [p], h => .inr ⟨p, List.mem_cons_self .., h⟩
  | p :: q :: r, h => by
    have h : c ∈ p ++ ([s] ++ joinL [s] (q :: r)) := h
    rcases List.mem_append.mp h with h | h
    · exact .inr ⟨p, List.mem_cons_self .., h⟩
    · rcases List.mem_append.mp h with h | h
      · exact .inl (by simpa using h)
      · rcases mem_joinL h with h | ⟨p, m, h⟩
        · exact .inl h
        · exact .inr ⟨p, List.mem_cons_of_mem _ m, h⟩
theorem line_nl {w : Str} {is : List Int} (hw : 10 ∉ TL.tl w) (hf : Few is) : 10 ∉ TL.tl (lineS w is) := by
  intro m
  unfold lineS at m
  rw [join_eq, tl_join, show TL.tl spS = [32] by decide +kernel] at m
  rcases mem_joinL m with e | ⟨p, hp, m2⟩
  · cases e
  · obtain ⟨y, hy, rfl⟩ := List.mem_map.mp hp
    rcases List.mem_cons.mp hy with rfl | hy
    · exact hw m2
    · obtain ⟨n, hn, rfl⟩ := List.mem_map.mp hy
      exact (txt_sgn (hf.2 n hn)).2 m2
end Gb

namespace Gb
open PySem L2 PySem.W PyProof.Rows TL
abbrev ordS : List Str := [("house" : Str), ("bay" : Str), ("at" : Str), ("hour" : Str), ("wish" : Str)]
abbrev tblS : List (Str × List D) := [(("house" : Str), [.int (2)]), (("bay" : Str), [.int (10)]), (("at" : Str), [.int (3)]), (("hour" : Str), [.int (4)]), (("wish" : Str), [.int (1), .int (2)])]
def cntS (w : Str) : List Int := if w = ("house" : Str) then [2] else if w = ("bay" : Str) then [10] else if w = ("at" : Str) then [3] else if w = ("hour" : Str) then [4] else [1, 2]
theorem tbl_at {w : Str} (m : w ∈ ordS) : tblS.find? (fun p => p.1 == w) = some (w, (cntS w).map .int) := by
  simp only [ordS, List.mem_cons, List.not_mem_nil, or_false] at m
  rcases m with rfl | rfl | rfl | rfl | rfl <;> decide +kernel
def rowV (w : Str) (os : List (Option Int)) : D := if w ∈ ordS ∧ os.all Option.isSome = true ∧ (os.length : Int) ∈ cntS w then .tup [.str w, .tup (os.map numD)] else .non
theorem trav_strs {h : PHeap} {n : Nat} : ∀ (xs : List Str), travO (toPy h (n + 1)) (xs.map D.str) = some (xs.map PyData.str)
  | [] => rfl
  | x :: xs => by simp only [List.map_cons, travO, toPy_str, trav_strs xs]
theorem fin_strs {h : PHeap} {k : Bool → Bool} {w : Str} {ys : List Str} : fInO k (.val (.str w)) (.val (.tup (ys.map .str))) h = .ok (.bl (k (decide (w ∈ ys)))) h := by
  have e1 : (LV.val (.str w)).py h = some (.str w) := show toPy h (59 + 1) (.str w) = _ from toPy_str
  have e2 : (LV.val (.tup (ys.map D.str))).py h = some (.tuple (ys.map PyData.str)) := by
    show toPy h (59 + 1) (.tup (ys.map D.str)) = _
    rw [toPy_tupE, trav_strs (n := 58)]
    rfl
  simp only [fInO, e1, e2, itemsP]
  congr 3
  rw [List.any_map, Bool.eq_iff_iff]
  simp only [List.any_eq_true, Function.comp, PyData.eqv, decide_eq_true_eq, beq_iff_eq]
  exact ⟨fun ⟨x, m, e⟩ => e ▸ m, fun m => ⟨w, m, rfl⟩⟩
def pyN : Option Int → PyData
  | some i => .int i
  | none => .none
theorem trav_nums {h : PHeap} {n : Nat} : ∀ (xs : List (Option Int)), travO (toPy h (n + 1)) (xs.map numD) = some (xs.map pyN)
  | [] => rfl
  | some x :: xs => by simp only [List.map_cons, travO, numD, toPy_int, trav_nums xs]; rfl
  | none :: xs => by simp only [List.map_cons, travO, numD, toPy_non, trav_nums xs]; rfl
theorem fin_none {h : PHeap} {k : Bool → Bool} {os : List (Option Int)} : fInO k (.val .non) (.val (.tup (os.map numD))) h = .ok (.bl (k (!os.all Option.isSome))) h := by
  have e2 : (LV.val (.tup (os.map numD))).py h = some (.tuple (os.map pyN)) := by
    show toPy h (59 + 1) (.tup (os.map numD)) = _
    rw [toPy_tupE, trav_nums (n := 58)]
    rfl
  simp only [fInO, py_non, e2, itemsP]
  congr 3
  rw [List.any_map]
  clear e2
  induction os with
  | nil => rfl
  | cons o os ih =>
    rw [List.any_cons, List.all_cons, ih]
    cases o <;> simp [Function.comp, pyN, PyData.eqv]
theorem cutL1 {x : D} {xs : List D} : cutD (x :: xs) (some 1) none = xs := by
  have e : HT.sIx (x :: xs).length 0 (some 1) = 1 := (HT.sIx_nat (x :: xs).length 0 1).trans (by rw [List.length_cons]; omega)
  unfold cutD
  rw [e, HT.sIx_none, List.drop_succ_cons, List.drop_zero, List.take_of_length_le (by rw [List.length_cons]; omega)]
theorem call_num {k : Nat} {env : PEnv} {h : PHeap} {x : Str} (hx : mVar k env h = .ok (.str x) h) (hl : x.length ≤ 17) : mCall p_number_in (mCons (mVar k) (mNil)) env h = .ok (numD (numF x)) h := by
  rw [s_call, s_cons, hx]
  simp only [s_nil, Res.bind_ok]
  exact num_in hl h
def numS : D → D
  | .str x => numD (numF x)
  | _ => .non
theorem row_at {s w : Str} {ws : List Str} (hs : Txt.split s spS = w :: ws) (hl : s.length ≤ 10000) (hw : ∀ x ∈ ws, x.length ≤ 17) (hn : ws.length ≤ 1000) (h : PHeap) :
    ∃ h', p_row_in [.str s] h = .ok (rowV w (ws.map numF)) h' ∧ Pass h h' := by
  have hsp : (spS.length == 0) = false := by decide +kernel
  let h1 : PHeap := h ++ [.lst ((w :: ws).map .str)]
  let r := h.length
  have hr : h1[r]? = some (.lst ((w :: ws).map .str)) := by simp [h1, r]
  let A : PEnv := [some (.str s), some (.ref r), none, none]
  let B : PEnv := [some (.str s), some (.ref r), some (.tup ((ws.map numF).map numD)), none]
  have f0 : (sAsg (mM (mSplit (mVar 0) (mC (.str (" " : Str))))) (.name 1)) [some (.str s), none, none, none] h = .nx A h1 := by
    have e : mSplit (mVar 0) (mC (.str (" " : Str))) [some (.str s), none, none, none] h = .ok (.new ((w :: ws).map .str)) h := by
      show fSplit s (.str spS) h = _
      simp only [fSplit]
      rw [if_pos ⟨hsp, hl⟩, hs]
    rw [s_asg, s_m, e]
    rfl
  have i0 : m2 fIx (mVal (mVar 1)) (mVal (mC (.int 0))) A h1 = .ok (.str w) h1 := by
    simp only [s_m2, s_val, A, s_varS, s_var0, s_c, Res.bind_ok]
    rw [f_ixR hr]
    exact ix0
  have i0' : ∀ e2 : Option D, m2 fIx (mVal (mVar 1)) (mVal (mC (.int 0))) [some (.str s), some (.ref r), e2, none] h1 = .ok (.str w) h1 := by
    intro e2
    simp only [s_m2, s_val, s_varS, s_var0, s_c, Res.bind_ok]
    rw [f_ixR hr]
    exact ix0
  have e1 : mLc (iSrc (mSl (mVal (mVar 1)) (pSome (mC (.int 1))) (pNone))) (.name 3) (tYesM) (mCall p_number_in (mCons (mVar 3) (mNil))) [3] A h1 = .ok ((ws.map numF).map numD) h1 := by
    rw [s_lc, s_src]
    simp only [s_sl, s_val, A, s_varS, s_var0, s_ps, s_c, s_pn, Res.bind_ok, s_partD]
    have e : fSl (.val (.ref r)) (some 1) none h1 = .ok (.new (ws.map .str)) h1 := by
      simp only [fSl, it_ref hr, List.map_cons, cutL1]
    rw [e]
    simp only [Res.bind_ok, sq_new, sd_new', w_cons, w_nil]
    have := lc_pure (env := ([some (.str s), some (.ref r), none, none] : PEnv).set 3 none) (h := h1) (g := .name 3) (t := tYesM) (a := mCall p_number_in (mCons (mVar 3) (mNil))) (t' := ⟨ws.map .str, []⟩) (p := fun _ => true) (f := numS)
      (by show (ws.map D.str).length ≤ _; rw [List.length_map]; omega) rfl (by
        intro d hd
        obtain ⟨x, hx, rfl⟩ := List.mem_map.mp hd
        exact ⟨_, tg_name, rfl, fun _ => call_num (var_set (by simp)) (hw x hx)⟩)
    rw [flt_true] at this
    refine this.trans ?_
    rw [List.map_map, List.map_map]
    rfl
  have f1 : (sAsg (m1 fTuple (mNL (mLc (iSrc (mSl (mVal (mVar 1)) (pSome (mC (.int 1))) (pNone))) (.name 3) (tYesM) (mCall p_number_in (mCons (mVar 3) (mNil))) [3]))) (.name 2)) A h1 = .nx B h1 := by
    rw [s_asg, s_m1, s_nl, e1]
    rfl
  have b0 : m2 fIx (mVal (mVar 1)) (mVal (mC (.int 0))) B h1 = .ok (.str w) h1 := i0' _
  have t1 : mTB (m2 (fInO not) (mVal (m2 fIx (mVal (mVar 1)) (mVal (mC (.int 0))))) (mVal (mC (.tup [.str ("house" : Str), .str ("bay" : Str), .str ("at" : Str), .str ("hour" : Str), .str ("wish" : Str)])))) B h1 = .ok (!decide (w ∈ ordS)) h1 := by
    rw [s_tb, s_m2, s_val, b0]
    simp only [Res.bind_ok, s_val, s_c]
    rw [show ([.str ("house" : Str), .str ("bay" : Str), .str ("at" : Str), .str ("hour" : Str), .str ("wish" : Str)] : List D) = ordS.map .str from rfl, fin_strs]
    rfl
  have t2 : mTB (m2 (fInO id) (mVal (mC .non)) (mVal (mVar 2))) B h1 = .ok (!(ws.map numF).all Option.isSome) h1 := by
    simp only [s_tb, s_m2, s_val, s_c, Res.bind_ok, B, s_varS, s_var0, fin_none, id, s_tbD]
  have t3 : w ∈ ordS → mTB (m2 (fInO not) (mVal (m1 fLen (mVal (mVar 2)))) (mVal (mTab tblS (m2 fIx (mVal (mVar 1)) (mVal (mC (.int 0))))))) B h1 = .ok (!decide (((ws.map numF).length : Int) ∈ cntS w)) h1 := by
    intro m
    have et : mTab tblS (m2 fIx (mVal (mVar 1)) (mVal (mC (.int 0)))) B h1 = .ok (.tup ((cntS w).map .int)) h1 := by
      unfold mTab
      rw [b0]
      simp only [Res.bind_ok, tbl_at m]
    rw [s_tb, s_m2, s_val, s_m1]
    simp only [s_val, B, s_varS, s_var0, Res.bind_ok, f_lenT, List.length_map]
    rw [show ([some (.str s), some (.ref r), some (.tup ((ws.map numF).map numD)), none] : PEnv) = B from rfl, et]
    simp only [Res.bind_ok, f_inI, s_tbD]
  have cnd : tOrM (mTB (m2 (fInO not) (mVal (m2 fIx (mVal (mVar 1)) (mVal (mC (.int 0))))) (mVal (mC (.tup [.str ("house" : Str), .str ("bay" : Str), .str ("at" : Str), .str ("hour" : Str), .str ("wish" : Str)]))))) (tOrM (mTB (m2 (fInO id) (mVal (mC .non)) (mVal (mVar 2)))) (mTB (m2 (fInO not) (mVal (m1 fLen (mVal (mVar 2)))) (mVal (mTab tblS (m2 fIx (mVal (mVar 1)) (mVal (mC (.int 0))))))))) B h1
      = .ok (!decide (w ∈ ordS ∧ (ws.map numF).all Option.isSome = true ∧ ((ws.map numF).length : Int) ∈ cntS w)) h1 := by
    rw [s_or, t1, Res.bind_ok]
    by_cases m : w ∈ ordS
    · rw [decide_eq_true m, Bool.not_true, pick_f, s_or, t2, Res.bind_ok]
      cases hq : (ws.map numF).all Option.isSome with
      | false =>
        rw [Bool.not_false, pick_t]
        simp
      | true =>
        rw [Bool.not_true, pick_f, t3 m]
        congr 2
        exact decide_eq_decide.mpr ⟨fun q => ⟨m, rfl, q⟩, fun q => q.2.2⟩
    · rw [decide_eq_false m, Bool.not_false, pick_t]
      congr 1
      have : ¬ (w ∈ ordS ∧ (ws.map numF).all Option.isSome = true ∧ ((ws.map numF).length : Int) ∈ cntS w) := fun q => m q.1
      rw [decide_eq_false this]
      rfl
  unfold p_row_in
  rw [s_fn (by rfl)]
  show ∃ h', retO _ (b_row_in [some (.str s), none, none, none] h) = _ ∧ _
  unfold b_row_in
  rw [s_seq, f0, thn_nx, s_seq, f1, thn_nx, s_seq, s_sif, cnd]
  unfold rowV
  by_cases c : w ∈ ordS ∧ (ws.map numF).all Option.isSome = true ∧ ((ws.map numF).length : Int) ∈ cntS w
  · rw [if_pos c]
    simp only [c, decide_true, Bool.not_true]
    show ∃ h', retO _ (sRet _ B h1) = _ ∧ _
    have er : mTup (mCons (m2 fIx (mVal (mVar 1)) (mVal (mC (.int 0)))) (mCons (mVar 2) (mNil))) B h1 = .ok (.tup [.str w, .tup ((ws.map numF).map numD)]) h1 := by
      rw [s_tup, s_cons, b0]
      simp only [s_cons, s_nil, B, s_varS, s_var0, Res.bind_ok, List.length_cons, List.length_nil]
      rw [if_pos (by decide)]
    rw [s_ret, er]
    exact ⟨_, rfl, Pass.app.gc⟩
  · rw [if_neg c]
    simp only [c, decide_false, Bool.not_false]
    exact ⟨_, rfl, Pass.app.gc⟩
theorem ord_len {w : Str} (m : w ∈ ordS) : w.length ≤ 16 ∧ 32 ∉ TL.tl w ∧ 10 ∉ TL.tl w := by
  simp only [ordS, List.mem_cons, List.not_mem_nil, or_false] at m
  rcases m with rfl | rfl | rfl | rfl | rfl <;> decide +kernel
def rowI (w : Str) (is : List Int) : D := .tup [.str w, .tup (is.map .int)]
theorem nums_back {is : List Int} (hb : ∀ i ∈ is, -100 ≤ i ∧ i ≤ 100) : (is.map txtI).map numF = is.map some := by
  rw [List.map_map]
  exact List.map_congr_left fun i m => (txt_one (hb i m)).2
theorem row_line {w : Str} {is : List Int} (m : w ∈ ordS) (hf : Few is) (hc : (is.length : Int) ∈ cntS w) (h : PHeap) : ∃ h', p_row_in [.str (lineS w is)] h = .ok (rowI w is) h' ∧ Pass h h' := by
  obtain ⟨o1, o2, o3⟩ := ord_len m
  have hl := line_len o1 hf
  obtain ⟨h', e, p⟩ := row_at (line_split o2 hf) (by omega) (fun x hx => by
    obtain ⟨n, hn, rfl⟩ := List.mem_map.mp hx
    have := txt_len (hf.2 n hn)
    omega) (by rw [List.length_map]; have := hf.1; omega) h
  refine ⟨h', ?_, p⟩
  rw [e, nums_back hf.2]
  congr 1
  unfold rowV rowI
  rw [if_pos ⟨m, by simp, by simpa using hc⟩]
  rw [List.map_map]
  rfl
end Gb

namespace Gb
open PySem L2 PySem.W PyProof.Rows TL
def rowW : D → Str
  | .tup (.str w :: _) => w
  | _ => ("" : Str)
def plcS (w : Str) : Nat := (ordS.findIdx? (· == w)).getD 0
def RowIs (d : D) : Prop := ∃ (w : Str) (ns : List D), d = .tup [.str w, .tup ns] ∧ w ∈ ordS
def badRow (acc : List D) (r : D) : Bool := decide (r = .non) || (match acc.getLast? with
  | none => false
  | some q => decide (plcS (rowW r) < plcS (rowW q)))
def goF : List D → Int → List D → List D × Option Int
  | acc, _, [] => (acc, none)
  | acc, k, r :: rs => if badRow acc r = true then (acc, some k) else goF (acc ++ [r]) (k + 1) rs
theorem plc_at {w : Str} (m : w ∈ ordS) : ordS.findIdx? (· == w) = some (plcS w) := by
  simp only [ordS, List.mem_cons, List.not_mem_nil, or_false] at m
  rcases m with rfl | rfl | rfl | rfl | rfl <;> decide +kernel
theorem last_at {α : Type} (l : List α) (q : α) : atI (l ++ [q]) (-1) = some q := by
  have hl : (l ++ [q]).length = l.length + 1 := by simp
  unfold atI ixN
  rw [if_neg (by decide), if_pos (by omega)]
  have e : (-1 + ((l ++ [q]).length : Int)).toNat = l.length := by omega
  show (l ++ [q])[(-1 + ((l ++ [q]).length : Int)).toNat]? = some q
  rw [e]
  simp
theorem row_ix {v : D} {h : PHeap} (R : RowIs v) : fIx (.val v) (.val (.int 0)) h = .ok (.str (rowW v)) h := by
  obtain ⟨w, ns, rfl, _⟩ := R
  rw [f_ixT]
  exact ix0
theorem row_ord {v : D} (R : RowIs v) : rowW v ∈ ordS := by
  obtain ⟨w, ns, rfl, m⟩ := R
  exact m
theorem row_non {v : D} (R : RowIs v) : v ≠ .non := by
  obtain ⟨w, ns, rfl, m⟩ := R
  exact fun e => by cases e
section
variable {n r : Nat} {k : Int} {s : Str} {v : D} {h h1 : PHeap} {acc : List D} {o : Option D}
theorem turn_row (er : h[r]? = some (.lst acc)) (ra : ∀ a ∈ acc, RowIs a) (hl : acc.length < 16777216) (ec : p_row_in [.str s] h = .ok v h1) (p : Pass h h1) (rv : v = .non ∨ RowIs v) :
    l_rows_in_0 [some (.ref n), some (.ref r), some (.int k), some (.str s), o] h = if badRow acc v = true then .rt (.tup [.ref r, .int k]) h1 else .nx [some (.ref n), some (.ref r), some (.int k), some (.str s), some v] (h1.set r (.lst (acc ++ [v]))) := by
  have er1 := p.2 _ _ er
  let E : PEnv := [some (.ref n), some (.ref r), some (.int k), some (.str s), some v]
  have f0 : sAsg (mCall p_row_in (mCons (mVar 3) (mNil))) (.name 4) [some (.ref n), some (.ref r), some (.int k), some (.str s), o] h = .nx E h1 := by
    rw [s_asg, s_call, s_cons]
    simp only [s_varS, s_var0, s_nil, Res.bind_ok, ec]
    rfl
  have c0 : (tOrM (mTB (mBin fIs (mVar 4) (mC .non))) (tAndM (mTB (m2 (fEqN not) (mVal (mVar 1)) (mNL (mDisp (mNil))))) (mTB (mBin fLt (mIdxC ordS (m2 fIx (mVal (mVar 4)) (mVal (mC (.int 0))))) (mIdxC ordS (m2 fIx (mVal (m2 fIx (mVal (mVar 1)) (mVal (mUn fNeg (mC (.int 1)))))) (mVal (mC (.int 0)))))))) ) E h1 = .ok (badRow acc v) h1 := by
    rcases rv with rfl | R
    · simp only [s_or, s_tb, s_bin, E, s_varS, s_var0, s_c, Res.bind_ok, f_isN, s_tbD, decide_true, pick_t]
      simp [badRow]
    · have nv := row_non R
      have e1 : mTB (mBin fIs (mVar 4) (mC .non)) E h1 = .ok false h1 := by
        simp only [s_tb, s_bin, E, s_varS, s_var0, s_c, Res.bind_ok, f_isN, s_tbD, nv, decide_false]
      rcases List.eq_nil_or_concat acc with rfl | ⟨l, q, rfl⟩
      · have e2 : mTB (m2 (fEqN not) (mVal (mVar 1)) (mNL (mDisp (mNil)))) E h1 = .ok false h1 := by
          simp only [s_tb, s_m2, s_val, E, s_varS, s_var0, Res.bind_ok, s_nl, s_disp, s_nil, List.length_nil]
          rw [if_pos (by decide)]
          simp only [Res.bind_ok, fEqN, it_ref er1, it_new]
          rfl
        rw [s_or, e1]
        simp only [Res.bind_ok, pick_f, s_and, e2]
        simp [badRow, nv]
      · rw [List.concat_eq_append] at *
        have Q : RowIs q := ra q (by simp)
        have e2 : mTB (m2 (fEqN not) (mVal (mVar 1)) (mNL (mDisp (mNil)))) E h1 = .ok true h1 := by
          simp only [s_tb, s_m2, s_val, E, s_varS, s_var0, Res.bind_ok, s_nl, s_disp, s_nil, List.length_nil]
          rw [if_pos (by decide)]
          simp only [Res.bind_ok, fEqN, it_ref er1, it_new]
          have : (l ++ [q]).isEmpty = false := by simp
          rw [this]
          rfl
        have e3 : mTB (mBin fLt (mIdxC ordS (m2 fIx (mVal (mVar 4)) (mVal (mC (.int 0))))) (mIdxC ordS (m2 fIx (mVal (m2 fIx (mVal (mVar 1)) (mVal (mUn fNeg (mC (.int 1)))))) (mVal (mC (.int 0)))))) E h1 = .ok (decide (plcS (rowW v) < plcS (rowW q))) h1 := by
          have x1 : mIdxC ordS (m2 fIx (mVal (mVar 4)) (mVal (mC (.int 0)))) E h1 = .ok (.int (plcS (rowW v) : Nat)) h1 := by
            unfold mIdxC
            simp only [s_m2, s_val, E, s_varS, s_var0, s_c, Res.bind_ok, row_ix R, fIdxT, plc_at (row_ord R)]
          have x2 : mIdxC ordS (m2 fIx (mVal (m2 fIx (mVal (mVar 1)) (mVal (mUn fNeg (mC (.int 1)))))) (mVal (mC (.int 0)))) E h1 = .ok (.int (plcS (rowW q) : Nat)) h1 := by
            unfold mIdxC
            simp only [s_m2, s_val, s_un, E, s_varS, s_var0, s_c, Res.bind_ok, f_neg, f_ixR er1]
            have : ixD (l ++ [q]) (-1) h1 = .ok q h1 := by unfold ixD; rw [last_at]
            rw [this]
            simp only [Res.bind_ok, row_ix Q, fIdxT, plc_at (row_ord Q)]
          rw [s_tb, s_bin, x1]
          simp only [Res.bind_ok, x2]
          show Res.ok (decide ((plcS (rowW v) : Int) < plcS (rowW q))) h1 = _
          congr 1
          exact decide_eq_decide.mpr (by omega)
        rw [s_or, e1]
        simp only [Res.bind_ok, pick_f, s_and, e2, pick_t, e3]
        simp [badRow, nv]
  unfold l_rows_in_0
  rw [s_seq, f0, thn_nx, s_seq, s_sif, c0]
  cases hb : badRow acc v with
  | true =>
    show Out.thn (sRet (mTup (mCons (mVar 1) (mCons (mVar 2) mNil))) E h1) _ = (if true = true then _ else _)
    rw [if_pos rfl, s_ret]
    simp only [s_tup, s_cons, s_nil, E, s_varS, s_var0, Res.bind_ok, List.length_cons, List.length_nil]
    rw [if_pos (by decide)]
    rfl
  | false =>
    show Out.thn (sNext E h1) _ = (if false = true then _ else _)
    rw [if_neg (by decide), s_next, thn_nx, s_drop, s_mt]
    simp only [E, s_varS, s_var0, Res.bind_ok, mtD_ref, er1, s_cons, s_nil, mtE_append er1 hl]
    rfl
def Told (R : Str → D) (ss : List Str) : Prop := ∀ s ∈ ss, (R s = .non ∨ RowIs (R s)) ∧ ∀ h : PHeap, ∃ h', p_row_in [.str s] h = .ok (R s) h' ∧ Pass h h'
theorem enu_cons (k : Int) (x : D) (xs : List D) : enuDS k (x :: xs) = .tup [.int k, x] :: enuDS (k + 1) xs := by
  unfold enuDS
  rw [List.mapIdx_cons]
  congr 1
  · simp
  · congr 1
    funext i d
    congr 3
    omega
theorem rows_loop {R : Str → D} {all : List D} (hne : n ≠ r) : ∀ (ss : List Str) (k : Int) (acc : List D) (env : PEnv) (h : PHeap), Told R ss → wipeE env [2, 3, 4] = [some (.ref n), some (.ref r), none, none, none] → h[n]? = some (.lst all) → h[r]? = some (.lst acc) → (∀ a ∈ acc, RowIs a) → acc.length + ss.length ≤ 10000 →
    ∃ h', PassN r h h' ∧ h'[r]? = some (.lst (goF acc k (ss.map R)).1) ∧ (∀ a ∈ (goF acc k (ss.map R)).1, RowIs a) ∧ forL (.tup [.name 2, .name 3]) l_rows_in_0 [2, 3, 4] ⟨enuDS 1 all, [(n, all)]⟩ (enuDS k (ss.map .str)) env h = match (goF acc k (ss.map R)).2 with
      | none => .nx [some (.ref n), some (.ref r), none, none, none] h'
      | some j => .rt (.tup [.ref r, .int j]) h'
  | [], k, acc, env, h, _, ew, en, er, ra, _ => by
    refine ⟨h, .refl, er, ra, ?_⟩
    have lv : Itr.live ⟨enuDS 1 all, [(n, all)]⟩ h = true := by simp [Itr.live, en]
    show forL _ _ _ _ [] env h = _
    rw [forL, if_pos lv, ew]
    rfl
  | s :: ss, k, acc, env, h, T, ew, en, er, ra, hl => by
    obtain ⟨rv, ec⟩ := T s (List.mem_cons_self ..)
    obtain ⟨h1, ec, p⟩ := ec h
    have lv : Itr.live ⟨enuDS 1 all, [(n, all)]⟩ h = true := by simp [Itr.live, en]
    rw [List.length_cons] at hl
    have tn := turn_row (n := n) (k := k) (o := none) er ra (by omega) ec p rv
    rw [List.map_cons, List.map_cons, enu_cons, forL, if_pos lv, ew]
    have eg : (TgM.tup [.name 2, .name 3]).set (.tup [.int k, .str s]) [some (.ref n), some (.ref r), none, none, none] = some [some (.ref n), some (.ref r), some (.int k), some (.str s), none] := by simp
    rw [eg]
    simp only [tn, goF]
    cases hb : badRow acc (R s) with
    | true =>
      simp only [if_true]
      exact ⟨h1, p.n r, p.2 _ _ er, ra, rfl⟩
    | false =>
      have nn : RowIs (R s) := by
        rcases rv with e | e
        · rw [e] at hb; simp [badRow] at hb
        · exact e
      simp only [Bool.false_eq_true, if_false]
      have hr1 := get_lt (p.2 _ _ er)
      have P1 : PassN r h (h1.set r (.lst (acc ++ [R s]))) := (p.n r).trans ⟨by simp, fun m c hm e => by rw [List.getElem?_set_ne (Ne.symm hm)]; exact e⟩
      obtain ⟨h2, p2, e2, r2, l2⟩ := rows_loop hne ss (k + 1) (acc ++ [R s]) [some (.ref n), some (.ref r), some (.int k), some (.str s), some (R s)] (h1.set r (.lst (acc ++ [R s]))) (fun x m => T x (List.mem_cons_of_mem _ m)) (by simp) (P1.2 _ _ hne en) (by simp [hr1])
        (fun a m => by
          rcases List.mem_append.mp m with m | m
          · exact ra a m
          · rw [List.mem_singleton] at m; rw [m]; exact nn) (by simp only [List.length_append, List.length_cons, List.length_nil]; omega)
      exact ⟨h2, P1.trans p2, e2, r2, l2⟩
theorem gc_keep {n m : Nat} {ds : List D} {h : PHeap} (hm : n ≤ m) : gc n (.tup (.ref m :: ds)) h = h := by
  unfold gc
  split
  · rfl
  · have : (D.tup (.ref m :: ds)).small n = false := by simp; omega
    rw [this]
    rfl
theorem rows_in_at {R : Str → D} {ss : List Str} (en : h[n]? = some (.lst (ss.map .str))) (T : Told R ss) (hl : ss.length ≤ 10000) :
    ∃ h' r, p_rows_in [.ref n] h = .ok (.tup [.ref r, match (goF [] 1 (ss.map R)).2 with | none => .non | some j => .int j]) h' ∧ Pass h h' ∧ h.length ≤ r ∧ h'[r]? = some (.lst (goF [] 1 (ss.map R)).1) ∧ ∀ a ∈ (goF [] 1 (ss.map R)).1, RowIs a := by
  have hn := get_lt en
  have f0 : sAsg (mM (mNL (mDisp (mNil)))) (.name 1) [some (.ref n), none, none, none, none] h = .nx [some (.ref n), some (.ref h.length), none, none, none] (h ++ [.lst []]) := by
    rw [s_asg, s_m, s_nl, s_disp, s_nil]
    simp only [Res.bind_ok, List.length_nil]
    rw [if_pos (by decide)]
    rfl
  obtain ⟨h1, p1, e1, r1, l1⟩ := rows_loop (R := R) (n := n) (r := h.length) (all := ss.map .str) (by omega) ss 1 [] [some (.ref n), some (.ref h.length), none, none, none] (h ++ [.lst []]) T (by simp) (get_app en) (by simp) (fun a m => by cases m) (by simpa using hl)
  have P : Pass h h1 := ⟨by have := p1.1; simp at this; omega, fun m c e => p1.2 m c (by have := get_lt e; omega) (get_app e)⟩
  refine ⟨h1, h.length, ?_, P, Nat.le_refl _, e1, r1⟩
  unfold p_rows_in
  rw [s_fn (by rfl)]
  show retO _ (b_rows_in [some (.ref n), none, none, none, none] h) = _
  unfold b_rows_in
  have ei : iEnuS 1 (mVal (mVar 0)) [some (.ref n), some (.ref h.length), none, none, none] (h ++ [.lst []]) = .ok ⟨enuDS 1 (ss.map .str), [(n, ss.map .str)]⟩ (h ++ [.lst []]) := by
    unfold iEnuS
    simp only [s_val, s_var0, Res.bind_ok, sq_ref (get_app en), sd_ref']
  rw [s_seq, f0, thn_nx, s_seq, s_for, ei]
  show retO _ (Out.thn (forL (.tup [.name 2, .name 3]) l_rows_in_0 [2, 3, 4] ⟨enuDS 1 (ss.map .str), [(n, ss.map .str)]⟩ (enuDS 1 (ss.map .str)) _ _) _) = _
  rw [l1]
  cases (goF [] 1 (ss.map R)).2 with
  | none =>
    show retO _ (sRet _ [some (.ref n), some (.ref h.length), none, none, none] h1) = _
    rw [s_ret]
    simp only [s_tup, s_cons, s_nil, s_c, s_varS, s_var0, Res.bind_ok, List.length_cons, List.length_nil]
    rw [if_pos (by decide)]
    show Res.ok _ (gc h.length _ h1) = _
    rw [gc_keep (Nat.le_refl _)]
  | some j =>
    show Res.ok _ (gc h.length _ h1) = _
    rw [gc_keep (Nat.le_refl _)]
end
end Gb

namespace Gb
open PySem L2 PySem.W PyProof.Rows TL
def rowN : D → D
  | .tup [_, ns] => ns
  | _ => .non
def prtS (rows : List D) (w : Str) : List D := (rows.filter fun a => decide (rowW a = w)).map rowN
def bayV : D → D
  | .tup xs => .tup [.tup (cutD xs none (some 4)), .tup (cutD xs (some 4) (some 8)), .tup (cutD xs (some 8) none)]
  | _ => .non
def IsTup (d : D) : Prop := ∃ xs, d = .tup xs
section
variable {n r : Nat} {h : PHeap} {rows : List D}
theorem bay_of_at {d : D} (t : IsTup d) (h : PHeap) : p_bay_of [d] h = .ok (bayV d) h := by
  obtain ⟨xs, rfl⟩ := t
  unfold p_bay_of
  rw [s_fn (by rfl)]
  show retO _ (b_bay_of [some (.tup xs)] h) = _
  unfold b_bay_of
  rw [s_ret]
  simp only [s_tup, s_cons, s_nil, s_m, s_sl, s_val, s_var0, s_ps, s_pn, s_c, s_partD, Res.bind_ok, f_slT, matD_val, List.length_cons, List.length_nil]
  rw [if_pos (by decide)]
  show Res.ok _ (gc h.length _ h) = _
  rw [gc_self]
  rfl
theorem part_at {w : Str} (er : h[r]? = some (.lst rows)) (hl : rows.length ≤ 10000) (hr : ∀ a ∈ rows, RowIs a) :
    m1 fTuple (mNL (mLc (iSrc (mVal (mVar 0))) (.tup [.name 7, .name 8]) (mTB (m2 (fEqO id) (mVal (mVar 7)) (mVal (mVar 6)))) (mVar 8) [7, 8])) [some (.ref r), none, none, none, none, none, some (.str w), none, none] h = .ok (.tup (prtS rows w)) h := by
  have e1 : mLc (iSrc (mVal (mVar 0))) (.tup [.name 7, .name 8]) (mTB (m2 (fEqO id) (mVal (mVar 7)) (mVal (mVar 6)))) (mVar 8) [7, 8] [some (.ref r), none, none, none, none, none, some (.str w), none, none] h = .ok (prtS rows w) h := by
    rw [s_lc, s_src]
    simp only [s_val, s_var0, Res.bind_ok, sq_ref er, sd_ref']
    have := lc_pure (env := wipeE [some (.ref r), none, none, none, none, none, some (.str w), none, none] [7, 8]) (h := h) (g := .tup [.name 7, .name 8]) (t := mTB (m2 (fEqO id) (mVal (mVar 7)) (mVal (mVar 6)))) (a := mVar 8) (t' := ⟨rows, [(r, rows)]⟩) (p := fun a => decide (rowW a = w)) (f := rowN)
      (by show rows.length ≤ _; omega) (by simp [Itr.live, er]) (by
        intro d hd
        obtain ⟨v, ns, rfl, m⟩ := hr d hd
        refine ⟨[some (.ref r), none, none, none, none, none, some (.str w), some (.str v), some (.tup ns)], by simp, ?_, fun _ => rfl⟩
        simp only [s_tb, s_m2, s_val, s_varS, s_var0, Res.bind_ok, feq_str, id, s_tbD]
        rfl)
    exact this
  rw [s_m1, s_nl, e1]
  simp only [Res.bind_ok, f_tuple, sq_new]
def prtsD (rows : List D) : List D := ordS.map fun w => .tup (prtS rows w)
theorem parts_at (er : h[r]? = some (.lst rows)) (hl : rows.length ≤ 10000) (hr : ∀ a ∈ rows, RowIs a) :
    mDcS (iSrc (mVal (mC (.tup [.str ("house" : Str), .str ("bay" : Str), .str ("at" : Str), .str ("hour" : Str), .str ("wish" : Str)])))) (.name 6) (tYesM) (mVar 6) (m1 fTuple (mNL (mLc (iSrc (mVal (mVar 0))) (.tup [.name 7, .name 8]) (mTB (m2 (fEqO id) (mVal (mVar 7)) (mVal (mVar 6)))) (mVar 8) [7, 8]))) [6] [some (.ref r), none, none, none, none, none, none, none, none] h
      = .ok (.ref h.length) (h ++ [.dks ordS (prtsD rows)]) := by
  have st : ∀ (w : Str) (a1 : List Str) (a2 ds : List D), a1.length < 16777216 → w ∉ a1 → dcSL (.name 6) (tYesM) (mVar 6) (m1 fTuple (mNL (mLc (iSrc (mVal (mVar 0))) (.tup [.name 7, .name 8]) (mTB (m2 (fEqO id) (mVal (mVar 7)) (mVal (mVar 6)))) (mVar 8) [7, 8]))) ⟨ordS.map .str, []⟩ [some (.ref r), none, none, none, none, none, none, none, none] (.str w :: ds) (a1, a2) h
      = dcSL (.name 6) (tYesM) (mVar 6) (m1 fTuple (mNL (mLc (iSrc (mVal (mVar 0))) (.tup [.name 7, .name 8]) (mTB (m2 (fEqO id) (mVal (mVar 7)) (mVal (mVar 6)))) (mVar 8) [7, 8]))) ⟨ordS.map .str, []⟩ [some (.ref r), none, none, none, none, none, none, none, none] ds (a1 ++ [w], a2 ++ [.tup (prtS rows w)]) h := by
    intro w a1 a2 ds h1 h2
    rw [dcSL, if_pos lv_nil, tg_name]
    show (Res.calm (tYesM _ h)).bind _ = _
    simp only [s_yes, Res.calm_ok, Res.bind_ok]
    show (Res.calm (mVar 6 [some (.ref r), none, none, none, none, none, some (.str w), none, none] h)).bind _ = _
    rw [show mVar 6 [some (.ref r), none, none, none, none, none, some (.str w), none, none] h = .ok (.str w) h from rfl]
    simp only [Res.calm_ok, Res.bind_ok]
    show (Res.calm (m1 fTuple _ [some (.ref r), none, none, none, none, none, some (.str w), none, none] h)).bind _ = _
    rw [part_at er hl hr]
    simp only [Res.calm_ok, Res.bind_ok]
    rw [if_pos ⟨h1, h2⟩]
  have e0 : mDcS0 (iSrc (mVal (mC (.tup [.str ("house" : Str), .str ("bay" : Str), .str ("at" : Str), .str ("hour" : Str), .str ("wish" : Str)])))) (.name 6) (tYesM) (mVar 6) (m1 fTuple (mNL (mLc (iSrc (mVal (mVar 0))) (.tup [.name 7, .name 8]) (mTB (m2 (fEqO id) (mVal (mVar 7)) (mVal (mVar 6)))) (mVar 8) [7, 8]))) [6] [some (.ref r), none, none, none, none, none, none, none, none] h = .ok (ordS, prtsD rows) h := by
    unfold mDcS0
    rw [s_src]
    simp only [s_val, s_c, Res.bind_ok, sq_tup, sd_tup']
    show dcSL _ _ _ _ ⟨ordS.map .str, []⟩ [some (.ref r), none, none, none, none, none, none, none, none] (.str ("house" : Str) :: .str ("bay" : Str) :: .str ("at" : Str) :: .str ("hour" : Str) :: .str ("wish" : Str) :: []) ([], []) h = _
    rw [st _ _ _ _ (by decide) (by decide +kernel), st _ _ _ _ (by decide) (by decide +kernel), st _ _ _ _ (by decide) (by decide +kernel), st _ _ _ _ (by decide) (by decide +kernel), st _ _ _ _ (by decide) (by decide +kernel), dcSL, if_pos lv_nil]
    rfl
  unfold mDcS
  rw [e0]
  rfl
theorem look_at {w : Str} (m : w ∈ ordS) (er : h[n]? = some (.dks ordS (prtsD rows))) : fIxDs (.ref n) (.str w) h = .ok (.tup (prtS rows w)) h := by
  have e : lookS ordS (prtsD rows) w = some (.tup (prtS rows w)) := by
    have : ∀ ks : List Str, w ∈ ks → lookS ks (ks.map fun w => D.tup (prtS rows w)) w = some (.tup (prtS rows w)) := by
      intro ks
      induction ks with
      | nil => intro m; cases m
      | cons k ks ih =>
        intro m
        rw [List.map_cons, lookS]
        by_cases c : k = w
        · rw [if_pos c, c]
        · rw [if_neg c]
          exact ih ((List.mem_cons.mp m).resolve_left fun e => c e.symm)
    exact this ordS m
  simp only [fIxDs, er, e]
def foundD (rows : List D) (a b z : D) : D := .tup [.tup [.tup ((prtS rows ("bay" : Str)).map bayV), a, b], .tup (prtS rows ("at" : Str)), .tup (prtS rows ("hour" : Str)), z]
theorem call_case {d : D} (g : d.gnd = true) (t : d.dat = true) (h : PHeap) : ∃ h', p_is_case [d] h = .ok (.bl (caseB d)) h' ∧ Pass h h' :=
  fp_gnd k_is_case (e_case t) (by show (D.gnd d && D.gndL []) = true; rw [g]; rfl) rfl h
theorem case_of_at (er : h[r]? = some (.lst rows)) (hl : rows.length ≤ 10000) (hr : ∀ a ∈ rows, RowIs a) {a b z : D} (eh : prtS rows ("house" : Str) = [.tup [a, b]]) (ez : prtS rows ("wish" : Str) = [z]) (tb : ∀ d ∈ prtS rows ("bay" : Str), IsTup d)
    (g : (foundD rows a b z).gnd = true) (t : (foundD rows a b z).dat = true) : ∃ h', p_case_of [.ref r] h = .ok (if caseB (foundD rows a b z) = true then foundD rows a b z else .non) h' ∧ Pass h h' := by
  let m := h.length
  let h1 : PHeap := h ++ [.dks ordS (prtsD rows)]
  have em : h1[m]? = some (.dks ordS (prtsD rows)) := by simp [h1, m]
  have f0 : sAsg (mDcS (iSrc (mVal (mC (.tup [.str ("house" : Str), .str ("bay" : Str), .str ("at" : Str), .str ("hour" : Str), .str ("wish" : Str)])))) (.name 6) (tYesM) (mVar 6) (m1 fTuple (mNL (mLc (iSrc (mVal (mVar 0))) (.tup [.name 7, .name 8]) (mTB (m2 (fEqO id) (mVal (mVar 7)) (mVal (mVar 6)))) (mVar 8) [7, 8]))) [6]) (.name 1) [some (.ref r), none, none, none, none, none, none, none, none] h = .nx [some (.ref r), some (.ref m), none, none, none, none, none, none, none] h1 := by
    rw [s_asg, parts_at er hl hr]
    rfl
  have lk : ∀ (w : Str) (e : PEnv), w ∈ ordS → mBin fIxDs (mVar 1) (mC (.str w)) (some (.ref r) :: some (.ref m) :: e) h1 = .ok (.tup (prtS rows w)) h1 := by
    intro w e mw
    rw [s_bin]
    simp only [s_varS, s_var0, s_c, Res.bind_ok, look_at mw em]
  have m1' : ("house" : Str) ∈ ordS := by simp [ordS]
  have m2' : ("bay" : Str) ∈ ordS := by simp [ordS]
  have m3' : ("at" : Str) ∈ ordS := by simp [ordS]
  have m4' : ("hour" : Str) ∈ ordS := by simp [ordS]
  have m5' : ("wish" : Str) ∈ ordS := by simp [ordS]
  have ln : ∀ (w : Str) (x : D) (e : PEnv), w ∈ ordS → prtS rows w = [x] → mTB (m2 (fEqO not) (mVal (m1 fLen (mVal (mBin fIxDs (mVar 1) (mC (.str w)))))) (mVal (mC (.int 1)))) (some (.ref r) :: some (.ref m) :: e) h1 = .ok false h1 := by
    intro w x e mw ex
    rw [s_tb, s_m2, s_val, s_m1, s_val, lk w e mw, ex]
    simp only [Res.bind_ok, f_lenT, s_val, s_c, f_eqI, List.length_cons, List.length_nil, s_tbD]
    rfl
  have c0 : tOrM (mTB (m2 (fEqO not) (mVal (m1 fLen (mVal (mBin fIxDs (mVar 1) (mC (.str ("house" : Str))))))) (mVal (mC (.int 1))))) (mTB (m2 (fEqO not) (mVal (m1 fLen (mVal (mBin fIxDs (mVar 1) (mC (.str ("wish" : Str))))))) (mVal (mC (.int 1))))) [some (.ref r), some (.ref m), none, none, none, none, none, none, none] h1 = .ok false h1 := by
    rw [s_or, ln _ _ _ m1' eh]
    simp only [Res.bind_ok, pick_f]
    exact ln _ _ _ m5' ez
  have i1 : ∀ (w : Str) (x : D) (e : PEnv), w ∈ ordS → prtS rows w = [x] → m2 fIx (mVal (mBin fIxDs (mVar 1) (mC (.str w)))) (mVal (mC (.int 0))) (some (.ref r) :: some (.ref m) :: e) h1 = .ok x h1 := by
    intro w x e mw ex
    rw [s_m2, s_val, lk w e mw, ex]
    simp only [Res.bind_ok, s_val, s_c, f_ixT, ix0]
  have f1 : sAsg (m2 fIx (mVal (mBin fIxDs (mVar 1) (mC (.str ("house" : Str))))) (mVal (mC (.int 0)))) (.tup [.name 2, .name 3]) [some (.ref r), some (.ref m), none, none, none, none, none, none, none] h1 = .nx [some (.ref r), some (.ref m), some a, some b, none, none, none, none, none] h1 := by
    rw [s_asg, i1 _ _ _ m1' eh]
    simp [Res.out]
  have lb : (prtS rows ("bay" : Str)).length ≤ 10000 := by
    unfold prtS
    rw [List.length_map]
    have := List.length_filter_le (fun a => decide (rowW a = ("bay" : Str))) rows
    omega
  have e2 : mLc (iSrc (mVal (mBin fIxDs (mVar 1) (mC (.str ("bay" : Str)))))) (.name 8) (tYesM) (mCall p_bay_of (mCons (mVar 8) (mNil))) [8] [some (.ref r), some (.ref m), some a, some b, none, none, none, none, none] h1 = .ok ((prtS rows ("bay" : Str)).map bayV) h1 := by
    rw [s_lc, s_src, s_val, lk _ _ m2']
    simp only [Res.bind_ok, sq_tup, sd_tup']
    have := lc_pure (env := wipeE [some (.ref r), some (.ref m), some a, some b, none, none, none, none, none] [8]) (h := h1) (g := .name 8) (t := tYesM) (a := mCall p_bay_of (mCons (mVar 8) (mNil))) (t' := ⟨prtS rows ("bay" : Str), []⟩) (p := fun _ => true) (f := bayV)
      (by show (prtS rows ("bay" : Str)).length ≤ _; omega) rfl (by
        intro d hd
        refine ⟨_, tg_name, rfl, fun _ => ?_⟩
        rw [s_call, s_cons, show mVar 8 ((wipeE [some (.ref r), some (.ref m), some a, some b, none, none, none, none, none] [8]).set 8 (some d)) h1 = .ok d h1 from rfl]
        simp only [s_nil, Res.bind_ok]
        exact bay_of_at (tb d hd) h1)
    rw [flt_true] at this
    exact this
  have f2 : sAsg (m1 fTuple (mNL (mLc (iSrc (mVal (mBin fIxDs (mVar 1) (mC (.str ("bay" : Str)))))) (.name 8) (tYesM) (mCall p_bay_of (mCons (mVar 8) (mNil))) [8]))) (.name 4) [some (.ref r), some (.ref m), some a, some b, none, none, none, none, none] h1 = .nx [some (.ref r), some (.ref m), some a, some b, some (.tup ((prtS rows ("bay" : Str)).map bayV)), none, none, none, none] h1 := by
    rw [s_asg, s_m1, s_nl, e2]
    rfl
  have f3 : sAsg (mTup (mCons (mTup (mCons (mVar 4) (mCons (mVar 2) (mCons (mVar 3) (mNil))))) (mCons (mBin fIxDs (mVar 1) (mC (.str ("at" : Str)))) (mCons (mBin fIxDs (mVar 1) (mC (.str ("hour" : Str)))) (mCons (m2 fIx (mVal (mBin fIxDs (mVar 1) (mC (.str ("wish" : Str))))) (mVal (mC (.int 0)))) (mNil)))))) (.name 5) [some (.ref r), some (.ref m), some a, some b, some (.tup ((prtS rows ("bay" : Str)).map bayV)), none, none, none, none] h1 = .nx [some (.ref r), some (.ref m), some a, some b, some (.tup ((prtS rows ("bay" : Str)).map bayV)), some (foundD rows a b z), none, none, none] h1 := by
    rw [s_asg, s_tup, s_cons, s_tup]
    simp only [s_cons, s_varS, s_var0, s_nil, Res.bind_ok, List.length_cons, List.length_nil]
    rw [if_pos (by decide)]
    simp only [Res.bind_ok]
    rw [lk _ _ m3']
    simp only [Res.bind_ok]
    rw [lk _ _ m4']
    simp only [Res.bind_ok]
    rw [i1 _ _ _ m5' ez]
    simp only [Res.bind_ok, List.length_cons, List.length_nil]
    rw [if_pos (by decide)]
    rfl
  obtain ⟨h2, ec, p2⟩ := call_case g t h1
  unfold p_case_of
  rw [s_fn (by rfl)]
  show ∃ h', retO _ (b_case_of [some (.ref r), none, none, none, none, none, none, none, none] h) = _ ∧ _
  unfold b_case_of
  rw [s_seq, f0, thn_nx, s_seq, s_sif, c0]
  show ∃ h', retO _ (Out.thn (sNext [some (.ref r), some (.ref m), none, none, none, none, none, none, none] h1) _) = _ ∧ _
  rw [s_next, thn_nx, s_seq, f1, thn_nx, s_seq, f2, thn_nx, s_seq, f3, thn_nx, s_ret, s_if, s_tst, s_call, s_cons]
  simp only [s_varS, s_var0, s_nil, Res.bind_ok, ec, tr_bl]
  have P : Pass h h2 := Pass.app.trans p2
  cases hb : caseB (foundD rows a b z) with
  | true => exact ⟨_, rfl, P.gc⟩
  | false => exact ⟨_, rfl, P.gc⟩
end
end Gb

namespace Gb
open PySem L2 PySem.W PyProof.Rows TL
def intsD : D → List Int
  | .tup xs => xs.filterMap fun d => match d with
    | .int i => some i
    | _ => none
  | _ => []
def bayI : D → List Int
  | .tup [a, b, c] => intsD a ++ intsD b ++ intsD c
  | _ => []
theorem intsD_of (is : List Int) : intsD (.tup (is.map .int)) = is := by
  show (is.map D.int).filterMap _ = is
  rw [List.filterMap_map]
  exact List.filterMap_some
theorem bay_is {b : D} (h : IsBay b) : ∃ x y z : List Int, b = .tup [.tup (x.map .int), .tup (y.map .int), .tup (z.map .int)] ∧ bayI b = x ++ y ++ z ∧ x.length = 4 ∧ y.length = 4 ∧ z.length = 2 ∧ ∀ i ∈ x ++ y ++ z, -100 ≤ i ∧ i ≤ 100 := by
  obtain ⟨t, g, so, he, lo, hi, dr, we, ba, sh, rfl, h1, h2, h3, h4, h5, h6, h7, h8, h9⟩ := h
  refine ⟨[t, g, so, he], [lo, hi, dr, we], [ba, sh], rfl, rfl, rfl, rfl, rfl, ?_⟩
  intro i m
  simp only [List.cons_append, List.nil_append, List.mem_cons, List.not_mem_nil, or_false] at m
  omega
theorem bay_few {b : D} (h : IsBay b) : Few (bayI b) ∧ (bayI b).length = 10 := by
  obtain ⟨x, y, z, _, e, l1, l2, l3, hb⟩ := bay_is h
  rw [e]
  have : (x ++ y ++ z).length = 10 := by rw [List.length_append, List.length_append]; omega
  exact ⟨⟨by omega, hb⟩, this⟩
theorem one_is {y : D} (h : IsOne y) : y = .tup ((intsD y).map .int) ∧ Few (intsD y) ∧ (intsD y).length = 3 := by
  obtain ⟨w, d, z, rfl, h1, h2, h3⟩ := h
  refine ⟨rfl, ⟨by show 3 ≤ 16; decide, fun i m => ?_⟩, rfl⟩
  have m : i ∈ [w, d, z] := m
  simp only [List.mem_cons, List.not_mem_nil, or_false] at m
  omega
theorem hour_is {y : D} (h : IsHour y) : y = .tup ((intsD y).map .int) ∧ Few (intsD y) ∧ (intsD y).length = 4 := by
  obtain ⟨a, b, c, d, rfl, h1, h2⟩ := h
  refine ⟨rfl, ⟨by show 4 ≤ 16; decide, fun i m => ?_⟩, rfl⟩
  have m : i ∈ [a, b, c, d] := m
  simp only [List.mem_cons, List.not_mem_nil, or_false] at m
  omega
def rowsC (bays : List D) (pw ap : Int) (ys hs : List D) (ws : List Int) : List (Str × List Int) :=
  [(("house" : Str), [pw, ap])] ++ bays.map (fun b => (("bay" : Str), bayI b)) ++ ys.map (fun y => (("at" : Str), intsD y)) ++ hs.map (fun y => (("hour" : Str), intsD y)) ++ [(("wish" : Str), ws)]
def lnS (p : Str × List Int) : Str := lineS p.1 p.2
def linesC (bays : List D) (pw ap : Int) (ys hs : List D) (ws : List Int) : List Str := (rowsC bays pw ap ys hs ws).map lnS
def textC (ls : List Str) : Str := Txt.join ("" : Str) (ls.map (· ++ nlS))
theorem lcp {env : PEnv} {h : PHeap} {i : MI} {g : TgM} {a : ME} {own : List Nat} {xs : List D} {f : D → D} {ds : List (Nat × List D)} (hi : i env h = .ok ⟨xs, ds⟩ h) (hv : Itr.live ⟨xs, ds⟩ h = true) (hl : xs.length ≤ 100000) (hs : ∀ d ∈ xs, ∃ e1, g.set d (wipeE env own) = some e1 ∧ a e1 h = .ok (f d) h) : mLc i g tYesM a own env h = .ok (xs.map f) h := by
  rw [s_lc, hi]
  simp only [Res.bind_ok]
  have := lc_pure (env := wipeE env own) (h := h) (g := g) (t := tYesM) (a := a) (t' := ⟨xs, ds⟩) (p := fun _ => true) (f := f) (by show xs.length ≤ _; omega) hv (fun d hd => by
    obtain ⟨e1, q1, q2⟩ := hs d hd
    exact ⟨e1, q1, rfl, fun _ => q2⟩)
  rw [flt_true] at this
  exact this
section
variable {bays ys hs : List D} {pw ap : Int} {ws : List Int} {h : PHeap}
theorem rows_good (C : Cs bays pw ap ys hs ws) : ∀ p ∈ rowsC bays pw ap ys hs ws, p.1 ∈ ordS ∧ Few p.2 ∧ (p.2.length : Int) ∈ cntS p.1 := by
  have n1 := C.H.n
  have n2 := C.wl
  have few_ws : Few ws := ⟨by omega, fun i m => by have := C.w i m; omega⟩
  intro p m
  unfold rowsC at m
  simp only [List.mem_append, List.mem_singleton, List.mem_map] at m
  rcases m with (((rfl | ⟨b, hb, rfl⟩) | ⟨y, hy, rfl⟩) | ⟨y, hy, rfl⟩) | rfl
  · refine ⟨by simp [ordS], ⟨by show 2 ≤ 16; decide, fun i m => ?_⟩, by simp [cntS]⟩
    have a1 := C.H.p
    have a2 := C.H.a
    simp only [List.mem_cons, List.not_mem_nil, or_false] at m
    omega
  · obtain ⟨f, l⟩ := bay_few (C.H.b b hb)
    refine ⟨by simp [ordS], f, ?_⟩
    show ((bayI b).length : Int) ∈ cntS ("bay" : Str)
    rw [l]
    decide +kernel
  · obtain ⟨_, f, l⟩ := one_is (C.Y.y y hy)
    refine ⟨by simp [ordS], f, ?_⟩
    show ((intsD y).length : Int) ∈ cntS ("at" : Str)
    rw [l]
    decide +kernel
  · obtain ⟨_, f, l⟩ := hour_is (C.h y hy)
    refine ⟨by simp [ordS], f, ?_⟩
    show ((intsD y).length : Int) ∈ cntS ("hour" : Str)
    rw [l]
    decide +kernel
  · refine ⟨by simp [ordS], few_ws, ?_⟩
    show ((ws.length : Nat) : Int) ∈ cntS ("wish" : Str)
    rcases (by omega : ws.length = 1 ∨ ws.length = 2) with e | e <;> rw [e] <;> decide +kernel
theorem rows_len (C : Cs bays pw ap ys hs ws) : (rowsC bays pw ap ys hs ws).length ≤ 10 ∧ rowsC bays pw ap ys hs ws ≠ [] := by
  have n1 := C.H.n
  have n2 := C.Y.l
  have n3 := C.hl
  unfold rowsC
  refine ⟨?_, by simp⟩
  simp only [List.length_append, List.length_map, List.length_cons, List.length_nil]
  omega
theorem add_ref {n : Nat} {xs ys : List D} (e : h[n]? = some (.lst xs)) (hl : xs.length + ys.length ≤ 16777216) : fAddO (.val (.ref n)) (.new ys) h = .ok (.new (xs ++ ys)) h := f_addL (ow_ref e) ow_new hl
theorem call_line {w : Str} {is : List Int} {r : ME} {env : PEnv} (hw : w.length ≤ 16) (hf : Few is) (hr : r env h = .ok (.tup (is.map .int)) h) : mCall p_line_of (mCons (mC (.str w)) (mCons r (mNil))) env h = .ok (.str (lineS w is)) h := by
  rw [s_call, s_cons]
  simp only [s_c, s_cons, hr, s_nil, Res.bind_ok]
  exact line_of_at hw hf h
def bayT (b : D) : D := .tup ((bayI b).map .int)
theorem bay_add {env : PEnv} {b : D} (B : IsBay b) {i j k : Nat} (e : ∀ x y z, b = .tup [x, y, z] → mVar i env h = .ok x h ∧ mVar j env h = .ok y h ∧ mVar k env h = .ok z h) : (mM (m2 fAddO (m2 fAddO (mVal (mVar i)) (mVal (mVar j))) (mVal (mVar k)))) env h = .ok (bayT b) h := by
  obtain ⟨x, y, z, eb, ei, l1, l2, l3, _⟩ := bay_is B
  obtain ⟨q1, q2, q3⟩ := e _ _ _ eb
  rw [s_m, s_m2, s_m2, s_val, q1, Res.bind_ok, Res.bind_ok, s_val, q2, Res.bind_ok, Res.bind_ok, f_addT, if_pos (by rw [List.length_map, List.length_map]; omega), Res.bind_ok, s_val, q3, Res.bind_ok, Res.bind_ok, f_addT, if_pos (by rw [List.length_append, List.length_map, List.length_map, List.length_map]; omega), Res.bind_ok, matD_val]
  unfold bayT
  rw [ei, List.map_append, List.map_append]
end
end Gb

namespace Gb
open PySem L2 PySem.W PyProof.Rows TL
theorem gc_ref {n m : Nat} {h : PHeap} (hm : n ≤ m) : gc n (.ref m) h = h := by
  unfold gc
  split
  · rfl
  · have : (D.ref m).small n = false := by simp; omega
    rw [this]
    rfl
theorem put_at {h : PHeap} {xs : List D} : (h ++ [Cell.lst xs])[h.length]? = some (.lst xs) := by simp
def lnD (w : Str) (f : D → List Int) (d : D) : D := .str (lineS w (f d))
section
variable {bays ys hs : List D} {pw ap : Int} {ws : List Int} {h : PHeap}
theorem linesC_eq : (linesC bays pw ap ys hs ws).map D.str = [.str (lineS ("house" : Str) [pw, ap])] ++ bays.map (lnD ("bay" : Str) bayI) ++ ys.map (lnD ("at" : Str) intsD) ++ hs.map (lnD ("hour" : Str) intsD) ++ [.str (lineS ("wish" : Str) ws)] := by
  unfold linesC rowsC
  simp only [List.map_append, List.map_map, List.map_cons, List.map_nil]
  rfl
theorem few_ws (C : Cs bays pw ap ys hs ws) : Few ws := by
  have n1 := C.H.n
  have n2 := C.wl
  exact ⟨by omega, fun i m => by have := C.w i m; omega⟩
theorem few_pa (C : Cs bays pw ap ys hs ws) : Few [pw, ap] := by
  refine ⟨by show 2 ≤ 16; decide, fun i m => ?_⟩
  have a1 := C.H.p
  have a2 := C.H.a
  simp only [List.mem_cons, List.not_mem_nil, or_false] at m
  omega
theorem lines_of_at (C : Cs bays pw ap ys hs ws) (h : PHeap) : ∃ h' m, p_lines_of [caseD bays pw ap ys hs ws] h = .ok (.ref m) h' ∧ Pass h h' ∧ h.length ≤ m ∧ h'[m]? = some (.lst ((linesC bays pw ap ys hs ws).map .str)) := by
  have n1 := C.H.n
  have n2 := C.Y.l
  have n3 := C.hl
  let A : D → PEnv := fun f => [some (caseD bays pw ap ys hs ws), some (.tup bays), some (.int pw), some (.int ap), some (.tup ys), some (.tup hs), some (.tup (ws.map .int)), some f, none, none, none, none, none]
  let h1 : PHeap := h ++ [.lst [.str (lineS ("house" : Str) [pw, ap])]]
  let l2 : List D := [.str (lineS ("house" : Str) [pw, ap])] ++ bays.map (lnD ("bay" : Str) bayI)
  let h2 : PHeap := h1 ++ [.lst l2]
  let l3 : List D := l2 ++ ys.map (lnD ("at" : Str) intsD)
  let h3 : PHeap := h2 ++ [.lst l3]
  let l4 : List D := l3 ++ hs.map (lnD ("hour" : Str) intsD) ++ [.str (lineS ("wish" : Str) ws)]
  let h4 : PHeap := h3 ++ [.lst l4]
  have f0 : sAsg (mVar 0) (.tup [.tup [.name 1, .name 2, .name 3], .name 4, .name 5, .name 6]) [some (caseD bays pw ap ys hs ws), none, none, none, none, none, none, none, none, none, none, none, none] h = .nx [some (caseD bays pw ap ys hs ws), some (.tup bays), some (.int pw), some (.int ap), some (.tup ys), some (.tup hs), some (.tup (ws.map .int)), none, none, none, none, none, none] h := by
    simp [caseD, houseD, Res.out]
  have f1 : sAsg (mM (mNL (mDisp (mCons (mCall p_line_of (mCons (mC (.str ("house" : Str))) (mCons (mTup (mCons (mVar 2) (mCons (mVar 3) (mNil)))) (mNil)))) (mNil))))) (.name 7) [some (caseD bays pw ap ys hs ws), some (.tup bays), some (.int pw), some (.int ap), some (.tup ys), some (.tup hs), some (.tup (ws.map .int)), none, none, none, none, none, none] h = .nx (A (.ref h.length)) h1 := by
    rw [s_asg, s_m, s_nl, s_disp, s_cons, call_line (is := [pw, ap]) (by decide +kernel) (few_pa C) (by
      simp only [s_tup, s_cons, s_varS, s_var0, s_nil, Res.bind_ok, List.length_cons, List.length_nil]
      rw [if_pos (by decide)]
      rfl)]
    simp only [s_nil, Res.bind_ok, List.length_cons, List.length_nil]
    rw [if_pos (by decide)]
    rfl
  have c2 : mLc (iSrc (mVal (mVar 1))) (.tup [.name 8, .name 9, .name 10]) (tYesM) (mCall p_line_of (mCons (mC (.str ("bay" : Str))) (mCons (mM (m2 fAddO (m2 fAddO (mVal (mVar 8)) (mVal (mVar 9))) (mVal (mVar 10)))) (mNil)))) [8, 9, 10] (A (.ref h.length)) h1 = .ok (bays.map (lnD ("bay" : Str) bayI)) h1 := by
    refine lcp (ds := []) (f := lnD ("bay" : Str) bayI) (by simp [A]) rfl (by omega) fun d hd => ?_
    have B := C.H.b d hd
    obtain ⟨x, y, z, eb, _⟩ := bay_is B
    refine ⟨[some (caseD bays pw ap ys hs ws), some (.tup bays), some (.int pw), some (.int ap), some (.tup ys), some (.tup hs), some (.tup (ws.map .int)), some (.ref h.length), some (.tup (x.map .int)), some (.tup (y.map .int)), some (.tup (z.map .int)), none, none], by rw [eb]; simp [A], ?_⟩
    refine call_line (by decide +kernel) (bay_few B).1 (bay_add B fun x' y' z' e => ?_)
    rw [eb] at e
    cases e
    exact ⟨rfl, rfl, rfl⟩
  have f2 : sAsg (mM (m2 fAddO (mVal (mVar 7)) (mNL (mLc (iSrc (mVal (mVar 1))) (.tup [.name 8, .name 9, .name 10]) (tYesM) (mCall p_line_of (mCons (mC (.str ("bay" : Str))) (mCons (mM (m2 fAddO (m2 fAddO (mVal (mVar 8)) (mVal (mVar 9))) (mVal (mVar 10)))) (mNil)))) [8, 9, 10])))) (.name 7) (A (.ref h.length)) h1 = .nx (A (.ref h1.length)) h2 := by
    rw [s_asg, s_m, s_m2, s_val, show mVar 7 (A (.ref h.length)) h1 = .ok (.ref h.length) h1 from rfl, Res.bind_ok, Res.bind_ok, s_nl, c2, Res.bind_ok, Res.bind_ok, add_ref put_at (by simp only [List.length_cons, List.length_nil, List.length_map]; omega)]
    rfl
  have c3 : mLc (iSrc (mVal (mVar 4))) (.name 11) (tYesM) (mCall p_line_of (mCons (mC (.str ("at" : Str))) (mCons (mVar 11) (mNil)))) [11] (A (.ref h1.length)) h2 = .ok (ys.map (lnD ("at" : Str) intsD)) h2 := by
    refine lcp (ds := []) (f := lnD ("at" : Str) intsD) (by simp [A]) rfl (by omega) fun d hd => ?_
    obtain ⟨e, f, l⟩ := one_is (C.Y.y d hd)
    exact ⟨_, tg_name, call_line (by decide +kernel) f (by rw [← e]; exact var_set (by simp [A]))⟩
  have f3 : sAsg (mM (m2 fAddO (mVal (mVar 7)) (mNL (mLc (iSrc (mVal (mVar 4))) (.name 11) (tYesM) (mCall p_line_of (mCons (mC (.str ("at" : Str))) (mCons (mVar 11) (mNil)))) [11])))) (.name 7) (A (.ref h1.length)) h2 = .nx (A (.ref h2.length)) h3 := by
    rw [s_asg, s_m, s_m2, s_val, show mVar 7 (A (.ref h1.length)) h2 = .ok (.ref h1.length) h2 from rfl, Res.bind_ok, Res.bind_ok, s_nl, c3, Res.bind_ok, Res.bind_ok, add_ref put_at (by simp only [l2, List.length_append, List.length_cons, List.length_nil, List.length_map]; omega)]
    rfl
  have c4 : mLc (iSrc (mVal (mVar 5))) (.name 12) (tYesM) (mCall p_line_of (mCons (mC (.str ("hour" : Str))) (mCons (mVar 12) (mNil)))) [12] (A (.ref h2.length)) h3 = .ok (hs.map (lnD ("hour" : Str) intsD)) h3 := by
    refine lcp (ds := []) (f := lnD ("hour" : Str) intsD) (by simp [A]) rfl (by omega) fun d hd => ?_
    obtain ⟨e, f, l⟩ := hour_is (C.h d hd)
    exact ⟨_, tg_name, call_line (by decide +kernel) f (by rw [← e]; exact var_set (by simp [A]))⟩
  have P : Pass h h4 := ((Pass.app.trans Pass.app).trans Pass.app).trans Pass.app
  refine ⟨h4, h3.length, ?_, P, by simp only [h3, h2, h1, List.length_append]; omega, ?_⟩
  · unfold p_lines_of
    rw [s_fn (by rfl)]
    show retO _ (b_lines_of [some (caseD bays pw ap ys hs ws), none, none, none, none, none, none, none, none, none, none, none, none] h) = _
    unfold b_lines_of
    rw [s_seq, f0, thn_nx, s_seq, f1, thn_nx, s_seq, f2, thn_nx, s_seq, f3, thn_nx, s_ret, s_m, s_m2, s_m2, s_val, show mVar 7 (A (.ref h2.length)) h3 = .ok (.ref h2.length) h3 from rfl, Res.bind_ok, Res.bind_ok, s_nl, c4, Res.bind_ok, Res.bind_ok, add_ref put_at (by simp only [l3, l2, List.length_append, List.length_cons, List.length_nil, List.length_map]; omega)]
    simp only [Res.bind_ok]
    rw [s_nl, s_disp, s_cons, call_line (is := ws) (by decide +kernel) (few_ws C) rfl]
    simp only [s_nil, Res.bind_ok, List.length_cons, List.length_nil]
    rw [if_pos (by decide)]
    simp only [Res.bind_ok, f_addNN]
    rw [if_pos (by simp only [l3, l2, List.length_append, List.length_cons, List.length_nil, List.length_map]; omega)]
    show Res.ok _ (gc h.length (.ref h3.length) h4) = _
    rw [gc_ref (by simp only [h3, h2, h1, List.length_append]; omega)]
  · rw [linesC_eq]
    exact put_at
end
end Gb

namespace Gb
open PySem L2 PySem.W PyProof.Rows TL
theorem tup2_at {w : Str} {r : ME} {env : PEnv} {h : PHeap} {d : D} (hr : r env h = .ok d h) : mTup (mCons (mC (.str w)) (mCons r (mNil))) env h = .ok (.tup [.str w, d]) h := by
  rw [s_tup, s_cons, s_c, Res.bind_ok, s_cons, hr, Res.bind_ok, s_nil, Res.bind_ok, Res.bind_ok, Res.bind_ok, if_pos (by show 2 ≤ 16777216; decide)]
theorem gndL_of : ∀ {l : List D}, (∀ x ∈ l, x.gnd = true) → D.gndL l = true
  | [], _ => rfl
  | x :: l, h => by
    rw [D.gndL, h x (List.mem_cons_self ..), gndL_of fun y m => h y (List.mem_cons_of_mem _ m)]
    rfl
def rwD (w : Str) (f : D → List Int) (d : D) : D := rowI w (f d)
def lnR (d : D) : D := .str (lineS (rowW d) (intsD (rowN d)))
theorem lnR_row (w : Str) (is : List Int) : lnR (rowI w is) = .str (lineS w is) := by
  unfold lnR rowI
  show D.str (lineS w (intsD (.tup (is.map .int)))) = _
  rw [intsD_of]
section
variable {bays ys hs : List D} {pw ap : Int} {ws : List Int} {h : PHeap}
theorem rowsC_eq : (rowsC bays pw ap ys hs ws).map (fun p => rowI p.1 p.2) = [rowI ("house" : Str) [pw, ap]] ++ bays.map (rwD ("bay" : Str) bayI) ++ ys.map (rwD ("at" : Str) intsD) ++ hs.map (rwD ("hour" : Str) intsD) ++ [rowI ("wish" : Str) ws] := by
  unfold rowsC
  simp only [List.map_append, List.map_map, List.map_cons, List.map_nil]
  rfl
theorem linesR : ((rowsC bays pw ap ys hs ws).map (fun p => rowI p.1 p.2)).map lnR = (linesC bays pw ap ys hs ws).map D.str := by
  unfold linesC
  rw [List.map_map, List.map_map]
  exact List.map_congr_left fun p _ => lnR_row p.1 p.2
theorem law_rows_at (C : Cs bays pw ap ys hs ws) (h : PHeap) : ∃ h' m, p__law_rows [caseD bays pw ap ys hs ws] h = .ok (.ref m) h' ∧ Pass h h' ∧ h.length ≤ m ∧ h'[m]? = some (.lst ((linesC bays pw ap ys hs ws).map .str)) := by
  have n1 := C.H.n
  have n2 := C.Y.l
  have n3 := C.hl
  let A : Option D → PEnv := fun f => [some (caseD bays pw ap ys hs ws), some (.tup bays), some (.int pw), some (.int ap), some (.tup ys), some (.tup hs), some (.tup (ws.map .int)), f, none, none, none, none, none, none, none, none]
  let r1 : List D := [rowI ("house" : Str) [pw, ap]] ++ bays.map (rwD ("bay" : Str) bayI)
  let h1 : PHeap := h ++ [.lst r1]
  let r2 : List D := (rowsC bays pw ap ys hs ws).map (fun p => rowI p.1 p.2)
  let h2 : PHeap := h1 ++ [.lst r2]
  let h3 : PHeap := h2 ++ [.lst ((linesC bays pw ap ys hs ws).map .str)]
  have f0 : sAsg (mVar 0) (.tup [.tup [.name 1, .name 2, .name 3], .name 4, .name 5, .name 6]) [some (caseD bays pw ap ys hs ws), none, none, none, none, none, none, none, none, none, none, none, none, none, none, none] h = .nx (A none) h := by
    simp [caseD, houseD, Res.out, A]
  have c1 : mLc (iSrc (mVal (mVar 1))) (.tup [.name 8, .name 9, .name 10]) (tYesM) (mTup (mCons (mC (.str ("bay" : Str))) (mCons (mM (m2 fAddO (m2 fAddO (mVal (mVar 8)) (mVal (mVar 9))) (mVal (mVar 10)))) (mNil)))) [8, 9, 10] (A none) h = .ok (bays.map (rwD ("bay" : Str) bayI)) h := by
    refine lcp (ds := []) (f := rwD ("bay" : Str) bayI) (by simp [A]) rfl (by omega) fun d hd => ?_
    have B := C.H.b d hd
    obtain ⟨x, y, z, eb, _⟩ := bay_is B
    refine ⟨[some (caseD bays pw ap ys hs ws), some (.tup bays), some (.int pw), some (.int ap), some (.tup ys), some (.tup hs), some (.tup (ws.map .int)), none, some (.tup (x.map .int)), some (.tup (y.map .int)), some (.tup (z.map .int)), none, none, none, none, none], by rw [eb]; simp [A], ?_⟩
    exact tup2_at (bay_add B fun x' y' z' e => (by
      rw [eb] at e
      cases e
      exact ⟨rfl, rfl, rfl⟩))
  have f1 : sAsg (mM (m2 fAddO (mNL (mDisp (mCons (mTup (mCons (mC (.str ("house" : Str))) (mCons (mTup (mCons (mVar 2) (mCons (mVar 3) (mNil)))) (mNil)))) (mNil)))) (mNL (mLc (iSrc (mVal (mVar 1))) (.tup [.name 8, .name 9, .name 10]) (tYesM) (mTup (mCons (mC (.str ("bay" : Str))) (mCons (mM (m2 fAddO (m2 fAddO (mVal (mVar 8)) (mVal (mVar 9))) (mVal (mVar 10)))) (mNil)))) [8, 9, 10])))) (.name 7) (A none) h = .nx (A (some (.ref h.length))) h1 := by
    have e1 : mNL (mDisp (mCons (mTup (mCons (mC (.str ("house" : Str))) (mCons (mTup (mCons (mVar 2) (mCons (mVar 3) (mNil)))) (mNil)))) (mNil))) (A none) h = .ok (.new [rowI ("house" : Str) [pw, ap]]) h := by
      simp only [s_nl, s_disp, s_cons, s_tup, s_c, s_nil, A, s_varS, s_var0, Res.bind_ok, List.length_cons, List.length_nil]
      rw [if_pos (by decide)]
      simp only [Res.bind_ok, List.length_cons, List.length_nil]
      rw [if_pos (by decide)]
      simp only [Res.bind_ok, List.length_cons, List.length_nil]
      rw [if_pos (by decide)]
      rfl
    rw [s_asg, s_m, s_m2, e1]
    simp only [Res.bind_ok]
    rw [s_nl, c1]
    simp only [Res.bind_ok, f_addNN]
    rw [if_pos (by simp only [List.length_cons, List.length_nil, List.length_map]; omega)]
    rfl
  have c2 : mLc (iSrc (mVal (mVar 4))) (.name 12) (tYesM) (mTup (mCons (mC (.str ("at" : Str))) (mCons (mVar 12) (mNil)))) [12] (A (some (.ref h.length))) h1 = .ok (ys.map (rwD ("at" : Str) intsD)) h1 := by
    refine lcp (ds := []) (f := rwD ("at" : Str) intsD) (by simp [A]) rfl (by omega) fun d hd => ?_
    obtain ⟨e, f, l⟩ := one_is (C.Y.y d hd)
    refine ⟨_, tg_name, ?_⟩
    rw [tup2_at (var_set (by simp [A]))]
    unfold rwD rowI
    rw [← e]
  have c3 : mLc (iSrc (mVal (mVar 5))) (.name 11) (tYesM) (mTup (mCons (mC (.str ("hour" : Str))) (mCons (mVar 11) (mNil)))) [11] (A (some (.ref h.length))) h1 = .ok (hs.map (rwD ("hour" : Str) intsD)) h1 := by
    refine lcp (ds := []) (f := rwD ("hour" : Str) intsD) (by simp [A]) rfl (by omega) fun d hd => ?_
    obtain ⟨e, f, l⟩ := hour_is (C.h d hd)
    refine ⟨_, tg_name, ?_⟩
    rw [tup2_at (var_set (by simp [A]))]
    unfold rwD rowI
    rw [← e]
  have f2 : sAsg (mM (m2 fAddO (m2 fAddO (m2 fAddO (mVal (mVar 7)) (mNL (mLc (iSrc (mVal (mVar 4))) (.name 12) (tYesM) (mTup (mCons (mC (.str ("at" : Str))) (mCons (mVar 12) (mNil)))) [12]))) (mNL (mLc (iSrc (mVal (mVar 5))) (.name 11) (tYesM) (mTup (mCons (mC (.str ("hour" : Str))) (mCons (mVar 11) (mNil)))) [11]))) (mNL (mDisp (mCons (mTup (mCons (mC (.str ("wish" : Str))) (mCons (mVar 6) (mNil)))) (mNil)))))) (.name 7) (A (some (.ref h.length))) h1 = .nx (A (some (.ref h1.length))) h2 := by
    have e1 : mNL (mDisp (mCons (mTup (mCons (mC (.str ("wish" : Str))) (mCons (mVar 6) (mNil)))) (mNil))) (A (some (.ref h.length))) h1 = .ok (.new [rowI ("wish" : Str) ws]) h1 := by
      simp only [s_nl, s_disp, s_cons, s_tup, s_c, s_nil, A, s_varS, s_var0, Res.bind_ok, List.length_cons, List.length_nil]
      rw [if_pos (by decide)]
      simp only [Res.bind_ok, List.length_cons, List.length_nil]
      rw [if_pos (by decide)]
      rfl
    rw [s_asg, s_m, s_m2, s_m2, s_m2, s_val, show mVar 7 (A (some (.ref h.length))) h1 = .ok (.ref h.length) h1 from rfl]
    simp only [Res.bind_ok]
    rw [s_nl, c2]
    simp only [Res.bind_ok]
    rw [add_ref put_at (by simp only [r1, List.length_append, List.length_cons, List.length_nil, List.length_map]; omega)]
    simp only [Res.bind_ok]
    rw [s_nl, c3]
    simp only [Res.bind_ok, f_addNN]
    rw [if_pos (by simp only [r1, List.length_append, List.length_cons, List.length_nil, List.length_map]; omega)]
    simp only [Res.bind_ok]
    rw [e1]
    simp only [Res.bind_ok, f_addNN]
    rw [if_pos (by simp only [r1, List.length_append, List.length_cons, List.length_nil, List.length_map]; omega)]
    have : h2 = h1 ++ [.lst ([rowI ("house" : Str) [pw, ap]] ++ bays.map (rwD ("bay" : Str) bayI) ++ ys.map (rwD ("at" : Str) intsD) ++ hs.map (rwD ("hour" : Str) intsD) ++ [rowI ("wish" : Str) ws])] := by
      show h1 ++ [.lst r2] = _
      rw [← rowsC_eq]
    rw [this]
    rfl
  have c4 : mLc (iSrc (mVal (mVar 7))) (.tup [.name 13, .name 14]) (tYesM) (mJoin (mC (.str (" " : Str))) (m2 fAddO (mNL (mDisp (mCons (mVar 13) (mNil)))) (mNL (mLc (iSrc (mVal (mVar 14))) (.name 15) (tYesM) (mUn fStrI (mVar 15)) [15])))) [13, 14] (A (some (.ref h1.length))) h2 = .ok (r2.map lnR) h2 := by
    have er : h2[h1.length]? = some (.lst r2) := put_at
    refine lcp (xs := r2) (ds := [(h1.length, r2)]) (f := lnR) (by
      rw [s_src, s_val, show mVar 7 (A (some (.ref h1.length))) h2 = .ok (.ref h1.length) h2 from rfl]
      simp only [Res.bind_ok, sq_ref er, sd_ref']) (by simp [Itr.live, er]) (by
      show ((rowsC bays pw ap ys hs ws).map _).length ≤ _
      rw [List.length_map]
      have := (rows_len C).1
      omega) fun d hd => ?_
    obtain ⟨p, hp, rfl⟩ := List.mem_map.mp hd
    obtain ⟨g1, g2, g3⟩ := rows_good C p hp
    rw [lnR_row]
    exact ⟨[some (caseD bays pw ap ys hs ws), some (.tup bays), some (.int pw), some (.int ap), some (.tup ys), some (.tup hs), some (.tup (ws.map .int)), some (.ref h1.length), none, none, none, none, none, some (.str p.1), some (.tup (p.2.map .int)), none], by simp [A, rowI], join_at rfl rfl (by simp) (ord_len g1).1 g2⟩
  have P : Pass h h3 := (Pass.app.trans Pass.app).trans Pass.app
  refine ⟨h3, h2.length, ?_, P, by simp only [h2, h1, List.length_append]; omega, put_at⟩
  unfold p__law_rows
  rw [s_fn (by rfl)]
  show retO _ (b__law_rows [some (caseD bays pw ap ys hs ws), none, none, none, none, none, none, none, none, none, none, none, none, none, none, none] h) = _
  unfold b__law_rows
  rw [s_seq, f0, thn_nx, s_seq, f1, thn_nx, s_seq, f2, thn_nx, s_ret, s_m, s_nl, c4]
  simp only [Res.bind_ok]
  rw [show r2.map lnR = (linesC bays pw ap ys hs ws).map .str from linesR]
  show Res.ok _ (gc h.length (.ref h2.length) h3) = _
  rw [gc_ref (by simp only [h2, h1, List.length_append]; omega)]
theorem lines_len (C : Cs bays pw ap ys hs ws) : (linesC bays pw ap ys hs ws).length ≤ 10 ∧ linesC bays pw ap ys hs ws ≠ [] ∧ ∀ l ∈ linesC bays pw ap ys hs ws, l.length ≤ 289 ∧ 10 ∉ TL.tl l := by
  obtain ⟨h1, h2⟩ := rows_len C
  refine ⟨by unfold linesC; rw [List.length_map]; exact h1, fun e => h2 (List.map_eq_nil_iff.mp e), fun l m => ?_⟩
  obtain ⟨p, hp, rfl⟩ := List.mem_map.mp m
  obtain ⟨g1, g2, g3⟩ := rows_good C p hp
  obtain ⟨o1, o2, o3⟩ := ord_len g1
  exact ⟨line_len o1 g2, line_nl o3 g2⟩
theorem text_at {k : Nat} {e : MO} {env : PEnv} {h h1 : PHeap} {m : Nat} {ls : List Str} (he : e env h = .ok (.val (.ref m)) h1) (em : h1[m]? = some (.lst (ls.map .str))) (hk : k < env.length) (hl : ls.length ≤ 100) (hb : ∀ l ∈ ls, l.length ≤ 10000) :
    mJoin (mC (.str ("" : Str))) (mNL (mLc (iSrc e) (.name k) (tYesM) (mM (m2 fAddO (mVal (mVar k)) (mVal (mC (.str ("\n" : Str)))))) [k])) env h = .ok (.str (textC ls)) h1 := by
  have hn : nlS.length = 1 := by decide +kernel
  have e1 : mLc (iSrc e) (.name k) (tYesM) (mM (m2 fAddO (mVal (mVar k)) (mVal (mC (.str ("\n" : Str)))))) [k] env h = .ok ((ls.map (· ++ nlS)).map .str) h1 := by
    rw [s_lc, s_src, he]
    simp only [Res.bind_ok, sq_ref em, sd_ref']
    have := lc_pure (env := wipeE env [k]) (h := h1) (g := .name k) (t := tYesM) (a := mM (m2 fAddO (mVal (mVar k)) (mVal (mC (.str ("\n" : Str)))))) (t' := ⟨ls.map .str, [(m, ls.map .str)]⟩) (p := fun _ => true) (f := fun d => match d with | .str x => .str (x ++ nlS) | _ => .non)
      (by show (ls.map D.str).length ≤ _; rw [List.length_map]; omega) (by simp [Itr.live, em]) (by
        intro d hd
        obtain ⟨x, hx, rfl⟩ := List.mem_map.mp hd
        refine ⟨_, tg_name, rfl, fun _ => ?_⟩
        have hx' := hb x hx
        rw [s_m, s_m2, s_val, var_set (by rw [w_cons, w_nil, List.length_set]; exact hk)]
        simp only [Res.bind_ok, s_val, s_c]
        have : fAddO (.val (.str x)) (.val (.str nlS)) h1 = .ok (.val (.str (x ++ nlS))) h1 := by
          show (fAdd (.str x) (.str nlS) h1).val = _
          simp only [fAdd]
          rw [if_pos (by omega)]
          rfl
        rw [show ("\n" : Str) = nlS from rfl, this]
        rfl)
    rw [flt_true] at this
    refine this.trans ?_
    rw [List.map_map, List.map_map]
    rfl
  unfold mJoin
  simp only [s_c, Res.bind_ok, s_nl, e1, fJoin, sq_new, strs_map]
  have hs : ((ls.map (· ++ nlS)).map (·.length)).sum ≤ (ls.map (· ++ nlS)).length * 10001 := sum_le _ fun y my => by
    obtain ⟨x, hx, rfl⟩ := List.mem_map.mp my
    have := hb x hx
    have e : (x ++ nlS).length = x.length + nlS.length := by rw [len_tl, tl_append, List.length_append, ← len_tl, ← len_tl]
    rw [e, hn]
    omega
  rw [List.length_map] at hs
  have h0 : ("" : Str).length = 0 := by decide +kernel
  rw [if_pos (by rw [h0, List.length_map]; omega)]
  rfl
theorem cgnd (C : Cs bays pw ap ys hs ws) : (caseD bays pw ap ys hs ws).gnd = true := by
  have h1 : D.gndL bays = true := gndL_of fun b m => by obtain ⟨t, g, so, he, lo, hi, dr, we, ba, sh, rfl, _⟩ := C.H.b b m; rfl
  have h2 : D.gndL ys = true := gndL_of fun b m => by obtain ⟨w, d, z, rfl, _⟩ := C.Y.y b m; rfl
  have h3 : D.gndL hs = true := gndL_of fun b m => by obtain ⟨w, d, x, z, rfl, _⟩ := C.h b m; rfl
  have h4 : D.gndL (ws.map D.int) = true := gndL_of fun b m => by obtain ⟨w, _, rfl⟩ := List.mem_map.mp m; rfl
  simp only [caseD, houseD, D.gnd, D.gndL, h1, h2, h3, h4, Bool.and_self]
theorem is_case_at (C : Cs bays pw ap ys hs ws) (h : PHeap) : ∃ h', p_is_case [caseD bays pw ap ys hs ws] h = .ok (.bl true) h' ∧ Pass h h' := by
  obtain ⟨h', e, p⟩ := call_case (cgnd C) (case_dat C) h
  rw [case_good C] at e
  exact ⟨h', e, p⟩
theorem case_text_at (C : Cs bays pw ap ys hs ws) (h : PHeap) : ∃ h', p_case_text [caseD bays pw ap ys hs ws] h = .ok (.str (textC (linesC bays pw ap ys hs ws))) h' ∧ Pass h h' := by
  obtain ⟨h1, e1, p1⟩ := is_case_at C h
  obtain ⟨h2, m, e2, p2, _, em⟩ := lines_of_at C h1
  obtain ⟨l1, l2, l3⟩ := lines_len C
  unfold p_case_text
  rw [s_fn (by rfl)]
  show ∃ h', retO _ (b_case_text [some (caseD bays pw ap ys hs ws), none] h) = _ ∧ _
  unfold b_case_text
  have c0 : tNotM (mTst (mCall p_is_case (mCons (mVar 0) (mNil))) truthD) [some (caseD bays pw ap ys hs ws), none] h = .ok false h1 := by
    rw [s_not, s_tst, s_call, s_cons]
    simp only [s_var0, s_nil, Res.bind_ok, e1, tr_bl]
    rfl
  rw [s_seq, s_sif, c0]
  show ∃ h', retO _ (Out.thn (sNext [some (caseD bays pw ap ys hs ws), none] h1) _) = _ ∧ _
  rw [s_next, thn_nx, s_ret, text_at (m := m) (ls := linesC bays pw ap ys hs ws) (h1 := h2) (by
    rw [s_val, s_call, s_cons]
    simp only [s_var0, s_nil, Res.bind_ok, e2]) em (by simp) (by omega) (fun l hl => by have := (l3 l hl).1; omega)]
  exact ⟨_, rfl, (p1.trans p2).gc⟩
end
end Gb

namespace Gb
open PySem L2 PySem.W PyProof.Rows TL
def lineR (s : Str) : D := match Txt.split s spS with
  | w :: ws => rowV w (ws.map numF)
  | [] => .non
theorem lineR_line {w : Str} {is : List Int} (m : w ∈ ordS) (hf : Few is) (hc : (is.length : Int) ∈ cntS w) : lineR (lineS w is) = rowI w is := by
  obtain ⟨o1, o2, o3⟩ := ord_len m
  unfold lineR
  rw [line_split o2 hf]
  show rowV w ((is.map txtI).map numF) = _
  rw [nums_back hf.2]
  unfold rowV rowI
  rw [if_pos ⟨m, by simp, by simpa using hc⟩, List.map_map]
  rfl
theorem rowI_is {w : Str} {is : List Int} (m : w ∈ ordS) : RowIs (rowI w is) := ⟨w, is.map .int, rfl, m⟩
theorem goF_all : ∀ (rs acc : List D) (k : Int), (∀ r ∈ rs, r ≠ .non) → (acc ++ rs).Pairwise (fun a b => plcS (rowW a) ≤ plcS (rowW b)) → goF acc k rs = (acc ++ rs, none)
  | [], acc, k, _, _ => by rw [goF, List.append_nil]
  | r :: rs, acc, k, hn, hp => by
    have hb : badRow acc r = false := by
      unfold badRow
      have n0 := hn r (List.mem_cons_self ..)
      rcases List.eq_nil_or_concat acc with rfl | ⟨l, q, rfl⟩
      · simp [n0]
      · rw [List.concat_eq_append] at hp ⊢
        rw [List.getLast?_append, List.getLast?_singleton]
        have : plcS (rowW q) ≤ plcS (rowW r) := (List.pairwise_append.mp hp).2.2 q (by simp) r (by simp)
        simp [n0]
        omega
    rw [goF, if_neg (by rw [hb]; decide), goF_all rs (acc ++ [r]) (k + 1) (fun x m => hn x (List.mem_cons_of_mem _ m)) (by rw [List.append_assoc]; exact hp), List.append_assoc]
    rfl
section
variable {bays ys hs : List D} {pw ap : Int} {ws : List Int} {h : PHeap}
def rowsD (bays : List D) (pw ap : Int) (ys hs : List D) (ws : List Int) : List D := (rowsC bays pw ap ys hs ws).map fun p => rowI p.1 p.2
theorem lines_row (C : Cs bays pw ap ys hs ws) : (linesC bays pw ap ys hs ws).map lineR = rowsD bays pw ap ys hs ws := by
  unfold linesC rowsD
  rw [List.map_map]
  refine List.map_congr_left fun p m => ?_
  obtain ⟨g1, g2, g3⟩ := rows_good C p m
  exact lineR_line g1 g2 g3
theorem lines_told (C : Cs bays pw ap ys hs ws) : Told lineR (linesC bays pw ap ys hs ws) := by
  intro s m
  obtain ⟨p, hp, rfl⟩ := List.mem_map.mp m
  obtain ⟨g1, g2, g3⟩ := rows_good C p hp
  have e : lineR (lnS p) = rowI p.1 p.2 := lineR_line g1 g2 g3
  rw [e]
  exact ⟨.inr (rowI_is g1), fun h => row_line g1 g2 g3 h⟩
theorem rows_up : ((rowsC bays pw ap ys hs ws).map fun p => rowI p.1 p.2).Pairwise (fun a b => plcS (rowW a) ≤ plcS (rowW b)) := by
  rw [List.pairwise_map]
  have e : ∀ p : Str × List Int, rowW (rowI p.1 p.2) = p.1 := fun _ => rfl
  simp only [e]
  unfold rowsC
  have p0 : plcS ("house" : Str) = 0 := by decide +kernel
  have p1 : plcS ("bay" : Str) = 1 := by decide +kernel
  have p2 : plcS ("at" : Str) = 2 := by decide +kernel
  have p3 : plcS ("hour" : Str) = 3 := by decide +kernel
  have p4 : plcS ("wish" : Str) = 4 := by decide +kernel
  have same : ∀ (l : List D) (w : Str) (f : D → List Int), (l.map fun d => (w, f d)).Pairwise (fun a b => plcS a.1 ≤ plcS b.1) := by
    intro l w f
    rw [List.pairwise_map]
    induction l with
    | nil => exact List.Pairwise.nil
    | cons a l ih => exact List.Pairwise.cons (fun _ _ => Nat.le_refl _) ih
  refine List.pairwise_append.mpr ⟨List.pairwise_append.mpr ⟨List.pairwise_append.mpr ⟨List.pairwise_append.mpr ⟨List.pairwise_singleton _ _, same _ _ _, ?_⟩, same _ _ _, ?_⟩, same _ _ _, ?_⟩, List.pairwise_singleton _ _, ?_⟩
  all_goals
    intro a ma b mb
    simp only [List.mem_append, List.mem_singleton, List.mem_map] at ma mb
  · obtain ⟨d, _, rfl⟩ := mb
    subst ma
    show plcS ("house" : Str) ≤ plcS ("bay" : Str)
    omega
  · obtain ⟨d, _, rfl⟩ := mb
    rcases ma with rfl | ⟨d, _, rfl⟩
    · show plcS ("house" : Str) ≤ plcS ("at" : Str)
      omega
    · show plcS ("bay" : Str) ≤ plcS ("at" : Str)
      omega
  · obtain ⟨d, _, rfl⟩ := mb
    rcases ma with (rfl | ⟨d, _, rfl⟩) | ⟨d, _, rfl⟩
    · show plcS ("house" : Str) ≤ plcS ("hour" : Str)
      omega
    · show plcS ("bay" : Str) ≤ plcS ("hour" : Str)
      omega
    · show plcS ("at" : Str) ≤ plcS ("hour" : Str)
      omega
  · subst mb
    rcases ma with ((rfl | ⟨d, _, rfl⟩) | ⟨d, _, rfl⟩) | ⟨d, _, rfl⟩
    · show plcS ("house" : Str) ≤ plcS ("wish" : Str)
      omega
    · show plcS ("bay" : Str) ≤ plcS ("wish" : Str)
      omega
    · show plcS ("at" : Str) ≤ plcS ("wish" : Str)
      omega
    · show plcS ("hour" : Str) ≤ plcS ("wish" : Str)
      omega
theorem rows_go (C : Cs bays pw ap ys hs ws) : goF [] 1 ((linesC bays pw ap ys hs ws).map lineR) = (rowsD bays pw ap ys hs ws, none) := by
  rw [lines_row C, goF_all _ [] 1 (fun r m => by
    obtain ⟨p, hp, rfl⟩ := List.mem_map.mp m
    exact fun e => by cases e) (by rw [List.nil_append]; exact rows_up), List.nil_append]
theorem prtS_app (a b : List D) (w : Str) : prtS (a ++ b) w = prtS a w ++ prtS b w := by
  unfold prtS
  rw [List.filter_append, List.map_append]
theorem prtS_one (v w : Str) (is : List Int) : prtS [rowI v is] w = if v = w then [.tup (is.map .int)] else [] := by
  have e : rowW (rowI v is) = v := rfl
  unfold prtS
  rw [List.filter_cons, e]
  by_cases c : v = w
  · simp [c]; rfl
  · simp [c]
theorem prtS_map (v w : Str) (f : D → List Int) : ∀ xs : List D, prtS (xs.map (rwD v f)) w = if v = w then xs.map (fun d => .tup ((f d).map .int)) else []
  | [] => by simp [prtS]
  | x :: xs => by
    rw [List.map_cons, show rwD v f x :: xs.map (rwD v f) = [rowI v (f x)] ++ xs.map (rwD v f) from rfl, prtS_app, prtS_one, prtS_map v w f xs]
    by_cases c : v = w <;> simp [c]
theorem rowsD_eq : rowsD bays pw ap ys hs ws = [rowI ("house" : Str) [pw, ap]] ++ bays.map (rwD ("bay" : Str) bayI) ++ ys.map (rwD ("at" : Str) intsD) ++ hs.map (rwD ("hour" : Str) intsD) ++ [rowI ("wish" : Str) ws] := rowsC_eq
theorem prt_all {w : Str} : prtS (rowsD bays pw ap ys hs ws) w = (if ("house" : Str) = w then [.tup [.int pw, .int ap]] else []) ++ (if ("bay" : Str) = w then bays.map bayT else []) ++ (if ("at" : Str) = w then ys.map (fun d => .tup ((intsD d).map .int)) else []) ++ (if ("hour" : Str) = w then hs.map (fun d => .tup ((intsD d).map .int)) else []) ++ (if ("wish" : Str) = w then [.tup (ws.map .int)] else []) := by
  rw [rowsD_eq, prtS_app, prtS_app, prtS_app, prtS_app, prtS_one, prtS_one, prtS_map, prtS_map, prtS_map]
  rfl
theorem map_self {α : Type} {f : α → α} : ∀ {l : List α}, (∀ x ∈ l, f x = x) → l.map f = l
  | [], _ => rfl
  | x :: l, h => by rw [List.map_cons, h x (List.mem_cons_self ..), map_self fun y m => h y (List.mem_cons_of_mem _ m)]
theorem bay_back {b : D} (B : IsBay b) : bayV (bayT b) = b := by
  obtain ⟨t, g, so, he, lo, hi, dr, we, ba, sh, rfl, _⟩ := B
  rfl
theorem found_eq (C : Cs bays pw ap ys hs ws) : foundD (rowsD bays pw ap ys hs ws) (.int pw) (.int ap) (.tup (ws.map .int)) = caseD bays pw ap ys hs ws := by
  have a1 : ¬ ("house" : Str) = ("bay" : Str) := by decide +kernel
  have a2 : ¬ ("at" : Str) = ("bay" : Str) := by decide +kernel
  have a3 : ¬ ("hour" : Str) = ("bay" : Str) := by decide +kernel
  have a4 : ¬ ("wish" : Str) = ("bay" : Str) := by decide +kernel
  have b1 : ¬ ("house" : Str) = ("at" : Str) := by decide +kernel
  have b2 : ¬ ("bay" : Str) = ("at" : Str) := by decide +kernel
  have b3 : ¬ ("hour" : Str) = ("at" : Str) := by decide +kernel
  have b4 : ¬ ("wish" : Str) = ("at" : Str) := by decide +kernel
  have c1 : ¬ ("house" : Str) = ("hour" : Str) := by decide +kernel
  have c2 : ¬ ("bay" : Str) = ("hour" : Str) := by decide +kernel
  have c3 : ¬ ("at" : Str) = ("hour" : Str) := by decide +kernel
  have c4 : ¬ ("wish" : Str) = ("hour" : Str) := by decide +kernel
  have e1 : (bays.map bayT).map bayV = bays := by
    rw [List.map_map]
    exact map_self fun b m => bay_back (C.H.b b m)
  have e2 : ys.map (fun d => D.tup ((intsD d).map .int)) = ys := map_self fun y m => (one_is (C.Y.y y m)).1.symm
  have e3 : hs.map (fun d => D.tup ((intsD d).map .int)) = hs := map_self fun y m => (hour_is (C.h y m)).1.symm
  unfold foundD caseD houseD
  rw [prt_all, prt_all, prt_all, if_neg a1, if_pos rfl, if_neg a2, if_neg a3, if_neg a4, if_neg b1, if_neg b2, if_pos rfl, if_neg b3, if_neg b4, if_neg c1, if_neg c2, if_neg c3, if_pos rfl, if_neg c4]
  simp only [List.nil_append, List.append_nil, e1, e2, e3]
theorem prt_house : prtS (rowsD bays pw ap ys hs ws) ("house" : Str) = [.tup [.int pw, .int ap]] := by
  rw [prt_all, if_pos rfl, if_neg (by decide +kernel), if_neg (by decide +kernel), if_neg (by decide +kernel), if_neg (by decide +kernel)]
  rfl
theorem prt_wish : prtS (rowsD bays pw ap ys hs ws) ("wish" : Str) = [.tup (ws.map .int)] := by
  rw [prt_all, if_neg (by decide +kernel), if_neg (by decide +kernel), if_neg (by decide +kernel), if_neg (by decide +kernel), if_pos rfl]
  rfl
theorem prt_bay : prtS (rowsD bays pw ap ys hs ws) ("bay" : Str) = bays.map bayT := by
  rw [prt_all, if_neg (by decide +kernel), if_pos rfl, if_neg (by decide +kernel), if_neg (by decide +kernel), if_neg (by decide +kernel)]
  simp
theorem rows_case (C : Cs bays pw ap ys hs ws) {r : Nat} (er : h[r]? = some (.lst (rowsD bays pw ap ys hs ws))) : ∃ h', p_case_of [.ref r] h = .ok (caseD bays pw ap ys hs ws) h' ∧ Pass h h' := by
  have fe := found_eq C
  have hl : (rowsD bays pw ap ys hs ws).length ≤ 10000 := by
    unfold rowsD
    rw [List.length_map]
    have := (rows_len C).1
    omega
  obtain ⟨h', e, p⟩ := case_of_at er hl (fun a m => by
    obtain ⟨p, hp, rfl⟩ := List.mem_map.mp m
    exact rowI_is (rows_good C p hp).1) prt_house prt_wish (fun d m => by
    rw [prt_bay] at m
    obtain ⟨b, _, rfl⟩ := List.mem_map.mp m
    exact ⟨_, rfl⟩) (by rw [fe]; exact cgnd C) (by rw [fe]; exact case_dat C)
  rw [fe, case_good C] at e
  exact ⟨h', e, p⟩
end
theorem tl_text : ∀ ls : List Str, ls ≠ [] → TL.tl (textC ls) = TL.tl (Txt.join nlS ls) ++ [10] := by
  have en : TL.tl nlS = [10] := by decide +kernel
  have e0 : ∀ ls : List Str, TL.tl (textC ls) = (ls.map fun l => TL.tl l ++ [10]).flatten := by
    intro ls
    unfold textC
    rw [join_eq, tl_join, show TL.tl ("" : Str) = [] by decide +kernel]
    have j0 : ∀ ps : List (List Nat), joinL [] ps = ps.flatten := by
      intro ps
      induction ps with
      | nil => rfl
      | cons p ps ih =>
        cases ps with
        | nil => simp [joinL]
        | cons q r =>
          show p ++ ([] ++ joinL [] (q :: r)) = _
          rw [ih]
          simp
    rw [j0, List.map_map]
    congr 1
    refine List.map_congr_left fun l _ => ?_
    show TL.tl (l ++ nlS) = _
    rw [tl_append, en]
  intro ls hne
  rw [e0, join_eq, tl_join, en]
  clear e0
  induction ls with
  | nil => exact absurd rfl hne
  | cons l ls ih =>
    cases ls with
    | nil => simp [joinL]
    | cons m r =>
      have := ih (by simp)
      rw [List.map_cons, List.flatten_cons, this]
      show _ = (TL.tl l ++ ([10] ++ joinL [10] ((m :: r).map TL.tl))) ++ [10]
      simp
theorem last_tl {x : Str} {l : List Nat} {c : Nat} (e : TL.tl x = l ++ [c]) : TL.tl (cutS x (some (-1)) none) = [c] ∧ TL.tl (cutS x none (some (-1))) = l := by
  have hl : x.length = l.length + 1 := by rw [len_tl, e]; simp
  have i1 : HT.sIx x.length 0 (some (-1)) = l.length := by
    have e0 : HT.sIx x.length 0 (some (-1)) = ((-1 : Int) + (x.length : Int)).toNat := rfl
    rw [e0, hl]
    omega
  have i2 : HT.sIx x.length x.length (some (-1)) = l.length := by
    have e0 : HT.sIx x.length x.length (some (-1)) = ((-1 : Int) + (x.length : Int)).toNat := rfl
    rw [e0, hl]
    omega
  constructor
  · show ((TL.tl x).drop (HT.sIx x.length 0 (some (-1)))).take (x.length - HT.sIx x.length 0 (some (-1))) = [c]
    rw [i1, e, hl]
    simp
  · show ((TL.tl x).drop 0).take (HT.sIx x.length x.length (some (-1)) - 0) = l
    rw [i2, e]
    simp
theorem text_end {ls : List Str} (hne : ls ≠ []) : cutS (textC ls) (some (-1)) none = nlS ∧ cutS (textC ls) none (some (-1)) = Txt.join nlS ls := by
  obtain ⟨h1, h2⟩ := last_tl (tl_text ls hne)
  exact ⟨str_tl.mpr (h1.trans (by decide +kernel)), str_tl.mpr h2⟩
theorem text_split {ls : List Str} (hne : ls ≠ []) (hb : ∀ l ∈ ls, 10 ∉ TL.tl l) : Txt.split (Txt.join nlS ls) nlS = ls :=
  split_join (s := 10) (S := []) (by decide +kernel) (by decide +kernel) hne hb
theorem text_len {ls : List Str} {n : Nat} (hl : ∀ l ∈ ls, l.length ≤ n) : (textC ls).length ≤ ls.length * (n + 1) ∧ (Txt.join nlS ls).length ≤ ls.length * (n + 1) := by
  have hn : nlS.length = 1 := by decide +kernel
  constructor
  · have := join_len (n := n + 1) (a := ("" : Str)) (ls.map (· ++ nlS)) fun y m => by
      obtain ⟨l, ml, rfl⟩ := List.mem_map.mp m
      have e : (l ++ nlS).length = l.length + nlS.length := by rw [len_tl, tl_append, List.length_append, ← len_tl, ← len_tl]
      have := hl l ml
      omega
    rw [List.length_map] at this
    exact this
  · have := join_len (n := n) (a := nlS) ls hl
    rw [hn] at this
    exact this
end Gb

namespace Gb
open PySem L2 PySem.W PyProof.Rows TL
section
variable {bays ys hs : List D} {pw ap : Int} {ws : List Int} {h : PHeap}
abbrev txtC (bays : List D) (pw ap : Int) (ys hs : List D) (ws : List Int) : Str := textC (linesC bays pw ap ys hs ws)
theorem txt_short (C : Cs bays pw ap ys hs ws) : (txtC bays pw ap ys hs ws).length ≤ 2900 ∧ (Txt.join nlS (linesC bays pw ap ys hs ws)).length ≤ 2900 := by
  obtain ⟨l1, l2, l3⟩ := lines_len C
  obtain ⟨t1, t2⟩ := text_len (n := 289) fun l m => (l3 l m).1
  have : (linesC bays pw ap ys hs ws).length * (289 + 1) ≤ 10 * 290 := Nat.mul_le_mul l1 (by decide)
  exact ⟨Nat.le_trans t1 this, Nat.le_trans t2 this⟩
theorem read_case_at (C : Cs bays pw ap ys hs ws) (h : PHeap) : ∃ h', p_read_case [.str (txtC bays pw ap ys hs ws)] h = .ok (caseD bays pw ap ys hs ws) h' ∧ Pass h h' := by
  obtain ⟨l1, l2, l3⟩ := lines_len C
  obtain ⟨t1, t2⟩ := txt_short C
  obtain ⟨q1, q2⟩ := text_end l2
  have q3 := text_split l2 fun l m => (l3 l m).2
  generalize hT : txtC bays pw ap ys hs ws = T at *
  let E : Option D → PEnv := fun x => [some (.str T), x, none, none, none]
  have c0 : tOrM (tNotM (mTst (m1 (fIsi .str) (mVal (mVar 0))) truthD)) (mTB (m2 (fEqO not) (mVal (mSlS (mVar 0) (pSome (mUn fNeg (mC (.int 1)))) (pNone))) (mVal (mC (.str ("\n" : Str)))))) (E none) h = .ok false h := by
    have e1 : mSlS (mVar 0) (pSome (mUn fNeg (mC (.int 1)))) (pNone) (E none) h = .ok (.str nlS) h := by
      have : T.length ≤ 16777216 := by omega
      show fSlS (.str T) (some (-1)) none h = _
      simp only [fSlS]
      rw [if_pos this, ← hT, q1]
    rw [s_or, s_not, s_tst, s_m1, s_val, show mVar 0 (E none) h = .ok (.str T) h from rfl, Res.bind_ok, Res.bind_ok, f_isiS, Res.bind_ok, tr_bl, Res.bind_ok, Res.bind_ok]
    show (mTB _ (E none) h) = _
    rw [s_tb, s_m2, s_val, e1, Res.bind_ok, Res.bind_ok, s_val, s_c, Res.bind_ok, Res.bind_ok, feq_str, Res.bind_ok, s_tbD]
    simp
  let h1 : PHeap := h ++ [.lst ((linesC bays pw ap ys hs ws).map .str)]
  have e1 : h1[h.length]? = some (.lst ((linesC bays pw ap ys hs ws).map .str)) := put_at
  have f1 : sAsg (mM (mSplit (mSlS (mVar 0) (pNone) (pSome (mUn fNeg (mC (.int 1))))) (mC (.str ("\n" : Str))))) (.name 1) (E none) h = .nx (E (some (.ref h.length))) h1 := by
    have e1 : mSlS (mVar 0) (pNone) (pSome (mUn fNeg (mC (.int 1)))) (E none) h = .ok (.str (Txt.join nlS (linesC bays pw ap ys hs ws))) h := by
      have : T.length ≤ 16777216 := by omega
      show fSlS (.str T) none (some (-1)) h = _
      simp only [fSlS]
      rw [if_pos this, ← hT, q2]
    have e2 : mSplit (mSlS (mVar 0) (pNone) (pSome (mUn fNeg (mC (.int 1))))) (mC (.str ("\n" : Str))) (E none) h = .ok (.new ((linesC bays pw ap ys hs ws).map .str)) h := by
      unfold mSplit
      rw [e1]
      show fSplit _ (.str nlS) h = _
      simp only [fSplit]
      rw [if_pos ⟨by decide +kernel, by omega⟩, q3]
    rw [s_asg, s_m, e2]
    rfl
  obtain ⟨h2, r, e2, p2, _, er, _⟩ := rows_in_at e1 (lines_told C) (by omega)
  rw [rows_go C] at e2 er
  obtain ⟨h3, e3, p3⟩ := rows_case C er
  have f2 : sAsg (mCall p_rows_in (mCons (mVar 1) (mNil))) (.tup [.name 2, .name 3]) (E (some (.ref h.length))) h1 = .nx [some (.str T), some (.ref h.length), some (.ref r), some .non, none] h2 := by
    rw [s_asg, s_call, s_cons, show mVar 1 (E (some (.ref h.length))) h1 = .ok (.ref h.length) h1 from rfl, Res.bind_ok, s_nil, Res.bind_ok, Res.bind_ok, e2]
    simp [Res.out, E]
  have c2 : mTB (mBin fIsNot (mVar 3) (mC .non)) [some (.str T), some (.ref h.length), some (.ref r), some .non, none] h2 = .ok false h2 := by
    simp only [s_tb, s_bin, s_varS, s_var0, s_c, Res.bind_ok, f_isNN, s_tbD]
    rfl
  have f3 : sAsg (mCall p_case_of (mCons (mVar 2) (mNil))) (.name 4) [some (.str T), some (.ref h.length), some (.ref r), some .non, none] h2 = .nx [some (.str T), some (.ref h.length), some (.ref r), some .non, some (caseD bays pw ap ys hs ws)] h3 := by
    rw [s_asg, s_call, s_cons, show mVar 2 [some (.str T), some (.ref h.length), some (.ref r), some .non, none] h2 = .ok (.ref r) h2 from rfl, Res.bind_ok, s_nil, Res.bind_ok, Res.bind_ok, e3]
    rfl
  have c3 : mTB (mBin fIs (mVar 4) (mC .non)) [some (.str T), some (.ref h.length), some (.ref r), some .non, some (caseD bays pw ap ys hs ws)] h3 = .ok false h3 := by
    simp only [s_tb, s_bin, s_varS, s_var0, s_c, Res.bind_ok, f_isN, s_tbD]
    rfl
  have P : Pass h h3 := (Pass.app.trans p2).trans p3
  unfold p_read_case
  rw [s_fn (by rfl)]
  show ∃ h', retO _ (b_read_case (E none) h) = _ ∧ _
  unfold b_read_case
  rw [s_seq, s_sif, c0]
  show ∃ h', retO _ (Out.thn (sNext (E none) h) _) = _ ∧ _
  rw [s_next, thn_nx, s_seq, f1, thn_nx, s_seq, f2, thn_nx, s_seq, s_sif, c2]
  show ∃ h', retO _ (Out.thn (sNext [some (.str T), some (.ref h.length), some (.ref r), some .non, none] h2) _) = _ ∧ _
  rw [s_next, thn_nx, s_seq, f3, thn_nx, s_seq, s_sif, c3]
  show ∃ h', retO _ (Out.thn (sNext [some (.str T), some (.ref h.length), some (.ref r), some .non, some (caseD bays pw ap ys hs ws)] h3) _) = _ ∧ _
  rw [s_next, thn_nx]
  exact ⟨_, rfl, P.gc⟩
end
end Gb

namespace Gb
open PySem L2 PySem.W PyProof.Rows TL
structure Shw (A : D) : Prop where
  g : A.gnd = true
  d : A.dep ≤ 50
  s : (pyU A).showable = true
  n : (pyU A).hasDict = false
  l : (pyU A).leavesShort 13 = true
  b : (pyU A).bulk ≤ 100000
theorem repr_pair {A : D} (S : Shw A) : ∃ z : Str, ∀ h : PHeap, fReprX (.new [A, A]) h = .ok (.str z) h := by
  have hd : (D.lst [A, A]).dep ≤ 60 := by
    have := S.d
    simp only [D.dep, D.depL]
    omega
  have l13 : (pyU (.lst [A, A])).leavesShort 13 = true := by
    simp only [pyU, pyL, PyData.leavesShort, PyData.leavesShortAll, S.l, Bool.and_self]
  have lb := PyData.shown_le_bulk 13 (by decide) (pyU (.lst [A, A])) l13
  have bb : (pyU (.lst [A, A])).bulk ≤ 300000 := by
    have := S.b
    simp only [pyU, pyL, PyData.bulk, PyData.bulkAll]
    omega
  have e : gRepr (.lst [A, A]) = some (.str (pyU (.lst [A, A])).shown) := by
    unfold gRepr
    rw [if_pos ⟨rfl, hd, by simp only [pyU, pyL, PyData.showable, PyData.showableAll, PyData.hasDict, PyData.hasDictAll, S.s, S.n]; rfl, by omega⟩]
  refine ⟨(pyU (.lst [A, A])).shown, fun h => ?_⟩
  have gl : D.gndL [A, A] = true := by simp only [D.gndL, S.g]; rfl
  obtain ⟨r, e1, q⟩ := g_repr (fun _ => False) (fun _ => none) h (.lst [A, A]) (.new [A, A]) _ (.inl ⟨_, rfl, gndL_den _ gl⟩) e
  cases den_gnd _ _ rfl q
  exact e1
mutual
theorem tiny_X : ∀ u : D, u.tiny = true → u.gnd = true → u.tinyX = true ∧ u.depX ≤ u.dep ∧ u.blkX ≤ u.blk
  | .non, _, _ => ⟨rfl, Nat.zero_le _, Nat.le_refl _⟩
  | .bl _, _, _ => ⟨rfl, Nat.zero_le _, Nat.le_refl _⟩
  | .int i, h, _ => ⟨h, Nat.zero_le _, Nat.le_refl _⟩
  | .str x, h, _ => ⟨h, Nat.zero_le _, Nat.le_refl _⟩
  | .tup xs, h, g => by
    obtain ⟨a, b, c⟩ := tiny_XL xs (by simpa only [D.tiny] using h) (by simpa only [D.gnd] using g)
    exact ⟨a, by simp only [D.depX, D.dep]; omega, c⟩
  | .lst _, _, g => by simp [D.gnd] at g
  | .dct _ _, h, _ => by simp [D.tiny] at h
  | .fro _, h, _ => by simp [D.tiny] at h
  | .map _, h, _ => by simp [D.tiny] at h
  | .gl _, h, _ => by simp [D.tiny] at h
  | .ref _, h, _ => by simp [D.tiny] at h
theorem tiny_XL : ∀ us : List D, D.tinyL us = true → D.gndL us = true → D.tinyXL us = true ∧ D.depXL us ≤ D.depL us ∧ D.blkXL us ≤ D.blkL us
  | [], _, _ => ⟨rfl, Nat.zero_le _, Nat.le_refl _⟩
  | u :: us, h, g => by
    simp only [D.tinyL, D.gndL, Bool.and_eq_true] at h g
    obtain ⟨a, b, c⟩ := tiny_X u h.1 g.1
    obtain ⟨a', b', c'⟩ := tiny_XL us h.2 g.2
    exact ⟨by simp only [D.tinyXL, a, a', Bool.and_self], by simp only [D.depXL, D.depL]; omega, by simp only [D.blkXL, D.blkL]; omega⟩
end
section
variable {bays ys hs : List D} {pw ap : Int} {ws : List Int} {h : PHeap}
theorem sm_shw {A : D} (g : A.gnd = true) (s : Sm 50 100000 A) : Shw A := by
  obtain ⟨a, b, c, d⟩ := tiny_short A s.t
  have := s.b
  exact ⟨g, s.d, b, c, a, by omega⟩
theorem caseS (C : Cs bays pw ap ys hs ws) : Sm 9 200 (caseD bays pw ap ys hs ws) := by
  have hl4 : hs.length ≤ 4 := by have := C.hl; have := C.H.n; omega
  have hn := C.H.n
  have hy := C.Y.l
  have hw := C.wl
  have i3 : ∀ i : Int, -100 ≤ i ∧ i ≤ 100 → Sm 4 0 (.int i) := fun i hi => (Sm.int (by omega) (by omega)).le (by decide) (Nat.le_refl _)
  have sb : Sm 4 50 (.tup bays) := by
    refine (Sm.tup (SmL.all (k := 3) (n := 20) fun b m => ?_)).le (by decide) (by omega)
    obtain ⟨t, g, so, he, lo, hi, dr, we, ba, sh, rfl, h⟩ := C.H.b b m
    exact ⟨by simp [bayD, D.tiny, D.tinyL]; omega, by simp [bayD, D.dep, D.depL], by simp [bayD, D.blk, D.blkL]⟩
  have p0 := C.H.p
  have a0 := C.H.a
  have s1 : Sm 8 60 (houseD bays pw ap) := (Sm.tup (SmL.cons sb (SmL.cons (i3 pw (by omega)) (SmL.cons (i3 ap (by omega)) SmL.nil)))).le (by decide) (by omega)
  have s2 : Sm 8 10 (.tup ys) := by
    refine (Sm.tup (SmL.all (k := 2) (n := 3) fun b m => ?_)).le (by decide) (by omega)
    obtain ⟨w, d, z, rfl, h⟩ := C.Y.y b m
    exact ⟨by simp [oneD, D.tiny, D.tinyL]; omega, by simp [oneD, D.dep, D.depL], by simp [oneD, D.blk, D.blkL]⟩
  have s3 : Sm 8 20 (.tup hs) := by
    refine (Sm.tup (SmL.all (k := 2) (n := 4) fun b m => ?_)).le (by decide) (by omega)
    obtain ⟨a, b, c, d, rfl, h1, h2⟩ := C.h b m
    exact ⟨by simp [D.tiny, D.tinyL]; omega, by simp [D.dep, D.depL], by simp [D.blk, D.blkL]⟩
  have s4 : Sm 8 2 (.tup (ws.map D.int)) := (Sm.tup (SmL.ints fun x m => by have := C.w x m; omega)).le (by decide) (by omega)
  exact (Sm.tup (SmL.cons s1 (SmL.cons s2 (SmL.cons s3 (SmL.cons s4 SmL.nil))))).le (by decide) (by decide)
theorem shw_case (C : Cs bays pw ap ys hs ws) : Shw (caseD bays pw ap ys hs ws) := sm_shw (cgnd C) ((caseS C).le (by decide) (by decide))
theorem txt_asc : ∀ k : Fin 201, (TL.tl (txtI ((k.val : Int) - 100))).all (fun c => decide (c < 128)) = true := by decide +kernel
theorem txt_asc1 {i : Int} (h : -100 ≤ i ∧ i ≤ 100) : ∀ c ∈ TL.tl (txtI i), c < 128 := by
  have := txt_asc ⟨(i + 100).toNat, by omega⟩
  have e : (((i + 100).toNat : Nat) : Int) - 100 = i := by omega
  simp only [e, List.all_eq_true, decide_eq_true_eq] at this
  exact this
theorem ord_asc {w : Str} (m : w ∈ ordS) : ∀ c ∈ TL.tl w, c < 128 := by
  simp only [ordS, List.mem_cons, List.not_mem_nil, or_false] at m
  rcases m with rfl | rfl | rfl | rfl | rfl <;> decide +kernel
theorem line_asc {w : Str} {is : List Int} (m : w ∈ ordS) (hf : Few is) : ∀ c ∈ TL.tl (lineS w is), c < 128 := by
  intro c hc
  unfold lineS at hc
  rw [join_eq, tl_join, show TL.tl spS = [32] by decide +kernel] at hc
  rcases mem_joinL hc with rfl | ⟨p, hp, hc2⟩
  · decide
  · obtain ⟨y, hy, rfl⟩ := List.mem_map.mp hp
    rcases List.mem_cons.mp hy with rfl | hy
    · exact ord_asc m c hc2
    · obtain ⟨n, hn, rfl⟩ := List.mem_map.mp hy
      exact txt_asc1 (hf.2 n hn) c hc2
theorem text_asc (C : Cs bays pw ap ys hs ws) : ∀ c ∈ TL.tl (txtC bays pw ap ys hs ws), c < 128 := by
  obtain ⟨l1, l2, l3⟩ := lines_len C
  intro c hc
  rw [tl_text _ l2, join_eq, tl_join, show TL.tl nlS = [10] by decide +kernel] at hc
  rcases List.mem_append.mp hc with hc | hc
  · rcases mem_joinL hc with rfl | ⟨p, hp, hc2⟩
    · decide
    · obtain ⟨y, hy, rfl⟩ := List.mem_map.mp hp
      obtain ⟨q, hq, rfl⟩ := List.mem_map.mp hy
      obtain ⟨g1, g2, g3⟩ := rows_good C q hq
      exact line_asc g1 g2 c hc2
  · rw [List.mem_singleton] at hc
    rw [hc]
    decide
theorem shw_text (C : Cs bays pw ap ys hs ws) : Shw (.str (txtC bays pw ap ys hs ws)) := by
  have ha := text_asc C
  have hl := (txt_short C).1
  have t : (D.str (txtC bays pw ap ys hs ws)).tinyX = true := by
    simp only [D.tinyX, List.all_eq_true, decide_eq_true_eq]
    intro c m
    have := ha c m
    omega
  obtain ⟨a, b, c, d, e⟩ := tinyX_ok _ t
  have e0 : pyX (.str (txtC bays pw ap ys hs ws)) = pyU (.str (txtC bays pw ap ys hs ws)) := rfl
  rw [e0] at b c d
  have d2 : (pyU (.str (txtC bays pw ap ys hs ws))).bulk ≤ (txtC bays pw ap ys hs ws).cps.size := d
  refine ⟨rfl, by simp [D.dep], c, rfl, b, ?_⟩
  have : (txtC bays pw ap ys hs ws).cps.size ≤ 2900 := hl
  omega
theorem repr_case (C : Cs bays pw ap ys hs ws) : ∃ z : Str, ∀ h : PHeap, fReprX (.val (caseD bays pw ap ys hs ws)) h = .ok (.str z) h := by
  have s := caseS C
  obtain ⟨a, b, c⟩ := tiny_X _ s.t (cgnd C)
  have sx : SmX 60 1000000 (caseD bays pw ap ys hs ws) := ⟨a, by have := s.d; omega, by have := s.b; omega⟩
  have e := e_reprX sx (Nat.le_refl _)
  refine ⟨(pyX (caseD bays pw ap ys hs ws)).shown, fun h => ?_⟩
  obtain ⟨r, e1, q⟩ := g_reprX (fun _ => False) (fun _ => none) h (caseD bays pw ap ys hs ws) (.val (caseD bays pw ap ys hs ws)) _ (.inl (gnd_den _ (cgnd C))) e
  cases den_gnd _ _ rfl q
  exact e1
end
end Gb

namespace Gb
open PySem L2
def encP (p : Int) : List D := [.int p]
def pk (p b : Int) : Int := p.fmod b
def pks (p b : Int) : Int := p.fdiv b
theorem pk_b (p b : Int) (h1 : 1 ≤ b := by decide) : 0 ≤ pk p b ∧ pk p b < b := fmod_b p b (by omega)
grind_pattern pk_b => pk p b
@[simp] theorem pk_eq {p b : Int} (h1 : 1 ≤ b) (h2 : b < 1000000000) : F__law_take (encP p) [.int b] = .ok (.int (pk p b)) (encP (pks p b)) := by
  have b0 : b ≠ 0 := by omega
  have bn : b.natAbs < 1073741824 := by omega
  unfold F__law_take u__law_take encP
  simp [b0, bn, ixN, stateOf, retM]
  exact ⟨rfl, rfl⟩
theorem pbay_ex (s : Int) : ∃ b t, F__law_bay (encP s) [] = .ok b (encP t) ∧ IsBay b := by
  unfold F__law_bay u__law_bay
  simp
  refine ⟨_, ⟨rfl, _, rfl⟩, _, _, _, _, _, _, _, _, _, _, rfl, ?_⟩
  grind
theorem phour_ex (s : Int) {w : Int} (hw : w = 1 ∨ w = 3 ∨ w = 4) : ∃ b t, F__law_hour (encP s) [.int w] = .ok b (encP t) ∧ IsHour b := by
  unfold F__law_hour u__law_hour
  rcases hw with rfl | rfl | rfl
  all_goals
    simp
    refine ⟨_, ⟨rfl, _, rfl⟩, _, _, _, _, rfl, ?_⟩
    grind
end Gb

namespace Gb
open PySem L2
theorem pbegin {c1 c7 c8 c9 c10 c11 : Option D} (k : Int) {acc : List D} {d : D} (B : IsBay d) (cl : acc.length < 16777216) : ∃ v1, (TgM.tup [.name 3, .name 4, .name 5]).set d [some (.lst (encP k)), c1, some (.lst acc), none, none, none, none, c7, c8, c9, c10, c11] = some v1 ∧ ∃ y v2 l, (v__law_case_0 v1 = .nx v2 ∨ v__law_case_0 v1 = .ct v2) ∧ wipeE v2 [3, 4, 5, 6] = [some (.lst (encP l)), c1, some (.lst (acc ++ [y])), none, none, none, none, c7, c8, c9, c10, c11] ∧ IsOne y := by
  obtain ⟨t, g, so, he, lo, hi, dr, we, ba, sh, rfl, h1, h2, h3, h4, h5, h6, h7, h8, h9⟩ := B
  refine ⟨[some (.lst (encP k)), c1, some (.lst acc), some (.tup [.int t, .int g, .int so, .int he]), some (.tup [.int lo, .int hi, .int dr, .int we]), some (.tup [.int ba, .int sh]), none, c7, c8, c9, c10, c11], by simp [bayD], ?_⟩
  obtain ⟨w, hw⟩ : ∃ w : Int, w = hi - lo + 1 := ⟨_, rfl⟩
  obtain ⟨x, hx⟩ : ∃ x : Int, x = we - dr + 1 := ⟨_, rfl⟩
  have w1 : 1 ≤ w := by omega
  have w2 : w < 1000000000 := by omega
  have x1 : 1 ≤ x := by omega
  have x2 : x < 1000000000 := by omega
  have k1 := pk_b k w w1
  have k2 := pk_b (pks k w) x x1
  have k3 := pk_b (pks (pks k w) x) 3
  unfold v__law_case_0
  refine ⟨oneD (lo + pk k w) (dr + pk (pks k w) x) (pk (pks (pks k w) x) 3), _, pks (pks (pks k w) x) 3, .inl (by simp [← hw, ← hx, w1, w2, x1, x2, cl]; rfl), by simp [oneD], _, _, _, rfl, by omega, by omega, by omega⟩
theorem pcase_ex (s : Int) : ∃ bays pw ap ys hs ws, ∃ t : Int, F__law_case (encP s) [] = .ok (caseD bays pw ap ys hs ws) (encP t) ∧ Cs bays pw ap ys hs ws := by
  obtain ⟨nb, hnb⟩ : ∃ nb : Int, nb = 1 + (if pk s 3 = 0 then 1 else 0) := ⟨_, rfl⟩
  have nb2 : 1 ≤ nb ∧ nb ≤ 2 := by subst hnb; split <;> omega
  obtain ⟨bays, t1, e1, q1⟩ := ulc_draw (g := .name 10) (own := [10]) (us := rngD 0 nb) (acc := []) (E := fun k => [some (.lst (encP k)), none, none, none, none, none, none, none, none, none, none, none]) (k := pks s 3)
    (a := uCallM F__law_bay 0 (uNil)) (fun _ y => IsBay y) (by rw [rngD_len]; simp only [List.length_nil]; omega) (by
      intro k d md
      obtain ⟨b, t, e, q⟩ := pbay_ex k
      exact ⟨_, tg_name, b, _, t, by simp [e]; rfl, rfl, q⟩)
  have l1 := q1.len
  rw [rngD_len] at l1
  have hb : ∀ b ∈ bays, IsBay b := q1.mem (Q := IsBay) fun _ _ p => p
  obtain ⟨ys, t2, e2, q2⟩ := ufor_draw (σ := Int) (g := .tup [.name 3, .name 4, .name 5]) (kill := [3, 4, 5, 6]) (s := v__law_case_0) (E := fun k acc => [some (.lst (encP k)), some (.tup bays), some (.lst acc), none, none, none, none, none, none, none, none, none])
    (fun _ y => IsOne y) (us := bays) (acc := []) (k := t1) (v := [some (.lst (encP t1)), some (.tup bays), some (.lst []), none, none, none, none, none, none, none, none, none]) rfl (by
      intro k acc d md hl
      exact pbegin k (hb d md) (by simp only [List.length_nil] at hl; omega))
  have l2 := q2.len
  obtain ⟨m, hm⟩ : ∃ m : Int, m = 3 - (if (bays.length : Int) > 1 then 1 else 0) := ⟨_, rfl⟩
  have hm2 : 1 ≤ m ∧ m ≤ 4 - bays.length ∧ m < 1000000000 := by subst hm; split <;> omega
  have hk := pk_b t2 m hm2.1
  obtain ⟨q, hq⟩ : ∃ q, q = 1 + pk t2 m := ⟨_, rfl⟩
  obtain ⟨hs, t3, e3, q3⟩ := ulc_draw (g := .name 11) (own := [11]) (us := rngD 0 q) (acc := []) (E := fun k => [some (.lst (encP k)), some (.tup bays), some (.lst ys), none, none, none, none, some (.int q), none, none, none, none]) (k := pks t2 m)
    (a := uCallM F__law_hour 0 (uCons (u2 gIx (uNew (uDisp (uCons (uC (.int 1)) (uCons (uC (.int 3)) (uCons (uC (.int 4)) (uNil)))))) (uCallM F__law_take 0 (uCons (uC (.int 3)) (uNil)))) (uNil))) (fun _ y => IsHour y) (by rw [rngD_len]; simp only [List.length_nil]; omega) (by
      intro k d md
      have hk := pk_b k 3
      have hi : ∃ w : Int, (w = 1 ∨ w = 3 ∨ w = 4) ∧ atI [D.int 1, .int 3, .int 4] (pk k 3) = some (.int w) := by
        rcases (by omega : pk k 3 = 0 ∨ pk k 3 = 1 ∨ pk k 3 = 2) with h | h | h <;> rw [h]
        · exact ⟨1, .inl rfl, rfl⟩
        · exact ⟨3, .inr (.inl rfl), rfl⟩
        · exact ⟨4, .inr (.inr rfl), rfl⟩
      obtain ⟨w, hw, hw2⟩ := hi
      obtain ⟨b, t, e, q⟩ := phour_ex (pks k 3) hw
      exact ⟨_, tg_name, b, _, t, by simp [hw2, e]; rfl, rfl, q⟩)
  have l3 := q3.len
  rw [rngD_len] at l3
  obtain ⟨wsD, t4, e4, q4⟩ := ulc_draw (g := .name 10) (own := [10]) (us := bays) (acc := []) (E := fun k => [some (.lst (encP k)), some (.tup bays), some (.lst ys), none, none, none, none, some (.int q), some (.tup hs), none, none, none]) (k := t3)
    (a := uCallM F__law_take 0 (uCons (uC (.int 4)) (uNil))) (fun _ y => ∃ i : Int, y = .int i ∧ 0 ≤ i ∧ i ≤ 4) (by simp only [List.length_nil]; omega) (by
      intro k d md
      have hk := pk_b k 4
      exact ⟨_, tg_name, .int (pk k 4), _, pks k 4, by simp; rfl, rfl, _, rfl, by omega⟩)
  have l4 := q4.len
  obtain ⟨ws, hws⟩ : ∃ ws : List Int, wsD = ws.map D.int ∧ ∀ w ∈ ws, 0 ≤ w ∧ w ≤ 4 := by
    have hall : ∀ y ∈ wsD, ∃ i : Int, y = .int i ∧ 0 ≤ i ∧ i ≤ 4 := q4.mem (Q := fun y => ∃ i : Int, y = .int i ∧ 0 ≤ i ∧ i ≤ 4) fun _ _ p => p
    clear e4 q4 l4
    induction wsD with
    | nil => exact ⟨[], rfl, by simp⟩
    | cons y wsD ih =>
      obtain ⟨ws, rfl, h⟩ := ih fun y m => hall y (List.mem_cons_of_mem _ m)
      obtain ⟨i, rfl, hi⟩ := hall y (List.mem_cons_self ..)
      exact ⟨i :: ws, rfl, fun w m => by rcases List.mem_cons.mp m with rfl | m; exact hi; exact h w m⟩
  obtain ⟨rfl, hwr⟩ := hws
  rw [List.length_map] at l4
  obtain ⟨pw, hpw⟩ : ∃ pw : Int, pw = pk t4 3 := ⟨_, rfl⟩
  obtain ⟨ap, hap⟩ : ∃ ap : Int, ap = if pk (pks t4 3) 3 = 0 then 1 else 0 := ⟨_, rfl⟩
  have hpw2 : 0 ≤ pw ∧ pw ≤ 2 := by have := pk_b t4 3; omega
  have hap2 : 0 ≤ ap ∧ ap ≤ 1 := by subst hap; split <;> omega
  refine ⟨bays, pw, ap, ys, hs, ws, pks (pks t4 3) 3, ?_, ⟨⟨by omega, hb, hpw2, hap2⟩, ⟨q2.mem (Q := IsOne) fun _ _ p => p, by omega⟩, q3.mem (Q := IsHour) fun _ _ p => p, by omega, hwr, by omega⟩⟩
  generalize e5 : F__law_case _ _ = o
  unfold F__law_case u__law_case at e5
  have c0 : -1152921504606846976 ≤ nb ∧ nb ≤ 1152921504606846976 := by omega
  have c1 : -1152921504606846976 ≤ q ∧ q ≤ 1152921504606846976 := by omega
  simp only [List.nil_append] at e1 e2 e3 e4
  simp [← hnb, c0, e1, e2, ← hm, hm2, ← hq, c1, e3, e4, ← hpw, int_if, ← hap] at e5
  subst e5
  rfl
end Gb

namespace Gb
open PySem L2 PySem.W PyProof.Rows TL
def NoL (n : Nat) : Prop := False
theorem case_den {u d : D} {h : PHeap} (q : Den NoL h u d) (t : u.dat = true) : ∃ h', p_is_case [d] h = .ok (.bl (caseB u)) h' ∧ Pass h h' := by
  have k := k_is_case NoL h [u] [d] (fun _ q => q.elim) (DenL.one q)
  rw [e_case t] at k
  obtain ⟨x, h', e1, e2, e3⟩ := k
  cases den_gnd _ _ rfl e3
  exact ⟨h', e1, e2⟩
def Bad (d : D) (h : PHeap) : Prop := ∃ u, Den NoL h u d ∧ u.dat = true ∧ caseB u = false
theorem Bad.pass {d : D} {h h1 : PHeap} (b : Bad d h) (p : Pass h h1) : Bad d h1 := by
  obtain ⟨u, q, t, c⟩ := b
  exact ⟨u, Den.kp (fun n ds _ e => ⟨fun q => q, p.2 _ _ e⟩) _ _ q, t, c⟩
theorem text_refused {d : D} {h : PHeap} (b : Bad d h) : ∃ h', p_case_text [d] h = .exc (.int 0) h' ∧ Pass h h' := by
  obtain ⟨u, q, t, c⟩ := b
  obtain ⟨h1, e1, p1⟩ := case_den q t
  rw [c] at e1
  refine ⟨h1, ?_, p1⟩
  unfold p_case_text
  rw [s_fn (by rfl)]
  show retO _ (b_case_text [some d, none] h) = _
  unfold b_case_text
  have c0 : tNotM (mTst (mCall p_is_case (mCons (mVar 0) (mNil))) truthD) [some d, none] h = .ok true h1 := by
    rw [s_not, s_tst, s_call, s_cons]
    simp only [s_var0, s_nil, Res.bind_ok, e1, tr_bl]
    rfl
  rw [s_seq, s_sif, c0]
  rfl
theorem refused_at {d : D} {h : PHeap} (b : Bad d h) : ∃ h', p__law_refused [d] h = .ok (.bl true) h' ∧ Pass h h' := by
  obtain ⟨h1, e1, p1⟩ := text_refused b
  have e2 : (sSeq (sDrop (mCall p_case_text (mCons (mVar 0) (mNil)))) (sRet (mC (.bl false)))) [some d, none] h = .exc (.int 0) [some d, none] h1 := by
    rw [s_seq, s_drop, s_call, s_cons]
    simp only [s_var0, s_nil, Res.bind_ok, e1]
    rfl
  unfold p__law_refused
  rw [s_fn (by rfl)]
  show ∃ h', retO _ (b__law_refused [some d, none] h) = _ ∧ _
  unfold b__law_refused sTryR
  rw [e2]
  exact ⟨_, rfl, p1.gc⟩
theorem encP_gnd {p : Int} : D.gndL (encP p) = true := rfl
theorem case_at {nS : Nat} {p : Int} {h : PHeap} (e : h[nS]? = some (.lst (encP p))) : ∃ h' bays pw ap ys hs ws, ∃ t : Int, p__law_case [.ref nS] h = .ok (caseD bays pw ap ys hs ws) h' ∧ Cs bays pw ap ys hs ws ∧ PassN nS h h' ∧ h'[nS]? = some (.lst (encP t)) := by
  have k := k__law_case (fun _ => False) h (encP p) (encP p) nS [] [] (fun _ q => q.elim) (fun q => q.elim) e (gndL_den _ encP_gnd) (gndL_den _ rfl)
  obtain ⟨bays, pw, ap, ys, hs, ws, t, e0, C⟩ := pcase_ex p
  rw [e0] at k
  obtain ⟨d, h', es, e1, e2, e3, e4, e5⟩ := k
  have e5 : Den (fun m => False ∨ m = nS) h' (caseD bays pw ap ys hs ws) d := e5
  have h1 := den_gnd _ _ (cgnd C) e5
  have h2 := denL_gnd _ _ encP_gnd e4
  subst h1 h2
  exact ⟨h', bays, pw, ap, ys, hs, ws, t, e1, C, e2, e3⟩
def oddL : List D := [.non, .bl true, .bl false, .int (-1), .int (10 ^ 11), .str ("" : Str), .str ("a" : Str), .str ("1" : Str), .tup [], .lst [], .dct [] [], .lst [.tup []], .tup [.tup []], .tup [.int 0], .lst [.int 0], .dct [.int 0] [.int 1], .tup [.bl true, .bl true]]
theorem odd_all : ∀ u ∈ oddL, u.dat = true ∧ caseB u = false := by
  intro u m
  simp only [oddL, List.mem_cons, List.not_mem_nil, or_false] at m
  rcases m with rfl | rfl | rfl | rfl | rfl | rfl | rfl | rfl | rfl | rfl | rfl | rfl | rfl | rfl | rfl | rfl | rfl <;> exact ⟨rfl, rfl⟩
theorem odd_ex (p : Int) : ∃ u t, F__law_odd (encP p) [] = .ok u (encP t) ∧ u ∈ oddL := by
  have hk := pk_b p 17
  obtain ⟨u, hu, hm⟩ : ∃ u, atI oddL (pk p 17) = some u ∧ u ∈ oddL := by
    have hi : (pk p 17).toNat < oddL.length := by show (pk p 17).toNat < 17; omega
    have := atI_nat (xs := oddL) (pk p 17).toNat hi
    rw [Int.toNat_of_nonneg hk.1, List.getElem?_eq_getElem hi] at this
    exact ⟨_, this, List.getElem_mem hi⟩
  refine ⟨u, pks p 17, ?_, hm⟩
  unfold oddL at hu
  simp only [Int.reducePow] at hu
  generalize e : F__law_odd _ _ = o
  unfold F__law_odd u__law_odd at e
  simp [hu] at e
  subst e
  rfl
theorem odd_at {nS : Nat} {p : Int} {h : PHeap} (e : h[nS]? = some (.lst (encP p))) : ∃ h' d, ∃ t : Int, p__law_odd [.ref nS] h = .ok d h' ∧ Bad d h' ∧ PassN nS h h' ∧ h'[nS]? = some (.lst (encP t)) := by
  have k := k__law_odd (fun _ => False) h (encP p) (encP p) nS [] [] (fun _ q => q.elim) (fun q => q.elim) e (gndL_den _ encP_gnd) (gndL_den _ rfl)
  obtain ⟨u, t, e0, m⟩ := odd_ex p
  rw [e0] at k
  obtain ⟨d, h', es, e1, e2, e3, e4, e5⟩ := k
  have e5 : Den (fun m => False ∨ m = nS) h' u d := e5
  have h2 := denL_gnd _ _ encP_gnd e4
  subst h2
  obtain ⟨a, b⟩ := odd_all u m
  exact ⟨h', d, t, e1, ⟨u, Den.kp (fun n ds _ e => ⟨fun q => q, e⟩) _ _ e5, a, b⟩, e2, e3⟩
end Gb

namespace Gb
open PySem L2 PySem.W PyProof.Rows
theorem cell_ex (ns : List Int) {k : Int} (hk : 0 ≤ k) : ∃ c : Int, F__law_cell_at [.fro (ns.map .int), .int k] = .ok (.int c) := by
  unfold F__law_cell_at u__law_cell_at
  by_cases h : k < ns.length
  · have hi : k.toNat < (ns.map D.int).length := by rw [List.length_map]; omega
    have e := atI_nat (xs := ns.map D.int) k.toNat hi
    rw [Int.toNat_of_nonneg hk, List.getElem?_eq_getElem hi, List.getElem_map] at e
    exact ⟨_, by simp [h, e]; rfl⟩
  · exact ⟨0, by simp [h]⟩
theorem pot_step (c : Int) (n j : Int) (hj : 0 ≤ j ∧ j < 64) : ∃ m : Int, ∃ x : Option D, v__law_pot_0 [some (.int c), some (.int n), some (.int j), none] = .nx [some (.int c), some (.int m), some (.int j), x] := by
  have q1 := fmod_b c 2147483629 (by decide)
  have s1 : small64 7919 = true := by decide
  have s2 : small64 48271 = true := by decide
  have s3 : small64 69621 = true := by decide
  have s4 : small64 2147483587 = true := by decide
  obtain ⟨x, hx⟩ : ∃ x : Int, x = ((c.fmod 2147483629 + 7919 * j + 1) * 48271).fmod 2147483647 := ⟨_, rfl⟩
  have q2 := fmod_b ((c.fmod 2147483629 + 7919 * j + 1) * 48271) 2147483647 (by decide)
  rw [← hx] at q2
  have s5 : small64 x = true := sm64 q2.1 (by omega)
  unfold v__law_pot_0
  simp [s1, s2, s3, s4, ← hx, s5]
theorem pot_ex (c : Int) : ∃ p : Int, F__law_pot [.int c] = .ok (.lst (encP p)) := by
  unfold F__law_pot u__law_pot
  by_cases h : (1000000000000000000 : Int) ≤ c
  · exact ⟨c - 1000000000000000000, by simp [h]; rfl⟩
  · obtain ⟨m, e⟩ := ufor_go (σ := Int) (g := .name 2) (kill := [2, 3]) (s := v__law_pot_0) (E := fun k => [some (.int c), some (.int k), none, none]) (us := rngD 0 64) (k := 0) (v := [some (.int c), some (.int 0), none, none]) rfl (by
      intro k d md
      obtain ⟨j, rfl, hj⟩ := rngD_mem md
      obtain ⟨m, x, e⟩ := pot_step c k j (by omega)
      exact ⟨_, tg_name, _, m, .inl e, rfl⟩)
    exact ⟨m, by simp [h, e]; rfl⟩
theorem pot_at (ns : List Int) {k : Int} (hk : 0 ≤ k) (h : PHeap) : ∃ h' nS, ∃ p : Int, mCall p__law_pot (mCons (mCall p__law_cell_at (mCons (mC (.fro (ns.map .int))) (mCons (mC (.int k)) (mNil)))) (mNil)) [] h = .ok (.ref nS) h' ∧ Pass h h' ∧ h'[nS]? = some (.lst (encP p)) := by
  obtain ⟨c, e⟩ := cell_ex ns hk
  have k1 := k__law_cell_at NoL h [.fro (ns.map .int), .int k] [.fro (ns.map .int), .int k] (fun _ q => q.elim) (by
    rw [DenL]
    refine ⟨_, _, rfl, ?_, gndL_den _ rfl⟩
    rw [Den]
    exact ⟨_, rfl, gndL_den _ (gndL_of fun b m => by obtain ⟨w, _, rfl⟩ := List.mem_map.mp m; rfl)⟩)
  rw [e] at k1
  obtain ⟨d, h1, e1, p1, q1⟩ := k1
  cases den_gnd _ _ rfl q1
  obtain ⟨p, e2⟩ := pot_ex c
  have k2 := k__law_pot NoL h1 [.int c] [.int c] (fun _ q => q.elim) (gndL_den _ rfl)
  rw [e2] at k2
  obtain ⟨d, h2, e3, p2, q2⟩ := k2
  replace q2 : Den NoL h2 (.lst (encP p)) d := q2
  rw [Den] at q2
  obtain ⟨n, ds, rfl, _, en, q⟩ := q2
  have h2 := denL_gnd _ _ encP_gnd q
  subst h2
  refine ⟨_, n, p, ?_, p1.trans p2, en⟩
  rw [s_call, s_cons, s_call, s_cons]
  simp only [s_c, s_cons, s_nil, Res.bind_ok, e1, e3]
theorem great_at (h : PHeap) : ∃ h' bays pw ap ys hs ws, p__law_great [] h = .ok (caseD bays pw ap ys hs ws) h' ∧ Cs bays pw ap ys hs ws ∧ Pass h h' := by
  let bays : List D := [bayD 6 3 4 4 (-20) 40 0 9 40 9, bayD 2 0 1 0 (-20) (-20) 9 9 (-20) 0]
  let ys : List D := [oneD 60 9 4, oneD (-40) 0 0]
  let hs : List D := [.tup [.int (-30), .int (-27), .int 8, .int 9], .tup [.int 50, .int 50, .int 0, .int 0], .tup [.int 47, .int 50, .int 9, .int 9]]
  have C : Cs bays 2 1 ys hs [4, 4] := by
    refine ⟨⟨by show 1 ≤ 2 ∧ 2 ≤ 2; decide, ?_, by decide, by decide⟩, ⟨?_, rfl⟩, ?_, by show 1 ≤ 3 ∧ 3 ≤ 5 - 2; decide, ?_, rfl⟩
    · intro b m
      simp only [bays, List.mem_cons, List.not_mem_nil, or_false] at m
      rcases m with rfl | rfl
      · exact ⟨_, _, _, _, _, _, _, _, _, _, rfl, by decide⟩
      · exact ⟨_, _, _, _, _, _, _, _, _, _, rfl, by decide⟩
    · intro b m
      simp only [ys, List.mem_cons, List.not_mem_nil, or_false] at m
      rcases m with rfl | rfl
      · exact ⟨_, _, _, rfl, by decide⟩
      · exact ⟨_, _, _, rfl, by decide⟩
    · intro b m
      simp only [hs, List.mem_cons, List.not_mem_nil, or_false] at m
      rcases m with rfl | rfl | rfl
      · exact ⟨_, _, _, _, rfl, by decide⟩
      · exact ⟨_, _, _, _, rfl, by decide⟩
      · exact ⟨_, _, _, _, rfl, by decide⟩
    · intro w m
      simp only [List.mem_cons, List.not_mem_nil, or_false] at m
      omega
  have e : F__law_great [] = .ok (caseD bays 2 1 ys hs [4, 4]) := by
    unfold F__law_great u__law_great
    rfl
  obtain ⟨h', e1, p1⟩ := fp_gnd k__law_great e rfl (cgnd C) h
  exact ⟨h', bays, 2, 1, ys, hs, [4, 4], e1, C, p1⟩
end Gb

namespace Gb
open PySem L2 PySem.W PyProof.Rows TL
theorem bad_gnd {d : D} {h : PHeap} (g : d.gnd = true) (t : d.dat = true) (c : caseB d = false) : Bad d h := ⟨d, gnd_den _ g, t, c⟩
section
variable {bays ys hs : List D} {pw ap : Int} {ws : List Int} {h : PHeap} {nS : Nat} {sc k : D} {o4 o5 o6 o7 o8 : Option D}
abbrev partsC (bays : List D) (pw ap : Int) (ys hs : List D) (ws : List Int) : List D := [houseD bays pw ap, .tup ys, .tup hs, .tup (ws.map .int)]
theorem text_line (C : Cs bays pw ap ys hs ws) (h : PHeap) : ∃ h', mJoin (mC (.str ("" : Str))) (mNL (mLc (iSrc (mVal (mCall p__law_rows (mCons (mVar 3) (mNil))))) (.name 8) (tYesM) (mM (m2 fAddO (mVal (mVar 8)) (mVal (mC (.str ("\n" : Str)))))) [8])) [some sc, some k, some (.ref nS), some (caseD bays pw ap ys hs ws), o4, o5, o6, o7, o8] h = .ok (.str (txtC bays pw ap ys hs ws)) h' ∧ Pass h h' := by
  obtain ⟨h1, m, e1, p1, _, em⟩ := law_rows_at C h
  obtain ⟨l1, l2, l3⟩ := lines_len C
  refine ⟨h1, ?_, p1⟩
  exact text_at (m := m) (by
    rw [s_val, s_call, s_cons, show mVar 3 [some sc, some k, some (.ref nS), some (caseD bays pw ap ys hs ws), o4, o5, o6, o7, o8] h = .ok (caseD bays pw ap ys hs ws) h from rfl, Res.bind_ok, s_nil, Res.bind_ok, Res.bind_ok, e1, Res.bind_ok]) em (by simp) (by omega) (fun l hl => by have := (l3 l hl).1; omega)
theorem step_a (C : Cs bays pw ap ys hs ws) {z : Str} (hz : ∀ h : PHeap, fReprX (.val (caseD bays pw ap ys hs ws)) h = .ok (.str z) h) (h : PHeap) : ∃ h', sPar [4, 5] (mCons (m1 fReprX (mVal (mVar 3))) (mCons (mJoin (mC (.str ("" : Str))) (mNL (mLc (iSrc (mVal (mCall p__law_rows (mCons (mVar 3) (mNil))))) (.name 8) (tYesM) (mM (m2 fAddO (mVal (mVar 8)) (mVal (mC (.str ("\n" : Str)))))) [8]))) (mNil))) [some sc, some k, some (.ref nS), some (caseD bays pw ap ys hs ws), o4, o5, o6, o7, o8] h = .nx [some sc, some k, some (.ref nS), some (caseD bays pw ap ys hs ws), some (.str z), some (.str (txtC bays pw ap ys hs ws)), o6, o7, o8] h' ∧ Pass h h' := by
  obtain ⟨h1, e1, p1⟩ := text_line (sc := sc) (k := k) (nS := nS) (o4 := o4) (o5 := o5) (o6 := o6) (o7 := o7) (o8 := o8) C h
  refine ⟨h1, ?_, p1⟩
  rw [s_par, s_cons, s_m1, s_val, show mVar 3 [some sc, some k, some (.ref nS), some (caseD bays pw ap ys hs ws), o4, o5, o6, o7, o8] h = .ok (caseD bays pw ap ys hs ws) h from rfl, Res.bind_ok, Res.bind_ok, hz, Res.bind_ok, s_cons, e1, Res.bind_ok, s_nil, Res.bind_ok, Res.bind_ok]
  rfl
theorem pair_at {p : List D → PHeap → Res D} {i : Nat} {x r : D} {env : PEnv} {h : PHeap} (hx : ∀ h, mVar i env h = .ok x h) (hc : ∀ h, ∃ h', p [x] h = .ok r h' ∧ Pass h h') {z : Str} (hz : ∀ h : PHeap, fReprX (.new [r, r]) h = .ok (.str z) h) :
    ∃ h', m1 fReprX (mNL (mDisp (mCons (mCall p (mCons (mVar i) (mNil))) (mCons (mCall p (mCons (mVar i) (mNil))) (mNil))))) env h = .ok (.str z) h' ∧ Pass h h' := by
  obtain ⟨h1, e1, p1⟩ := hc h
  obtain ⟨h2, e2, p2⟩ := hc h1
  refine ⟨h2, ?_, p1.trans p2⟩
  rw [s_m1, s_nl, s_disp, s_cons, s_call, s_cons, hx, Res.bind_ok, s_nil, Res.bind_ok, Res.bind_ok, e1, Res.bind_ok, s_cons, s_call, s_cons, hx, Res.bind_ok, s_nil, Res.bind_ok, Res.bind_ok, e2, Res.bind_ok, s_nil, Res.bind_ok, Res.bind_ok, Res.bind_ok, if_pos (by show 2 ≤ 16777216; decide), Res.bind_ok, Res.bind_ok, hz]
theorem pair_vars {i : Nat} {r : D} {env : PEnv} {h : PHeap} (hx : ∀ h, mVar i env h = .ok r h) {z : Str} (hz : ∀ h : PHeap, fReprX (.new [r, r]) h = .ok (.str z) h) :
    m1 fReprX (mNL (mDisp (mCons (mVar i) (mCons (mVar i) (mNil))))) env h = .ok (.str z) h := by
  rw [s_m1, s_nl, s_disp, s_cons, hx, Res.bind_ok, s_cons, hx, Res.bind_ok, s_nil, Res.bind_ok, Res.bind_ok, Res.bind_ok, if_pos (by show 2 ≤ 16777216; decide), Res.bind_ok, Res.bind_ok, hz]
theorem step_b (C : Cs bays pw ap ys hs ws) {z : Str} (hz : ∀ h : PHeap, fReprX (.val (caseD bays pw ap ys hs ws)) h = .ok (.str z) h) (h : PHeap) : ∃ h', (sIf (tOrM (mTB (m2 (fEqO not) (mVal (m1 fReprX (mNL (mDisp (mCons (mCall p_case_text (mCons (mVar 3) (mNil))) (mCons (mCall p_case_text (mCons (mVar 3) (mNil))) (mNil))))))) (mVal (m1 fReprX (mNL (mDisp (mCons (mVar 5) (mCons (mVar 5) (mNil))))))))) (mTB (m2 (fEqO not) (mVal (m1 fReprX (mVal (mVar 3)))) (mVal (mVar 4))))) (sRet (mC (.bl false))) (sNext)) [some sc, some k, some (.ref nS), some (caseD bays pw ap ys hs ws), some (.str z), some (.str (txtC bays pw ap ys hs ws)), o6, o7, o8] h = .nx [some sc, some k, some (.ref nS), some (caseD bays pw ap ys hs ws), some (.str z), some (.str (txtC bays pw ap ys hs ws)), o6, o7, o8] h' ∧ Pass h h' := by
  obtain ⟨y, hy⟩ := repr_pair (shw_text C)
  obtain ⟨h1, e1, p1⟩ := pair_at (p := p_case_text) (i := 3) (x := caseD bays pw ap ys hs ws) (env := [some sc, some k, some (.ref nS), some (caseD bays pw ap ys hs ws), some (.str z), some (.str (txtC bays pw ap ys hs ws)), o6, o7, o8]) (h := h) (fun _ => rfl) (case_text_at C) hy
  have e2 := pair_vars (i := 5) (env := [some sc, some k, some (.ref nS), some (caseD bays pw ap ys hs ws), some (.str z), some (.str (txtC bays pw ap ys hs ws)), o6, o7, o8]) (h := h1) (fun _ => rfl) hy
  refine ⟨h1, ?_, p1⟩
  have b1 : mTB (m2 (fEqO not) (mVal (m1 fReprX (mNL (mDisp (mCons (mCall p_case_text (mCons (mVar 3) (mNil))) (mCons (mCall p_case_text (mCons (mVar 3) (mNil))) (mNil))))))) (mVal (m1 fReprX (mNL (mDisp (mCons (mVar 5) (mCons (mVar 5) (mNil)))))))) [some sc, some k, some (.ref nS), some (caseD bays pw ap ys hs ws), some (.str z), some (.str (txtC bays pw ap ys hs ws)), o6, o7, o8] h = .ok false h1 := by
    rw [s_tb, s_m2, s_val, e1, Res.bind_ok, Res.bind_ok, s_val, e2, Res.bind_ok, Res.bind_ok, feq_str, Res.bind_ok, s_tbD]
    simp
  have b2 : mTB (m2 (fEqO not) (mVal (m1 fReprX (mVal (mVar 3)))) (mVal (mVar 4))) [some sc, some k, some (.ref nS), some (caseD bays pw ap ys hs ws), some (.str z), some (.str (txtC bays pw ap ys hs ws)), o6, o7, o8] h1 = .ok false h1 := by
    rw [s_tb, s_m2, s_val, s_m1, s_val, show mVar 3 [some sc, some k, some (.ref nS), some (caseD bays pw ap ys hs ws), some (.str z), some (.str (txtC bays pw ap ys hs ws)), o6, o7, o8] h1 = .ok (caseD bays pw ap ys hs ws) h1 from rfl, Res.bind_ok, Res.bind_ok, hz, Res.bind_ok, Res.bind_ok, s_val, show mVar 4 [some sc, some k, some (.ref nS), some (caseD bays pw ap ys hs ws), some (.str z), some (.str (txtC bays pw ap ys hs ws)), o6, o7, o8] h1 = .ok (.str z) h1 from rfl, Res.bind_ok, Res.bind_ok, feq_str, Res.bind_ok, s_tbD]
    simp
  rw [s_sif, s_or, b1, Res.bind_ok, pick_f, b2]
  rfl
theorem step_c (C : Cs bays pw ap ys hs ws) (h : PHeap) : ∃ h', (sIf (mTB (m2 (fEqO not) (mVal (m1 fReprX (mNL (mDisp (mCons (mCall p_read_case (mCons (mVar 5) (mNil))) (mCons (mCall p_read_case (mCons (mVar 5) (mNil))) (mNil))))))) (mVal (m1 fReprX (mNL (mDisp (mCons (mVar 3) (mCons (mVar 3) (mNil))))))))) (sRet (mC (.bl false))) (sNext)) [some sc, some k, some (.ref nS), some (caseD bays pw ap ys hs ws), o4, some (.str (txtC bays pw ap ys hs ws)), o6, o7, o8] h = .nx [some sc, some k, some (.ref nS), some (caseD bays pw ap ys hs ws), o4, some (.str (txtC bays pw ap ys hs ws)), o6, o7, o8] h' ∧ Pass h h' := by
  obtain ⟨y, hy⟩ := repr_pair (shw_case C)
  obtain ⟨h1, e1, p1⟩ := pair_at (p := p_read_case) (i := 5) (x := .str (txtC bays pw ap ys hs ws)) (env := [some sc, some k, some (.ref nS), some (caseD bays pw ap ys hs ws), o4, some (.str (txtC bays pw ap ys hs ws)), o6, o7, o8]) (h := h) (fun _ => rfl) (read_case_at C) hy
  have e2 := pair_vars (i := 3) (env := [some sc, some k, some (.ref nS), some (caseD bays pw ap ys hs ws), o4, some (.str (txtC bays pw ap ys hs ws)), o6, o7, o8]) (h := h1) (fun _ => rfl) hy
  refine ⟨h1, ?_, p1⟩
  rw [s_sif, s_tb, s_m2, s_val, e1, Res.bind_ok, Res.bind_ok, s_val, e2, Res.bind_ok, Res.bind_ok, feq_str, Res.bind_ok, s_tbD]
  simp
end
end Gb

namespace Gb
open PySem L2 PySem.W PyProof.Rows TL
section
variable {a b c sc k T : D} {w : List D} {h : PHeap} {nS : Nat} {o4 o6 o7 o8 : Option D}
def badsL (m : Nat) (a b c : D) (w : List D) (T : D) : List D := [.non, .tup [], .ref m, .tup [a, b, c], .tup [a, b, c, .tup w, .int 0], .tup [a, b, c, .tup (w ++ [.int 0])], T]
theorem ref_list (hw : w.length ≤ 100) : sAsg (mM (mNL (mDisp (mCons (mC .non) (mCons (mTup (mNil)) (mCons (mM (mNL (m1 fList (mVal (mVar 3))))) (mCons (mM (mSl (mVal (mVar 3)) (pNone) (pSome (mC (.int 3))))) (mCons (mM (m2 fAddO (mVal (mVar 3)) (mVal (mTup (mCons (mC (.int 0)) (mNil)))))) (mCons (mM (m2 fAddO (m2 fAddO (mVal (mTup (mCons (m2 fIx (mVal (mVar 3)) (mVal (mC (.int 0)))) (mNil)))) (mSl (mVal (mVar 3)) (pSome (mC (.int 1))) (pSome (mC (.int 3))))) (mVal (mTup (mCons (mM (m2 fAddO (mVal (m2 fIx (mVal (mVar 3)) (mVal (mC (.int 3))))) (mVal (mTup (mCons (mC (.int 0)) (mNil)))))) (mNil)))))) (mCons (mVar 5) (mNil))))))))))) (.name 6) [some sc, some k, some (.ref nS), some (.tup [a, b, c, .tup w]), o4, some T, o6, o7, o8] h
    = .nx [some sc, some k, some (.ref nS), some (.tup [a, b, c, .tup w]), o4, some T, some (.ref (h.length + 1)), o7, o8] (h ++ [.lst [a, b, c, .tup w]] ++ [.lst (badsL h.length a b c w T)]) := by
  have c1 : cutD [a, b, c, .tup w] none (some 3) = [a, b, c] := rfl
  have c2 : cutD [a, b, c, .tup w] (some 1) (some 3) = [b, c] := rfl
  have w1 : w.length + 1 ≤ 16777216 := by omega
  simp [c1, c2, w1, badsL, Res.out]
theorem bent_src (L : List D) {d : D} {h1 : PHeap} {m : Nat} (e6 : h[m]? = some (.lst L)) (hl : L.length ≤ 100) (eo : p__law_odd [.ref nS] h = .ok d h1) (e6' : h1[m]? = some (.lst L)) : iSrc (m2 fAddO (mVal (mVar 6)) (mNL (mDisp (mCons (mM (m2 fAddO (m2 fAddO (mSl (mVal (mVar 3)) (pNone) (pSome (mC (.int 2)))) (mVal (mTup (mCons (mTup (mNil)) (mNil))))) (mSl (mVal (mVar 3)) (pSome (mC (.int 3))) (pNone)))) (mCons (mM (m2 fAddO (m2 fAddO (mSl (mVal (mVar 3)) (pNone) (pSome (mC (.int 1)))) (mVal (mTup (mCons (mTup (mNil)) (mNil))))) (mSl (mVal (mVar 3)) (pSome (mC (.int 2))) (pNone)))) (mCons (mCall p__law_odd (mCons (mVar 2) (mNil))) (mNil))))))) [some sc, some k, some (.ref nS), some (.tup [a, b, c, .tup w]), o4, some T, some (.ref m), o7, o8] h
    = .ok ⟨L ++ [.tup [a, b, .tup [], .tup w], .tup [a, .tup [], c, .tup w], d], []⟩ h1 := by
  have c1 : cutD [a, b, c, .tup w] none (some 2) = [a, b] := rfl
  have c2 : cutD [a, b, c, .tup w] (some 3) none = [.tup w] := rfl
  have c3 : cutD [a, b, c, .tup w] none (some 1) = [a] := rfl
  have c4 : cutD [a, b, c, .tup w] (some 2) none = [c, .tup w] := rfl
  have q : ∀ v : List D, v.length = 3 → fAddO (.val (.ref m)) (.new v) h1 = .ok (.new (L ++ v)) h1 := fun v hv => f_addL (ow_ref e6') ow_new (by omega)
  rw [s_src, s_m2]
  simp [c1, c2, c3, c4, eo, q]
end
section
variable {bays ys hs : List D} {pw ap : Int} {ws : List Int} {h : PHeap} {nS : Nat} {sc k : D} {o4 o5 o6 o7 o8 : Option D}
theorem part_gd (C : Cs bays pw ap ys hs ws) : (houseD bays pw ap).gnd = true ∧ (D.tup ys).gnd = true ∧ (D.tup hs).gnd = true ∧ (houseD bays pw ap).dat = true ∧ (D.tup ys).dat = true ∧ (D.tup hs).dat = true := by
  have g := cgnd C
  have t := case_dat C
  simp only [caseD, D.gnd, D.gndL, D.dat, D.datL, Bool.and_eq_true] at g t
  exact ⟨g.1, by simpa only [D.gnd] using g.2.1, by simpa only [D.gnd] using g.2.2.1, t.1, by simpa only [D.dat] using t.2.1, by simpa only [D.dat] using t.2.2.1⟩
theorem ints_gd (is : List Int) : D.gndL (is.map .int) = true ∧ D.datL (is.map .int) = true := ⟨gndL_of fun b m => by obtain ⟨w, _, rfl⟩ := List.mem_map.mp m; rfl, ints_dat⟩
theorem bads_bad (C : Cs bays pw ap ys hs ws) {m : Nat} {T : Str} (em : h[m]? = some (.lst (partsC bays pw ap ys hs ws))) : ∀ d ∈ badsL m (houseD bays pw ap) (.tup ys) (.tup hs) (ws.map .int) (.str T), Bad d h := by
  obtain ⟨g1, g2, g3, t1, t2, t3⟩ := part_gd C
  obtain ⟨g4, t4⟩ := ints_gd ws
  have g4' : (D.tup (ws.map .int)).gnd = true := by simpa only [D.gnd] using g4
  have t4' : (D.tup (ws.map .int)).dat = true := by simpa only [D.dat] using t4
  intro d md
  simp only [badsL, List.mem_cons, List.not_mem_nil, or_false] at md
  rcases md with rfl | rfl | rfl | rfl | rfl | rfl | rfl
  · exact bad_gnd rfl rfl rfl
  · exact bad_gnd rfl rfl rfl
  · refine ⟨.lst (partsC bays pw ap ys hs ws), ?_, ?_, rfl⟩
    · rw [Den]
      exact ⟨m, _, rfl, fun q => q, em, gndL_den _ (by simp only [D.gndL, g1, g2, g3, g4', Bool.and_self])⟩
    · simp only [D.dat, D.datL] at t2 t3 ⊢
      simp only [t1, t2, t3, t4, Bool.and_self]
  · exact bad_gnd (by simp only [D.gnd, D.gndL] at g2 g3 ⊢; simp only [g1, g2, g3, Bool.and_self]) (by simp only [D.dat, D.datL] at t2 t3 ⊢; simp only [t1, t2, t3, Bool.and_self]) rfl
  · exact bad_gnd (by simp only [D.gnd, D.gndL] at g2 g3 ⊢; simp only [g1, g2, g3, g4, Bool.and_self]) (by simp only [D.dat, D.datL] at t2 t3 ⊢; simp only [t1, t2, t3, t4, Bool.and_self]) rfl
  · have e : ws.map D.int ++ [.int 0] = (ws ++ [0]).map D.int := by simp
    obtain ⟨g5, t5⟩ := ints_gd (ws ++ [0])
    rw [e]
    refine bad_gnd (by simp only [D.gnd, D.gndL] at g2 g3 ⊢; simp only [g1, g2, g3, g5, Bool.and_self]) (by simp only [D.dat, D.datL] at t2 t3 ⊢; simp only [t1, t2, t3, t5, Bool.and_self]) ?_
    have n1 := C.wl
    simp [caseB, houseD, rowD, rowL, n1]
  · exact bad_gnd rfl rfl rfl
theorem bent_bad (C : Cs bays pw ap ys hs ws) : Bad (.tup [houseD bays pw ap, .tup ys, .tup [], .tup (ws.map .int)]) h ∧ Bad (.tup [houseD bays pw ap, .tup [], .tup hs, .tup (ws.map .int)]) h := by
  obtain ⟨g1, g2, g3, t1, t2, t3⟩ := part_gd C
  obtain ⟨g4, t4⟩ := ints_gd ws
  have n1 := C.H.n
  constructor
  · refine bad_gnd (by simp only [D.gnd, D.gndL] at g2 g3 ⊢; simp only [g1, g2, g4, Bool.and_self]) (by simp only [D.dat, D.datL] at t2 t3 ⊢; simp only [t1, t2, t4, Bool.and_self]) ?_
    simp [caseB, houseD, weatherB]
  · refine bad_gnd (by simp only [D.gnd, D.gndL] at g2 g3 ⊢; simp only [g1, g3, g4, Bool.and_self]) (by simp only [D.dat, D.datL] at t2 t3 ⊢; simp only [t1, t3, t4, Bool.and_self]) ?_
    have : ¬ 0 = bays.length := by omega
    simp [caseB, houseD, standB, this]
theorem one_bad {d : D} (B : Bad d h) : ∃ h', l_law_0 [some sc, some k, some (.ref nS), o4, o5, o6, o7, some d, o8] h = .nx [some sc, some k, some (.ref nS), o4, o5, o6, o7, some d, o8] h' ∧ Pass h h' := by
  obtain ⟨h1, e1, p1⟩ := refused_at B
  refine ⟨h1, ?_, p1⟩
  unfold l_law_0
  rw [s_sif, s_not, s_tst, s_call, s_cons, show mVar 7 [some sc, some k, some (.ref nS), o4, o5, o6, o7, some d, o8] h = .ok d h from rfl, Res.bind_ok, s_nil, Res.bind_ok, Res.bind_ok, e1, Res.bind_ok, tr_bl, Res.bind_ok]
  rfl
theorem all_bads {t : Itr} (ht : t.deps = []) {L : List D} (hB : ∀ d ∈ L, Bad d h) : ∃ h', forL (.name 7) l_law_0 [7] t L [some sc, some k, some (.ref nS), o4, o5, o6, o7, none, o8] h = .nx [some sc, some k, some (.ref nS), o4, o5, o6, o7, none, o8] h' ∧ Pass h h' := by
  obtain ⟨h1, e1, p1⟩ := forL_fold (γ := Unit) (g := .name 7) (body := l_law_0) (kill := [7]) ht (fun _ => [some sc, some k, some (.ref nS), o4, o5, o6, o7, none, o8]) (fun _ h' => Pass h h') (fun _ _ => ()) L () [some sc, some k, some (.ref nS), o4, o5, o6, o7, none, o8] h rfl .refl (by
    intro _ h' d md p
    obtain ⟨h2, e2, p2⟩ := one_bad (sc := sc) (k := k) (nS := nS) (o4 := o4) (o5 := o5) (o6 := o6) (o7 := o7) (o8 := o8) ((hB d md).pass p)
    exact ⟨_, _, h2, tg_name, .inl e2, rfl, p.trans p2⟩)
  exact ⟨h1, e1, p1⟩
end
end Gb

namespace Gb
open PySem L2 PySem.W PyProof.Rows TL
def IsC (d : D) : Prop := ∃ bays pw ap ys hs ws, d = caseD bays pw ap ys hs ws ∧ Cs bays pw ap ys hs ws
def PotAt (nS : Nat) (h : PHeap) : Prop := ∃ p : Int, h[nS]? = some (.lst (encP p))
theorem PotAt.pass {nS : Nat} {h h1 : PHeap} (q : PotAt nS h) (p : Pass h h1) : PotAt nS h1 := by
  obtain ⟨x, e⟩ := q
  exact ⟨x, p.2 _ _ e⟩
theorem turn_law {sc k c : D} {nS : Nat} {h : PHeap} (I : IsC c) (q : PotAt nS h) : ∃ h' env', l_law_1 [some sc, some k, some (.ref nS), some c, none, none, none, none, none] h = .nx env' h' ∧ wipeE env' [3, 4, 5, 6, 7] = [some sc, some k, some (.ref nS), none, none, none, none, none, none] ∧ PotAt nS h' := by
  obtain ⟨bays, pw, ap, ys, hs, ws, rfl, C⟩ := I
  obtain ⟨z, hz⟩ := repr_case C
  obtain ⟨h1, e1, p1⟩ := step_a (sc := sc) (k := k) (nS := nS) (o4 := none) (o5 := none) (o6 := none) (o7 := none) (o8 := none) C hz h
  obtain ⟨h2, e2, p2⟩ := step_b (sc := sc) (k := k) (nS := nS) (o6 := none) (o7 := none) (o8 := none) C hz h1
  obtain ⟨h3, e3, p3⟩ := step_c (sc := sc) (k := k) (nS := nS) (o4 := some (.str z)) (o6 := none) (o7 := none) (o8 := none) C h2
  have q3 := q.pass ((p1.trans p2).trans p3)
  have lw : (ws.map D.int).length ≤ 100 := by rw [List.length_map]; have := C.wl; have := C.H.n; omega
  have e4 := ref_list (a := houseD bays pw ap) (b := .tup ys) (c := .tup hs) (w := ws.map .int) (sc := sc) (k := k) (T := .str (txtC bays pw ap ys hs ws)) (h := h3) (nS := nS) (o4 := some (.str z)) (o6 := none) (o7 := none) (o8 := none) lw
  let h4 : PHeap := h3 ++ [.lst (partsC bays pw ap ys hs ws)] ++ [.lst (badsL h3.length (houseD bays pw ap) (.tup ys) (.tup hs) (ws.map .int) (.str (txtC bays pw ap ys hs ws)))]
  have p4 : Pass h3 h4 := Pass.app.trans Pass.app
  obtain ⟨p, ep⟩ := q3.pass p4
  have em : h4[h3.length]? = some (.lst (partsC bays pw ap ys hs ws)) := get_app put_at
  have el : h4[h3.length + 1]? = some (.lst (badsL h3.length (houseD bays pw ap) (.tup ys) (.tup hs) (ws.map .int) (.str (txtC bays pw ap ys hs ws)))) := by
    have : (h3 ++ [Cell.lst (partsC bays pw ap ys hs ws)]).length = h3.length + 1 := by simp
    rw [← this]
    exact put_at
  obtain ⟨h5, d, t, e5, b5, p5, ep5⟩ := odd_at ep
  have nb : ∀ m, h4[m]? ≠ some (.lst (encP p)) → m ≠ nS := fun m hm e => hm (e ▸ ep)
  have n1 : h3.length + 1 ≠ nS := nb _ (by
    rw [el]
    intro e
    cases e)
  have n0 : h3.length ≠ nS := nb _ (by
    rw [em]
    intro e
    cases e)
  have el5 := p5.2 _ _ n1 el
  have em5 := p5.2 _ _ n0 em
  have e6 := bent_src (a := houseD bays pw ap) (b := .tup ys) (c := .tup hs) (w := ws.map .int) (sc := sc) (k := k) (T := .str (txtC bays pw ap ys hs ws)) (o4 := some (.str z)) (o7 := none) (o8 := none) _ el (by show 7 ≤ 100; decide) e5 el5
  obtain ⟨b6, b7⟩ := bent_bad (h := h5) C
  obtain ⟨h6, e7, p7⟩ := all_bads (sc := sc) (k := k) (nS := nS) (o4 := some (caseD bays pw ap ys hs ws)) (o5 := some (.str z)) (o6 := some (.str (txtC bays pw ap ys hs ws))) (o7 := some (.ref (h3.length + 1))) (o8 := none) (t := ⟨badsL h3.length (houseD bays pw ap) (.tup ys) (.tup hs) (ws.map .int) (.str (txtC bays pw ap ys hs ws)) ++ [.tup [houseD bays pw ap, .tup ys, .tup [], .tup (ws.map .int)], .tup [houseD bays pw ap, .tup [], .tup hs, .tup (ws.map .int)], d], []⟩) rfl (h := h5) (L := badsL h3.length (houseD bays pw ap) (.tup ys) (.tup hs) (ws.map .int) (.str (txtC bays pw ap ys hs ws)) ++ [.tup [houseD bays pw ap, .tup ys, .tup [], .tup (ws.map .int)], .tup [houseD bays pw ap, .tup [], .tup hs, .tup (ws.map .int)], d]) (by
    intro x m
    rcases List.mem_append.mp m with m | m
    · exact bads_bad C em5 x m
    · simp only [List.mem_cons, List.not_mem_nil, or_false] at m
      rcases m with rfl | rfl | rfl
      · exact b6
      · exact b7
      · exact b5)
  refine ⟨h6, [some sc, some k, some (.ref nS), some (caseD bays pw ap ys hs ws), some (.str z), some (.str (txtC bays pw ap ys hs ws)), some (.ref (h3.length + 1)), none, none], ?_, rfl, ⟨t, p7.2 _ _ ep5⟩⟩
  unfold l_law_1
  rw [s_seq, e1, thn_nx, s_seq, e2, thn_nx, s_seq, e3, thn_nx, s_seq]
  erw [e4]
  rw [thn_nx, s_for]
  erw [e6]
  exact e7
theorem loop_law {sc k : D} {nS : Nat} : ∀ {L : List D} {t : Itr} {h : PHeap}, t.deps = [] → (∀ d ∈ L, IsC d) → PotAt nS h → ∃ h', forL (.name 3) l_law_1 [3, 4, 5, 6, 7] t L [some sc, some k, some (.ref nS), none, none, none, none, none, none] h = .nx [some sc, some k, some (.ref nS), none, none, none, none, none, none] h' := by
  intro L t h ht hI q
  obtain ⟨h1, e1, _⟩ := forL_fold (γ := Unit) (g := .name 3) (body := l_law_1) (kill := [3, 4, 5, 6, 7]) ht (fun _ => [some sc, some k, some (.ref nS), none, none, none, none, none, none]) (fun _ h' => PotAt nS h') (fun _ _ => ()) L () [some sc, some k, some (.ref nS), none, none, none, none, none, none] h rfl q (by
    intro _ h' d md p
    obtain ⟨h2, env', e2, e3, p2⟩ := turn_law (sc := sc) (k := k) (hI d md) p
    exact ⟨_, env', h2, tg_name, .inl e2, e3, p2⟩)
  exact ⟨h1, e1⟩
theorem turn_cell (ns : List Int) {j : Int} (hj : 0 ≤ j) (h : PHeap) : ∃ h' nS, l_law_2 [some (.fro (ns.map .int)), some (.int j), none, none, none, none, none, none, none] h = .nx [some (.fro (ns.map .int)), some (.int j), some (.ref nS), none, none, none, none, none, none] h' := by
  obtain ⟨h1, nS, p, e1, p1, q1⟩ := pot_at ns hj h
  have f1 : sAsg (mCall p__law_pot (mCons (mCall p__law_cell_at (mCons (mVar 0) (mCons (mVar 1) (mNil)))) (mNil))) (.name 2) [some (.fro (ns.map .int)), some (.int j), none, none, none, none, none, none, none] h = .nx [some (.fro (ns.map .int)), some (.int j), some (.ref nS), none, none, none, none, none, none] h1 := by
    have e2 : mCall p__law_pot (mCons (mCall p__law_cell_at (mCons (mVar 0) (mCons (mVar 1) (mNil)))) (mNil)) [some (.fro (ns.map .int)), some (.int j), none, none, none, none, none, none, none] h = .ok (.ref nS) h1 := e1
    rw [s_asg, e2]
    rfl
  obtain ⟨h2, b0, a1, a2, a3, a4, a5, e2, C0, p2⟩ := great_at h1
  obtain ⟨h3, b1, c1, c2, c3, c4, c5, t3, e3, C1, p3, q3⟩ := case_at (p2.2 _ _ q1)
  obtain ⟨h4, b2, d1, d2, d3, d4, d5, t4, e4, C2, p4, q4⟩ := case_at q3
  obtain ⟨h5, b3, f1', f2', f3', f4', f5', t5, e5, C3, p5, q5⟩ := case_at q4
  have src : iSrc (mNL (mDisp (mCons (mCall p__law_great mNil) (mCons (mCall p__law_case (mCons (mVar 2) (mNil))) (mCons (mCall p__law_case (mCons (mVar 2) (mNil))) (mCons (mCall p__law_case (mCons (mVar 2) (mNil))) (mNil))))))) [some (.fro (ns.map .int)), some (.int j), some (.ref nS), none, none, none, none, none, none] h1 = .ok ⟨[caseD b0 a1 a2 a3 a4 a5, caseD b1 c1 c2 c3 c4 c5, caseD b2 d1 d2 d3 d4 d5, caseD b3 f1' f2' f3' f4' f5'], []⟩ h5 := by
    have v2 : ∀ h : PHeap, mVar 2 [some (.fro (ns.map .int)), some (.int j), some (.ref nS), none, none, none, none, none, none] h = .ok (.ref nS) h := fun _ => rfl
    rw [s_src, s_nl, s_disp, s_cons, s_call, s_nil, Res.bind_ok, e2, Res.bind_ok, s_cons, s_call, s_cons, v2, Res.bind_ok, s_nil, Res.bind_ok, Res.bind_ok, e3, Res.bind_ok, s_cons, s_call, s_cons, v2, Res.bind_ok, s_nil, Res.bind_ok, Res.bind_ok, e4, Res.bind_ok, s_cons, s_call, s_cons, v2, Res.bind_ok, s_nil, Res.bind_ok, Res.bind_ok, e5, Res.bind_ok, s_nil, Res.bind_ok, Res.bind_ok, Res.bind_ok, Res.bind_ok, Res.bind_ok, if_pos (by show 4 ≤ 16777216; decide), Res.bind_ok, Res.bind_ok]
    rfl
  obtain ⟨h6, e6⟩ := loop_law (sc := .fro (ns.map .int)) (k := .int j) (nS := nS) (L := [caseD b0 a1 a2 a3 a4 a5, caseD b1 c1 c2 c3 c4 c5, caseD b2 d1 d2 d3 d4 d5, caseD b3 f1' f2' f3' f4' f5']) (t := ⟨[caseD b0 a1 a2 a3 a4 a5, caseD b1 c1 c2 c3 c4 c5, caseD b2 d1 d2 d3 d4 d5, caseD b3 f1' f2' f3' f4' f5'], []⟩) rfl (by
    intro d m
    simp only [List.mem_cons, List.not_mem_nil, or_false] at m
    rcases m with rfl | rfl | rfl | rfl
    · exact ⟨_, _, _, _, _, _, rfl, C0⟩
    · exact ⟨_, _, _, _, _, _, rfl, C1⟩
    · exact ⟨_, _, _, _, _, _, rfl, C2⟩
    · exact ⟨_, _, _, _, _, _, rfl, C3⟩) ⟨_, q5⟩
  refine ⟨h6, nS, ?_⟩
  unfold l_law_2
  rw [s_seq, f1, thn_nx, s_for, src]
  exact e6
theorem law_true : ∀ ns : List Int, ns.length ≤ 63 → ∃ h, p_law [.fro (ns.map .int)] [] = .ok (.bl true) h := by
  intro ns hl
  obtain ⟨m, hm⟩ : ∃ m : Int, m = (if (if (4 : Int) < ns.length then 4 else (ns.length : Int)) > 1 then (if (4 : Int) < ns.length then 4 else (ns.length : Int)) else 1) := ⟨_, rfl⟩
  have mb : -(2 ^ 60) ≤ m ∧ m ≤ 2 ^ 60 := by subst hm; split <;> (try split) <;> omega
  have er : iR1 (m2 fMax2 (mVal (mC (.int 1))) (mVal (m2 fMin2 (mVal (m1 fLen (mVal (mVar 0)))) (mVal (mC (.int 4)))))) [some (.fro (ns.map .int)), none, none, none, none, none, none, none, none] [] = .ok ⟨rngD 0 m, []⟩ [] := by
    rw [s_r1]
    simp only [s_m2, s_val, s_m1, s_c, s_var0, Res.bind_ok, f_lenF, List.length_map, f_min, f_max]
    rw [← hm, if_pos mb]
  obtain ⟨h1, e1, _⟩ := forL_fold (γ := Unit) (g := .name 1) (body := l_law_2) (kill := [1, 2, 3, 4, 5, 6, 7]) (t := ⟨rngD 0 m, []⟩) rfl (fun _ => [some (.fro (ns.map .int)), none, none, none, none, none, none, none, none]) (fun _ _ => True) (fun _ _ => ()) (rngD 0 m) () [some (.fro (ns.map .int)), none, none, none, none, none, none, none, none] [] rfl trivial (by
    intro _ h' d md _
    obtain ⟨j, rfl, hj⟩ := rngD_mem md
    obtain ⟨h2, nS, e2⟩ := turn_cell ns hj.1 h'
    exact ⟨[some (.fro (ns.map .int)), some (.int j), none, none, none, none, none, none, none], [some (.fro (ns.map .int)), some (.int j), some (.ref nS), none, none, none, none, none, none], h2, tg_name, .inl e2, rfl, trivial⟩)
  refine ⟨gc 0 (.bl true) h1, ?_⟩
  unfold p_law
  rw [s_fn (by rfl)]
  show retO _ (b_law [some (.fro (ns.map .int)), none, none, none, none, none, none, none, none] []) = _
  unfold b_law
  rw [s_seq, s_for, er]
  show retO _ (Out.thn (forL (.name 1) l_law_2 [1, 2, 3, 4, 5, 6, 7] ⟨rngD 0 m, []⟩ (rngD 0 m) _ _) _) = _
  rw [e1, thn_nx, s_ret]
  rfl
end Gb

theorem PySem.Challenge.cw_glassbays_k63_cases_written_holds : PySem.Challenge.rw_glassbays_k63_cases_written.Holds :=
  Gb.holds_of Gb.law_true
